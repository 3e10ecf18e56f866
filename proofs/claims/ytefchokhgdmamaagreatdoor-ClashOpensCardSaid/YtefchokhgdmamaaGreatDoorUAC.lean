/-
  Shared texts of this claim.
-/
import Derived.Test.YtefchokhgdmamaaGreatDoorUAB
import Derived.Laws.OwnMore
import Derived.Lib.ConvBytes
set_option linter.unusedSimpArgs false
set_option linter.unusedVariables false
namespace Cx
open Go Go.RowKit
def gO (b i:Nat):Nat:=4096*(i+1)+b
def St.fz (S:St)(j:Nat):St:=
 match S.o j with
 |.row _ e=>S.setO j (.fz (.slice e.rol))
 |.mp k e=>S.setO j (.fz (.map k e))
 |_=>S
def Cp (S:St)(b:Nat):Option (St×List PI):=
 match S.o b with
 |.box ag shs=>
  (qQ S (.o b) shs 0).bind fun x=>
    bif ag then some (S.setO b (.fbox (.agg x.1)),[.setO b (.mk x.2)])
    else match x.1,x.2 with
     |[t],[e]=>some (S.setO b (.fbox t),[.setO b e])
     |_,_=>Option.none
 |_=>Option.none
def St.mv (S:St)(j j':Nat):St:=
 {S with o:=bV (bV S.o j' (S.o j)) j .dead,ver:=bV (bV S.ver j' (S.ver j'+1)) j (S.ver j+1)}
def lz:Ob→Bool
 |.row ..=>true
 |.mp ..=>true
 |_=>false
def xF (S:St)(t j':Nat):Option (St×List PI):=
 match S.r t with
 |.obj j ver=>
  bif Nat.beq ver (S.ver j)&&lz (S.o j)&& !Nat.beq j j' then some ((S.mv j j').setR t (.obj j' (S.ver j'+1)),[.setO j' (.o j)])
  else some (S,[])
 |_=>some (S,[])
def E4 (S:St)(b i j':Nat):Option (St×List PI):=
 match S.o b with
 |.box ag shs=>
  match shs[i]? with
  |some (.obj j ver)=>
   bif Nat.beq ver (S.ver j)&&lz (S.o j)&& !Nat.beq j j'&& !Nat.beq b j'&& !Nat.beq b j then
    some ((S.mv j j').setO b (.box ag (shs.set i (.obj j' (S.ver j'+1)))),[.setO j' (.o j)])
   else some (S,[])
  |_=>some (S,[])
 |_=>some (S,[])
def Db (C:Ctx)(S:St)(b i j:Nat)(T:TypeId):Option (St×List PI):=
 match S.o b with
 |.box ag shs=>
  match shs[i]?,pj C.P T with
  |some (.dat (.nils _)),some e=>
   bif !Nat.beq b j then some ((S.newO j (.row T e)).setO b (.box ag (shs.set i (.obj j (S.ver j+1)))),[.setO j (.con (.list []))])
   else some (S,[])
  |_,_=>some (S,[])
 |_=>some (S,[])
section
variable {C:Ctx} {S:St} {ρ:Env} {σ:Im} {own:Nat→Option Nat} {hv:Nat→Value} {w0:World} {σ0:Base} {A:Nat→Prop} {a:Act} {w:World} {gs:List (Nat×Bool)} {Φ:aV} {dst:Nat}
theorem Inv.lt (h:Inv C S ρ σ own hv w0 σ0 A a w){k o:Nat}{u:Value}(hc:σ.c k o=some u):k<w.heap.size:=World.block_lt_of_cell? w (a:=⟨k,o,none⟩) (h.ok.c _ _ _ hc)
theorem Inv.ltm (h:Inv C S ρ σ own hv w0 σ0 A a w){k:Nat}{es:List (Value×Value)}(hc:σ.m k=some es):k<w.heap.size:=by
 exact(h.ok.m _ _ hc).lt
theorem Im.ok.below {σ:Im}{w w':World}(h:σ.ok w)(hb:Below w.heap.size w w'):σ.ok w':=by
 refine⟨fun k o v hc=>?_,fun k es hc=>?_⟩
 ·have h1:=h.c k o v hc;rw[hb.cell (World.block_lt_of_cell? w (a:=⟨k,o,none⟩) h1)];exact h1
 ·exact(h.m k es hc).keep (hb.block k (h.m k es hc).lt)
def fV (own:Nat→Option Nat)(j:Nat)(nb:Nat→Bool):Nat→Option Nat:=fun k=>if nb k then some j else if own k=some j then none else own k
theorem Inv.newOσ (h:Inv C S ρ σ own hv w0 σ0 A a w)(j:Nat)(ob:Ob)(d:D)(v:Value)(nb:Nat→Bool){σ':Im}{w':World}(hle:σ.le σ')(az:σ'.ok w')(dp:∀k o x,σ'.c k o=some x→σ.c k o=some x∨w.heap.size≤k)(dq:∀k x,σ'.m k=some x→σ.m k=some x∨w.heap.size≤k)
 (hw:Below w.heap.size w w') (dN:∀k,nb k=true→w.heap.size≤k∧k<w'.heap.size) (dm:∀k,nb k=true→(∀o,σ'.c k o=none)∧σ'.m k=none)
 (cU:cC C (S.newO j ob) (ρ.setO j d) σ' (fV own j nb) (bV hv j v) w' w0.heap.size j ob) (nD:ob≠.tr:=by intro h;cases h):Inv C (S.newO j ob) (ρ.setO j d) σ' (fV own j nb) (bV hv j v) w0 σ0 A a w':=by
 have aC:w0.heap.size≤w.heap.size:=h.below.size;have aZ:∀k i,i≠j→own k=some i→fV own j nb k=some i:=by
  intro k i hi hk;have h1:=h.owns k i hk;have h2:nb k=false:=by
   cases hn:nb k with
   |false=>rfl
   |true=>have:=dN k hn;omega
  simp[fV,h2,hk,hi]
 refine h.step (fun i=>i=j) rfl hle az (fun k o x hx=>(dp k o x hx).imp id fun e=>⟨by omega,.inr e⟩) (fun k x hx=>(dq k x hx).imp id fun e=>⟨by omega,.inr e⟩) (hw.mono aC) ⟨fun i=>?_,fun i e=>?_⟩ (fun i hi=>⟨?_,?_,?_,fun k hk=>⟨aZ k i hi hk,?_⟩⟩) (fun i hi=>?_) (fun k i hk=>?_) (fun _=>id) (fun t=>.inl ⟨rfl,rfl,rfl⟩) (fun _ _=>rfl) (fun k hk _=>hw.block k hk) (fun k i hk=>by
  unfold fV at hk;split at hk
  ·rename_i hn;exact .inr (dN k hn).1
  ·split at hk
   ·cases hk
   ·exact .inl ⟨i,hk⟩) (fun i hi=>by subst hi;simpa only[St.newO,aK] using nD)
 ·simp only[St.newO,fK];split<;>rename_i e
  ·subst e;omega
  ·omega
 ·simp only[St.newO,fK] at e;split at e
  ·rename_i e';subst e';omega
  ·rename_i ay;exact bk _ _ ay
 ·simp[St.newO,bk _ _ hi]
 ·simp[Env.setO,bk _ _ hi]
 ·exact bk _ _ hi
 ·exact hw.block k (h.owns k i hk).2.1
 ·subst hi;simp only[St.newO,aK];exact cU
 ·unfold fV at hk;split at hk
  ·rename_i hn;obtain⟨g1,g2⟩:=dN k hn;exact⟨by omega,g2,(dm k hn).1,(dm k hn).2⟩
  ·split at hk
   ·cases hk
   ·obtain⟨g1,g2,g3,g4⟩:=h.owns k i hk;refine⟨g1,by have:=hw.size;omega,fun o=>?_,?_⟩
    ·cases hc:σ'.c k o with
     |none=>rfl
     |some u=>
      rcases dp k o u hc with e|e
      ·rw[g3 o] at e;cases e
      ·omega
    ·cases hc:σ'.m k with
     |none=>rfl
     |some u=>
      rcases dq k u hc with e|e
      ·rw[g4] at e;cases e
      ·omega
theorem Inv.newO (h:Inv C S ρ σ own hv w0 σ0 A a w)(j:Nat)(ob:Ob)(d:D)(v:Value)(nb:Nat→Bool){w':World}(hw:Below w.heap.size w w')(dN:∀k,nb k=true→w.heap.size≤k∧k<w'.heap.size)
 (cU:cC C (S.newO j ob) (ρ.setO j d) σ (fV own j nb) (bV hv j v) w' w0.heap.size j ob) (nD:ob≠.tr:=by intro h;cases h):Inv C (S.newO j ob) (ρ.setO j d) σ (fV own j nb) (bV hv j v) w0 σ0 A a w':=by
 refine h.newOσ j ob d v nb (.refl σ) (h.ok.below hw) (fun _ _ _ hx=>.inl hx) (fun _ _ hx=>.inl hx) hw dN (fun k hn=>⟨fun o=>?_,?_⟩) cU nD
 ·cases hc:σ.c k o with
  |none=>rfl
  |some u=>have:=h.lt hc;have:=(dN k hn).1;omega
 ·cases hc:σ.m k with
  |none=>rfl
  |some u=>have:=h.ltm hc;have:=(dN k hn).1;omega
theorem Inv.setObj (h:Inv C S ρ σ own hv w0 σ0 A a w){t j:Nat}(ht:¬A t){v:Value}(fj:hv j=v)(ae:t<a.tmps.size):
 Inv C (S.setR t (.obj j (S.ver j))) (ρ.setR t .none) σ own hv w0 σ0 (fun u=>A u∨u=t) (a.put (some t) v) w:=
 h.setReg ht (s:=.obj j (S.ver j)) (v:=v) (d:=.none) ⟨aX _,fun _=>fj.symm⟩ ae (fun _ _ e=>by cases e)
theorem Hr (S:St)(j:Nat):(S.fz j).ver=S.ver∧(S.fz j).r=S.r:=by
 unfold St.fz;split<;>exact⟨rfl,rfl⟩
theorem Inv.fz (h:Inv C S ρ σ own hv w0 σ0 A a w)(j:Nat):∃σ' own',σ.le σ'∧Inv C (S.fz j) ρ σ' own' hv w0 σ0 A a w:=by
 have aY:=h.objs j;unfold St.fz;split
 ·rename_i T e eo;rw[eo] at aY;obtain⟨cells,xs,h1,h2,⟨vs,h3,h4⟩,h5⟩:=aY;have aC:w0.heap.size≤w.heap.size:=h.below.size
  let nb:Nat→Bool:=fun k=>decide ((hv j).ownBlock=some k)
  let σ':Im:={c:=fun k o=>if nb k then cells[o]? else σ.c k o,m:=σ.m}
  have dN:∀k,nb k=true→own k=some j:=fun k hk=>h5 k (by simpa [nb] using hk);have hle:σ.le σ':=by
   refine⟨fun k o v hc=>?_,fun k es hc=>hc⟩;have:nb k=false:=by
        cases hn:nb k with
        |false=>rfl
        |true=>have:=(h.owns k j (dN k hn)).2.2.1 o;rw[this] at hc;cases hc
   simp[σ',this,hc]
  refine⟨σ',fun k=>if nb k then none else own k,hle,h.step (fun i=>i=j) rfl hle ?_ (fun k o x hx=>?_) (fun _ _ hx=>.inl hx) (.refl _ _) ⟨fun _=>aX _,fun _ _=>rfl⟩ (fun i hi=>⟨?_,rfl,rfl,fun k hk=>⟨?_,rfl⟩⟩) (fun i hi=>?_) (fun k i hk=>?_) (fun _=>id) (fun t=>.inl ⟨rfl,rfl,rfl⟩) (fun _ _=>rfl) (fun _ _ _=>rfl) (fun k i hk=>by
        split at hk
        ·cases hk
        ·exact .inl ⟨i,hk⟩) (fun i hi=>by subst hi;simp[St.setO,aK])⟩
  ·refine⟨fun k o v hc=>?_,h.ok.m⟩;simp only[σ'] at hc;split at hc
   ·rename_i hn;have cU:(hv j).ownBlock=some k:=by simpa [nb] using hn
    have:=h2.cells cU o v hc;rw[sn] at this;simpa using this
   ·exact h.ok.c k o v hc
  ·simp only[σ'] at hx;split at hx
   ·rename_i hn;exact .inr ⟨(h.owns k j (dN k hn)).1,.inl ⟨j,dN k hn⟩⟩
   ·exact .inl hx
  ·simp[St.setO,bk _ _ hi]
  ·have:nb k=false:=by
        cases hn:nb k with
        |false=>rfl
        |true=>rw[dN k hn] at hk;simp at hk;exact absurd hk.symm hi
   simp[this,hk]
  ·subst hi;simp only[St.setO,aK];refine⟨rfl,?_⟩;rw[h1];rcases h2.2 with⟨e1,e2⟩|⟨g,cap,cur,e1,e2,e3,e4,e5,e6,e7⟩
   ·rw[e1];have:xs=[]:=KR e2;subst this;exact .nil _
   ·rw[e1];refine .slice e.rol g 0 xs.length cap xs vs rfl e4 e5 (fun i x hx=>((h3 i x hx).mono hle).unf_rol) (fun i m u hi hu=>?_);rw[Ty.rol_size];have hn:nb g=true:=by simp[nb,e1,Value.ownBlock]
    simp only[σ',hn,if_true,fq];exact h4 i m u hi hu
  ·split at hk
   ·cases hk
   ·rename_i hn;obtain⟨g1,g2,g3,g4⟩:=h.owns k i hk;exact⟨g1,g2,fun o=>by simp[σ',hn,g3 o],g4⟩
 ·rename_i kt et eo;rw[eo] at aY;obtain⟨k0,arr,clock,ga,h1,h2,h3,h4,h5,⟨hx,_⟩,h6⟩:=aY;have aC:w0.heap.size≤w.heap.size:=h.below.size
  let σ':Im:={c:=σ.c,m:=fun k=>if k=k0 then some (entriesOf arr) else σ.m k}
  have hle:σ.le σ':=by
   refine⟨fun k o v hc=>hc,fun k es hc=>?_⟩;have:k≠k0:=fun e=>by subst e;rw[(h.owns k j h2).2.2.2] at hc;cases hc
   simp[σ',this,hc]
  refine⟨σ',fun k=>if k=k0 then none else own k,hle,h.step (fun i=>i=j) rfl hle ?_ (fun k o x hx=>.inl hx) (fun k x hx=>?_) (.refl _ _) ⟨fun _=>aX _,fun _ _=>rfl⟩ (fun i hi=>⟨?_,rfl,rfl,fun k hk=>⟨?_,rfl⟩⟩) (fun i hi=>?_) (fun k i hk=>?_) (fun _=>id) (fun t=>.inl ⟨rfl,rfl,rfl⟩) (fun _ _=>rfl) (fun _ _ _=>rfl) (fun k i hk=>by
        split at hk
        ·cases hk
        ·exact .inl ⟨i,hk⟩) (fun i hi=>by subst hi;simp[St.setO,aK])⟩
  ·refine⟨h.ok.c,fun k es hc=>?_⟩;simp only[σ'] at hc;split at hc
   ·rename_i e;subst e;cases hc;refine .inl ⟨fun e=>?_,arr,clock,h3,rfl⟩;refine DU (cap:=C.cap) (σ:=σ) (kt:=kt) (es:=ga) (by simp[entriesOf,h5]) (fun i p q hp hq=>?_) e;simp only[entriesOf,cK,ax] at hp;obtain⟨x,dD,rfl⟩:=hp;exact(h6 i x q (by simpa using dD) hq).1
   ·exact h.ok.m k es hc
  ·simp only[σ'] at hx;split at hx
   ·rename_i e;subst e;exact .inr ⟨(h.owns k j h2).1,.inl ⟨j,h2⟩⟩
   ·exact .inl hx
  ·simp[St.setO,bk _ _ hi]
  ·have:k≠k0:=fun e=>by subst e;rw[h2] at hk;simp at hk;exact hi hk.symm
   simp[this,hk]
  ·subst hi;simp only[St.setO,aK];refine⟨rfl,?_⟩;rw[h1,h4];refine .map kt et k0 (entriesOf arr) ga (by simp[σ']) (by simp[entriesOf,h5]) hx (fun i p q hp hq=>?_) (fun i p q hp hq=>?_)
   ·simp only[entriesOf,cK,ax] at hp;obtain⟨e,he,rfl⟩:=hp;exact((h6 i e q (by simpa using he) hq).1).mono hle
   ·simp only[entriesOf,cK,ax] at hp;obtain⟨e,he,rfl⟩:=hp;exact((h6 i e q (by simpa using he) hq).2).mono hle
  ·split at hk
   ·cases hk
   ·rename_i hn;obtain⟨g1,g2,g3,g4⟩:=h.owns k i hk;exact⟨g1,g2,g3,by simp[σ',hn,g4]⟩
 ·exact⟨σ,own,.refl σ,h⟩
end
end Cx
namespace Cx
open Go Go.RowKit
section
variable {C:Ctx} {S:St} {ρ:Env} {σ:Im} {own:Nat→Option Nat} {hv:Nat→Value} {w0:World} {σ0:Base} {A:Nat→Prop} {a:Act} {w:World} {gs:List (Nat×Bool)} {Φ:aV} {dst:Nat}
theorem rI {j:Nat}{e:PE}{ρ':Env}(h:PI.runs Φ [.setO j e] ρ=some ρ'):ρ'=ρ.setO j (e.ev ρ):=by
 simp[PI.runs,PI.run] at h;exact h.symm
theorem nR {ρ':Env}(h:PI.runs Φ [] ρ=some ρ'):ρ'=ρ:=by
 simp[PI.runs] at h;exact h.symm
def Bf (C:Ctx)(w0:World)(σ0:Base)(Φ:aV)(S:St)(ρ:Env)(A:Nat→Prop)(a:Act)(w:World)(r:St×List PI):Prop:=
 ∀ρ',PI.runs Φ r.2 ρ=some ρ'→Good C w0 σ0 r.1 ρ' A a w
theorem ag8 (h:Inv C S ρ σ own hv w0 σ0 A a w){b:Nat}{r:St×List PI}(hr:Cp S b=some r):Bf C w0 σ0 Φ S ρ A a w r:=by
 unfold Cp at hr;split at hr
 case h_2=>cases hr
 rename_i ag shs eo;simp only[ao] at hr;obtain⟨x,hx,hr⟩:=hr;have aY:=h.objs b;rw[eo] at aY;obtain⟨k,cs,T,ds,h1,h2,h3,h4,h5,h6,h7⟩:=aY;obtain⟨l1,es,⟨he,pU⟩,l2,bN⟩:=L7 (b:=.o b) h (cs:=cs.toList) h5 shs 0 x (fun m s hm=>by rw[zn,fq];exact(h7 m s hm).2) hx
 let σ':Im:={c:=fun k' o=>if k'=k then cs[o]? else σ.c k' o,m:=σ.m}
 have hle:σ.le σ':=by
  refine⟨fun k' o v hc=>?_,fun k es hc=>hc⟩;have:k'≠k:=fun e=>by subst e;rw[(h.owns k' b h2).2.2.1 o] at hc;cases hc
  simp[σ',this,hc]
 have key:∀(t:Ty) (v:Value) (d:D),Rep C.cap σ' t v d→(∀(i:Nat) (u:Value),v.cells[i]?=some u→cs[i]?=some u)→
  Inv C (S.setO b (.fbox t)) (ρ.setO b d) σ' (fun k'=>if k'=k then none else own k') hv w0 σ0 A a w:=by
  intro t v d hrv aS
  refine h.step (fun i=>i=b) rfl hle ?_ (fun k' o x hx=>?_) (fun _ _ hx=>.inl hx) (.refl _ _) ⟨fun _=>aX _,fun _ _=>rfl⟩ (fun i hi=>⟨?_,?_,rfl,fun k' hk=>⟨?_,rfl⟩⟩) (fun i hi=>?_) (fun k' i hk=>?_) (fun _=>id) (fun t=>.inl ⟨rfl,rfl,rfl⟩) (fun _ _=>rfl) (fun _ _ _=>rfl) (fun k' i hk=>by
        split at hk
        ·cases hk
        ·exact .inl ⟨i,hk⟩) (fun i hi=>by subst hi;simp[St.setO,aK])
  ·refine⟨fun k' o v hc=>?_,h.ok.m⟩;simp only[σ'] at hc;split at hc
   ·rename_i e;subst e;simp[World.cell?,h3,hc]
   ·exact h.ok.c k' o v hc
  ·simp only[σ'] at hx;split at hx
   ·rename_i e;subst e;exact .inr ⟨(h.owns k' b h2).1,.inl ⟨b,h2⟩⟩
   ·exact .inl hx
  ·simp[St.setO,bk _ _ hi]
  ·simp[Env.setO,bk _ _ hi]
  ·have:k'≠k:=fun e=>by subst e;rw[h2] at hk;simp at hk;exact hi hk.symm
   simp[this,hk]
  ·subst hi;simp only[St.setO,aK];exact⟨k,v,h1,by simp only[Env.setO,aK];exact hrv,fun i u hu=>by simp[σ',aS i u hu]⟩
  ·split at hk
   ·cases hk
   ·rename_i hn;obtain⟨g1,g2,g3,g4⟩:=h.owns k' i hk;exact⟨g1,g2,fun o=>by simp[σ',hn,g3 o],g4⟩
 have ji:∀(m:Nat) (t:Ty),x.1[m]?=some t→t.one=true∧Rep C.cap σ' t (cs.toList.getD m undef) (es.getD m .none):=fun m t hm=>by
  obtain⟨g1,g2⟩:=bN m t hm;rw[fq] at g2;exact⟨g1,g2.mono hle⟩
 intro ρ' af;cases ag with
 |true=>
  simp only[cond_true] at hr;cases hr;have:=rI af;subst this;refine⟨_,_,_,key (.agg x.1) (.agg cs.toList.toArray) _ ?_ (fun i u hu=>by simpa [Value.cells] using hu)⟩;simp only[PE.ev,he];exact .agg _ _ _ (by simp;omega) (by omega) (fun m t hm=>(ji m t hm).2) (fun m t hm=>(ji m t hm).1)
 |false=>
  simp only[cond_false] at hr;split at hr
  ·rename_i t e et ee;cases hr;have:=rI af;subst this;obtain⟨g1,g2⟩:=ji 0 t (by rw[et];rfl);have jH:es=[e.ev ρ]:=by rw[←pU,ee];rfl
   subst jH;refine⟨_,_,_,key t (cs.toList.getD 0 undef) _ (by simpa using g2) (fun i u hu=>?_)⟩;rw[(g2.oneCell g1).1] at hu;have hi:i=0:=by
        have:=(dI.1 hu).1;simpa using this
   subst hi;simp at hu;subst hu;have:0<cs.size:=by rw[h4];rw[et] at l1;simp at l1;omega
   rw[eC this];simp[aH,eC this]
  ·cases hr
theorem Inv.mv (h:Inv C S ρ σ own hv w0 σ0 A a w){j j':Nat}(ay:j≠j')(hk:lz (S.o j)=true):
 Inv C (S.mv j j') (ρ.setO j' (ρ.o j)) σ (fun k=>if own k=some j then some j' else if own k=some j' then none else own k) (bV hv j' (hv j)) w0 σ0 A a w:=by
 have aY:=h.objs j
 refine h.step (fun i=>i=j∨i=j') rfl (.refl σ) h.ok (fun _ _ _ hx=>.inl hx) (fun _ _ hx=>.inl hx) (.refl _ _) ⟨fun i=>?_,fun i e=>?_⟩ (fun i hi=>?_) (fun i hi=>?_) (fun k i hk=>?_) (fun _=>id) (fun t=>.inl ⟨rfl,rfl,rfl⟩) (fun _ _=>rfl) (fun _ _ _=>rfl) (fun k i hk=>by
        split at hk
        ·rename_i e;exact .inl ⟨j,e⟩
        ·split at hk
         ·cases hk
         ·exact .inl ⟨i,hk⟩) (fun i hi=>by
        rcases hi with rfl|rfl
        ·simp[St.mv,aK]
        ·simp only[St.mv,bk _ _ (sf ay),aK];intro e;rw[e] at hk;cases hk)
 ·simp only[St.mv,fK];split
  ·rename_i e;subst e;omega
  ·split
   ·rename_i e;subst e;omega
   ·omega
 ·simp only[St.mv,fK] at e;split at e
  ·rename_i e';subst e';omega
  ·split at e
   ·rename_i e';subst e';omega
   ·rename_i NI;exact bk _ _ NI
 ·simp only[not_or] at hi;refine⟨by simp[St.mv,bk _ _ hi.1,bk _ _ hi.2],by simp[Env.setO,bk _ _ hi.2],bk _ _ hi.2,fun k hk=>⟨?_,rfl⟩⟩;have e1:i≠j:=hi.1;have e2:i≠j':=hi.2;simp[hk,e1,e2]
 ·rcases hi with rfl|rfl
  ·simp only[St.mv,aK];trivial
  ·simp only[St.mv,bk _ _ (sf ay),aK];cases cU:S.o j with
   |row T e=>
    rw[cU] at aY;obtain⟨cells,xs,h1,h2,h3,h4⟩:=aY;refine⟨cells,xs,by simp only[Env.setO,aK];exact h1,by rw[aK];exact h2,h3,fun k hk=>?_⟩;rw[aK] at hk;simp[h4 k hk]
   |mp kt et=>
    rw[cU] at aY;obtain⟨k0,arr,clock,es,h1,h2,h3,h4,h5,h6⟩:=aY;exact⟨k0,arr,clock,es,by rw[aK];exact h1,by simp[h2],h3,by simp only[Env.setO,aK];exact h4,h5,h6⟩
   |_=>rw[cU] at hk;simp[lz] at hk
 ·split at hk
  ·rename_i e;exact h.owns k j e
  ·split at hk
   ·cases hk
   ·exact h.owns k i hk
theorem aor (h:Inv C S ρ σ own hv w0 σ0 A a w){t j':Nat}{r:St×List PI}(hr:xF S t j'=some r):Bf C w0 σ0 Φ S ρ A a w r:=by
 intro ρ' af;unfold xF at hr;split at hr
 ·rename_i j ver es;cases hb:(Nat.beq ver (S.ver j)&&lz (S.o j)&& !Nat.beq j j')<;>simp only[hb,cond_true,cond_false] at hr
  ·cases hr;rw[nR af];exact⟨_,_,_,h⟩
  ·cases hr;simp only[aj,iy] at hb;have dO:=aw hb.1.1;have ay:j≠j':=fun e=>by subst e;simp at hb
   have l6:=h.mv ay hb.1.2;have gu:=h.regs t;rw[es] at gu;have cl:=gu.2 dO;rw[rI af];refine⟨_,_,_,l6.step (S':=(S.mv j j').setR t (.obj j' (S.ver j'+1))) (fun _=>False) rfl (.refl σ) l6.ok (fun _ _ _ hx=>.inl hx) (fun _ _ hx=>.inl hx) (.refl _ _) ⟨fun _=>aX _,fun _ _=>rfl⟩ (fun i _=>⟨rfl,rfl,rfl,fun k hk=>⟨hk,rfl⟩⟩) (fun _ hf=>hf.elim) l6.owns (fun _=>id) (fun u=>?_) (fun _ _=>rfl) (fun _ _ _=>rfl) (fun k i hk=>.inl ⟨i,hk⟩) (fun _ hf=>hf.elim)⟩;by_cases hu:u=t
   ·subst hu;refine .inr ⟨?_,fun gs s e=>by simp[St.setR,aK] at e⟩;simp only[St.setR,aK];refine⟨?_,fun _=>?_⟩
    ·simp[St.mv,bk _ _ (sf ay),aK]
    ·rw[aK];exact cl
   ·exact .inl ⟨by simp[St.setR,bk _ _ hu],rfl,rfl⟩
 ·cases hr;rw[nR af];exact⟨_,_,_,h⟩
theorem aoq (h:Inv C S ρ σ own hv w0 σ0 A a w){b i j':Nat}{r:St×List PI}(hr:E4 S b i j'=some r):Bf C w0 σ0 Φ S ρ A a w r:=by
 intro ρ' af;unfold E4 at hr;split at hr
 ·rename_i ag shs eo;split at hr
  ·rename_i j ver es;cases hb:(Nat.beq ver (S.ver j)&&lz (S.o j)&& !Nat.beq j j'&& !Nat.beq b j'&& !Nat.beq b j)<;>simp only[hb,cond_true,cond_false] at hr
   ·cases hr;rw[nR af];exact⟨_,_,_,h⟩
   ·cases hr;simp only[aj,iy] at hb;have dO:=aw hb.1.1.1.1;have ay:j≠j':=fun e=>by subst e;simp at hb
    have cu:b≠j':=fun e=>by subst e;simp at hb
    have bn:b≠j:=fun e=>by subst e;simp at hb
    have aY:=h.objs b;rw[eo] at aY;obtain⟨k,cs,T,ds,h1,h2,h3,h4,h5,h6,h7⟩:=aY;have cl:=(h7 i _ es).2.2 dO;have l6:=h.mv ay hb.1.1.1.2;rw[rI af];have Ms:(S.mv j j').o b=.box ag shs:=by simp[St.mv,bk _ _ cu,bk _ _ bn,eo]
    have C9:=l6.objs b;rw[Ms] at C9;refine⟨_,_,_,l6.step (S':=(S.mv j j').setO b (.box ag (shs.set i (.obj j' (S.ver j'+1))))) (fun m=>m=b) rfl (.refl σ) l6.ok (fun _ _ _ hx=>.inl hx) (fun _ _ hx=>.inl hx) (.refl _ _) ⟨fun _=>aX _,fun _ _=>rfl⟩ (fun m hm=>⟨by simp[St.setO,bk _ _ hm],rfl,rfl,fun k hk=>⟨hk,rfl⟩⟩) (fun m hm=>?_) l6.owns (fun _=>id) (fun t=>.inl ⟨rfl,rfl,rfl⟩) (fun _ _=>rfl) (fun _ _ _=>rfl) (fun k i hk=>.inl ⟨i,hk⟩) (fun m hm=>by subst hm;simp[St.setO,aK])⟩;subst hm;rw[St.setO_o];obtain⟨k1,BR,T1,BU,g1,g2,g3,g4,g5,g6,g7⟩:=C9;have e1:BR=cs:=by
     rw[bk _ _ cu,h1] at g1;cases g1;rw[h3] at g3;cases g3;rfl
    refine⟨k1,BR,T1,BU,g1,g2,g3,by simpa using g4,g5,by simpa using g6,fun q x hq=>?_⟩;rw[tO] at hq;split at hq
    ·rename_i e;subst e;split at hq
     ·cases hq;refine⟨(fun _ _ e=>by cases e),?_,fun _=>?_⟩
      ·simp[St.setO,St.mv,bk _ _ (sf ay),aK]
      ·rw[aK,e1];exact cl
     ·cases hq
    ·obtain⟨f1,f2⟩:=g7 q x hq;exact⟨f1,f2.mono' (.refl σ) (Compat.setO _ _ _ _) f1⟩
  ·cases hr;rw[nR af];exact⟨_,_,_,h⟩
 ·cases hr;rw[nR af];exact⟨_,_,_,h⟩
theorem ajA (h:Inv C S ρ σ own hv w0 σ0 A a w){b i j:Nat}{T:TypeId}{r:St×List PI}(hr:Db C S b i j T=some r):Bf C w0 σ0 Φ S ρ A a w r:=by
 intro ρ' af;unfold Db at hr;split at hr
 ·rename_i ag shs eo;split at hr
  ·rename_i e0 e es et;cases hb:(!Nat.beq b j)<;>simp only[hb,cond_true,cond_false] at hr
   ·cases hr;rw[nR af];exact⟨_,_,_,h⟩
   ·cases hr;have ay:b≠j:=fun e=>by subst e;simp at hb
    have aY:=h.objs b;rw[eo] at aY;obtain⟨k,cs,T0,ds,h1,h2,h3,h4,h5,h6,h7⟩:=aY;have cl:cs.getD i undef=.slice none 0 0:=by
     have:=(h7 i _ es).2;generalize cs.getD i undef=v at this;generalize ds.getD i .none=d at this;cases this;rfl
    have l8:=h.newO j (.row T e) (.list []) (.slice none 0 0) (fun _=>false) (.refl _ _) (by simp) ⟨[],[],by simp[Env.setO,aK],by rw[aK];exact World.ownsRow_nil _ _ _ _,⟨fun _=>undef,by simp,by simp⟩,by rw[aK];simp[Value.ownBlock]⟩;rw[rI af];have Ms:(S.newO j (.row T e)).o b=.box ag shs:=by simp[St.newO,bk _ _ ay,eo]
    have C9:=l8.objs b;rw[Ms] at C9;refine⟨_,_,_,l8.step (S':=(S.newO j (.row T e)).setO b (.box ag (shs.set i (.obj j (S.ver j+1))))) (fun m=>m=b) rfl (.refl σ) l8.ok (fun _ _ _ hx=>.inl hx) (fun _ _ hx=>.inl hx) (.refl _ _) ⟨fun _=>aX _,fun _ _=>rfl⟩ (fun m hm=>⟨by simp[St.setO,bk _ _ hm],rfl,rfl,fun k hk=>⟨hk,rfl⟩⟩) (fun m hm=>?_) l8.owns (fun _=>id) (fun t=>.inl ⟨rfl,rfl,rfl⟩) (fun _ _=>rfl) (fun _ _ _=>rfl) (fun k i hk=>.inl ⟨i,hk⟩) (fun m hm=>by subst hm;simp[St.setO,aK])⟩;subst hm;rw[St.setO_o];obtain⟨k1,BR,T1,BU,g1,g2,g3,g4,g5,g6,g7⟩:=C9;have e1:BR=cs:=by
     rw[bk _ _ ay,h1] at g1;cases g1;rw[h3] at g3;cases g3;rfl
    refine⟨k1,BR,T1,BU,g1,g2,g3,by simpa using g4,g5,by simpa using g6,fun q x hq=>?_⟩;rw[tO] at hq;split at hq
    ·rename_i e';subst e';split at hq
     ·cases hq;refine⟨(fun _ _ e=>by cases e),?_,fun _=>?_⟩
      ·simp[St.setO,St.newO,aK]
      ·rw[aK,e1];exact cl
     ·cases hq
    ·obtain⟨f1,f2⟩:=g7 q x hq;exact⟨f1,f2.mono' (.refl σ) (Compat.setO _ _ _ _) f1⟩
  ·cases hr;rw[nR af];exact⟨_,_,_,h⟩
 ·cases hr;rw[nR af];exact⟨_,_,_,h⟩
end
end Cx
namespace Cx
open Go Go.RowKit
def mkObj (S:St)(dst:Nat)(ob:Ob):St:=(S.newO dst ob).setR dst (.obj dst (S.ver dst+1))
def mkPtr (S:St)(dst:Nat)(ob:Ob):St:=(S.newO dst ob).setR dst (.ptr dst (S.ver dst+1) 0)
abbrev kS:=Option (St×List PI)
def B6 (C:Ctx)(S:St)(dst:Nat)(T:TypeId)(x:Operand):kS:=
 match use C S [] x,C.P.underlying T with
 |some (.nils _,_),some (.slice E)=>(pj C.P E).map fun e=>(mkObj S dst (.row E e),[.setO dst (.con (.list [])),.setR dst (.con .none)])
 |_,_=>Option.none
def BV (C:Ctx)(S:St)(dst:Nat)(T:TypeId):kS:=
 match pj C.P T,C.P.info? T,qh C.P T with
 |some t,some inf,some ag=>
  bif tH inf t&&(t.rowT||t.one) then
   (pk t).map fun z=>(mkPtr S dst (.box ag (z.1.flat.map .dat)),[.setO dst (.con (.agg z.2.cells)),.setR dst (.con .none)])
  else Option.none
 |_,_,_=>Option.none
def BX (C:Ctx)(S:St)(dst:Nat)(T:TypeId)(x:Operand):kS:=
 match use C S [] x,qh C.P T with
 |some (t,e),some ag=>
  bif t.rowT||t.one then some (mkPtr S dst (.box ag (t.flat.map .dat)),[.setO dst (.mk [e]),.setR dst (.con .none)]) else Option.none
 |Option.none,some true=>
  match fp S [] x with
  |.agg l=>some (mkPtr S dst (.box true (l.map AgC.sh)),[.setO dst (qz x),.setR dst (.con .none)])
  |_=>Option.none
 |_,_=>Option.none
def B3 (C:Ctx)(S:St)(dst:Nat)(T:TypeId)(r:Option Operand):kS:=
 match C.P.underlying T,r with
 |some (.map K E),Option.none=>
  (pj C.P K).bind fun kt=>(pj C.P E).map fun et=>(mkObj S dst (.mp kt et),[.setO dst (.con (.map [])),.setR dst (.con .none)])
 |_,_=>Option.none
def B4 (C:Ctx)(S:St)(dst:Nat)(T:TypeId)(l c:Operand):kS:=
 match C.P.underlying T,use C S [] l,use C S [] c with
 |some (.slice E),some (.int _,n),some (.int _,m)=>
  (pj C.P E).bind fun e=>
    bif qX C.P E e then
     (pk e).bind fun z=>
        bif Ty.sub z.1 e then some (mkObj S dst (.row E e),[.chk (OQ n),.chk (.ci .eql n m),.setO dst (.rep n (.con z.2)),.setR dst (.con .none)]) else Option.none
    else Option.none
 |_,_,_=>Option.none
def B7 (C:Ctx)(S:St)(dst:Nat)(T:TypeId)(x:Operand):kS:=
 match C.P.underlying T,fp S [] x with
 |some (.map _ _),.obj j ver=>
  bif Nat.beq ver (S.ver j)&& !Nat.beq j dst then
   match S.o j with
   |.mp kt et=>some (mkObj (S.mv j dst) dst (.it kt et),[.setO dst (.tup [.lst [],.o j]),.setR dst (.con .none)])
   |_=>Option.none
  else Option.none
 |_,_=>Option.none
def BY (C:Ctx)(S:St)(dst:Nat)(s d:TypeId)(x:Operand):kS:=
 match use C S [] x,C.P.underlying s,C.P.underlying d with
 |some (.str,e),some .string,some (.slice E)=>
  (match C.P.underlying E with
   |some (.int .u8)=>some (S.setR dst (.dat (.slice (.int .u8))),[.chk (.ci .leq (.slen e) (.con (.int nL))),.setR dst (.bytes e)])
   |_=>Option.none)
 |_,_,_=>Option.none
section
variable {C:Ctx} {S:St} {ρ:Env} {σ:Im} {own:Nat→Option Nat} {hv:Nat→Value} {w0:World} {σ0:Base} {A:Nat→Prop} {a:Act} {w:World} {gs:List (Nat×Bool)} {Φ:aV} {dst:Nat}
def bW (C:Ctx)(w0:World)(σ0:Base)(Φ:aV)(S:St)(ρ:Env)(A:Nat→Prop)(a:Act)(w:World)(o:Oper)(r:St×List PI):Prop:=
 ∀ρ',PI.runs Φ r.2 ρ=some ρ'→∀(K:Act→World→Prop) (Q:Exit→Act→World→Prop),(∀a' w',Good C w0 σ0 r.1 ρ' (fun u=>A u∨o.dst=some u) a' w'→a'.tmps.size=a.tmps.size→K a' w')→o.wp C.P a w K Q
theorem size_put (a:Act)(d:Option Tmp)(v:Value):(a.put d v).tmps.size=a.tmps.size:=by
 cases d<;>simp[Act.put]
theorem bW.value {o:Oper}{r:St×List PI}(hd:o.dst=some dst)(hx:∀ρ',PI.runs Φ r.2 ρ=some ρ'→∃v w',(execOp a.eval o).run C.P w=.ok (.value v) w'∧Good C w0 σ0 r.1 ρ' (fun u=>A u∨u=dst) (a.put (some dst) v) w'):bW C w0 σ0 Φ S ρ A a w o r:=by
 intro ρ' af K Q hK;obtain⟨v,w',h1,h2⟩:=hx ρ' af;simp only[Oper.wp,h1,Oper.upon,hd];refine hK _ _ ?_ (size_put _ _ _)
 have:(fun u=>A u∨o.dst=some u)=(fun u=>A u∨u=dst):=by
  funext u;rw[hd];simp[eq_comm]
 rw[this];exact h2
theorem bW.skip {o:Oper}{r:St×List PI}(hd:o.dst=none)(hx:∀ρ',PI.runs Φ r.2 ρ=some ρ'→∃w',(execOp a.eval o).run C.P w=.ok .skip w'∧Good C w0 σ0 r.1 ρ' A a w'):bW C w0 σ0 Φ S ρ A a w o r:=by
 intro ρ' af K Q hK;obtain⟨w',h1,h2⟩:=hx ρ' af;simp only[Oper.wp,h1,Oper.upon,hd]
 have:(fun u=>A u∨o.dst=some u)=A:=by
  funext u;rw[hd];simp
 rw[this] at hK;exact hK _ _ h2 (size_put _ _ _)
theorem eT.eff (h:Inv C S ρ σ own hv w0 σ0 A a w)(ht:¬A dst)(ae:dst<a.tmps.size){o:Oper}(hd:o.dst=some dst){s:Sh}{D4:List PI}(hq:eT C S ρ σ hv Φ dst a w o (s,D4)):bW C w0 σ0 Φ S ρ A a w o (S.setR dst s,D4):=by
 refine bW.value hd fun ρ' af=>?_;obtain⟨v,d,rfl,h1,h2,h3⟩:=hq ρ' af;exact⟨v,w,h1,σ,own,hv,h.setReg ht (aE.mono' (.refl σ) (.refl S hv) h3 h2) ae (fun gs s' e=>absurd e (h3 gs s'))⟩
theorem eT.effG (h:Inv C S ρ σ own hv w0 σ0 A a w)(ht:¬A dst)(ae:dst<a.tmps.size)(ei:∀g,g∈gs→A g.1)(hg:holds gs ρ=true){o:Oper}(hd:o.dst=some dst){s:Sh}{D4:List PI}(hq:eT C S ρ σ hv Φ dst a w o (s,D4)):bW C w0 σ0 Φ S ρ A a w o (S.setR dst (.opt gs s),D4):=by
 refine bW.value hd fun ρ' af=>?_;obtain⟨v,d,rfl,h1,h2,h3⟩:=hq ρ' af;have hh:holds gs (ρ.setR dst d)=true:=by rw[Da (t:=dst) (d:=d) fun g hm e=>ht (by rw[←e];exact ei g hm)];exact hg
 refine⟨v,w,h1,σ,own,hv,h.setReg ht ⟨fun _=>aE.mono' (.refl σ) (.refl S hv) h3 h2,fun e=>absurd (hh.symm.trans e) (by decide)⟩ ae (fun bP s' e=>?_)⟩;cases e;exact⟨ei,h3⟩
theorem Inv.passed (h:Inv C S ρ σ own hv w0 σ0 A a w)(ht:¬A dst)(ae:dst<a.tmps.size)(ei:∀g,g∈gs→A g.1)(hg:holds gs ρ=false){s:Sh}(hs:∀bP s',s≠.opt bP s')(d:D):Inv C (S.setR dst (.opt gs s)) (ρ.setR dst d) σ own hv w0 σ0 (fun u=>A u∨u=dst) (a.put (some dst) undef) w:=by
 have hh:holds gs (ρ.setR dst d)=false:=by rw[Da (t:=dst) (d:=d) fun g hm e=>ht (by rw[←e];exact ei g hm)];exact hg
 refine h.setReg ht (s:=.opt gs s) (v:=undef) (d:=d) ⟨fun e=>absurd (hh.symm.trans e) (by decide),fun _=>rfl⟩ ae (fun bP s' e=>?_);cases e;exact⟨ei,hs⟩
theorem Inv.mkObj (h:Inv C S ρ σ own hv w0 σ0 A a w)(ht:¬A dst)(ae:dst<a.tmps.size)(ob:Ob)(d:D)(v:Value)(nb:Nat→Bool){w':World}(hw:Below w.heap.size w w')(dN:∀k,nb k=true→w.heap.size≤k∧k<w'.heap.size)
 (cU:cC C (S.newO dst ob) (ρ.setO dst d) σ (fV own dst nb) (bV hv dst v) w' w0.heap.size dst ob) (nD:ob≠.tr:=by intro h;cases h):
 Good C w0 σ0 (Cx.mkObj S dst ob) ((ρ.setO dst d).setR dst .none) (fun u=>A u∨u=dst) (a.put (some dst) v) w':=by
 have h1:=h.newO dst ob d v nb hw dN cU nD;have h2:=h1.setObj ht (j:=dst) (v:=v) (aK _ _ _) ae;have e:(S.newO dst ob).ver dst=S.ver dst+1:=aK _ _ _;rw[e] at h2;exact⟨_,_,_,h2⟩
theorem Inv.mkPtr (h:Inv C S ρ σ own hv w0 σ0 A a w)(ht:¬A dst)(ae:dst<a.tmps.size)(ob:Ob)(d:D)(k:Nat)(nb:Nat→Bool){w':World}(hw:Below w.heap.size w w')(dN:∀k,nb k=true→w.heap.size≤k∧k<w'.heap.size)
 (cU:cC C (S.newO dst ob) (ρ.setO dst d) σ (fV own dst nb) (bV hv dst (.pointer (some ⟨k,0,none⟩))) w' w0.heap.size dst ob) (nD:ob≠.tr:=by intro h;cases h):
 Good C w0 σ0 (Cx.mkPtr S dst ob) ((ρ.setO dst d).setR dst .none) (fun u=>A u∨u=dst) (a.put (some dst) (.pointer (some ⟨k,0,none⟩))) w':=by
 have h1:=h.newO dst ob d _ nb hw dN cU nD;have e:(S.newO dst ob).ver dst=S.ver dst+1:=aK _ _ _;have h2:=h1.setReg ht (s:=.ptr dst (S.ver dst+1) 0) (v:=.pointer (some ⟨k,0,none⟩)) (d:=.none) ⟨Nat.le_of_eq e.symm,fun _=>⟨k,aK _ _ _,rfl⟩⟩ ae (fun _ _ e=>by cases e);exact⟨_,_,_,h2⟩
theorem AT {e:PE}{ρ':Env}(h:PI.runs Φ [.setO dst e,.setR dst (.con .none)] ρ=some ρ'):ρ'=(ρ.setO dst (e.ev ρ)).setR dst .none:=by
 simp[PI.runs,PI.run,PE.ev] at h;exact h.symm
theorem UP (h:Inv C S ρ σ own hv w0 σ0 A a w){t:Ty}{v:Value}{d:D}(hr:Rep C.cap σ t v d)(ho:t.rowT=true∨t.one=true)(ag:Bool)(T:TypeId):
 cC C (S.newO dst (.box ag (t.flat.map .dat))) (ρ.setO dst (.agg d.cells)) σ (fV own dst (fun k=>Nat.beq k w.heap.size)) (bV hv dst (.pointer (some ⟨w.heap.size,0,none⟩))) (w.alloc (.cells v.cells T)) w0.heap.size dst (.box ag (t.flat.map .dat)):=by
 obtain⟨f1,f2,f3⟩:=hr.flat ho;refine⟨w.heap.size,v.cells,T,d.cells,aK _ _ _,by simp[fV],heap_alloc_new w _,by rw[hr.size];simp[f1],by simp[Env.setO,aK],by simp[f1,f2],fun i s hi=>?_⟩;simp only[cK,ax] at hi;obtain⟨ti,Dw,rfl⟩:=hi;exact⟨fun _ _ e=>(by cases e),(f3 i ti Dw).2⟩
theorem afA (h:Inv C S ρ σ own hv w0 σ0 A a w)(hC:CtxOK C σ0)(ht:¬A dst)(ae:dst<a.tmps.size){T:TypeId}{x:Operand}{r:St×List PI}(hr:B6 C S dst T x=some r){o:Oper}(hd:o.dst=some dst)(ho:o.op=.assign x):bW C w0 σ0 Φ S ρ A a w o r:=by
 unfold B6 at hr;split at hr
 case h_2=>cases hr
 rename_i e0 e1 E hu hT;simp only[ax] at hr;obtain⟨e,he,rfl⟩:=hr;have hx:=cB h hC rfl hu;have cl:a.eval x=.slice none 0 0:=by
  generalize a.eval x=v at hx;generalize e1.ev ρ=d at hx;cases hx;rfl
 refine bW.value hd fun ρ' af=>⟨.slice none 0 0,w,by simp[execOp,ho,cl],?_⟩
 rw[AT af];exact h.mkObj ht ae (.row E e) _ _ (fun _=>false) (.refl _ _) (by simp) ⟨[],[],by simp[Env.setO,aK,PE.ev],by rw[aK];exact World.ownsRow_nil _ _ _ _,⟨fun _=>undef,by simp,by simp⟩,by rw[aK];simp[Value.ownBlock]⟩
theorem ae5 (h:Inv C S ρ σ own hv w0 σ0 A a w)(ht:¬A dst)(ae:dst<a.tmps.size){T:TypeId}{r:St×List PI}(hr:BV C S dst T=some r){o:Oper}(hd:o.dst=some dst)(ho:o.op=.alloc T):bW C w0 σ0 Φ S ρ A a w o r:=by
 unfold BV at hr;split at hr
 case h_2=>cases hr
 rename_i t inf ag Ok hi ha;cases hc:(tH inf t&&(t.rowT||t.one))<;>simp only[hc,cond_true,cond_false] at hr
 ·cases hr
 simp only[aj,gF] at hc;simp only[ax] at hr;obtain⟨z,hz,rfl⟩:=hr;obtain⟨v0,qf,nI⟩:∃v0,inf.zero=some v0∧jW t v0=true:=by
  have:=hc.1;unfold tH at this;split at this
  ·exact⟨_,by assumption,this⟩
  ·cases this
 obtain⟨k1,k2,k3⟩:=xT (cap:=C.cap) (σ:=σ) hz nI;have fG:z.1.rowT=true∨z.1.one=true:=by
  rcases hc.2 with e|e
  ·left;cases t<;>simp[Ty.rowT] at e;simp[pk] at hz;obtain⟨_,_,rfl⟩:=hz;rfl
  ·right;rw[k3];exact e
 refine bW.value hd fun ρ' af=>⟨.pointer (some ⟨w.heap.size,0,none⟩),w.alloc (.cells v0.cells T),?_,?_⟩
 ·simp[execOp,ho,Instr.alloc,zeroValue,run_typeInfo w hi,qf,newVar,newRow]
 ·rw[AT af];exact h.mkPtr ht ae _ _ _ (fun k=>Nat.beq k w.heap.size) ((Below.refl _ _).alloc (aX _) _) (fun k hk=>by simp at hk;simp;omega) (UP h k1 fG ag T)
theorem Compat.newO (S:St)(hv:Nat→Value)(j:Nat)(ob:Ob)(v:Value):Compat S hv (S.newO j ob) (bV hv j v):=by
 refine⟨fun i=>?_,fun i e=>?_⟩
 ·simp only[St.newO,fK];split<;>rename_i e
  ·subst e;omega
  ·omega
 ·simp only[St.newO,fK] at e;split at e
  ·rename_i e';subst e';omega
  ·rename_i ay;exact bk _ _ ay
theorem ae9 (h:Inv C S ρ σ own hv w0 σ0 A a w)(hC:CtxOK C σ0)(ht:¬A dst)(ae:dst<a.tmps.size){T:TypeId}{x:Operand}{r:St×List PI}(hr:BX C S dst T x=some r){o:Oper}(hd:o.dst=some dst)(ho:o.op=.box T x):bW C w0 σ0 Φ S ρ A a w o r:=by
 unfold BX at hr;split at hr
 case h_3=>cases hr
 case h_2=>
  rename_i hu ha;split at hr
  case h_2=>cases hr
  rename_i l eL;cases hr;have gu:=(rL h (gs:=[]) rfl x).1;rw[eL] at gu;obtain⟨vs,ds,e1,e2,e3,e4,e5⟩:=gu;refine bW.value hd fun ρ' af=>⟨.pointer (some ⟨w.heap.size,0,none⟩),w.alloc (.cells (a.eval x).cells T),?_,?_⟩
  ·simp[execOp,ho,Instr.box,newVar,newRow]
  ·rw[AT af,e2];refine h.mkPtr ht ae _ _ _ (fun k=>Nat.beq k w.heap.size) ((Below.refl _ _).alloc (aX _) _) (fun k hk=>by simp at hk;simp;omega) ⟨w.heap.size,(a.eval x).cells,T,ds,aK _ _ _,by simp[fV],heap_alloc_new w _,by rw[e1];simp[Value.cells,e3],by simp[Env.setO,aK],by simp[e4],fun i s hi=>?_⟩;simp only[cK,ax] at hi;obtain⟨c,hc,rfl⟩:=hi;have bI:(a.eval x).cells.getD i undef=vs.getD i undef:=by rw[e1];simp[Value.cells,aH,eK]
   have h6:=(e5 i c hc).monoR (Im.le.leR (.refl σ)) (Compat.newO S hv dst (.box true (l.map AgC.sh)) (.pointer (some ⟨w.heap.size,0,none⟩)));rw[bI];cases c with
   |dat t=>exact⟨fun _ _ e=>(by cases e),h6.2⟩
   |obj j ver=>exact⟨fun _ _ e=>(by cases e),h6⟩
 rename_i t e ag hu ha;cases hc:(t.rowT||t.one)<;>simp only[hc,cond_true,cond_false] at hr
 ·cases hr
 cases hr;simp only[gF] at hc;have hx:=cB h hC rfl hu;refine bW.value hd fun ρ' af=>⟨.pointer (some ⟨w.heap.size,0,none⟩),w.alloc (.cells (a.eval x).cells T),?_,?_⟩
 ·simp[execOp,ho,Instr.box,newVar,newRow]
 ·rw[AT af];have:(PE.mk [e]).ev ρ=.agg (e.ev ρ).cells:=by simp[PE.ev,PE.evc]
  rw[this];exact h.mkPtr ht ae _ _ _ (fun k=>Nat.beq k w.heap.size) ((Below.refl _ _).alloc (aX _) _) (fun k hk=>by simp at hk;simp;omega) (UP h hx hc ag T)
theorem afu (h:Inv C S ρ σ own hv w0 σ0 A a w)(ht:¬A dst)(ae:dst<a.tmps.size){T:TypeId}{m:Option Operand}{r:St×List PI}(hr:B3 C S dst T m=some r){o:Oper}(hd:o.dst=some dst)(ho:o.op=.makeMap T m):bW C w0 σ0 Φ S ρ A a w o r:=by
 unfold B3 at hr;split at hr
 case h_2=>cases hr
 rename_i K E hT;simp only[ao,ax] at hr;obtain⟨kt,hk,et,he,rfl⟩:=hr;refine bW.value hd fun ρ' af=>⟨.map (some w.heap.size),w.alloc (.map #[] 0),?_,?_⟩
 ·simp[execOp,ho,Instr.makeMap]
 ·rw[AT af]
  exact h.mkObj ht ae (.mp kt et) _ _ (fun k=>Nat.beq k w.heap.size) ((Below.refl _ _).alloc (aX _) _) (fun k hk=>by simp at hk;simp;omega)
   ⟨w.heap.size,#[],0,[],aK _ _ _,by simp[fV],heap_alloc_new w _,by simp[Env.setO,aK,PE.ev],rfl,⟨by simp,by simp[nm]⟩,by simp⟩
theorem afC (h:Inv C S ρ σ own hv w0 σ0 A a w)(ht:¬A dst)(ae:dst<a.tmps.size){T:TypeId}{x:Operand}{r:St×List PI}(hr:B7 C S dst T x=some r){o:Oper}(hd:o.dst=some dst)(ho:o.op=.range T x):bW C w0 σ0 Φ S ρ A a w o r:=by
 unfold B7 at hr;split at hr
 case h_2=>cases hr
 rename_i K E j ver hT es;obtain⟨er,_⟩:=rL h (gs:=[]) rfl x;rw[es] at er;cases hb:(Nat.beq ver (S.ver j)&& !Nat.beq j dst)<;>simp only[hb,cond_true,cond_false] at hr
 ·cases hr
 simp only[aj,iy] at hb;have cl:=er.2 (aw hb.1);have ay:j≠dst:=fun e=>by subst e;simp at hb
 have aY:=h.objs j;split at hr
 case h_2=>cases hr
 rename_i kt et eo;cases hr;rw[eo] at aY;obtain⟨m,arr,clock,ds,h1,h2,h3,h4,h5,⟨h6,q8⟩,h7⟩:=aY;have l6:=h.mv ay (by rw[eo];rfl);have p7:m<w.heap.size:=(dI.1 h3).1;have Nz:w0.heap.size≤m:=(h.owns m j h2).1;refine bW.value hd fun ρ' af=>⟨.pointer (some ⟨w.heap.size,0,none⟩),w.alloc (.mapIter (some m) clock #[] clock),?_,?_⟩
 ·simp[execOp,ho,Instr.range,cl,h1,run_underlying hT,getObj,Sem.run,h3]
 have hρ:ρ'=((ρ.setO dst (.tup [.list [],.map ds])).setR dst .none):=by
  simp[PI.runs,PI.run,PE.ev,PE.evs,h4] at af;exact af.symm
 subst hρ;have gL:Below w.heap.size w (w.alloc (.mapIter (some m) clock #[] clock)):=(Below.refl _ _).alloc (aX _) _;have Du:=l6.step (S':=(S.mv j dst).newO dst (.it kt et)) (ρ':=(ρ.setO dst (.tup [.list [],.map ds]))) (σ':=σ) (hv':=bV (bV hv dst (hv j)) dst (.pointer (some ⟨w.heap.size,0,none⟩)))
  (own':=fun k=>if k=w.heap.size then some dst else(if own k=some j then some dst else if own k=some dst then none else own k)) (a':=a) (A':=A) (w':=w.alloc (.mapIter (some m) clock #[] clock)) (fun i=>i=dst)
  rfl (.refl σ) (h.ok.below gL) (fun _ _ _ hx=>.inl hx) (fun _ _ hx=>.inl hx) (gL.mono h.below.size) ⟨fun i=>?_,fun i e=>?_⟩ (fun i hi=>⟨?_,?_,?_,fun k hk=>⟨?_,?_⟩⟩) (fun i hi=>?_) (fun k i hk=>?_) (fun _=>id) (fun t=>.inl ⟨rfl,rfl,rfl⟩) (fun _ _=>rfl) (fun k hk _=>gL.block k hk) (fun k i hk=>?_) (fun i hi=>by subst hi;simp[St.newO,aK])
 ·have ny:=Du.setObj ht (j:=dst) (v:=.pointer (some ⟨w.heap.size,0,none⟩)) (aK _ _ _) ae;have e:((S.mv j dst).newO dst (.it kt et)).ver dst=(S.mv j dst).ver dst+1:=aK _ _ _;rw[e] at ny;exact⟨_,_,_,ny⟩
 ·simp only[St.newO,fK];split<;>rename_i e
  ·subst e;omega
  ·omega
 ·simp only[St.newO,fK] at e;split at e
  ·rename_i e';subst e';omega
  ·rename_i NI;exact bk _ _ NI
 ·simp[St.newO,bk _ _ hi]
 ·simp[Env.setO,bk _ _ hi]
 ·exact bk _ _ hi
 ·have av8:=(l6.owns k i hk).2.1;have cj:k≠w.heap.size:=by omega
  simp only[if_neg cj];exact hk
 ·exact gL.block k (l6.owns k i hk).2.1
 ·subst hi;simp only[St.newO,aK];have fQ:m≠w.heap.size:=by omega
  refine⟨w.heap.size,m,arr,clock,ds,[],aK _ _ _,by simp,by simp[fQ,h2],by omega,?_,heap_alloc_new w _,by simp[Env.setO,aK,gV],List.nodup_nil,by simp,h5,q8,h7⟩;rw[gL.block m p7];exact h3
 ·split at hk
  ·rename_i e;subst e;refine⟨h.below.size,by simp,fun o=>?_,?_⟩
   ·cases hc:σ.c w.heap.size o with
    |none=>rfl
    |some u=>have:=h.lt hc;omega
   ·cases hc:σ.m w.heap.size with
    |none=>rfl
    |some u=>have:=h.ltm hc;omega
  ·obtain⟨g1,g2,g3,g4⟩:=l6.owns k i hk;exact⟨g1,by simp;omega,g3,g4⟩
 ·split at hk
  ·rename_i e;subst e;exact .inr (aX _)
  ·exact .inl ⟨i,hk⟩
theorem afd (h:Inv C S ρ σ own hv w0 σ0 A a w)(hC:CtxOK C σ0)(ht:¬A dst)(ae:dst<a.tmps.size){T U:TypeId}{x:Operand}{r:St×List PI}(hr:BY C S dst T U x=some r){o:Oper}(hd:o.dst=some dst)(ho:o.op=.convert T U x):bW C w0 σ0 Φ S ρ A a w o r:=by
 unfold BY at hr;split at hr
 case h_2=>cases hr
 rename_i e E hu hT hU;split at hr
 case h_2=>cases hr
 rename_i hE;cases hr;have hx:=cB h hC rfl hu;obtain⟨s,aQ,bh,hs⟩:=hx.str_inv;have oI:=Lib.run_convert_string_bytes (P:=C.P) w T U E s hT hU hE;refine bW.value hd fun ρ' af=>⟨.slice (some ⟨w.heap.size,0,none⟩) s.size (grownCap w s.size 0 E),Lib.bytesWorld w E s,by simp[execOp,ho,aQ,oI],?_⟩
 simp only[PI.runs,PI.run,ao] at af;obtain⟨ρ1,g1,ρ2,g2,g3⟩:=af;cases c1:((PE.ci BinOp.leq (.slen e) (.con (.int nL))).ev ρ).b<;>simp only[c1,cond_true,cond_false] at g1
 ·cases g1
 cases g1;cases g2;cases g3;have ajb:s.size≤4294967296:=by
  simp[PE.ev,bh,D.s,D.i,D.b,jD,D.int,nL] at c1;omega
 have gL:Below w.heap.size w (Lib.bytesWorld w E s):=⟨rfl,rfl,rfl,by rw[Lib.bytesWorld_size];omega,fun k hk=>Lib.bytesWorld_at_old w E s k hk⟩
 have aC:(Lib.bytesWorld w E s).heap.size=w.heap.size+1:=Lib.bytesWorld_size w E s
 let σ':Im:={c:=fun k i=>if k=w.heap.size then(if i<s.size then some (.int .u8 (s.data.toList.getD i 0).toNat) else none) else σ.c k i,m:=σ.m}
 have hle:σ.le σ':=by
  refine⟨fun k o v hc=>?_,fun k es hc=>hc⟩;have:k≠w.heap.size:=by have:=h.lt hc;omega
  simp[σ',this,hc]
 have az:σ'.ok (Lib.bytesWorld w E s):=by
  refine⟨fun k i v hc=>?_,(h.ok.below gL).m⟩;simp only[σ'] at hc;split at hc
  ·rename_i ek;subst ek;split at hc
   ·rename_i hi;cases hc;exact Lib.bytesWorld_cell w E s i hi
   ·cases hc
  ·exact(h.ok.below gL).c k i v hc
 have h1:=h.step (S':=S) (ρ':=ρ) (σ':=σ') (own':=own) (hv':=hv) (A':=A) (a':=a) (w':=Lib.bytesWorld w E s) (fun _=>False) rfl hle az (fun k i v hc=>?_) (fun k es hc=>.inl hc) (gL.mono h.below.size) ⟨fun _=>aX _,fun _ _=>rfl⟩
  (fun j _=>⟨rfl,rfl,rfl,fun k hk=>⟨hk,gL.block k (h.owns k j hk).2.1⟩⟩) (fun j hj=>hj.elim) (fun k j hk=>?_) (fun _=>id) (fun t=>.inl ⟨rfl,rfl,rfl⟩) (fun _ _=>rfl) (fun k hk _=>gL.block k hk) (fun k i hk=>.inl ⟨i,hk⟩) (fun _ hf=>hf.elim)
 ·refine⟨_,_,_,h1.setReg ht (s:=.dat (.slice (.int .u8))) ?_ ae (fun _ _ e=>by cases e)⟩;show Rep C.cap σ' _ _ _;simp only[PE.ev,bh,D.s];refine .slice (.int .u8) w.heap.size 0 s.size _ _ (fun i=>.int .u8 (s.data.toList.getD i 0).toNat) (by simp) (grownCap_ge w s.size 0 E) (grownCap_le_maxLen w s.size 0 E (by unfold maxLen;omega)) (fun i x hx=>?_) (fun i j u hi hu=>?_)
  ·simp only[cK,ax] at hx;obtain⟨b,hb,rfl⟩:=hx;have:s.data.toList.getD i 0=b:=by simp[aH,hb]
   rw[this];have:=b.toNat_lt;exact .int .u8 _ (by show(0:Int)≤_;omega) (by show _≤(255:Int);omega)
  ·have hj:j=0:=by
        have:=(dI.1 hu).1;simp[Value.cells] at this;exact this
   subst hj;simp[Value.cells] at hu;subst hu;simp[σ',Ty.size,hi]
 ·simp only[σ'] at hc;split at hc
  ·rename_i ek;exact .inr ⟨by have:=h.below.size;omega,.inr (by omega)⟩
  ·exact .inl hc
 ·obtain⟨g1,g2,g3,g4⟩:=h.owns k j hk;refine⟨g1,by omega,fun i=>?_,g4⟩;have:k≠w.heap.size:=by omega
  simp[σ',this,g3 i]
end
end Cx
namespace Cx
open Go Go.RowKit
def Hh (C:Ctx)(S:St)(gs:List (Nat×Bool))(e:Ty)(z:D)(parts:List (Nat×Operand))(i:Nat):Option PE:=
 match parts.find? (fun p=>Nat.beq p.1 i) with
 |some p=>(use C S gs p.2).bind fun a=>bif Ty.sub a.1 e then some a.2 else Option.none
 |Option.none=>some (PE.con z)
def we (C:Ctx)(S:St)(gs:List (Nat×Bool))(dst:Nat)(T:TypeId)(len:Nat)(parts:List (Nat×Operand)):kS:=
 match C.P.underlying T with
 |some (.slice E)=>
  (pj C.P E).bind fun e=>(pk e).bind fun z=>
    bif qX C.P E e&&Ty.sub z.1 e&&gS (parts.map (·.1))&&parts.all (fun p=>Nat.blt p.1 len)&&Nat.ble (len*e.size) 16777216 then
     ((List.range len).mapM (Hh C S gs e z.2 parts)).map fun es=>(mkObj S dst (.row E e),[.setO dst (.lst es),.setR dst (.con .none)])
    else Option.none
 |_=>Option.none
def zg (C:Ctx)(S:St)(gs:List (Nat×Bool))(dst:Nat)(T:TypeId)(len:Nat)(parts:List (Nat×Operand)):kS:=
 match C.P.underlying T,we C S gs dst T len parts with
 |some (.slice E),some r=>
  (pj C.P E).bind fun e=>
    match r.2 with
    |.setO _ x::_=>some ((S.newO dst .dead).setR dst (match gs with|[]=>.dat (.slice e.rol)|_=>.opt gs (.dat (.slice e.rol))),[.setR dst x])
    |_=>Option.none
 |_,_=>Option.none
def ML (S:St):AgC→Bool
 |.dat _=>true
 |.obj j ver=>Nat.beq ver (S.ver j)&&lz (S.o j)
def uc (C:Ctx)(S:St)(T:TypeId)(x v:Operand):kS:=
 match C.P.info? T with
 |some inf=>
  match fp S [] x with
  |.ptr j ver off=>
   bif Nat.beq ver (S.ver j) then
    match S.o j with
    |.box ag shs=>
     match use C S [] v with
     |some (t,e)=>
      bif Nat.beq inf.size t.size&&(t.rowT||t.one)&&Nat.ble (off+t.size) shs.length then
             some (S.setO j (.box ag (shs.take off++t.flat.map .dat++shs.drop (off+t.size))),[.setO j (.setc (.o j) off e)])
      else Option.none
     |Option.none=>
      match fp S [] v with
      |.obj j' nj=>
       bif Nat.beq nj (S.ver j')&&lz (S.o j')&&Nat.beq inf.size 1&&Nat.blt off shs.length then
              some (S.setO j (.box ag (shs.set off (.obj j' nj))),[.setO j (.setc (.o j) off (.con .none))])
       else Option.none
      |.agg l=>
       bif Nat.beq inf.size l.length&&Nat.ble (off+l.length) shs.length&&l.all (ML S) then
              some (S.setO j (.box ag (shs.take off++l.map AgC.sh++shs.drop (off+l.length))),[.setO j (.setc (.o j) off (qz v))])
       else Option.none
      |_=>Option.none
    |_=>Option.none
   else Option.none
  |.eptr j ver size off=>
   bif Nat.beq ver (S.ver j) then
    match S.o j,use C S [] v with
    |.row _ (.agg ts),some (t,e)=>
     bif Nat.beq inf.size t.size&&(t.rowT||t.one)&&Nat.beq size ts.length&&Nat.ble (off+t.size) ts.length&&Ty.subs t.flat ((ts.drop off).take t.size) then
         some (S,[.setO j (.setn (.o j) (qz x) off e)])
     else Option.none
    |.row _ e0,some (t,e)=>
     bif Nat.beq inf.size 1&&Nat.beq size 1&&Nat.beq off 0&&e0.one&&Ty.sub t e0 then some (S,[.setO j (.setn (.o j) (qz x) 0 e)]) else Option.none
    |_,_=>Option.none
   else Option.none
  |_=>Option.none
 |Option.none=>Option.none
def sw (C:Ctx)(S:St)(T:TypeId)(m k v:Operand):kS:=
 match C.P.underlying T,fp S [] m with
 |some (.map K _),.obj j ver=>
  bif Nat.beq ver (S.ver j) then
   match S.o j,use C S [] k,use C S [] v with
   |.mp kt et,some (tk,ek),some (tv,ev)=>
    bif Ty.beq tk kt&&uO C.P K kt&&Ty.sub tv et then some (S,[.chk (.ci .lss (.mlen (.o j)) (.con (.int nL))),.setO j (.put (.o j) ek ev)]) else Option.none
   |_,_,_=>Option.none
  else Option.none
 |_,_=>Option.none
def IP (x y:PE):PE:=.ci .leq (.llen (.app x y)) (.con (.int nL))
def Kr:Ty→Ty→Bool
 |.slice e',e=>Ty.beq e'.unf e
 |.nils _,_=>true
 |_,_=>false
def BW (C:Ctx)(S:St)(dst:Nat)(T:TypeId)(s x:Operand):kS:=
 match C.P.underlying T with
 |some (.slice E)=>
  (pj C.P E).bind fun e=>
    match view C S [] x with
    |some (tx,ex)=>
     bif qX C.P E e&&Kr tx e then
        match use C S [] s with
        |some (.nils _,_)=>some (mkObj S dst (.row E e),[.chk (IP (.con (.list [])) ex),.setO dst (.app (.con (.list [])) ex),.setR dst (.con .none)])
        |some _=>Option.none
        |Option.none=>
         match fp S [] s with
         |.obj j ver=>
          bif Nat.beq ver (S.ver j) then
             match S.o j with
             |.row E' e'=>
              bif Nat.beq E' E&&Ty.beq e' e then
                some ((S.newO j (.row E e)).setR dst (.obj j (S.ver j+1)),[.chk (IP (.o j) ex),.setO j (.app (.o j) ex),.setR dst (.con .none)])
              else Option.none
             |_=>Option.none
          else Option.none
         |_=>Option.none
     else Option.none
    |Option.none=>Option.none
 |_=>Option.none
theorem Mn {P:Program}{T:TypeId}{e:Ty}(h:qX P T e=true):∃inf z,P.info? T=some inf∧inf.size=e.size∧inf.bytes≤w9∧1≤e.size∧inf.zero=some z∧jW e z=true:=by
 unfold qX at h;split at h
 ·rename_i i hi;simp only[aj] at h;have h4:=h.2;unfold tH at h4;split at h4
  ·rename_i z hz;exact⟨i,z,hi,aw h.1.1.1,km h.1.1.2,km h.1.2,hz,h4⟩
  ·cases h4
 ·cases h
theorem TJ {e:Ty}{z:Value}(h:jW e z=true):z.cells.size=e.size:=by
 cases e with
 |agg ts=>
  cases z with
  |agg vs=>simp only[jW] at h;have:=(TK ts vs.toList h).1;simpa [Value.cells,Ty.size] using this
  |_=>simp[jW] at h
 |_=>cases z<;>simp_all [jW,xS,Value.cells,Ty.size]
theorem aec {ρ:Env}{x y:PE}(h:((PE.ci .lss x y).ev ρ).b=true):(x.ev ρ).i<(y.ev ρ).i:=by
 simpa [PE.ev,D.b_bool,jD] using h
theorem U6 {ρ:Env}{x y:PE}(h:((PE.ci .leq x y).ev ρ).b=true):(x.ev ρ).i≤(y.ev ρ).i:=by
 simpa [PE.ev,D.b_bool,jD] using h
theorem akT {n:Nat}(h:(n:Int)<nL):n<4294967296:=by unfold nL at h;omega
theorem Yc {n:Nat}(h:(n:Int)≤nL):n≤4294967296:=by unfold nL at h;omega
theorem St.setO_self {S:St}{j:Nat}{ob:Ob}(h:S.o j=ob):S.setO j ob=S:=by
 have:bV S.o j ob=S.o:=by
  funext i;rw[fK];split
  ·rename_i e;subst e;exact h.symm
  ·rfl
 cases S;simp only[St.setO] at this ⊢;rw[this]
section
variable {C:Ctx} {S:St} {ρ:Env} {σ:Im} {own:Nat→Option Nat} {hv:Nat→Value} {w0:World} {σ0:Base} {A:Nat→Prop} {a:Act} {w:World} {gs:List (Nat×Bool)} {Φ:aV} {dst:Nat}
theorem Inv.updO (h:Inv C S ρ σ own hv w0 σ0 A a w)(j:Nat)(ob:Ob)(d:D)(v:Value)(nb:Nat→Bool){w':World}(hw:Below w0.heap.size w w')
 (sK:∀k,k<w.heap.size→own k≠some j→w'.heap[k]?=w.heap[k]?) (dN:∀k,nb k=true→(own k=some j∨w.heap.size≤k)∧k<w'.heap.size)
 (cU:cC C (S.newO j ob) (ρ.setO j d) σ (fV own j nb) (bV hv j v) w' w0.heap.size j ob) (nD:ob≠.tr:=by intro h;cases h):Inv C (S.newO j ob) (ρ.setO j d) σ (fV own j nb) (bV hv j v) w0 σ0 A a w':=by
 have aC:w0.heap.size≤w.heap.size:=h.below.size;have aZ:∀k i,i≠j→own k=some i→fV own j nb k=some i:=by
  intro k i hi hk;have h1:=h.owns k i hk;have h2:nb k=false:=by
   cases hn:nb k with
   |false=>rfl
   |true=>
    rcases(dN k hn).1 with e|e
    ·rw[hk] at e;simp at e;exact absurd e hi
    ·omega
  simp[fV,h2,hk,hi]
 have az:σ.ok w':=by
  refine⟨fun k o u hc=>?_,fun k es hc=>?_⟩
  ·have ay:own k≠some j:=fun e=>by rw[(h.owns k j e).2.2.1 o] at hc;cases hc
   rw[World.cell?_of_block (sK k (h.lt hc) ay)];exact h.ok.c k o u hc
  ·have ay:own k≠some j:=fun e=>by rw[(h.owns k j e).2.2.2] at hc;cases hc
   exact(h.ok.m k es hc).keep (sK k (h.ltm hc) ay)
 refine h.step (fun i=>i=j) rfl (.refl σ) az (fun _ _ _ hx=>.inl hx) (fun _ _ hx=>.inl hx) hw ⟨fun i=>?_,fun i e=>?_⟩ (fun i hi=>⟨?_,?_,?_,fun k hk=>⟨aZ k i hi hk,?_⟩⟩) (fun i hi=>?_) (fun k i hk=>?_) (fun _=>id) (fun t=>.inl ⟨rfl,rfl,rfl⟩) (fun _ _=>rfl) (fun k hk e=>sK k hk (by rw[e];simp)) (fun k i hk=>by
  unfold fV at hk;split at hk
  ·rename_i hn;rcases(dN k hn).1 with e|e
   ·exact .inl ⟨j,e⟩
   ·exact .inr e
  ·split at hk
   ·cases hk
   ·exact .inl ⟨i,hk⟩) (fun i hi=>by subst hi;simpa only[St.newO,aK] using nD)
 ·simp only[St.newO,fK];split<;>rename_i e
  ·subst e;omega
  ·omega
 ·simp only[St.newO,fK] at e;split at e
  ·rename_i e';subst e';omega
  ·rename_i ay;exact bk _ _ ay
 ·simp[St.newO,bk _ _ hi]
 ·simp[Env.setO,bk _ _ hi]
 ·exact bk _ _ hi
 ·exact sK k (h.owns k i hk).2.1 (by rw[hk];simpa using hi)
 ·subst hi;simp only[St.newO,aK];exact cU
 ·unfold fV at hk;split at hk
  ·rename_i hn;obtain⟨g1,g2⟩:=dN k hn;rcases g1 with e|e
   ·obtain⟨f1,f2,f3,f4⟩:=h.owns k j e;exact⟨f1,g2,f3,f4⟩
   ·refine⟨by omega,g2,fun o=>?_,?_⟩
    ·cases hc:σ.c k o with
     |none=>rfl
     |some u=>have:=h.lt hc;omega
    ·cases hc:σ.m k with
     |none=>rfl
     |some u=>have:=h.ltm hc;omega
  ·split at hk
   ·cases hk
   ·obtain⟨g1,g2,g3,g4⟩:=h.owns k i hk;exact⟨g1,by have:=hw.size;omega,g3,g4⟩
theorem Inv.updB (h:Inv C S ρ σ own hv w0 σ0 A a w)(j:Nat)(ob:Ob)(d:D){w':World}(hw:Below w0.heap.size w w')
 (sK:∀k,k<w.heap.size→own k≠some j→w'.heap[k]?=w.heap[k]?)
 (cU:cC C (S.setO j ob) (ρ.setO j d) σ own hv w' w0.heap.size j ob) (nD:ob≠.tr:=by intro h;cases h):Inv C (S.setO j ob) (ρ.setO j d) σ own hv w0 σ0 A a w':=by
 have az:σ.ok w':=by
  refine⟨fun k o u hc=>?_,fun k es hc=>?_⟩
  ·have ay:own k≠some j:=fun e=>by rw[(h.owns k j e).2.2.1 o] at hc;cases hc
   rw[World.cell?_of_block (sK k (h.lt hc) ay)];exact h.ok.c k o u hc
  ·have ay:own k≠some j:=fun e=>by rw[(h.owns k j e).2.2.2] at hc;cases hc
   exact(h.ok.m k es hc).keep (sK k (h.ltm hc) ay)
 refine h.step (fun i=>i=j) rfl (.refl σ) az (fun _ _ _ hx=>.inl hx) (fun _ _ hx=>.inl hx) hw (Compat.setO _ _ _ _) (fun i hi=>⟨by simp[St.setO,bk _ _ hi],by simp[Env.setO,bk _ _ hi],rfl,fun k hk=>⟨hk,sK k (h.owns k i hk).2.1 (by rw[hk];simpa using hi)⟩⟩) (fun i hi=>?_) (fun k i hk=>?_) (fun _=>id) (fun t=>.inl ⟨rfl,rfl,rfl⟩) (fun _ _=>rfl) (fun k hk e=>sK k hk (by rw[e];simp)) (fun k i hk=>.inl ⟨i,hk⟩) (fun i hi=>by subst hi;rw[St.setO_o];exact nD)
 ·subst hi;rw[St.setO_o];exact cU
 ·obtain⟨g1,g2,g3,g4⟩:=h.owns k i hk;exact⟨g1,by have:=hw.size;omega,g3,g4⟩
theorem V1 {B:Nat}{w w':World}{row:Option Nat}(hg:w.grownBy w' row)(hB:B≤w.heap.size)(hr:∀k,row=some k→B≤k):Below B w w':=(Below.refl B w).grown hg hB hr
theorem Yw {z:Array Value}{n i q:Nat}(hz:0<z.size)(hi:i<n)(hq:q<z.size):(madeCells z (n*z.size))[i*z.size+q]?=z[q]?:=by
 have ae:i*z.size+q<n*z.size:=by
  have:(i+1)*z.size≤n*z.size:=nq _ hi;rw[pw] at this;omega
 have hm:(i*z.size+q)%z.size=q:=by rw[Bi,acX,Nat.mod_eq_of_lt hq]
 simp[madeCells,Array.getElem?_range,ae,hm,hq]
theorem afw (h:Inv C S ρ σ own hv w0 σ0 A a w)(hC:CtxOK C σ0)(ht:¬A dst)(ae:dst<a.tmps.size){T:TypeId}{l c:Operand}{r:St×List PI}(hr:B4 C S dst T l c=some r){o:Oper}(hd:o.dst=some dst)(ho:o.op=.makeSlice T l c):bW C w0 σ0 Φ S ρ A a w o r:=by
 unfold B4 at hr;split at hr
 case h_2=>cases hr
 rename_i E k1 n k2 m hT hl hc;simp only[ao] at hr;obtain⟨e,he,hr⟩:=hr;cases hf:qX C.P E e<;>simp only[hf,cond_true,cond_false] at hr
 ·cases hr
 obtain⟨inf,z0,hi,hs,hb,h1,hz,mQ⟩:=Mn hf;simp only[ao] at hr;obtain⟨z,hzt,hr⟩:=hr;cases bG:Ty.sub z.1 e<;>simp only[bG,cond_true,cond_false] at hr
 ·cases hr
 cases hr;obtain⟨n1,aQ,bh,b1,b2⟩:=(cB h hC rfl hl).int_inv;obtain⟨n2,iS,dM,b3,b4⟩:=(cB h hC rfl hc).int_inv;simp only at bh dM;have DF:=((xT (cap:=C.cap) (σ:=σ) hzt mQ).1).sub bG;refine bW.value hd fun ρ' af=>?_;simp only[PI.runs,PI.run,ao] at af;obtain⟨ρ1,g1,ρ2,g2,af⟩:=af;cases c1:((OQ n).ev ρ).b<;>simp only[c1,cond_true,cond_false] at g1
 ·cases g1
 cases g1;cases c2:((PE.ci BinOp.eql n m).ev ρ).b<;>simp only[c2,cond_true,cond_false] at g2
 ·cases g2
 cases g2;have ajn:n1=n2:=by simpa [PE.ev,bh,dM,D.i_int,D.b_bool,jD] using c2
 subst ajn;have hb:0≤n1∧n1≤nL:=by simpa [OQ,PE.ev,bh,D.i_int,D.b_bool,jD,D.int] using c1
 obtain⟨nn,rfl⟩:=tN hb.1;have C6:nn≤4294967296:=by have:=hb.2;unfold nL at this;omega
 have sX:z0.cells.size=e.size:=TJ mQ;obtain⟨w',r1,r2,r3⟩:=run_make_full (P:=C.P) w w0.heap.size T E inf z0 e.size hT hi hz hs k1 k2 nn (by
  have:inf.bytes*nn≤w9*4294967296:=Nat.mul_le_mul (by assumption) C6;unfold w9 at this;omega) (by unfold maxLen;omega) h.below.size
 refine⟨.slice (some ⟨w.heap.size,0,none⟩) nn nn,w',by simp[execOp,ho,aQ,iS,r1],?_⟩;obtain⟨ρ3,g3,ρ4,g4,g5⟩:=af;cases g3;cases g4;cases g5;simp only[PE.ev,bh,D.i_int,vL];have hlen:(List.replicate nn z.2).length=nn:=by simp
 refine h.mkObj ht ae (.row E e) _ _ (fun k=>Nat.beq k w.heap.size) (V1 r3 (aX _) (by simp)) (fun k hk=>?_) ⟨_,List.replicate nn z.2,by simp[Env.setO,aK],by rw[aK,hlen];exact r2,⟨fun _=>z0,fun i x hx=>?_,fun i j u hi hj=>?_⟩,fun k hk=>?_⟩
 ·have cj:k=w.heap.size:=aw hk;have:=(r2.lt _ rfl).2;subst cj;exact⟨aX _,this⟩
 ·have:=(eE.1 hx)
  obtain⟨q1,q2⟩:=this;simp at q2;subst q2;exact DF
 ·rw[hlen] at hi;have bA:j<z0.cells.size:=(dI.1 hj).1;rw[xU,←sX];rw[Yw (by omega) hi bA];exact hj
 ·rw[aK] at hk;simp[Value.ownBlock] at hk;simp[fV,hk]
theorem nm.push {arr:Array MapEntry}{clock:Nat}(h:nm arr clock)(k v:Value):nm (arr.push {key:=k,val:=v,born:=clock}) (clock+1):=by
 have key:∀(i:Nat) (e:MapEntry),(arr.push {key:=k,val:=v,born:=clock})[i]?=some e→(arr[i]?=some e∧e.born<clock)∨(i=arr.size∧e.born=clock):=by
  intro i e he;rw[Array.getElem?_push] at he;split at he
  ·rename_i hi;cases he;exact .inr ⟨hi,rfl⟩
  ·exact .inl ⟨he,h.1 i e he⟩
 refine⟨fun i e he=>?_,fun i j e f he hf hb=>?_⟩
 ·rcases key i e he with⟨_,h1⟩|⟨_,h1⟩<;>omega
 ·rcases key i e he with⟨h1,h2⟩|⟨h1,h2⟩<;>rcases key j f hf with⟨h3,h4⟩|⟨h3,h4⟩
  ·exact h.2 i j e f h1 h3 hb
  ·omega
  ·omega
  ·omega
theorem nm.modify {arr:Array MapEntry}{clock:Nat}(h:nm arr clock)(i0:Nat)(k v:Value):nm (arr.modify i0 fun e=>{e with key:=k,val:=v}) clock:=by
 have key:∀(i:Nat) (e:MapEntry),(arr.modify i0 fun e=>{e with key:=k,val:=v})[i]?=some e→∃e',arr[i]?=some e'∧e'.born=e.born:=by
  intro i e he;rw[dy] at he;split at he
  ·simp only[ax] at he;obtain⟨e',h1,rfl⟩:=he;exact⟨e',h1,rfl⟩
  ·exact⟨e,he,rfl⟩
 refine⟨fun i e he=>?_,fun i j e f he hf hb=>?_⟩
 ·obtain⟨e',h1,h2⟩:=key i e he;rw[←h2];exact h.1 i e' h1
 ·obtain⟨e',h1,h2⟩:=key i e he;obtain⟨f',h3,h4⟩:=key j f hf;exact h.2 i j e' f' h1 h3 (by rw[h2,h4,hb])
theorem Vp (h:Inv C S ρ σ own hv w0 σ0 A a w)(hC:CtxOK C σ0){T:TypeId}{m k v:Operand}{r:St×List PI}(hr:sw C S T m k v=some r){o:Oper}(hd:o.dst=none)(ho:o.op=.mapUpdate T m k v∨o.op=.insert T m k v):bW C w0 σ0 Φ S ρ A a w o r:=by
 unfold sw at hr;split at hr
 case h_2=>cases hr
 rename_i K E j ver hT es;obtain⟨er,_⟩:=rL h (gs:=[]) rfl m;rw[es] at er;cases hb:Nat.beq ver (S.ver j)<;>simp only[hb,cond_true,cond_false] at hr
 ·cases hr
 have cl:=er.2 (aw hb);have aY:=h.objs j;split at hr
 case h_2=>cases hr
 rename_i kt et tk ek tv ev eo hk wX;rw[eo] at aY;cases hc:(Ty.beq tk kt&&uO C.P K kt&&Ty.sub tv et)<;>simp only[hc,cond_true,cond_false] at hr
 ·cases hr
 cases hr;simp only[aj] at hc;obtain⟨⟨Ib,CY⟩,bG⟩:=hc;obtain⟨g,arr,clock,ds,h1,h2,h3,h4,h5,⟨h6,q8⟩,h7⟩:=aY;have cj:=cB h hC rfl hk;rw[Ty.beq_eq _ _ Ib] at cj;have hv':=(cB h hC rfl wX).sub bG;refine bW.skip hd fun ρ' af=>?_;simp only[PI.runs,PI.run,ao] at af;obtain⟨ρ1,g1,ρ2,g2,g3⟩:=af;cases c1:((PE.ci BinOp.lss (.mlen (.o j)) (.con (.int nL))).ev ρ).b<;>simp only[c1,cond_true,cond_false] at g1
 ·cases g1
 cases g1;cases g2;cases g3;have ajb:ds.length<4294967296:=by
  have h8:=aec c1;simp only[PE.ev,h4,D.m,D.i_int,D.int] at h8;exact akT h8
 have oz:(Instr.checkKey false 10000 K (a.eval k)).run C.P w=.ok () w:=U5 (cap:=C.cap) (σ:=σ) CY cj;have eZ:∃tY y6 ds',(Instr.mapUpdate T (a.eval m) (a.eval k) (a.eval v)).run C.P w=.ok () {w with heap:=w.heap.setIfInBounds g (.map tY y6)}∧lG (ek.ev ρ) (ev.ev ρ) ds=ds'∧ds'.length=tY.size∧(ds'.length≤maxLen∧nm tY y6)∧
  ∀(i:Nat) (e:MapEntry) (p:D×D),tY[i]?=some e→ds'[i]?=some p→Rep C.cap σ kt e.key p.1∧Rep C.cap σ et e.val p.2:=by
  rcases run_findKey CY cj arr ds h5 h7 w with⟨f1,f2,f3⟩|⟨i,e,p,f1,f2,f3,f4,f5,f6⟩
  ·refine⟨arr.push {key:=a.eval k,val:=a.eval v,born:=clock},clock+1,ds++[(ek.ev ρ,ev.ev ρ)],?_,f3 _,by simp[h5],⟨by simp;unfold maxLen;omega,q8.push _ _⟩,fun q e p he hp=>?_⟩
   ·rw[cl,h1];simp[Instr.mapUpdate,run_underlying hT,getObj,Sem.run,h3,oz,f1,setObj]
   ·rw[Array.getElem?_push] at he;rw[mw] at hp;by_cases hq:q=arr.size
    ·subst hq;simp at he;rw[if_neg (by omega)] at hp;simp[h5] at hp;subst he;subst hp;exact⟨cj,hv'⟩
    ·rw[if_neg hq] at he;have Iv:q<arr.size:=(dI.1 he).1;rw[if_pos (by omega)] at hp;exact h7 q e p he hp
  ·refine⟨arr.modify i fun e=>{e with key:=a.eval k,val:=a.eval v},clock,ds.set i (ek.ev ρ,ev.ev ρ),?_,f5 _,by simp[h5],⟨by simp;exact h6,q8.modify _ _ _⟩,fun q e' p' he hp=>?_⟩
   ·rw[cl,h1];have bZ:(Instr.keyThatStays e.key (a.eval k)).run C.P w=.ok (a.eval k) w:=by simp[Instr.keyThatStays,f6]
    simp[Instr.mapUpdate,run_underlying hT,getObj,Sem.run,h3,oz,f3,f1,bZ,setObj]
   ·rw[dy] at he;rw[tO] at hp;by_cases hq:i=q
    ·subst hq;simp only[if_true] at he hp;rw[f1] at he;simp at he;split at hp
     ·cases hp;subst he;exact⟨cj,hv'⟩
     ·cases hp
    ·rw[if_neg hq] at he hp;exact h7 q e' p' he hp
 obtain⟨tY,y6,ds',r1,r2,r3,r4,r5⟩:=eZ;refine⟨{w with heap:=w.heap.setIfInBounds g (.map tY y6)},by rcases ho with ho|ho<;>simp[execOp,ho,r1],?_⟩;have hgl:g<w.heap.size:=(dI.1 h3).1;have WN:w0.heap.size≤g:=(h.owns g j h2).1;have bI:(PE.put (.o j) ek ev).ev ρ=.map ds':=by simp only[PE.ev,h4,D.m,r2]
 rw[bI]
 have:=h.updB j (.mp kt et) (.map ds') (w':={w with heap:=w.heap.setIfInBounds g (.map tY y6)}) ⟨rfl,rfl,rfl,by simp,fun k hk=>by simp;rw[TN (by omega)]⟩
  (fun k hk ay=>by simp;rw[TN (fun e=>ay (by rw[←e];exact h2))])
  ⟨g,tY,y6,ds',h1,h2,by simp[hgl],by simp[Env.setO,aK],r3,r4,r5⟩
 have eS:S.setO j (.mp kt et)=S:=St.setO_self eo;rw[eS] at this;exact⟨_,_,_,this⟩
end
end Cx
namespace Cx
open Go Go.RowKit
theorem arO {e:Ty}{z:Value}(h:jW e z=true):e.rowT=true∨e.one=true:=by
 cases e<;>first|exact .inl rfl|exact .inr rfl|(cases z<;>simp[jW,xS] at h)
theorem Rep.cellsOne {cap:Nat→Option CSig}{σ:Im}{t:Ty}{v:Value}{d:D}(h:Rep cap σ t v d)(ht:t.rowT=true∨t.one=true){m:Nat}{u:Value}(hu:v.cells[m]?=some u):u.oneCell'=true:=by
 obtain⟨f1,f2,f3⟩:=h.flat ht;have ae:m<v.cells.size:=(dI.1 hu).1;rw[h.size] at ae;obtain⟨g1,g2⟩:=f3 m _ (bu (by omega:m<t.flat.length));have:=(g2.oneCell g1).2;rw[eK,hu] at this;exact this
theorem afR {cap:Nat→Option CSig}{σ:Im}{e:Ty}{cells:List Value}{xs:List D}(h:eR cap σ e cells xs)(hl:cells.length=xs.length*e.size)(iQ:e.rowT=true∨e.one=true):∀u∈cells,u.oneCell'=true:=by
 obtain⟨vs,h1,h2⟩:=h;intro u hu;obtain⟨p,hp,rfl⟩:=gZ hu;rw[hl] at hp;have hs:0<e.size:=Nat.pos_of_ne_zero fun e0=>by rw[e0] at hp;simp at hp
 have hi:p/e.size<xs.length:=(Nat.div_lt_iff_lt_mul hs).2 hp;have hq:p%e.size<e.size:=K6 _ hs;have bN:=h1 _ _ (bu hi);have aC:=bN.size;have eW:(vs (p/e.size)).cells[p%e.size]?=some (vs (p/e.size)).cells[p%e.size]:=eC (by omega);have:=h2 _ _ _ hi eW;rw[K7,Nat.div_add_mod] at this;have h3:cells[p]=(vs (p/e.size)).cells[p%e.size]:=by
  have h4:=bu (show p<cells.length by omega);rw[h4] at this;exact tU this
 rw[h3];exact bN.cellsOne iQ eW
theorem afQ {cap:Nat→Option CSig}{σ:Im}{e:Ty}{c1 c2:List Value}{xs ys:List D}(h:eR cap σ e c1 xs)(k:eR cap σ e c2 ys)(hl:c1.length=xs.length*e.size):eR cap σ e (c1++c2) (xs++ys):=by
 obtain⟨vs,h1,h2⟩:=h;obtain⟨us,k1,k2⟩:=k;refine⟨fun i=>if i<xs.length then vs i else us (i-xs.length),fun i x hx=>?_,fun i j u hi hj=>?_⟩
 ·rw[mw] at hx;split at hx
  ·rename_i ae;simp only[ae,if_true];exact h1 i x hx
  ·rename_i ae;simp only[ae,if_false];exact k1 _ x hx
 ·by_cases ae:i<xs.length
  ·simp only[ae,if_true] at hj;have:=h2 i j u ae hj;rw[kT (eE.1 this).1];exact this
  ·simp only[ae,if_false] at hj;have cw:i-xs.length<ys.length:=by simp at hi;omega
   have:=k2 _ j u cw hj;have e1:i*e.size=c1.length+(i-xs.length)*e.size:=by rw[hl,←pw];congr 1;omega
   rw[jx (by omega)];rw[show i*e.size+j-c1.length=(i-xs.length)*e.size+j by omega];exact this
section
variable {C:Ctx} {S:St} {ρ:Env} {σ:Im} {own:Nat→Option Nat} {hv:Nat→Value} {w0:World} {σ0:Base} {A:Nat→Prop} {a:Act} {w:World} {gs:List (Nat×Bool)} {Φ:aV} {dst:Nat}
theorem arw (h:Inv C S ρ σ own hv w0 σ0 A a w){B:Nat}{e f:Ty}{v:Value}{d:D}(hs:0<e.size)(iQ:e.rowT=true∨e.one=true)(hf:f.unf=e)(Oq:Ld C σ w B (.slice f) v d):
 ∃ys,d=.list ys∧ys.length≤maxLen∧((v=.slice none 0 0∧ys=[])∨∃(ad:Addr) (c:Nat) (news:List Value),v=.slice (some ad) ys.length c∧news.length=ys.length*e.size∧
  (∀j u,news[j]?=some u→w.cell? (ad.add j)=some u)∧eR C.cap σ e news ys):=by
 rcases Oq with hr|⟨T,e',cells,xs,ht,hd,aZ,jj⟩|⟨k,arr,clock,es,kt,et,ht,_⟩
 ·obtain⟨xs,hd,q9⟩:=hr.slice_inv;rw[←f.unf_size,hf] at q9;rcases q9 with⟨⟨p0,aQ⟩,rfl⟩|⟨k,o,c,aQ,h1,h2,vs,h3,h4⟩
  ·cases p0 with
   |none=>exact⟨[],hd,by simp,.inl ⟨aQ,rfl⟩⟩
   |some a0=>exact⟨[],hd,by simp,.inr ⟨a0,0,[],aQ,by simp,fun j u hu=>by simp at hu,fun _=>undef,fun i x hx=>by simp at hx,fun i j u hi=>by simp at hi⟩⟩
  ·refine⟨xs,hd,by omega,.inr ⟨⟨k,o,none⟩,c,(List.range (xs.length*e.size)).map fun p=>(vs (p/e.size)).cells.getD (p%e.size) undef,aQ,by simp,fun j u hu=>?_,vs,h3,fun i j u hi hj=>?_⟩⟩
   ·simp only[cK,ax] at hu;obtain⟨p,hp,rfl⟩:=hu;have fD:j<xs.length*e.size:=by have:=(eE.1 hp).1;simpa using this
    rw[qK fD] at hp;cases hp;have hi:j/e.size<xs.length:=(Nat.div_lt_iff_lt_mul hs).2 fD;have hq:j%e.size<e.size:=K6 _ hs;have bN:=h3 _ _ (bu hi);have aC:=bN.size;have eW:(vs (j/e.size)).cells[j%e.size]?=some ((vs (j/e.size)).cells.getD (j%e.size) undef):=by
     rw[eK,eC (by omega)];rfl
    have:=h.cell (h4 _ _ _ hi eW);rw[sn]
    rwa [show o+j/e.size*e.size+j%e.size=o+j by rw[tS,K7,Nat.div_add_mod]] at this
   ·have bN:=h3 _ _ (bu hi);have bA:j<e.size:=by rw[←bN.size];exact(dI.1 hj).1
    have ae:i*e.size+j<xs.length*e.size:=by
     have:(i+1)*e.size≤xs.length*e.size:=nq _ hi;rw[pw] at this;omega
    have e1:(i*e.size+j)/e.size=i:=by rw[K7,Nat.mul_add_div hs,Nat.div_eq_of_lt bA];omega
    have e2:(i*e.size+j)%e.size=j:=by rw[Bi,acX,Nat.mod_eq_of_lt bA]
    simp only[cK,qK ae,kU,e1,e2];rw[eK,hj];rfl
 ·cases ht;rw[Ty.unf_rol] at hf;obtain⟨b,c,aQ,hm,_⟩:=xu aZ;have jj:eR C.cap σ e cells xs:=by
   obtain⟨us,u1,u2⟩:=jj;refine⟨us,fun i x hx=>hf▸(u1 i x hx).unf,fun i j u hi hu=>?_⟩;rw[←hf,Ty.unf_size];exact u2 i j u hi hu
  have aZ:w.ownsRow B T e.size v xs.length cells:=by rw[←hf,Ty.unf_size];exact aZ
  rcases aZ.2 with⟨e1,e2⟩|⟨g,cap,cur,e1,e2⟩
  ·have:xs=[]:=KR e2;subst this;exact⟨[],hd,by simp,.inl ⟨e1,rfl⟩⟩
  ·exact⟨xs,hd,hm,.inr ⟨⟨g,0,none⟩,cap,cells,e1,aZ.1,aZ.cells (by rw[e1];rfl),jj⟩⟩
 ·cases ht
theorem aoH {P:Program}{B:Nat}{T E ty:TypeId}{inf:TypeInfo}{z:Value}{size:Nat}{v x:Value}{n m:Nat}{xs news:List Value}(hT:P.underlying T=some (.slice E))(hi:P.info? E=some inf)(hz:inf.zero=some z)
 (hs:inf.size=size) (sX:z.cells.size=size) (aC:0<size) (pQ:inf.bytes≤w9) (aZ:w.ownsRow B E size v n xs) (hB:B≤w.heap.size) (dq:n+m≤4294967296)
 (hx:(x=.slice none 0 0∧m=0∧news=[])∨∃(ad:Addr) (c:Nat),x=.slice (some ad) m c∧news.length=m*size∧(∀j u,news[j]?=some u→w.cell? (ad.add j)=some u)∧∀u∈news,u.oneCell'=true):
 ∃v' w',(Builtin.append_ #[T,T] ty #[v,x]).run P w=.ok v' w'∧w'.ownsRow B E size v' (n+m) (xs++news)∧w.grownBy w' v.ownBlock∧∀k,v'.ownBlock=some k→v.ownBlock=some k∨(w.heap.size≤k∧k<w'.heap.size):=by
 rcases hx with⟨rfl,rfl,rfl⟩|⟨ad,c,rfl,hl,Io,h1⟩
 ·refine⟨v,w,run_append_owned_none w B T ty E inf size hT hi v n xs aZ,by simpa using aZ,⟨rfl,rfl,rfl,aX _,fun _ _ _=>rfl⟩,fun k hk=>.inl hk⟩
 ·have M8:(n+m)*inf.bytes≤140737488355328:=by
   have:(n+m)*inf.bytes≤4294967296*w9:=Nat.mul_le_mul dq pQ;unfold w9 at this;omega
  obtain⟨v',w',r1,r2,r3,r4⟩:=run_append_own (P:=P) w B T ty E inf z size inf.bytes hT hi hz hs rfl sX aC v n xs aZ ad m c news hl Io h1 (by unfold maxLen;omega) M8 hB;refine⟨v',w',r1,r2,r3,fun k hk=>?_⟩;have ae:=(r2.lt k hk).2;subst hs;rcases aZ.2 with⟨rfl,rfl⟩|⟨g,cap,cur,rfl,hbg,hg,dp,zA,dL,Xz⟩
  ·by_cases hm:m=0
   ·subst hm;have:=r4.2 ⟨rfl,rfl⟩;subst this;simp[Value.ownBlock] at hk
   ·have hr:=run_append_nil (P:=P) w T ty E inf z hT hi hz ad m c news hl Io (by omega) (by omega) (by have hb:=M8;simp only[fq] at hb;omega);rw[hr] at r1;cases r1;simp[Value.ownBlock] at hk;subst hk;exact .inr ⟨aX _,ae⟩
  ·by_cases Dn:n+m≤cap
   ·have zD:n*inf.size+news.length≤cur.size:=by rw[hl,dL,←pw];exact nq _ Dn
    have hr:=run_append_room (P:=P) w T ty E inf hT hi g n cap cur hg ad m c news hl Io h1 Dn zD;rw[hr] at r1;cases r1;exact .inl hk
   ·have hr:=run_append_grow (P:=P) w T ty E inf z hT hi hz ⟨g,0,none⟩ n cap xs aZ.1 (aZ.cells (g:=g) rfl) ad m c news hl Io (by omega) (by omega) (growslice_fits (by omega) M8);rw[hr] at r1;cases r1;simp[Value.ownBlock] at hk;subst hk;exact .inr ⟨aX _,ae⟩
theorem ae7 (h:Inv C S ρ σ own hv w0 σ0 A a w)(hC:CtxOK C σ0)(ht:¬A dst)(ae:dst<a.tmps.size){T:TypeId}{s x:Operand}{r:St×List PI}(hr:BW C S dst T s x=some r){o:Oper}(hd:o.dst=some dst)
 (ho:o.op=.call {callee:=.builtin .append,args:=#[s,x],argTypes:=#[T,T]}):bW C w0 σ0 Φ S ρ A a w o r:=by
 unfold BW at hr;split at hr
 case h_2=>cases hr
 rename_i E hT;simp only[ao] at hr;obtain⟨e,he,hr⟩:=hr;split at hr
 case h_2=>cases hr
 rename_i tx ex Oq;have hv':=TE h hC (gs:=[]) rfl Oq;obtain⟨cs,af⟩:=Ri (C:=C) (w:=w) (a:=a) ho;cases hc:(qX C.P E e&&Kr tx e)<;>simp only[hc,cond_true,cond_false] at hr
 ·cases hr
 simp only[aj] at hc;obtain⟨inf,z,hi,hs,pQ,h1,hz,mQ⟩:=Mn hc.1;have sX:=TJ mQ;have iQ:=arO mQ;have uJ:∃f:Ty,f.unf=e∧Ld C σ w w0.heap.size (.slice f) (a.eval x) (ex.ev ρ):=by
  have bZ:=hc.2;unfold Kr at bZ;split at bZ
  ·exact⟨_,Ty.beq_eq _ _ bZ,hv'⟩
  ·refine⟨e,Ty.unf_ro iQ,?_⟩;rcases hv' with hr|⟨_,_,_,_,ht,_⟩|⟨_,_,_,_,_,_,ht,_⟩
   ·exact .inl (hr.sub (by simp[Ty.sub]))
   ·cases ht
   ·cases ht
  ·cases bZ
 obtain⟨fv,fi,uJ⟩:=uJ;obtain⟨ys,HZ,mP,Dt⟩:=arw h h1 iQ fi uJ;have hx:∃news,eR C.cap σ e news ys∧news.length=ys.length*e.size∧((a.eval x=.slice none 0 0∧ys.length=0∧news=[])∨∃(ad:Addr) (c:Nat),a.eval x=.slice (some ad) ys.length c∧news.length=ys.length*e.size∧(∀j u,news[j]?=some u→w.cell? (ad.add j)=some u)∧∀u∈news,u.oneCell'=true):=by
  rcases Dt with⟨e1,rfl⟩|⟨ad,c,news,e1,e2,e3,e4⟩
  ·exact⟨[],⟨fun _=>undef,by simp,by simp⟩,by simp,.inl ⟨e1,rfl,rfl⟩⟩
  ·exact⟨news,e4,e2,.inr ⟨ad,c,e1,e2,e3,afR e4 e2 iQ⟩⟩
 obtain⟨news,ay,Xg,hx⟩:=hx;have main:∀(j:Nat) (v:Value) (xs:List D) (cells:List Value),a.eval s=v→w.ownsRow w0.heap.size E e.size v xs.length cells→eR C.cap σ e cells xs→xs.length+ys.length≤4294967296→
  (∀k,v.ownBlock=some k→own k=some j)→
  ∃v' w',(execOp a.eval o).run C.P w=.ok (.value v') w'∧Good C w0 σ0 ((S.newO j (.row E e)).setR dst (.obj j (S.ver j+1))) ((ρ.setO j (.list (xs++ys))).setR dst .none) (fun u=>A u∨u=dst) (a.put (some dst) v') w':=by
  intro j v xs cells Od aZ jj hlen cU;obtain⟨v',w',r1,r2,r3,r4⟩:=aoH (P:=C.P) (ty:=o.type) hT hi hz hs sX h1 pQ aZ h.below.size hlen hx;refine⟨v',w',by rw[af];simp[builtin,Od,r1],?_⟩
  have Om:=h.updO j (.row E e) (.list (xs++ys)) v' (fun k=>decide (v'.ownBlock=some k)) (w':=w') (V1 r3 h.below.size (fun k hk=>(h.owns k j (cU k hk)).1)) (fun k hk ay=>r3.block k hk (fun e=>ay (cU k e.symm))) (fun k hk=>by
        have cj:v'.ownBlock=some k:=by simpa using hk
        rcases r4 k cj with e|e
        ·exact⟨.inl (cU k e),(r2.lt k cj).2⟩
        ·exact⟨.inr e.1,e.2⟩)
   ⟨cells++news,xs++ys,by simp[Env.setO,aK],by rw[aK,jy];exact r2,afQ jj ay aZ.1,fun k hk=>by rw[aK] at hk;simp[fV,hk]⟩
  have h2:=Om.setObj ht (j:=j) (v:=v') (aK _ _ _) ae;have e:(S.newO j (.row E e)).ver j=S.ver j+1:=aK _ _ _;rw[e] at h2;exact⟨_,_,_,h2⟩
 split at hr
 ·rename_i e0 pe0 hu;cases hr;refine bW.value hd fun ρ' oH=>?_;have Oe:=cB h hC rfl hu;have Od:a.eval s=.slice none 0 0:=by
   generalize a.eval s=v at Oe;generalize pe0.ev ρ=d at Oe;cases Oe;rfl
  simp only[PI.runs,PI.run,ao] at oH;obtain⟨ρ1,g1,ρ2,g2,ρ3,g3,g4⟩:=oH;cases c1:((IP (.con (.list [])) ex).ev ρ).b<;>simp only[c1,cond_true,cond_false] at g1
  ·cases g1
  cases g1;cases g2;cases g3;cases g4;have hlen:=U6 c1;simp only[PE.ev,D.l_list,HZ,sd,D.i_int,D.int] at hlen;have:=main dst (.slice none 0 0) [] [] Od (World.ownsRow_nil _ _ _ _) ⟨fun _=>undef,by simp,by simp⟩ (by simpa using Yc hlen) (by simp[Value.ownBlock]);simpa [PE.ev,D.l_list,HZ,mkObj] using this
 ·cases hr
 ·obtain⟨er,_⟩:=rL h (gs:=[]) rfl s;split at hr
  case h_2=>cases hr
  rename_i j ver es;rw[es] at er;cases hb:Nat.beq ver (S.ver j)<;>simp only[hb,cond_true,cond_false] at hr
  ·cases hr
  have cl:=er.2 (aw hb);have aY:=h.objs j;split at hr
  case h_2=>cases hr
  rename_i E' e' eo;rw[eo] at aY;cases ib:(Nat.beq E' E&&Ty.beq e' e)<;>simp only[ib,cond_true,cond_false] at hr
  ·cases hr
  cases hr;simp only[aj] at ib;have e1:=aw ib.1;have e2:=Ty.beq_eq _ _ ib.2;subst e1;subst e2;obtain⟨cells,xs,k1,k2,k3,k4⟩:=aY;refine bW.value hd fun ρ' oH=>?_;simp only[PI.runs,PI.run,ao] at oH;obtain⟨ρ1,g1,ρ2,g2,ρ3,g3,g4⟩:=oH;cases c1:((IP (.o j) ex).ev ρ).b<;>simp only[c1,cond_true,cond_false] at g1
  ·cases g1
  cases g1;cases g2;cases g3;cases g4;have hlen:=U6 c1;simp only[PE.ev,D.l_list,HZ,k1,D.i_int,D.int] at hlen;have:=main j (hv j) xs cells cl k2 k3 (by have:=Yc hlen;simpa using this) k4;simpa [PE.ev,D.l_list,HZ,k1] using this
end
end Cx
namespace Cx
open Go Go.RowKit
theorem E9 {P:Program}{a:Act}{w:World}{o:Oper}{T:TypeId}{x v:Operand}{inf:TypeInfo}{k off:Nat}{cs:Array Value}{E:TypeId}(ho:o.op=.store T x v)(hi:P.info? T=some inf)(hx:a.eval x=.pointer (some ⟨k,off,none⟩))
 (hs:(a.eval v).cells.size=inf.size) (dw:∀u∈(a.eval v).cells.toList,u.oneCell'=true) (hb:w.heap[k]?=some (.cells cs E (0,0))) (hle:off+inf.size≤cs.size):
 (execOp a.eval o).run P w=.ok .skip (w.setRow k (cs.toList.take off++(a.eval v).cells.toList++cs.toList.drop (off+inf.size)).toArray):=by
 have:=run_storeCells_at P k off E (a.eval v).cells.toList 0 cs w hb (by simp[hs];exact hle) dw;simp only[iz,rT,hs] at this;simp[execOp,ho,Instr.storeAt,hx,Instr.sureAddr,storeVar,Go.sizeOf,run_typeInfo w hi,hs,this]
theorem abX {w:World}{B k:Nat}{cs:Array Value}(hB:B≤k):Below B w (w.setRow k cs)∧∀i,i≠k→(w.setRow k cs).heap[i]?=w.heap[i]?:=
 ⟨⟨rfl,rfl,rfl,by simp[World.setRow],fun i hi=>setRow_other w k i cs (by omega)⟩,fun i hi=>setRow_other w k i cs hi⟩
theorem Hs {α:Type}(xs ys:List α)(off:Nat)(d:α)(hle:off+ys.length≤xs.length)(i:Nat):(xs.take off++ys++xs.drop (off+ys.length)).getD i d=if off≤i∧i<off+ys.length then ys.getD (i-off) d else xs.getD i d:=by
 simp only[aH,ja];rw[mw,du,jz (by omega)];split
 ·rename_i h;rw[if_neg (by omega),dA,if_pos h]
 ·rename_i h;rw[mw];split
  ·rename_i h2;rw[if_pos (by omega)]
  ·rename_i h2;rw[if_neg (by omega),dZ];congr 2;omega
section
variable {C:Ctx} {S:St} {ρ:Env} {σ:Im} {own:Nat→Option Nat} {hv:Nat→Value} {w0:World} {σ0:Base} {A:Nat→Prop} {a:Act} {w:World} {gs:List (Nat×Bool)} {Φ:aV} {dst:Nat}
theorem Inv.storeBox (h:Inv C S ρ σ own hv w0 σ0 A a w){j k off:Nat}{ag:Bool}{shs news:List Sh}{cs:Array Value}{E:TypeId}{ds dn:List D}{vs:List Value}(eo:S.o j=.box ag shs)
 (h1:hv j=.pointer (some ⟨k,0,none⟩)) (h2:own k=some j) (h3:w.heap[k]?=some (.cells cs E (0,0))) (h4:cs.size=shs.length) (h5:ρ.o j=.agg ds) (h6:ds.length=shs.length)
 (h7:∀i s,shs[i]?=some s→(∀gs s',s≠.opt gs s')∧aE C S ρ σ hv s (cs.getD i undef) (ds.getD i .none))
 (l1:news.length=vs.length) (l2:dn.length=vs.length) (hle:off+vs.length≤shs.length)
 (l8:∀i s,news[i]?=some s→(∀gs s',s≠.opt gs s')∧aE C S ρ σ hv s (vs.getD i undef) (dn.getD i .none)):
 Inv C (S.setO j (.box ag (shs.take off++news++shs.drop (off+vs.length)))) (ρ.setO j (.agg (ff ds off dn))) σ own hv w0 σ0 A a (w.setRow k (cs.toList.take off++vs++cs.toList.drop (off+vs.length)).toArray):=by
 have hkB:w0.heap.size≤k:=(h.owns k j h2).1;obtain⟨b1,b2⟩:=abX (w:=w) (B:=w0.heap.size) (k:=k) (cs:=(cs.toList.take off++vs++cs.toList.drop (off+vs.length)).toArray) hkB;refine h.updB j _ _ b1 (fun i hi ay=>b2 i fun e=>ay (e▸h2)) ⟨k,_,E,ff ds off dn,h1,h2,setRow_heap w k cs _ E _ h3,?_,by simp[Env.setO,aK],?_,fun i s hi=>?_⟩
 ·simp[l1];omega
 ·simp[ff,l2,l1];omega
 ·have dL:(cs.toList.take off++vs++cs.toList.drop (off+vs.length)).toArray.getD i undef=if off≤i∧i<off+vs.length then vs.getD (i-off) undef else cs.getD i undef:=by
   have e0:∀l:List Value,l.toArray.getD i undef=l.getD i undef:=fun l=>by simp[eK,aH]
   rw[e0,Hs cs.toList vs off undef (by simp;omega),zn cs i]
  have pS:(ff ds off dn).getD i .none=if off≤i∧i<off+vs.length then dn.getD (i-off) .none else ds.getD i .none:=by
   rw[ff,Hs ds dn off .none (by omega),l2]
  rw[dL,pS];have Xa:∀s v d,(∀gs s',s≠.opt gs s')→aE C S ρ σ hv s v d→aE C (S.setO j (.box ag (shs.take off++news++shs.drop (off+vs.length)))) (ρ.setO j (.agg (ff ds off dn))) σ hv s v d:=
   fun s v d hn hk=>aE.mono' (.refl σ) (Compat.setO _ _ _ _) hn hk
  have eL:(shs.take off++news++shs.drop (off+vs.length))[i]?=if off≤i∧i<off+vs.length then news[i-off]? else shs[i]?:=by
   rw[ja,mw,du,jz (by omega)];split
   ·rename_i h;rw[if_neg (by omega),dA,if_pos h]
   ·rename_i h;rw[mw,l1];split
    ·rename_i h2;rw[if_pos (by omega)]
    ·rename_i h2;rw[if_neg (by omega),dZ];congr 1;omega
  rw[eL] at hi;split
  ·rename_i hc;rw[if_pos hc] at hi;obtain⟨g1,g2⟩:=l8 _ s hi;exact⟨g1,Xa _ _ _ g1 g2⟩
  ·rename_i hc;rw[if_neg hc] at hi;obtain⟨g1,g2⟩:=h7 _ s hi;exact⟨g1,Xa _ _ _ g1 g2⟩
theorem abK (h:Inv C S ρ σ own hv w0 σ0 A a w){j:Nat}(hr:lz (S.o j)=true):(hv j).cells=#[hv j]∧(hv j).oneCell'=true:=by
 have aY:=h.objs j;cases cU:S.o j with
 |row T e=>
  rw[cU] at aY;obtain⟨cells,xs,h1,h2,h3,h4⟩:=aY;obtain⟨b,c,e1,_⟩:=xu h2;rw[e1];exact⟨rfl,rfl⟩
 |mp kt et=>
  rw[cU] at aY;obtain⟨k0,arr,clock,es,h1,_⟩:=aY;rw[h1];exact⟨rfl,rfl⟩
 |_=>rw[cU] at hr;simp[lz] at hr
theorem Inv.storeRow (h:Inv C S ρ σ own hv w0 σ0 A a w){j k n c i p:Nat}{T:TypeId}{e:Ty}{cells vs:List Value}{xs:List D}{v':Value}{d':D}(eo:S.o j=.row T e)(fj:hv j=.slice (some ⟨k,0,none⟩) n c)
 (h1:ρ.o j=.list xs) (h2:w.ownsRow w0.heap.size T e.size (hv j) xs.length cells) (h3:eR C.cap σ e cells xs) (h4:∀k,(hv j).ownBlock=some k→own k=some j) (hi:i<xs.length)
 (De:i*e.size≤p) (fR:p+vs.length≤i*e.size+e.size) (hr:Rep C.cap σ e v' d')
 (hv':∀q u,v'.cells[q]?=some u→(cells.take p++vs++cells.drop (p+vs.length))[i*e.size+q]?=some u):
 ∃cur,w.heap[k]?=some (.cells cur T (0,0))∧p+vs.length≤cur.size∧Inv C S (ρ.setO j (.list (xs.set i d'))) σ own hv w0 σ0 A a (w.setRow k (cur.toList.take p++vs++cur.toList.drop (p+vs.length)).toArray):=by
 have aS:=h2.1;rcases h2.2 with⟨e0,e1⟩|⟨g,cap,cur,e1,e2,e3,e4,e5,e6,e7⟩
 ·omega
 rw[fj] at e1;cases e1;have ai2:i*e.size+e.size≤xs.length*e.size:=by
  have:(i+1)*e.size≤xs.length*e.size:=nq _ hi;rw[pw] at this;omega
 have avY:xs.length*e.size≤c*e.size:=nq _ e4;have ajL:p+vs.length≤cur.size:=by omega
 refine⟨cur,e3,ajL,?_⟩;have aZ:own k=some j:=h4 k (by rw[fj];rfl);obtain⟨b1,b2⟩:=abX (w:=w) (B:=w0.heap.size) (k:=k) (cs:=(cur.toList.take p++vs++cur.toList.drop (p+vs.length)).toArray) e2;have Xz:(cur.toList.take p++vs++cur.toList.drop (p+vs.length)).take (xs.length*e.size)=cells.take p++vs++cells.drop (p+vs.length):=by
  rw[←e7];apply KS;intro q;simp only[ja,dA,mw,du,dZ,rT];by_cases hq:q<xs.length*e.size
  ·rw[if_pos hq];by_cases hq1:q<p
   ·simp[hq1,Nat.lt_min,show q<cur.size by omega,hq]
   ·by_cases jK:q-p<vs.length
    ·rw[if_neg (by omega),jz (by omega),if_pos jK,if_neg (by omega),jz (by omega),if_pos jK]
    ·rw[if_neg (by omega),jz (by omega),if_neg jK,if_neg (by omega),jz (by omega),if_neg jK,if_pos (by omega)]
  ·rw[if_neg hq];have:¬q<p:=by omega
   rw[if_neg (by omega),jz (by omega),if_neg (by omega),if_neg (by omega)]
 have:=h.updB j (.row T e) (.list (xs.set i d')) b1 (fun q hq ay=>b2 q fun e=>ay (e▸aZ))
  ⟨cells.take p++vs++cells.drop (p+vs.length),xs.set i d',by simp[Env.setO,aK],⟨by simp;omega,.inr ⟨k,c,_,by rw[fj];simp,e2,setRow_heap w k cur _ T _ e3,by simpa using e4,e5,by simp;omega,by simpa using Xz⟩⟩,?_,h4⟩
 ·rw[St.setO_self eo] at this;exact this
 ·obtain⟨us,u1,u2⟩:=h3;refine⟨fun q=>if q=i then v' else us q,fun q x hx=>?_,fun q m u hq hm=>?_⟩
  ·rw[tO] at hx;by_cases zO:i=q
   ·subst zO;simp only[if_true] at hx ⊢;rw[if_pos hi] at hx;cases hx;exact hr
   ·rw[if_neg zO] at hx;simp only[show ¬q=i from fun e=>zO e.symm,if_false];exact u1 q x hx
  ·by_cases zO:q=i
   ·subst zO;simp only[if_true] at hm;exact hv' m u hm
   ·simp only[zO,if_false] at hm;simp only[K0] at hq;have h9:=u2 q m u hq hm;have awd:m<e.size:=by rw[←(u1 q _ (bu hq)).size];exact(dI.1 hm).1
    have kz:q*e.size+m<p∨p+vs.length≤q*e.size+m:=by
     rcases FU q i with ae|fP
     ·left;have:(q+1)*e.size≤i*e.size:=nq _ ae;rw[pw] at this;omega
     ·right;have:(i+1)*e.size≤q*e.size:=nq _ (by omega);rw[pw] at this;omega
    rw[ja,mw,du,jz (by omega)];rcases kz with ho|ho
    ·rw[if_pos ho,dA,if_pos ho];exact h9
    ·rw[if_neg (by omega),jx (by omega),dZ];rw[show p+vs.length+(q*e.size+m-p-vs.length)=q*e.size+m by omega];exact h9
theorem afE (h:Inv C S ρ σ own hv w0 σ0 A a w)(hC:CtxOK C σ0){T:TypeId}{x v:Operand}{r:St×List PI}(hr:uc C S T x v=some r){o:Oper}(hd:o.dst=none)(ho:o.op=.store T x v):bW C w0 σ0 Φ S ρ A a w o r:=by
 unfold uc at hr;split at hr
 case h_2=>cases hr
 rename_i inf hi;obtain⟨er,_⟩:=rL h (gs:=[]) rfl x;split at hr
 case h_3=>cases hr
 ·rename_i j ver off es;rw[es] at er;cases hb:Nat.beq ver (S.ver j)<;>simp only[hb,cond_true,cond_false] at hr
  ·cases hr
  obtain⟨k,fj,gd⟩:=er.2 (aw hb);have aY:=h.objs j;split at hr
  case h_2=>cases hr
  rename_i ag shs eo;rw[eo] at aY;obtain⟨k',cs,E,ds,h1,h2,h3,h4,h5,h6,h7⟩:=aY;have dC:=h1;rw[fj] at h1;cases h1;split at hr
  ·rename_i t e hu;have hv':=cB h hC rfl hu;cases hc:(Nat.beq inf.size t.size&&(t.rowT||t.one)&&Nat.ble (off+t.size) shs.length)<;>simp only[hc,cond_true,cond_false] at hr
   ·cases hr
   cases hr;simp only[aj,gF] at hc;obtain⟨⟨aC,iQ⟩,hle⟩:=hc;have aC:=aw aC;have hle:=km hle;obtain⟨f1,f2,f3⟩:=hv'.flat iQ;have cE:=hv'.size;refine bW.skip hd fun ρ' af=>?_;rw[rI af]
   refine⟨_,E9 ho hi gd (by rw[cE,aC]) (fun u hu=>by
        obtain⟨m,hm,rfl⟩:=gZ hu;exact hv'.cellsOne iQ (m:=m) (by simp at hm ⊢)) h3 (by omega),?_⟩
   have bZ:=h.storeBox (off:=off) (news:=t.flat.map .dat) (vs:=(a.eval v).cells.toList) (dn:=(e.ev ρ).cells) eo dC h2 h3 h4 h5 h6 h7 (by simp[f1,cE]) (by simp[f2,cE]) (by simp[cE];omega) (fun i s hi=>by
        simp only[cK,ax] at hi;obtain⟨ti,Dw,rfl⟩:=hi;refine⟨fun _ _ e=>(by cases e),?_⟩;rw[zn];exact(f3 i ti Dw).2)
   have e1:(a.eval v).cells.toList.length=t.size:=by simp[cE]
   rw[e1] at bZ;rw[aC];refine⟨σ,own,hv,?_⟩;simpa [PE.ev,h5,D.cells] using bZ
  ·split at hr
   case h_3=>cases hr
   case h_2=>
        rename_i l ga;obtain⟨zQ,_⟩:=rL h (gs:=[]) rfl v;rw[ga] at zQ;obtain⟨vs,ds',q1,q2,q3,q4,q5⟩:=zQ;cases hc:(Nat.beq inf.size l.length&&Nat.ble (off+l.length) shs.length&&l.all (ML S))<;>simp only[hc,cond_true,cond_false] at hr
        ·cases hr
        cases hr;simp only[aj] at hc;obtain⟨⟨aC,hle⟩,dm⟩:=hc;have aC:=aw aC;have hle:=km hle;have ji:(a.eval v).cells.toList=vs:=by rw[q1];simp[Value.cells]
        have dL:(a.eval v).cells.size=vs.length:=by rw[←ji];simp
        have dw:∀u∈(a.eval v).cells.toList,u.oneCell'=true:=fun u hu=>by
         rw[ji] at hu;obtain⟨i,hi,rfl⟩:=gZ hu;have wG:i<l.length:=by omega
         have g:=q5 i l[i] (bu wG);have hf:=bz.1 dm l[i] (dJ wG);have No:vs.getD i undef=vs[i]:=by simp[aH,hi]
         rw[No] at g;generalize l[i]=c at g hf;cases c with
         |dat t=>exact(g.2.oneCell g.1).2
         |obj j' nj=>
          simp only[ML,aj] at hf;rw[g.2 (aw hf.1)];exact(abK h hf.2).2
        refine bW.skip hd fun ρ' af=>?_;rw[rI af];refine⟨_,E9 ho hi gd (by omega) dw h3 (by omega),?_⟩
        have bZ:=h.storeBox (off:=off) (news:=l.map AgC.sh) (vs:=vs) (dn:=ds') eo dC h2 h3 h4 h5 h6 h7 (by simp[q3]) (by omega) (by omega) (fun i s hi=>by
         simp only[cK,ax] at hi;obtain⟨c,hc,rfl⟩:=hi;have g:=q5 i c hc;cases c with
         |dat t=>exact⟨fun _ _ e=>(by cases e),g.2⟩
         |obj j' nj=>exact⟨fun _ _ e=>(by cases e),g⟩)
        rw[ji,aC];have e1:vs.length=l.length:=q3;rw[e1] at bZ;refine⟨σ,own,hv,?_⟩;simpa [PE.ev,h5,q2,D.cells] using bZ
   rename_i j' nj ga;obtain⟨zQ,_⟩:=rL h (gs:=[]) rfl v;rw[ga] at zQ;cases hc:(Nat.beq nj (S.ver j')&&lz (S.o j')&&Nat.beq inf.size 1&&Nat.blt off shs.length)<;>simp only[hc,cond_true,cond_false] at hr
   ·cases hr
   cases hr;simp only[aj] at hc;obtain⟨⟨⟨akq,gQ⟩,aC⟩,ae⟩:=hc;have aC:=aw aC;have ae:off<shs.length:=by simpa [jc] using ae
   have cl:=zQ.2 (aw akq);obtain⟨c1,c2⟩:=abK h gQ;have ji:(a.eval v).cells=#[a.eval v]:=by rw[cl];exact c1
   refine bW.skip hd fun ρ' af=>?_;rw[rI af];refine⟨_,E9 ho hi gd (by rw[ji,aC];rfl) (fun u hu=>by rw[ji] at hu;simp at hu;subst hu;rw[cl];exact c2) h3 (by omega),?_⟩
   have bZ:=h.storeBox (off:=off) (news:=[.obj j' nj]) (vs:=[a.eval v]) (dn:=[.none]) eo dC h2 h3 h4 h5 h6 h7 rfl rfl (by simp;omega) (fun i s hi=>by
        match i,hi with
        |0,hi=>simp at hi;subst hi;exact⟨fun _ _ e=>(by cases e),zQ.1,fun _=>by simpa using cl⟩
        |i+1,hi=>simp at hi)
   rw[ji,aC];have e2:shs.take off++[Sh.obj j' nj]++shs.drop (off+[a.eval v].length)=shs.set off (.obj j' nj):=by
        rw[List.set_eq_take_append_cons_drop,if_pos ae];simp
   rw[e2] at bZ;refine⟨σ,own,hv,?_⟩;simpa [PE.ev,h5,D.cells] using bZ
 ·rename_i j ver size off es;rw[es] at er;cases hb:Nat.beq ver (S.ver j)<;>simp only[hb,cond_true,cond_false] at hr
  ·cases hr
  obtain⟨k,n,c,ik,i,fj,ur,bo,gd⟩:=er.2 (aw hb);have aY:=h.objs j;split at hr
  ·rename_i T' ts t e eo hu;rw[eo] at aY;have hv':=cB h hC rfl hu;cases hc:(Nat.beq inf.size t.size&&(t.rowT||t.one)&&Nat.beq size ts.length&&Nat.ble (off+t.size) ts.length&&Ty.subs t.flat ((ts.drop off).take t.size))<;>simp only[hc,cond_true,cond_false] at hr
   ·cases hr
   cases hr;simp only[aj,gF] at hc;obtain⟨⟨⟨⟨aC,iQ⟩,wT⟩,hle⟩,bG⟩:=hc;have aC:=aw aC;have wT:=aw wT;have hle:=km hle;obtain⟨f1,f2,f3⟩:=hv'.flat iQ;have cE:=hv'.size;have f1:t.flat.length=t.size:=f1;have f2:(e.ev ρ).cells.length=t.size:=f2;have cE:(a.eval v).cells.size=t.size:=cE;obtain⟨cells,xs,k1,k2,k3,k4⟩:=aY;obtain⟨b,c',e1,Ny,C1⟩:=xu k2;rw[fj] at e1;cases e1;obtain⟨us,u1,u2⟩:=k3;obtain⟨y,hy⟩:∃y,xs[i]?=some y:=⟨_,bu bo⟩
   obtain⟨os,ds,uI,hd0,l1,l2,aF,dw⟩:=(u1 i y hy).agg_inv;have DB:(a.eval v).cells.toList.length=t.size:=by simp[cE]
   have l8:Rep C.cap σ (.agg ts) (.agg (os.take off++(a.eval v).cells.toList++os.drop (off+(a.eval v).cells.toList.length)).toArray) (.agg (ff ds off (e.ev ρ).cells)):=by
        refine .agg _ _ _ (by simp[cE];omega) (by simp[ff,f2];omega) (fun m tm hm=>?_) dw;rw[Hs os _ off undef (by rw[DB];omega),ff,Hs ds _ off .none (by rw[f2];omega),DB,f2];split
        ·rename_i hc;have akc:=Ty.subs_get _ _ bG (m-off) tm (by
          rw[dA,if_pos (by omega),dZ,show off+(m-off)=m by omega];exact hm)
         obtain⟨tf,htf,bZ⟩:=akc;rw[zn];exact((f3 _ tf htf).2).sub bZ
        ·exact aF m tm hm
   have aS:=k2.1;have ai2:i*(Ty.agg ts).size+(Ty.agg ts).size≤xs.length*(Ty.agg ts).size:=by
        have:(i+1)*(Ty.agg ts).size≤xs.length*(Ty.agg ts).size:=nq _ bo;rw[pw] at this;omega
   have XA:(Ty.agg ts).size=ts.length:=rfl
   obtain⟨cur,q1,q2,q3⟩:=h.storeRow (i:=i) (p:=i*(Ty.agg ts).size+off) (vs:=(a.eval v).cells.toList) eo fj k1 k2 ⟨us,u1,u2⟩ k4 bo (by omega) (by rw[DB];omega) l8 (fun q u hq=>by
        have dW:(os.take off++(a.eval v).cells.toList++os.drop (off+(a.eval v).cells.toList.length))[q]?=some u:=by simpa [Value.cells] using hq
        have awk:q<ts.length:=by have:=(eE.1 dW).1;simp[cE] at this;omega
        rw[ja,mw,du,jz (by omega)] at dW;rw[ja,mw,du,jz (by omega)];by_cases rl:q<off
        ·rw[if_pos rl,dA,if_pos rl] at dW;rw[if_pos (by omega),dA,if_pos (by omega)];exact u2 i q u bo (by rw[uI];simpa [Value.cells] using dW)
        ·rw[if_neg rl,mw] at dW;rw[if_neg (by omega),mw];rw[show i*(Ty.agg ts).size+q-(i*(Ty.agg ts).size+off)=q-off by omega];by_cases N3:q-off<(a.eval v).cells.toList.length
         ·rw[if_pos N3] at dW ⊢;exact dW
         ·rw[if_neg N3,dZ] at dW;rw[if_neg N3,dZ];rw[show off+(a.eval v).cells.toList.length+(q-off-(a.eval v).cells.toList.length)=q by omega] at dW;rw[show i*(Ty.agg ts).size+off+(a.eval v).cells.toList.length+(q-off-(a.eval v).cells.toList.length)=i*(Ty.agg ts).size+q by omega];exact u2 i q u bo (by rw[uI];simpa [Value.cells] using dW))
   refine bW.skip hd fun ρ' af=>?_;rw[rI af]
   refine⟨_,E9 ho hi (cs:=cur) (by rw[gd,wT]) (by rw[cE,aC]) (fun u hu=>by
        obtain⟨m,hm,rfl⟩:=gZ hu;exact hv'.cellsOne iQ (m:=m) (by simp at hm ⊢)) q1 (by rw[DB] at q2;rw[aC,←XA];exact q2),σ,own,hv,?_⟩
   rw[DB] at q3;simp only[PE.ev,k1,D.l_list,ur,D.i_int,vL,sF hy,hd0,vu];rw[aC,←XA];exact q3
  ·rename_i T' e0 t e ay eo hu;rw[eo] at aY;have hv':=cB h hC rfl hu;cases hc:(Nat.beq inf.size 1&&Nat.beq size 1&&Nat.beq off 0&&e0.one&&Ty.sub t e0)<;>simp only[hc,cond_true,cond_false] at hr
   ·cases hr
   cases hr;simp only[aj] at hc;obtain⟨⟨⟨⟨aC,wT⟩,jJ⟩,dw⟩,bG⟩:=hc;have aC:=aw aC;have wT:=aw wT;have jJ:=aw jJ;subst jJ;subst wT;have XD:=hv'.sub bG;obtain⟨c1,c2⟩:=XD.oneCell dw;have CN:e0.size=1:=by cases e0<;>simp_all [Ty.size,Ty.one]
   obtain⟨cells,xs,k1,k2,k3,k4⟩:=aY;obtain⟨b,c',e1,Ny,C1⟩:=xu k2;rw[fj] at e1;cases e1;obtain⟨y,hy⟩:∃y,xs[i]?=some y:=⟨_,bu bo⟩
   have aS:=k2.1
   obtain⟨cur,q1,q2,q3⟩:=h.storeRow (i:=i) (p:=i*e0.size) (vs:=[a.eval v]) eo fj k1 k2 k3 k4 bo (aX _) (by rw[CN];simp) XD (fun q u hq=>by
        rw[c1] at hq;have wP:q=0:=by have:=(dI.1 hq).1;simpa using this
        subst wP;simp at hq;subst hq;have:i*e0.size≤cells.length:=by rw[aS];exact nq _ (by omega)
        rw[ja,jx (by simp;omega)];simp[jz this])
   refine bW.skip hd fun ρ' af=>?_;rw[rI af];refine⟨_,E9 ho hi (cs:=cur) (by rw[gd]) (by rw[c1,aC];rfl) (fun u hu=>by rw[c1] at hu;simp at hu;subst hu;exact c2) q1 (by rw[CN] at q2;rw[aC];simpa using q2),σ,own,hv,?_⟩;rw[c1,aC];have OA:vu y 0 (e.ev ρ)=e.ev ρ:=by
        obtain⟨us,u1,u2⟩:=k3;have:=(u1 i y hy).dcells dw;cases y with
        |agg ds=>have h8:=u1 i _ hy;generalize us i=vv at h8;cases h8;simp[Ty.one] at dw
        |_=>rfl
   simp only[PE.ev,k1,D.l_list,ur,D.i_int,vL,sF hy,OA];rw[CN] at q3;simpa using q3
  ·cases hr
end
end Cx
namespace Cx
open Go Go.RowKit
section
variable {C:Ctx} {S:St} {ρ:Env} {σ:Im} {own:Nat→Option Nat} {hv:Nat→Value} {w0:World} {σ0:Base} {A:Nat→Prop} {a:Act} {w:World} {gs:List (Nat×Bool)} {Φ:aV} {dst:Nat}
theorem af0 {ρ:Env}{es:List PE}{i:Nat}{e:PE}(h:es[i]?=some e):(PE.evs ρ es)[i]?=some (e.ev ρ):=by
 rw[PE.evs_eq,cK,h];rfl
theorem Vj (h:Inv C S ρ σ own hv w0 σ0 A a w)(hC:CtxOK C σ0)(hg:holds gs ρ=true){T:TypeId}{len:Nat}{ps:Array (Nat×Operand)}{r:St×List PI}(hr:we C S gs dst T len ps.toList=some r){o:Oper}
 (ho:o.op=.buildSlice T len ps):∃(E:TypeId) (e:Ty) (es:List PE) (v:Value) (w':World),C.P.underlying T=some (.slice E)∧pj C.P E=some e∧r=(mkObj S dst (.row E e),[.setO dst (.lst es),.setR dst (.con .none)])∧
   (execOp a.eval o).run C.P w=.ok (.value v) w'∧Below w.heap.size w w'∧(∀k,Nat.beq k w.heap.size=true→w.heap.size≤k∧k<w'.heap.size)∧
   cC C (S.newO dst (.row E e)) (ρ.setO dst (.list (PE.evs ρ es))) σ (fV own dst (fun k=>Nat.beq k w.heap.size)) (bV hv dst v) w' w0.heap.size dst (.row E e):=by
 unfold we at hr;split at hr
 case h_2=>cases hr
 rename_i E hT;simp only[ao] at hr;obtain⟨e,he,z,hz,hr⟩:=hr;cases hc:(qX C.P E e&&Ty.sub z.1 e&&gS (ps.toList.map (·.1))&&ps.toList.all (fun p=>Nat.blt p.1 len)&&Nat.ble (len*e.size) 16777216)<;>simp only[hc,cond_true,cond_false] at hr
 ·cases hr
 simp only[aj] at hc;obtain⟨⟨⟨⟨hef,bG⟩,bj⟩,fF⟩,hle⟩:=hc;have hle:=km hle;obtain⟨inf,zv,hi,hs,pQ,h1,hzv,mQ⟩:=Mn hef;have sX:=TJ mQ;have j9:=mW bj;have DF:=((xT (cap:=C.cap) (σ:=σ) hz mQ).1).sub bG;simp only[ax] at hr;obtain⟨es,jH,rfl⟩:=hr;obtain⟨Vs,el2⟩:=mapM_some _ _ _ jH;simp only[FL] at Vs;have WG:∀i,i<len→∃pe,es[i]?=some pe∧Hh C S gs e z.2 ps.toList i=some pe:=by
  intro i hi;obtain⟨y,Oz,nH⟩:=el2 i i (by rw[qK hi]);exact⟨y,Oz,nH⟩
 have oG:∀x,x∈ps.toList→x.1<len∧∃t pe,use C S gs x.2=some (t,pe)∧Ty.sub t e=true∧es[x.1]?=some pe:=by
  intro x hx;have wY:x.1<len:=by
   have:=bz.1 fF x hx;simpa [jc] using this
  refine⟨wY,?_⟩;obtain⟨pe,De,fR⟩:=WG x.1 wY;have CQ:=VJ j9 (i:=x.1) (x:=x.2) hx;simp only[Hh,CQ,ao] at fR;obtain⟨y,hy,fR⟩:=fR;cases hs:Ty.sub y.1 e<;>simp only[hs,cond_true,cond_false] at fR
  ·cases fR
  cases fR;exact⟨y.1,y.2,hy,hs,De⟩
 let c0:Array Value:=madeCells zv.cells (len*e.size)
 have lX:c0.size=len*e.size:=size_madeCells _ _
 have kc:∀p,p∈(ps.toList.map fun(x:Nat×Operand)=>(x.1,a.eval x.2))→∃o,(fun i=>some (i*e.size,e.size)) p.1=some (o,p.2.cells.size)∧o+p.2.cells.size≤c0.size:=by
  intro p hp;obtain⟨x,hx,rfl⟩:=ec.1 hp;obtain⟨wY,t,pe,hu,bZ,_⟩:=oG x hx;have uH:=((cB h hC hg hu).sub bZ).size;simp only;refine⟨x.1*e.size,by rw[uH],?_⟩;rw[uH,lX];have:(x.1+1)*e.size≤len*e.size:=nq _ wY;rw[pw] at this;omega
 have zC:∀(i j oi si oj sj:Nat),i≠j→(fun i=>some (i*e.size,e.size)) i=some (oi,si)→(fun i=>some (i*e.size,e.size)) j=some (oj,sj)→oi+si≤oj∨oj+sj≤oi:=by
  intro i j oi si oj sj ay hi hj;simp only[aR,od] at hi hj;obtain⟨rfl,rfl⟩:=hi;obtain⟨rfl,rfl⟩:=hj;rcases FU i j with ae|fP
  ·left;have:(i+1)*e.size≤j*e.size:=nq _ ae;rw[pw] at this;omega
  ·right;have:(j+1)*e.size≤i*e.size:=nq _ (by omega);rw[pw] at this;omega
 obtain⟨dB,f1,f2,f3,f4⟩:=Mx (fun i=>some (i*e.size,e.size)) (ps.toList.map fun(x:Nat×Operand)=>(x.1,a.eval x.2)) c0 kc zC (by simpa [FF] using j9);have af:(execOp a.eval o).run C.P w=.ok (.value (.slice (some ⟨w.heap.size,0,none⟩) len len)) (w.alloc (.cells dB E)):=by
  have n1:¬(len*inf.size>2^24):=by rw[hs];omega
  have Hl:Instr.fill (fun i=>some (i*inf.size,inf.size)) c0 (ps.toList.map fun(x:Nat×Operand)=>(x.1,a.eval x.2))=some dB:=by rw[hs];exact f1
  by_cases h0:len*inf.size=0
  ·have zy:c0=#[]:=by
        apply KO;rw[lX,←hs];exact h0
   rw[zy] at Hl
   have af2:Instr.fill (fun i=>some (i*inf.size,inf.size)) (Array.map (fun _=>default) (Array.range 0)) (ps.toList.map fun(x:Nat×Operand)=>(x.1,a.eval x.2))=some dB:=by
        have:(Array.map (fun _=>(default:Value)) (Array.range 0))=#[]:=by simp
        rw[this];exact Hl
   simp[execOp,ho,Instr.buildSlice,run_underlying hT,Go.sizeOf,run_typeInfo w hi,n1,h0,af2,newRow]
  ·have zy:c0=(Array.range (len*inf.size)).map (fun x=>zv.cells[x%zv.cells.size]!):=by simp only[c0,madeCells,hs]
   rw[zy] at Hl;have h00:¬(len=0∨inf.size=0):=by rw[←Nat.mul_eq_zero];exact h0
   simp[execOp,ho,Instr.buildSlice,run_underlying hT,Go.sizeOf,run_typeInfo w hi,n1,h0,h00,zeroValue,hzv,Hl,newRow]
 refine⟨E,e,es,_,_,hT,he,rfl,af,(Below.refl _ _).alloc (aX _) _,fun k hk=>by simp at hk;simp;omega,?_⟩;have jj:(PE.evs ρ es).length=len:=by rw[PE.evs_eq,fL,Vs]
 have aiP:∀(i:Nat) (x:D),(PE.evs ρ es)[i]?=some x→∃v,Rep C.cap σ e v x∧∀q u,v.cells[q]?=some u→dB.toList[i*e.size+q]?=some u:=by
  intro i x hx;have wG:i<len:=by have:=(eE.1 hx).1;omega
  obtain⟨pe,De,fR⟩:=WG i wG;rw[af0 De] at hx;cases hx;unfold Hh at fR;split at fR
  ·rename_i p hp;have Xn:=qL hp;have Iu:p.1=i:=by have:=x9 hp;simpa using this
   obtain⟨_,t,pe',hu,bZ,uD⟩:=oG p Xn;rw[Iu,De] at uD;cases uD;have bN:=(cB h hC hg hu).sub bZ;refine⟨_,bN,fun q u hq=>?_⟩;have Iv:q<(a.eval p.2).cells.size:=(dI.1 hq).1;have:=f3 p.1 (a.eval p.2) (p.1*e.size) (ec.2 ⟨p,Xn,rfl⟩) (by simp[bN.size]) q Iv;rw[Iu] at this;simp[this,hq]
  ·rename_i hp;cases fR;refine⟨zv,DF,fun q u hq=>?_⟩;have Iv:q<zv.cells.size:=(dI.1 hq).1
   have wO:i∉(ps.toList.map fun(x:Nat×Operand)=>(x.1,a.eval x.2)).map (·.1):=by
        intro cA;simp only[K3,ec,FF] at cA;obtain⟨x,zW,e⟩:=cA;have:=nZ.1 hp x zW;simp[e] at this
   have:=f4 i (i*e.size) e.size wO rfl q (by omega);have h9:c0[i*e.size+q]?=zv.cells[q]?:=by
        simp only[c0];rw[←sX];exact Yw (by omega) wG Iv
   simp[this,h9,hq]
 have cE:∃vs:Nat→Value,∀(i:Nat) (x:D),(PE.evs ρ es)[i]?=some x→Rep C.cap σ e (vs i) x∧∀q u,(vs i).cells[q]?=some u→dB.toList[i*e.size+q]?=some u:=by
  have mI:∀i,∃v,∀x,(PE.evs ρ es)[i]?=some x→Rep C.cap σ e v x∧∀q u,v.cells[q]?=some u→dB.toList[i*e.size+q]?=some u:=by
   intro i;cases hx:(PE.evs ρ es)[i]? with
   |none=>exact⟨undef,fun x dD=>by cases dD⟩
   |some x=>
    obtain⟨v,hv⟩:=aiP i x hx;exact⟨v,fun y hy=>by cases hy;exact hv⟩
  exact⟨fun i=>Classical.choose (mI i),fun i x hx=>TU (mI i) x hx⟩
 obtain⟨vs,cE⟩:=cE;have dL:dB.size=len*e.size:=by rw[f2,lX]
 refine⟨dB.toList,PE.evs ρ es,by simp[Env.setO,aK],?_,⟨vs,fun i x hx=>(cE i x hx).1,fun i j u hi hj=>(cE i _ (bu hi)).2 j u hj⟩,fun k hk=>by rw[aK] at hk;simp[Value.ownBlock] at hk;simp[fV,hk]⟩;rw[aK,jj];have p6:len≤maxLen:=by
  have:len*1≤len*e.size:=Nat.mul_le_mul_left _ h1;unfold maxLen;omega
 exact⟨by simp[dL],.inr ⟨w.heap.size,len,dB,rfl,h.below.size,heap_alloc_new w _,aX _,p6,dL,by rw[tR (by simp[dL])]⟩⟩
theorem afb (h:Inv C S ρ σ own hv w0 σ0 A a w)(hC:CtxOK C σ0)(ht:¬A dst)(ae:dst<a.tmps.size){T:TypeId}{len:Nat}{ps:Array (Nat×Operand)}{r:St×List PI}(hr:we C S [] dst T len ps.toList=some r){o:Oper}(hd:o.dst=some dst)
 (ho:o.op=.buildSlice T len ps):bW C w0 σ0 Φ S ρ A a w o r:=by
 obtain⟨E,e,es,v,w',_,_,rfl,af,hb,dN,cU⟩:=Vj h hC rfl hr ho;refine bW.value hd fun ρ' oH=>⟨_,_,af,?_⟩
 rw[AT oH];exact h.mkObj ht ae (.row E e) _ _ (fun k=>Nat.beq k w.heap.size) hb dN cU
theorem Inv.kill (h:Inv C S ρ σ own hv w0 σ0 A a w)(j:Nat):Inv C (S.newO j .dead) ρ σ own hv w0 σ0 A a w:=by
 have dO:∀i,S.ver i≤(S.newO j .dead).ver i:=by
  intro i;show S.ver i≤bV S.ver j (S.ver j+1) i;rw[fK];by_cases e:i=j
  ·subst e;simp
  ·simp[e]
 have hc:Compat S hv (S.newO j .dead) hv:=⟨dO,fun _ _=>rfl⟩
 refine h.step (·=j) rfl (.refl σ) h.ok (fun _ _ _ hx=>.inl hx) (fun _ _ hx=>.inl hx) (.refl _ _) hc (fun i hi=>⟨by simp[St.newO,bk _ _ hi],rfl,rfl,fun k hk=>⟨hk,rfl⟩⟩) (fun i hi=>?_) h.owns (fun _=>id) (fun t=>.inl ⟨rfl,rfl,rfl⟩) (fun _ _=>rfl) (fun _ _ _=>rfl) (fun k i hk=>.inl ⟨i,hk⟩) (fun i hi=>by subst hi;simp[St.newO,aK]);subst hi;simp only[St.newO,aK];trivial
theorem afr (h:Inv C S ρ σ own hv w0 σ0 A a w)(hC:CtxOK C σ0)(ht:¬A dst)(ae:dst<a.tmps.size)(ei:∀g,g∈gs→A g.1)(hg:holds gs ρ=true){T:TypeId}{len:Nat}{ps:Array (Nat×Operand)}{r:St×List PI}(hr:zg C S gs dst T len ps.toList=some r){o:Oper}(hd:o.dst=some dst)
 (ho:o.op=.buildSlice T len ps):bW C w0 σ0 Φ S ρ A a w o r:=by
 unfold zg at hr;split at hr
 case h_2=>cases hr
 rename_i E q hT hq;simp only[ao] at hr;obtain⟨e,he,hr⟩:=hr;obtain⟨E',e',es,v,w',pO,pU,rfl,af,hb,dN,cU⟩:=Vj h hC hg hq ho;rw[hT] at pO;cases pO;rw[he] at pU;cases pU;cases hr;refine bW.value hd fun ρ' oH=>⟨_,_,af,?_⟩
 have hρ:ρ'=ρ.setR dst (.list (PE.evs ρ es)):=by simp[PI.runs,PI.run,PE.ev] at oH;exact oH.symm
 subst hρ;have h1:=h.newO dst (.row E e) (.list (PE.evs ρ es)) v (fun k=>Nat.beq k w.heap.size) hb dN cU;obtain⟨σ2,jo,_,h2⟩:=h1.fz dst;have sN:(S.newO dst (.row E e)).fz dst=(S.newO dst (.row E e)).setO dst (.fz (.slice e.rol)):=by
  have:(S.newO dst (.row E e)).o dst=.row E e:=aK _ _ _;unfold St.fz;rw[this]
 rw[sN] at h2;have aY:=h2.objs dst;have e1:((S.newO dst (.row E e)).setO dst (.fz (.slice e.rol))).o dst=.fz (.slice e.rol):=aK _ _ _;rw[e1] at aY;have bN:Rep C.cap σ2 (.slice e.rol) v (.list (PE.evs ρ es)):=by
  have:=aY.2
  rwa [aK,show(ρ.setO dst (.list (PE.evs ρ es))).o dst=.list (PE.evs ρ es) from aK _ _ _] at this
 have h3:Inv C (S.newO dst .dead) ρ σ2 jo (bV hv dst v) w0 σ0 A a w':=by
  refine h2.step (·=dst) rfl (.refl σ2) h2.ok (fun _ _ _ hx=>.inl hx) (fun _ _ hx=>.inl hx) (.refl _ _) ⟨fun i=>aX _,fun _ _=>rfl⟩ (fun i hi=>⟨?_,?_,rfl,fun k hk=>⟨hk,rfl⟩⟩) (fun i hi=>?_) h2.owns (fun _=>id) (fun t=>.inl ⟨rfl,rfl,rfl⟩) (fun _ _=>rfl) (fun _ _ _=>rfl) (fun k i hk=>.inl ⟨i,hk⟩) (fun i hi=>by subst hi;simp[St.newO,aK])
  ·simp[St.newO,St.setO,bk _ _ hi]
  ·simp[Env.setO,bk _ _ hi]
  ·subst hi;simp only[St.newO,aK];trivial
 have hh:holds gs (ρ.setR dst (.list (PE.evs ρ es)))=true:=by rw[Da (t:=dst) fun g hm e=>ht (by rw[←e];exact ei g hm)];exact hg
 cases gs with
 |nil=>exact⟨_,_,_,h3.setReg ht (s:=.dat (.slice e.rol)) bN ae (fun _ _ e=>by cases e)⟩
 |cons g bP=>
  refine⟨_,_,_,h3.setReg ht (s:=.opt (g::bP) (.dat (.slice e.rol))) ⟨fun _=>bN,fun e=>absurd (hh.symm.trans e) (by decide)⟩ ae (fun gs s e=>?_)⟩;cases e;exact⟨ei,fun _ _ e=>by cases e⟩
end
end Cx
