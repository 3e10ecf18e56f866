/-
  Shared texts of this claim.
-/
import Derived.Test.YtipjidjopglknaaGreatDoorEAB
import Derived.Laws.OwnMore
import Derived.Lib.ConvBytes
set_option linter.unusedSimpArgs false
set_option linter.unusedVariables false
namespace Cx
open Go Go.RowKit
def gf (b i:Nat):Nat:=4096*(i+1)+b
def St.fz (S:St)(j:Nat):St:=
 match S.o j with
 |.row _ e=>S.setO j (.fz (.slice e.rol))
 |.mp k e=>S.setO j (.fz (.map k e))
 |_=>S
def BZ (S:St)(b:Nat):Option (St×List PI):=
 match S.o b with
 |.box ag shs=>
  (pK S (.o b) shs 0).bind fun x=>
    bif ag then some (S.setO b (.fbox (.agg x.1)),[.setO b (.mk x.2)])
    else match x.1,x.2 with
     |[t],[e]=>some (S.setO b (.fbox t),[.setO b e])
     |_,_=>Option.none
 |_=>Option.none
def St.mv (S:St)(j j':Nat):St:=
 {S with o:=bN (bN S.o j' (S.o j)) j .dead,ver:=bN (bN S.ver j' (S.ver j'+1)) j (S.ver j+1)}
def ko:Ob→Bool
 |.row ..=>true
 |.mp ..=>true
 |_=>false
def wP (S:St)(t j':Nat):Option (St×List PI):=
 match S.r t with
 |.obj j ver=>
  bif Nat.beq ver (S.ver j)&&ko (S.o j)&& !Nat.beq j j' then some ((S.mv j j').setR t (.obj j' (S.ver j'+1)),[.setO j' (.o j)])
  else some (S,[])
 |_=>some (S,[])
def Es (S:St)(b i j':Nat):Option (St×List PI):=
 match S.o b with
 |.box ag shs=>
  match shs[i]? with
  |some (.obj j ver)=>
   bif Nat.beq ver (S.ver j)&&ko (S.o j)&& !Nat.beq j j'&& !Nat.beq b j'&& !Nat.beq b j then
    some ((S.mv j j').setO b (.box ag (shs.set i (.obj j' (S.ver j'+1)))),[.setO j' (.o j)])
   else some (S,[])
  |_=>some (S,[])
 |_=>some (S,[])
def CE (C:Ctx)(S:St)(b i j:Nat)(T:TypeId):Option (St×List PI):=
 match S.o b with
 |.box ag shs=>
  match shs[i]?,nJ C.P T with
  |some (.dat (.nils _)),some e=>
   bif !Nat.beq b j then some ((S.newO j (.row T e)).setO b (.box ag (shs.set i (.obj j (S.ver j+1)))),[.setO j (.con (.list []))])
   else some (S,[])
  |_,_=>some (S,[])
 |_=>some (S,[])
section
variable {C:Ctx} {S:St} {ρ:Env} {σ:Im} {own:Nat→Option Nat} {hv:Nat→Value} {w0:World} {σ0:Base} {A:Nat→Prop} {a:Act} {w:World} {gs:List (Nat×Bool)} {Φ:aK} {dst:Nat}
theorem Inv.lt (h:Inv C S ρ σ own hv w0 σ0 A a w){k o:Nat}{u:Value}(hc:σ.c k o=some u):k<w.heap.size:=World.block_lt_of_cell? w (a:=⟨k,o,none⟩) (h.ok.c _ _ _ hc)
theorem Inv.ltm (h:Inv C S ρ σ own hv w0 σ0 A a w){k:Nat}{es:List (Value×Value)}(hc:σ.m k=some es):k<w.heap.size:=by
 exact(h.ok.m _ _ hc).lt
theorem aaZ {w:World}{k:Nat}{c:Array Value}{T:TypeId}(h:w.heap[k]?=some (.cells c T (0,0)))(o:Nat):w.frozen? ⟨k,o,none⟩=false:=by simp[World.frozen?,h]
theorem Za {w:World}{base:Nat}{e:TypeId}{size:Nat}{v:Value}{n:Nat}{xs:List Value}(h:w.ownsRow base e size v n xs){g:Nat}(hg:v.ownBlock=some g)(o:Nat):w.frozen? ⟨g,o,none⟩=false:=by
 rcases h.2 with⟨rfl,_⟩|⟨g',cap,cur,rfl,_,h3,_⟩
 ·cases hg
 ·cases hg;exact aaZ h3 o
theorem YZ {w:World}{base:Nat}{e:TypeId}{size:Nat}{v:Value}{n:Nat}{xs:List Value}(h:w.ownsRow base e size v n xs){g:Nat}(hg:v.ownBlock=some g):∃cs T fz,w.heap[g]?=some (.cells cs T fz):=by
 rcases h.2 with⟨rfl,_⟩|⟨g',cap,cur,rfl,_,h3,_⟩
 ·cases hg
 ·cases hg;exact⟨_,_,_,h3⟩
theorem Im.ok.fz {σ:Im}{w w':World}(h:σ.ok w)(hk:∀k o v,σ.c k o=some v→w'.heap[k]?=w.heap[k]?):∀k o n,σ.c k o=some (.int .i64 n)→k=0∨w'.frozen? ⟨k,o,none⟩=false:=fun k o n hc=>by
 rw[World.frozen?_of_block (w:=w) (hk k o _ hc)];exact h.f k o n hc
theorem Im.ok.below {σ:Im}{w w':World}(h:σ.ok w)(hb:Below w.heap.size w w'):σ.ok w':=by
 refine⟨fun k o v hc=>?_,fun k es hc=>?_,h.fz fun k o v hc=>hb.block k (World.block_lt_of_cell? w (a:=⟨k,o,none⟩) (h.c k o v hc))⟩
 ·have h1:=h.c k o v hc;rw[hb.cell (World.block_lt_of_cell? w (a:=⟨k,o,none⟩) h1)];exact h1
 ·exact(h.m k es hc).keep (hb.block k (h.m k es hc).lt)
def ff (own:Nat→Option Nat)(j:Nat)(nb:Nat→Bool):Nat→Option Nat:=fun k=>if nb k then some j else if own k=some j then none else own k
theorem Inv.newOσ (h:Inv C S ρ σ own hv w0 σ0 A a w)(j:Nat)(ob:Ob)(d:D)(v:Value)(nb:Nat→Bool){σ':Im}{w':World}(hle:σ.le σ')(au:σ'.ok w')(cO:∀k o x,σ'.c k o=some x→σ.c k o=some x∨w.heap.size≤k)(cE:∀k x,σ'.m k=some x→σ.m k=some x∨w.heap.size≤k)
 (hw:Below w.heap.size w w') (cW:∀k,nb k=true→w.heap.size≤k∧k<w'.heap.size) (cQ:∀k,nb k=true→(∀o,σ'.c k o=none)∧σ'.m k=none)
 (cu:bS C (S.newO j ob) (ρ.setO j d) σ' (ff own j nb) (bN hv j v) w' w0.heap.size j ob) (mj:ob≠.tr:=by intro h;cases h):Inv C (S.newO j ob) (ρ.setO j d) σ' (ff own j nb) (bN hv j v) w0 σ0 A a w':=by
 have aC:w0.heap.size≤w.heap.size:=h.below.size;have bR:∀k i,i≠j→own k=some i→ff own j nb k=some i:=by
  intro k i hi hk;have h1:=h.owns k i hk;have h2:nb k=false:=by
   cases hn:nb k with
   |false=>rfl
   |true=>have:=cW k hn;omega
  simp[ff,h2,hk,hi]
 refine h.step (fun i=>i=j) rfl hle au (fun k o x hx=>(cO k o x hx).imp id fun e=>⟨by omega,.inr e⟩) (fun k x hx=>(cE k x hx).imp id fun e=>⟨by omega,.inr e⟩) (hw.mono aC) ⟨fun i=>?_,fun i e=>?_⟩ (fun i hi=>⟨?_,?_,?_,fun k hk=>⟨bR k i hi hk,?_⟩⟩) (fun i hi=>?_) (fun k i hk=>?_) (fun _=>id) (fun t=>.inl ⟨rfl,rfl,rfl⟩) (fun _ _=>rfl) (fun k hk _=>hw.block k hk) (fun k i hk=>by
  unfold ff at hk;split at hk
  ·rename_i hn;exact .inr (cW k hn).1
  ·split at hk
   ·cases hk
   ·exact .inl ⟨i,hk⟩) (fun i hi=>by subst hi;simpa only[St.newO,aJ] using mj)
 ·simp only[St.newO,eR];split<;>rename_i e
  ·subst e;omega
  ·omega
 ·simp only[St.newO,eR] at e;split at e
  ·rename_i e';subst e';omega
  ·rename_i ay;exact bf _ _ ay
 ·simp[St.newO,bf _ _ hi]
 ·simp[Env.setO,bf _ _ hi]
 ·exact bf _ _ hi
 ·exact hw.block k (h.owns k i hk).2.1
 ·subst hi;simp only[St.newO,aJ];exact cu
 ·unfold ff at hk;split at hk
  ·rename_i hn;obtain⟨g1,g2⟩:=cW k hn;exact⟨by omega,g2,(cQ k hn).1,(cQ k hn).2⟩
  ·split at hk
   ·cases hk
   ·obtain⟨g1,g2,g3,g4⟩:=h.owns k i hk;refine⟨g1,by have:=hw.size;omega,fun o=>?_,?_⟩
    ·cases hc:σ'.c k o with
     |none=>rfl
     |some u=>
      rcases cO k o u hc with e|e
      ·rw[g3 o] at e;cases e
      ·omega
    ·cases hc:σ'.m k with
     |none=>rfl
     |some u=>
      rcases cE k u hc with e|e
      ·rw[g4] at e;cases e
      ·omega
theorem Inv.newO (h:Inv C S ρ σ own hv w0 σ0 A a w)(j:Nat)(ob:Ob)(d:D)(v:Value)(nb:Nat→Bool){w':World}(hw:Below w.heap.size w w')(cW:∀k,nb k=true→w.heap.size≤k∧k<w'.heap.size)
 (cu:bS C (S.newO j ob) (ρ.setO j d) σ (ff own j nb) (bN hv j v) w' w0.heap.size j ob) (mj:ob≠.tr:=by intro h;cases h):Inv C (S.newO j ob) (ρ.setO j d) σ (ff own j nb) (bN hv j v) w0 σ0 A a w':=by
 refine h.newOσ j ob d v nb (.refl σ) (h.ok.below hw) (fun _ _ _ hx=>.inl hx) (fun _ _ hx=>.inl hx) hw cW (fun k hn=>⟨fun o=>?_,?_⟩) cu mj
 ·cases hc:σ.c k o with
  |none=>rfl
  |some u=>have:=h.lt hc;have:=(cW k hn).1;omega
 ·cases hc:σ.m k with
  |none=>rfl
  |some u=>have:=h.ltm hc;have:=(cW k hn).1;omega
theorem Inv.setObj (h:Inv C S ρ σ own hv w0 σ0 A a w){t j:Nat}(ht:¬A t){v:Value}(eA:hv j=v)(af:t<a.tmps.size):
 Inv C (S.setR t (.obj j (S.ver j))) (ρ.setR t .none) σ own hv w0 σ0 (fun u=>A u∨u=t) (a.put (some t) v) w:=
 h.setReg ht (s:=.obj j (S.ver j)) (v:=v) (d:=.none) ⟨aW _,fun _=>eA.symm⟩ af (fun _ _ e=>by cases e)
theorem Gx (S:St)(j:Nat):(S.fz j).ver=S.ver∧(S.fz j).r=S.r:=by
 unfold St.fz;split<;>exact⟨rfl,rfl⟩
theorem Inv.fz (h:Inv C S ρ σ own hv w0 σ0 A a w)(j:Nat):∃σ' own',σ.le σ'∧Inv C (S.fz j) ρ σ' own' hv w0 σ0 A a w:=by
 have aU:=h.objs j;unfold St.fz;split
 ·rename_i T e eo;rw[eo] at aU;obtain⟨cells,xs,h1,h2,⟨vs,h3,h4⟩,h5⟩:=aU;have aC:w0.heap.size≤w.heap.size:=h.below.size
  let nb:Nat→Bool:=fun k=>decide ((hv j).ownBlock=some k)
  let σ':Im:={c:=fun k o=>if nb k then cells[o]? else σ.c k o,m:=fun k=>if nb k then some gE else σ.m k}
  have cW:∀k,nb k=true→own k=some j:=fun k hk=>h5 k (by simpa [nb] using hk);have hle:σ.le σ':=by
   refine⟨fun k o v hc=>?_,fun k es hc=>?_⟩
   ·have:nb k=false:=by
     cases hn:nb k with
     |false=>rfl
     |true=>have:=(h.owns k j (cW k hn)).2.2.1 o;rw[this] at hc;cases hc
    simp[σ',this,hc]
   ·have:nb k=false:=by
     cases hn:nb k with
     |false=>rfl
     |true=>have:=(h.owns k j (cW k hn)).2.2.2;rw[this] at hc;cases hc
    simp[σ',this,hc]
  refine⟨σ',fun k=>if nb k then none else own k,hle,h.step (fun i=>i=j) rfl hle ?_ (fun k o x hx=>?_) (fun k x hx=>?_) (.refl _ _) ⟨fun _=>aW _,fun _ _=>rfl⟩ (fun i hi=>⟨?_,rfl,rfl,fun k hk=>⟨?_,rfl⟩⟩) (fun i hi=>?_) (fun k i hk=>?_) (fun _=>id) (fun t=>.inl ⟨rfl,rfl,rfl⟩) (fun _ _=>rfl) (fun _ _ _=>rfl) (fun k i hk=>by
        split at hk
        ·cases hk
        ·exact .inl ⟨i,hk⟩) (fun i hi=>by subst hi;simp[St.setO,aJ])⟩
  ·refine⟨fun k o v hc=>?_,fun k es hc=>?_,fun k o v hc=>?_⟩
   all_goals simp only[σ'] at hc
   all_goals split at hc
   ·rename_i hn;have cu:(hv j).ownBlock=some k:=by simpa [nb] using hn
    have:=h2.cells cu o v hc;rw[qW] at this;simpa using this
   ·exact h.ok.c k o v hc
   ·rename_i hn;cases hc;obtain⟨cs,T,fz,e⟩:=YZ h2 (g:=k) (by simpa [nb] using hn);exact .inr (.inr ⟨rfl,cs,T,fz,e⟩)
   ·exact h.ok.m k es hc
   ·rename_i hn;exact .inr (Za h2 (by simpa [nb] using hn) o)
   ·exact h.ok.f k o v hc
  ·simp only[σ'] at hx;split at hx
   ·rename_i hn;exact .inr ⟨(h.owns k j (cW k hn)).1,.inl ⟨j,cW k hn⟩⟩
   ·exact .inl hx
  ·simp only[σ'] at hx;split at hx
   ·rename_i hn;exact .inr ⟨(h.owns k j (cW k hn)).1,.inl ⟨j,cW k hn⟩⟩
   ·exact .inl hx
  ·simp[St.setO,bf _ _ hi]
  ·have:nb k=false:=by
        cases hn:nb k with
        |false=>rfl
        |true=>rw[cW k hn] at hk;simp at hk;exact absurd hk.symm hi
   simp[this,hk]
  ·subst hi;simp only[St.setO,aJ];refine⟨rfl,?_⟩;rw[h1];rcases h2.2 with⟨e1,e2⟩|⟨g,cap,cur,e1,e2,e3,e4,e5,e6,e7⟩
   ·rw[e1];have:xs=[]:=JH e2;subst this;exact .nil _
   ·rw[e1];refine .slice e.rol g 0 xs.length cap xs vs rfl e4 e5 (fun i x hx=>((h3 i x hx).mono hle).unf_rol) (fun i m u hi hu=>?_) (fun _=>by simp[σ',nb,e1,Value.ownBlock]);rw[Ty.rol_size];have hn:nb g=true:=by simp[nb,e1,Value.ownBlock]
    simp only[σ',hn,if_true,gw];exact h4 i m u hi hu
  ·split at hk
   ·cases hk
   ·rename_i hn;obtain⟨g1,g2,g3,g4⟩:=h.owns k i hk;exact⟨g1,g2,fun o=>by simp[σ',hn,g3 o],by simp[σ',hn,g4]⟩
 ·rename_i kt et eo;rw[eo] at aU;obtain⟨k0,arr,clock,fm,h1,h2,h3,h4,h5,⟨hx,_⟩,h6⟩:=aU;have aC:w0.heap.size≤w.heap.size:=h.below.size
  let σ':Im:={c:=σ.c,m:=fun k=>if k=k0 then some (entriesOf arr) else σ.m k}
  have hle:σ.le σ':=by
   refine⟨fun k o v hc=>hc,fun k es hc=>?_⟩;have:k≠k0:=fun e=>by subst e;rw[(h.owns k j h2).2.2.2] at hc;cases hc
   simp[σ',this,hc]
  refine⟨σ',fun k=>if k=k0 then none else own k,hle,h.step (fun i=>i=j) rfl hle ?_ (fun k o x hx=>.inl hx) (fun k x hx=>?_) (.refl _ _) ⟨fun _=>aW _,fun _ _=>rfl⟩ (fun i hi=>⟨?_,rfl,rfl,fun k hk=>⟨?_,rfl⟩⟩) (fun i hi=>?_) (fun k i hk=>?_) (fun _=>id) (fun t=>.inl ⟨rfl,rfl,rfl⟩) (fun _ _=>rfl) (fun _ _ _=>rfl) (fun k i hk=>by
        split at hk
        ·cases hk
        ·exact .inl ⟨i,hk⟩) (fun i hi=>by subst hi;simp[St.setO,aJ])⟩
  ·refine⟨h.ok.c,fun k es hc=>?_,h.ok.f⟩;simp only[σ'] at hc;split at hc
   ·rename_i e;subst e;cases hc;refine .inl ⟨fun e=>?_,arr,clock,h3,rfl⟩;refine Dc (cap:=C.cap) (σ:=σ) (kt:=kt) (es:=fm) (by simp[entriesOf,h5]) (fun i p q hp hq=>?_) e;simp only[entriesOf,cg,ax] at hp;obtain⟨x,db,rfl⟩:=hp;exact(h6 i x q (by simpa using db) hq).1
   ·exact h.ok.m k es hc
  ·simp only[σ'] at hx;split at hx
   ·rename_i e;subst e;exact .inr ⟨(h.owns k j h2).1,.inl ⟨j,h2⟩⟩
   ·exact .inl hx
  ·simp[St.setO,bf _ _ hi]
  ·have:k≠k0:=fun e=>by subst e;rw[h2] at hk;simp at hk;exact hi hk.symm
   simp[this,hk]
  ·subst hi;simp only[St.setO,aJ];refine⟨rfl,?_⟩;rw[h1,h4];refine .map kt et k0 (entriesOf arr) fm (by simp[σ']) (by simp[entriesOf,h5]) hx (fun i p q hp hq=>?_) (fun i p q hp hq=>?_)
   ·simp only[entriesOf,cg,ax] at hp;obtain⟨e,he,rfl⟩:=hp;exact((h6 i e q (by simpa using he) hq).1).mono hle
   ·simp only[entriesOf,cg,ax] at hp;obtain⟨e,he,rfl⟩:=hp;exact((h6 i e q (by simpa using he) hq).2).mono hle
  ·split at hk
   ·cases hk
   ·rename_i hn;obtain⟨g1,g2,g3,g4⟩:=h.owns k i hk;exact⟨g1,g2,g3,by simp[σ',hn,g4]⟩
 ·exact⟨σ,own,.refl σ,h⟩
end
end Cx
namespace Cx
open Go Go.RowKit
section
variable {C:Ctx} {S:St} {ρ:Env} {σ:Im} {own:Nat→Option Nat} {hv:Nat→Value} {w0:World} {σ0:Base} {A:Nat→Prop} {a:Act} {w:World} {gs:List (Nat×Bool)} {Φ:aK} {dst:Nat}
theorem qz {j:Nat}{e:PE}{ρ':Env}(h:PI.runs Φ [.setO j e] ρ=some ρ'):ρ'=ρ.setO j (e.ev ρ):=by
 simp[PI.runs,PI.run] at h;exact h.symm
theorem mI {ρ':Env}(h:PI.runs Φ [] ρ=some ρ'):ρ'=ρ:=by
 simp[PI.runs] at h;exact h.symm
def AI (C:Ctx)(w0:World)(σ0:Base)(Φ:aK)(S:St)(ρ:Env)(A:Nat→Prop)(a:Act)(w:World)(r:St×List PI):Prop:=
 ∀ρ',PI.runs Φ r.2 ρ=some ρ'→Good C w0 σ0 r.1 ρ' A a w
theorem ags (h:Inv C S ρ σ own hv w0 σ0 A a w){b:Nat}{r:St×List PI}(hr:BZ S b=some r):AI C w0 σ0 Φ S ρ A a w r:=by
 unfold BZ at hr;split at hr
 case h_2=>cases hr
 rename_i ag shs eo;simp only[aq] at hr;obtain⟨x,hx,hr⟩:=hr;have aU:=h.objs b;rw[eo] at aU;obtain⟨k,cs,T,ds,h1,h2,h3,h4,h5,h6,h7⟩:=aU;obtain⟨l1,es,⟨he,oA⟩,l2,bH⟩:=KP (b:=.o b) h (cs:=cs.toList) h5 shs 0 x (fun m s hm=>by rw[yD,gw];exact(h7 m s hm).2) hx
 let σ':Im:={c:=fun k' o=>if k'=k then cs[o]? else σ.c k' o,m:=σ.m}
 have hle:σ.le σ':=by
  refine⟨fun k' o v hc=>?_,fun k es hc=>hc⟩;have:k'≠k:=fun e=>by subst e;rw[(h.owns k' b h2).2.2.1 o] at hc;cases hc
  simp[σ',this,hc]
 have key:∀(t:Ty) (v:Value) (d:D),Rep C.cap σ' t v d→(∀(i:Nat) (u:Value),v.cells[i]?=some u→cs[i]?=some u)→
  Inv C (S.setO b (.fbox t)) (ρ.setO b d) σ' (fun k'=>if k'=k then none else own k') hv w0 σ0 A a w:=by
  intro t v d hrv aV
  refine h.step (fun i=>i=b) rfl hle ?_ (fun k' o x hx=>?_) (fun _ _ hx=>.inl hx) (.refl _ _) ⟨fun _=>aW _,fun _ _=>rfl⟩ (fun i hi=>⟨?_,?_,rfl,fun k' hk=>⟨?_,rfl⟩⟩) (fun i hi=>?_) (fun k' i hk=>?_) (fun _=>id) (fun t=>.inl ⟨rfl,rfl,rfl⟩) (fun _ _=>rfl) (fun _ _ _=>rfl) (fun k' i hk=>by
        split at hk
        ·cases hk
        ·exact .inl ⟨i,hk⟩) (fun i hi=>by subst hi;simp[St.setO,aJ])
  ·refine⟨fun k' o v hc=>?_,h.ok.m,fun k' o v hc=>?_⟩
   all_goals simp only[σ'] at hc
   all_goals split at hc
   ·rename_i e;subst e;simp[World.cell?,h3,hc]
   ·exact h.ok.c k' o v hc
   ·rename_i e;subst e;exact .inr (aaZ h3 o)
   ·exact h.ok.f k' o v hc
  ·simp only[σ'] at hx;split at hx
   ·rename_i e;subst e;exact .inr ⟨(h.owns k' b h2).1,.inl ⟨b,h2⟩⟩
   ·exact .inl hx
  ·simp[St.setO,bf _ _ hi]
  ·simp[Env.setO,bf _ _ hi]
  ·have:k'≠k:=fun e=>by subst e;rw[h2] at hk;simp at hk;exact hi hk.symm
   simp[this,hk]
  ·subst hi;simp only[St.setO,aJ];exact⟨k,v,h1,by simp only[Env.setO,aJ];exact hrv,fun i u hu=>by simp[σ',aV i u hu]⟩
  ·split at hk
   ·cases hk
   ·rename_i hn;obtain⟨g1,g2,g3,g4⟩:=h.owns k' i hk;exact⟨g1,g2,fun o=>by simp[σ',hn,g3 o],g4⟩
 have iz:∀(m:Nat) (t:Ty),x.1[m]?=some t→t.one=true∧Rep C.cap σ' t (cs.toList.getD m undef) (es.getD m .none):=fun m t hm=>by
  obtain⟨g1,g2⟩:=bH m t hm;rw[gw] at g2;exact⟨g1,g2.mono hle⟩
 intro ρ' ah;cases ag with
 |true=>
  simp only[cond_true] at hr;cases hr;have:=qz ah;subst this;refine⟨_,_,_,key (.agg x.1) (.agg cs.toList.toArray) _ ?_ (fun i u hu=>by simpa [Value.cells] using hu)⟩;simp only[PE.ev,he];exact .agg _ _ _ (by simp;omega) (by omega) (fun m t hm=>(iz m t hm).2) (fun m t hm=>(iz m t hm).1)
 |false=>
  simp only[cond_false] at hr;split at hr
  ·rename_i t e et ee;cases hr;have:=qz ah;subst this;obtain⟨g1,g2⟩:=iz 0 t (by rw[et];rfl);have ja:es=[e.ev ρ]:=by rw[←oA,ee];rfl
   subst ja;refine⟨_,_,_,key t (cs.toList.getD 0 undef) _ (by simpa using g2) (fun i u hu=>?_)⟩;rw[(g2.oneCell g1).1] at hu;have hi:i=0:=by
        have:=(fX.1 hu).1;simpa using this
   subst hi;simp at hu;subst hu;have:0<cs.size:=by rw[h4];rw[et] at l1;simp at l1;omega
   rw[fj this];simp[aG,fj this]
  ·cases hr
theorem Inv.mv (h:Inv C S ρ σ own hv w0 σ0 A a w){j j':Nat}(ay:j≠j')(hk:ko (S.o j)=true):
 Inv C (S.mv j j') (ρ.setO j' (ρ.o j)) σ (fun k=>if own k=some j then some j' else if own k=some j' then none else own k) (bN hv j' (hv j)) w0 σ0 A a w:=by
 have aU:=h.objs j
 refine h.step (fun i=>i=j∨i=j') rfl (.refl σ) h.ok (fun _ _ _ hx=>.inl hx) (fun _ _ hx=>.inl hx) (.refl _ _) ⟨fun i=>?_,fun i e=>?_⟩ (fun i hi=>?_) (fun i hi=>?_) (fun k i hk=>?_) (fun _=>id) (fun t=>.inl ⟨rfl,rfl,rfl⟩) (fun _ _=>rfl) (fun _ _ _=>rfl) (fun k i hk=>by
        split at hk
        ·rename_i e;exact .inl ⟨j,e⟩
        ·split at hk
         ·cases hk
         ·exact .inl ⟨i,hk⟩) (fun i hi=>by
        rcases hi with rfl|rfl
        ·simp[St.mv,aJ]
        ·simp only[St.mv,bf _ _ (uH ay),aJ];intro e;rw[e] at hk;cases hk)
 ·simp only[St.mv,eR];split
  ·rename_i e;subst e;omega
  ·split
   ·rename_i e;subst e;omega
   ·omega
 ·simp only[St.mv,eR] at e;split at e
  ·rename_i e';subst e';omega
  ·split at e
   ·rename_i e';subst e';omega
   ·rename_i Mf;exact bf _ _ Mf
 ·simp only[not_or] at hi;refine⟨by simp[St.mv,bf _ _ hi.1,bf _ _ hi.2],by simp[Env.setO,bf _ _ hi.2],bf _ _ hi.2,fun k hk=>⟨?_,rfl⟩⟩;have e1:i≠j:=hi.1;have e2:i≠j':=hi.2;simp[hk,e1,e2]
 ·rcases hi with rfl|rfl
  ·simp only[St.mv,aJ];trivial
  ·simp only[St.mv,bf _ _ (uH ay),aJ];cases cu:S.o j with
   |row T e=>
    rw[cu] at aU;obtain⟨cells,xs,h1,h2,h3,h4⟩:=aU;refine⟨cells,xs,by simp only[Env.setO,aJ];exact h1,by rw[aJ];exact h2,h3,fun k hk=>?_⟩;rw[aJ] at hk;simp[h4 k hk]
   |mp kt et=>
    rw[cu] at aU;obtain⟨k0,arr,clock,es,h1,h2,h3,h4,h5,h6⟩:=aU;exact⟨k0,arr,clock,es,by rw[aJ];exact h1,by simp[h2],h3,by simp only[Env.setO,aJ];exact h4,h5,h6⟩
   |_=>rw[cu] at hk;simp[ko] at hk
 ·split at hk
  ·rename_i e;exact h.owns k j e
  ·split at hk
   ·cases hk
   ·exact h.owns k i hk
theorem anu (h:Inv C S ρ σ own hv w0 σ0 A a w){t j':Nat}{r:St×List PI}(hr:wP S t j'=some r):AI C w0 σ0 Φ S ρ A a w r:=by
 intro ρ' ah;unfold wP at hr;split at hr
 ·rename_i j ver es;cases hb:(Nat.beq ver (S.ver j)&&ko (S.o j)&& !Nat.beq j j')<;>simp only[hb,cond_true,cond_false] at hr
  ·cases hr;rw[mI ah];exact⟨_,_,_,h⟩
  ·cases hr;simp only[aj,hZ] at hb;have dm:=av hb.1.1;have ay:j≠j':=fun e=>by subst e;simp at hb
   have kL:=h.mv ay hb.1.2;have fO:=h.regs t;rw[es] at fO;have bX:=fO.2 dm;rw[qz ah];refine⟨_,_,_,kL.step (S':=(S.mv j j').setR t (.obj j' (S.ver j'+1))) (fun _=>False) rfl (.refl σ) kL.ok (fun _ _ _ hx=>.inl hx) (fun _ _ hx=>.inl hx) (.refl _ _) ⟨fun _=>aW _,fun _ _=>rfl⟩ (fun i _=>⟨rfl,rfl,rfl,fun k hk=>⟨hk,rfl⟩⟩) (fun _ hf=>hf.elim) kL.owns (fun _=>id) (fun u=>?_) (fun _ _=>rfl) (fun _ _ _=>rfl) (fun k i hk=>.inl ⟨i,hk⟩) (fun _ hf=>hf.elim)⟩;by_cases hu:u=t
   ·subst hu;refine .inr ⟨?_,fun gs s e=>by simp[St.setR,aJ] at e⟩;simp only[St.setR,aJ];refine⟨?_,fun _=>?_⟩
    ·simp[St.mv,bf _ _ (uH ay),aJ]
    ·rw[aJ];exact bX
   ·exact .inl ⟨by simp[St.setR,bf _ _ hu],rfl,rfl⟩
 ·cases hr;rw[mI ah];exact⟨_,_,_,h⟩
theorem ant (h:Inv C S ρ σ own hv w0 σ0 A a w){b i j':Nat}{r:St×List PI}(hr:Es S b i j'=some r):AI C w0 σ0 Φ S ρ A a w r:=by
 intro ρ' ah;unfold Es at hr;split at hr
 ·rename_i ag shs eo;split at hr
  ·rename_i j ver es;cases hb:(Nat.beq ver (S.ver j)&&ko (S.o j)&& !Nat.beq j j'&& !Nat.beq b j'&& !Nat.beq b j)<;>simp only[hb,cond_true,cond_false] at hr
   ·cases hr;rw[mI ah];exact⟨_,_,_,h⟩
   ·cases hr;simp only[aj,hZ] at hb;have dm:=av hb.1.1.1.1;have ay:j≠j':=fun e=>by subst e;simp at hb
    have dJ:b≠j':=fun e=>by subst e;simp at hb
    have bT:b≠j:=fun e=>by subst e;simp at hb
    have aU:=h.objs b;rw[eo] at aU;obtain⟨k,cs,T,ds,h1,h2,h3,h4,h5,h6,h7⟩:=aU;have bX:=(h7 i _ es).2.2 dm;have kL:=h.mv ay hb.1.1.1.2;rw[qz ah];have Lb:(S.mv j j').o b=.box ag shs:=by simp[St.mv,bf _ _ dJ,bf _ _ bT,eo]
    have CC:=kL.objs b;rw[Lb] at CC;refine⟨_,_,_,kL.step (S':=(S.mv j j').setO b (.box ag (shs.set i (.obj j' (S.ver j'+1))))) (fun m=>m=b) rfl (.refl σ) kL.ok (fun _ _ _ hx=>.inl hx) (fun _ _ hx=>.inl hx) (.refl _ _) ⟨fun _=>aW _,fun _ _=>rfl⟩ (fun m hm=>⟨by simp[St.setO,bf _ _ hm],rfl,rfl,fun k hk=>⟨hk,rfl⟩⟩) (fun m hm=>?_) kL.owns (fun _=>id) (fun t=>.inl ⟨rfl,rfl,rfl⟩) (fun _ _=>rfl) (fun _ _ _=>rfl) (fun k i hk=>.inl ⟨i,hk⟩) (fun m hm=>by subst hm;simp[St.setO,aJ])⟩;subst hm;rw[St.setO_o];obtain⟨k1,Bu,T1,Bx,g1,g2,g3,g4,g5,g6,g7⟩:=CC;have e1:Bu=cs:=by
     rw[bf _ _ dJ,h1] at g1;cases g1;rw[h3] at g3;cases g3;rfl
    refine⟨k1,Bu,T1,Bx,g1,g2,g3,by simpa using g4,g5,by simpa using g6,fun q x hq=>?_⟩;rw[AJ] at hq;split at hq
    ·rename_i e;subst e;split at hq
     ·cases hq;refine⟨(fun _ _ e=>by cases e),?_,fun _=>?_⟩
      ·simp[St.setO,St.mv,bf _ _ (uH ay),aJ]
      ·rw[aJ,e1];exact bX
     ·cases hq
    ·obtain⟨f1,f2⟩:=g7 q x hq;exact⟨f1,f2.mono' (.refl σ) (Compat.setO _ _ _ _) f1⟩
  ·cases hr;rw[mI ah];exact⟨_,_,_,h⟩
 ·cases hr;rw[mI ah];exact⟨_,_,_,h⟩
theorem aiD (h:Inv C S ρ σ own hv w0 σ0 A a w){b i j:Nat}{T:TypeId}{r:St×List PI}(hr:CE C S b i j T=some r):AI C w0 σ0 Φ S ρ A a w r:=by
 intro ρ' ah;unfold CE at hr;split at hr
 ·rename_i ag shs eo;split at hr
  ·rename_i e0 e es et;cases hb:(!Nat.beq b j)<;>simp only[hb,cond_true,cond_false] at hr
   ·cases hr;rw[mI ah];exact⟨_,_,_,h⟩
   ·cases hr;have ay:b≠j:=fun e=>by subst e;simp at hb
    have aU:=h.objs b;rw[eo] at aU;obtain⟨k,cs,T0,ds,h1,h2,h3,h4,h5,h6,h7⟩:=aU;have bX:cs.getD i undef=.slice none 0 0:=by
     have:=(h7 i _ es).2;generalize cs.getD i undef=v at this;generalize ds.getD i .none=d at this;cases this;rfl
    have kN:=h.newO j (.row T e) (.list []) (.slice none 0 0) (fun _=>false) (.refl _ _) (by simp) ⟨[],[],by simp[Env.setO,aJ],by rw[aJ];exact World.ownsRow_nil _ _ _ _,⟨fun _=>undef,by simp,by simp⟩,by rw[aJ];simp[Value.ownBlock]⟩;rw[qz ah];have Lb:(S.newO j (.row T e)).o b=.box ag shs:=by simp[St.newO,bf _ _ ay,eo]
    have CC:=kN.objs b;rw[Lb] at CC;refine⟨_,_,_,kN.step (S':=(S.newO j (.row T e)).setO b (.box ag (shs.set i (.obj j (S.ver j+1))))) (fun m=>m=b) rfl (.refl σ) kN.ok (fun _ _ _ hx=>.inl hx) (fun _ _ hx=>.inl hx) (.refl _ _) ⟨fun _=>aW _,fun _ _=>rfl⟩ (fun m hm=>⟨by simp[St.setO,bf _ _ hm],rfl,rfl,fun k hk=>⟨hk,rfl⟩⟩) (fun m hm=>?_) kN.owns (fun _=>id) (fun t=>.inl ⟨rfl,rfl,rfl⟩) (fun _ _=>rfl) (fun _ _ _=>rfl) (fun k i hk=>.inl ⟨i,hk⟩) (fun m hm=>by subst hm;simp[St.setO,aJ])⟩;subst hm;rw[St.setO_o];obtain⟨k1,Bu,T1,Bx,g1,g2,g3,g4,g5,g6,g7⟩:=CC;have e1:Bu=cs:=by
     rw[bf _ _ ay,h1] at g1;cases g1;rw[h3] at g3;cases g3;rfl
    refine⟨k1,Bu,T1,Bx,g1,g2,g3,by simpa using g4,g5,by simpa using g6,fun q x hq=>?_⟩;rw[AJ] at hq;split at hq
    ·rename_i e';subst e';split at hq
     ·cases hq;refine⟨(fun _ _ e=>by cases e),?_,fun _=>?_⟩
      ·simp[St.setO,St.newO,aJ]
      ·rw[aJ,e1];exact bX
     ·cases hq
    ·obtain⟨f1,f2⟩:=g7 q x hq;exact⟨f1,f2.mono' (.refl σ) (Compat.setO _ _ _ _) f1⟩
  ·cases hr;rw[mI ah];exact⟨_,_,_,h⟩
 ·cases hr;rw[mI ah];exact⟨_,_,_,h⟩
end
end Cx
namespace Cx
open Go Go.RowKit
def mkObj (S:St)(dst:Nat)(ob:Ob):St:=(S.newO dst ob).setR dst (.obj dst (S.ver dst+1))
def mkPtr (S:St)(dst:Nat)(ob:Ob):St:=(S.newO dst ob).setR dst (.ptr dst (S.ver dst+1) 0)
abbrev j7:=Option (St×List PI)
def BI (C:Ctx)(S:St)(dst:Nat)(T:TypeId)(x:Operand):j7:=
 match use C S [] x,C.P.underlying T with
 |some (.nils _,_),some (.slice E)=>(nJ C.P E).map fun e=>(mkObj S dst (.row E e),[.setO dst (.con (.list [])),.setR dst (.con .none)])
 |_,_=>Option.none
def By (C:Ctx)(S:St)(dst:Nat)(T:TypeId):j7:=
 match nJ C.P T,C.P.info? T,oK C.P T with
 |some t,some inf,some ag=>
  bif sA inf t&&(t.rowT||t.one) then
   (nK t).map fun z=>(mkPtr S dst (.box ag (z.1.flat.map .dat)),[.setO dst (.con (.agg z.2.cells)),.setR dst (.con .none)])
  else Option.none
 |_,_,_=>Option.none
def BA (C:Ctx)(S:St)(dst:Nat)(T:TypeId)(x:Operand):j7:=
 match use C S [] x,oK C.P T with
 |some (t,e),some ag=>
  bif t.rowT||t.one then some (mkPtr S dst (.box ag (t.flat.map .dat)),[.setO dst (.mk [e]),.setR dst (.con .none)]) else Option.none
 |Option.none,some true=>
  match eE S [] x with
  |.agg l=>some (mkPtr S dst (.box true (l.map AgC.sh)),[.setO dst (pq x),.setR dst (.con .none)])
  |_=>Option.none
 |_,_=>Option.none
def BF (C:Ctx)(S:St)(dst:Nat)(T:TypeId)(r:Option Operand):j7:=
 match C.P.underlying T,r with
 |some (.map K E),Option.none=>
  (nJ C.P K).bind fun kt=>(nJ C.P E).map fun et=>(mkObj S dst (.mp kt et),[.setO dst (.con (.map [])),.setR dst (.con .none)])
 |_,_=>Option.none
def BG (C:Ctx)(S:St)(dst:Nat)(T:TypeId)(l c:Operand):j7:=
 match C.P.underlying T,use C S [] l,use C S [] c with
 |some (.slice E),some (.int _,n),some (.int _,m)=>
  (nJ C.P E).bind fun e=>
    bif pQ C.P E e then
     (nK e).bind fun z=>
        bif Ty.sub z.1 e then some (mkObj S dst (.row E e),[.chk (Nk n),.chk (.ci .eql n m),.setO dst (.rep n (.con z.2)),.setR dst (.con .none)]) else Option.none
    else Option.none
 |_,_,_=>Option.none
def BJ (C:Ctx)(S:St)(dst:Nat)(T:TypeId)(x:Operand):j7:=
 match C.P.underlying T,eE S [] x with
 |some (.map _ _),.obj j ver=>
  bif Nat.beq ver (S.ver j)&& !Nat.beq j dst then
   match S.o j with
   |.mp kt et=>some (mkObj (S.mv j dst) dst (.it kt et),[.setO dst (.tup [.lst [],.o j]),.setR dst (.con .none)])
   |_=>Option.none
  else Option.none
 |_,_=>Option.none
def BB (C:Ctx)(S:St)(dst:Nat)(s d:TypeId)(x:Operand):j7:=
 match use C S [] x,C.P.underlying s,C.P.underlying d with
 |some (.str,e),some .string,some (.slice E)=>
  (match C.P.underlying E with
   |some (.int .u8)=>some (S.setR dst (.dat (.slice (.int .u8))),[.chk (.ci .leq (.slen e) (.con (.int mz))),.setR dst (.bytes e)])
   |_=>Option.none)
 |_,_,_=>Option.none
section
variable {C:Ctx} {S:St} {ρ:Env} {σ:Im} {own:Nat→Option Nat} {hv:Nat→Value} {w0:World} {σ0:Base} {A:Nat→Prop} {a:Act} {w:World} {gs:List (Nat×Bool)} {Φ:aK} {dst:Nat}
def bO (C:Ctx)(w0:World)(σ0:Base)(Φ:aK)(S:St)(ρ:Env)(A:Nat→Prop)(a:Act)(w:World)(o:Oper)(r:St×List PI):Prop:=
 ∀ρ',PI.runs Φ r.2 ρ=some ρ'→∀(K:Act→World→Prop) (Q:Exit→Act→World→Prop),(∀a' w',Good C w0 σ0 r.1 ρ' (fun u=>A u∨o.dst=some u) a' w'→a'.tmps.size=a.tmps.size→K a' w')→o.wp C.P a w K Q
theorem size_put (a:Act)(d:Option Tmp)(v:Value):(a.put d v).tmps.size=a.tmps.size:=by
 cases d<;>simp[Act.put]
theorem bO.value {o:Oper}{r:St×List PI}(hd:o.dst=some dst)(hx:∀ρ',PI.runs Φ r.2 ρ=some ρ'→∃v w',(execOp a.eval o).run C.P w=.ok (.value v) w'∧Good C w0 σ0 r.1 ρ' (fun u=>A u∨u=dst) (a.put (some dst) v) w'):bO C w0 σ0 Φ S ρ A a w o r:=by
 intro ρ' ah K Q hK;obtain⟨v,w',h1,h2⟩:=hx ρ' ah;simp only[Oper.wp,h1,Oper.upon,hd];refine hK _ _ ?_ (size_put _ _ _)
 have:(fun u=>A u∨o.dst=some u)=(fun u=>A u∨u=dst):=by
  funext u;rw[hd];simp[eq_comm]
 rw[this];exact h2
theorem bO.skip {o:Oper}{r:St×List PI}(hd:o.dst=none)(hx:∀ρ',PI.runs Φ r.2 ρ=some ρ'→∃w',(execOp a.eval o).run C.P w=.ok .skip w'∧Good C w0 σ0 r.1 ρ' A a w'):bO C w0 σ0 Φ S ρ A a w o r:=by
 intro ρ' ah K Q hK;obtain⟨w',h1,h2⟩:=hx ρ' ah;simp only[Oper.wp,h1,Oper.upon,hd]
 have:(fun u=>A u∨o.dst=some u)=A:=by
  funext u;rw[hd];simp
 rw[this] at hK;exact hK _ _ h2 (size_put _ _ _)
theorem dW.eff (h:Inv C S ρ σ own hv w0 σ0 A a w)(ht:¬A dst)(af:dst<a.tmps.size){o:Oper}(hd:o.dst=some dst){s:Sh}{Dp:List PI}(hq:dW C S ρ σ hv Φ dst a w o (s,Dp)):bO C w0 σ0 Φ S ρ A a w o (S.setR dst s,Dp):=by
 refine bO.value hd fun ρ' ah=>?_;obtain⟨v,d,rfl,h1,h2,h3⟩:=hq ρ' ah;exact⟨v,w,h1,σ,own,hv,h.setReg ht (aD.mono' (.refl σ) (.refl S hv) h3 h2) af (fun gs s' e=>absurd e (h3 gs s'))⟩
theorem dW.effG (h:Inv C S ρ σ own hv w0 σ0 A a w)(ht:¬A dst)(af:dst<a.tmps.size)(dC:∀g,g∈gs→A g.1)(hg:holds gs ρ=true){o:Oper}(hd:o.dst=some dst){s:Sh}{Dp:List PI}(hq:dW C S ρ σ hv Φ dst a w o (s,Dp)):bO C w0 σ0 Φ S ρ A a w o (S.setR dst (.opt gs s),Dp):=by
 refine bO.value hd fun ρ' ah=>?_;obtain⟨v,d,rfl,h1,h2,h3⟩:=hq ρ' ah;have hh:holds gs (ρ.setR dst d)=true:=by rw[CD (t:=dst) (d:=d) fun g hm e=>ht (by rw[←e];exact dC g hm)];exact hg
 refine⟨v,w,h1,σ,own,hv,h.setReg ht ⟨fun _=>aD.mono' (.refl σ) (.refl S hv) h3 h2,fun e=>absurd (hh.symm.trans e) (by decide)⟩ af (fun bI s' e=>?_)⟩;cases e;exact⟨dC,h3⟩
theorem Inv.passed (h:Inv C S ρ σ own hv w0 σ0 A a w)(ht:¬A dst)(af:dst<a.tmps.size)(dC:∀g,g∈gs→A g.1)(hg:holds gs ρ=false){s:Sh}(hs:∀bI s',s≠.opt bI s')(d:D):Inv C (S.setR dst (.opt gs s)) (ρ.setR dst d) σ own hv w0 σ0 (fun u=>A u∨u=dst) (a.put (some dst) undef) w:=by
 have hh:holds gs (ρ.setR dst d)=false:=by rw[CD (t:=dst) (d:=d) fun g hm e=>ht (by rw[←e];exact dC g hm)];exact hg
 refine h.setReg ht (s:=.opt gs s) (v:=undef) (d:=d) ⟨fun e=>absurd (hh.symm.trans e) (by decide),fun _=>rfl⟩ af (fun bI s' e=>?_);cases e;exact⟨dC,hs⟩
theorem Inv.mkObj (h:Inv C S ρ σ own hv w0 σ0 A a w)(ht:¬A dst)(af:dst<a.tmps.size)(ob:Ob)(d:D)(v:Value)(nb:Nat→Bool){w':World}(hw:Below w.heap.size w w')(cW:∀k,nb k=true→w.heap.size≤k∧k<w'.heap.size)
 (cu:bS C (S.newO dst ob) (ρ.setO dst d) σ (ff own dst nb) (bN hv dst v) w' w0.heap.size dst ob) (mj:ob≠.tr:=by intro h;cases h):
 Good C w0 σ0 (Cx.mkObj S dst ob) ((ρ.setO dst d).setR dst .none) (fun u=>A u∨u=dst) (a.put (some dst) v) w':=by
 have h1:=h.newO dst ob d v nb hw cW cu mj;have h2:=h1.setObj ht (j:=dst) (v:=v) (aJ _ _ _) af;have e:(S.newO dst ob).ver dst=S.ver dst+1:=aJ _ _ _;rw[e] at h2;exact⟨_,_,_,h2⟩
theorem Inv.mkPtr (h:Inv C S ρ σ own hv w0 σ0 A a w)(ht:¬A dst)(af:dst<a.tmps.size)(ob:Ob)(d:D)(k:Nat)(nb:Nat→Bool){w':World}(hw:Below w.heap.size w w')(cW:∀k,nb k=true→w.heap.size≤k∧k<w'.heap.size)
 (cu:bS C (S.newO dst ob) (ρ.setO dst d) σ (ff own dst nb) (bN hv dst (.pointer (some ⟨k,0,none⟩))) w' w0.heap.size dst ob) (mj:ob≠.tr:=by intro h;cases h):
 Good C w0 σ0 (Cx.mkPtr S dst ob) ((ρ.setO dst d).setR dst .none) (fun u=>A u∨u=dst) (a.put (some dst) (.pointer (some ⟨k,0,none⟩))) w':=by
 have h1:=h.newO dst ob d _ nb hw cW cu mj;have e:(S.newO dst ob).ver dst=S.ver dst+1:=aJ _ _ _;have h2:=h1.setReg ht (s:=.ptr dst (S.ver dst+1) 0) (v:=.pointer (some ⟨k,0,none⟩)) (d:=.none) ⟨Nat.le_of_eq e.symm,fun _=>⟨k,aJ _ _ _,rfl⟩⟩ af (fun _ _ e=>by cases e);exact⟨_,_,_,h2⟩
theorem Aj {e:PE}{ρ':Env}(h:PI.runs Φ [.setO dst e,.setR dst (.con .none)] ρ=some ρ'):ρ'=(ρ.setO dst (e.ev ρ)).setR dst .none:=by
 simp[PI.runs,PI.run,PE.ev] at h;exact h.symm
theorem TA (h:Inv C S ρ σ own hv w0 σ0 A a w){t:Ty}{v:Value}{d:D}(hr:Rep C.cap σ t v d)(ho:t.rowT=true∨t.one=true)(ag:Bool)(T:TypeId):
 bS C (S.newO dst (.box ag (t.flat.map .dat))) (ρ.setO dst (.agg d.cells)) σ (ff own dst (fun k=>Nat.beq k w.heap.size)) (bN hv dst (.pointer (some ⟨w.heap.size,0,none⟩))) (w.alloc (.cells v.cells T)) w0.heap.size dst (.box ag (t.flat.map .dat)):=by
 obtain⟨f1,f2,f3⟩:=hr.flat ho;refine⟨w.heap.size,v.cells,T,d.cells,aJ _ _ _,by simp[ff],heap_alloc_new w _,by rw[hr.size];simp[f1],by simp[Env.setO,aJ],by simp[f1,f2],fun i s hi=>?_⟩;simp only[cg,ax] at hi;obtain⟨ti,MN,rfl⟩:=hi;exact⟨fun _ _ e=>(by cases e),(f3 i ti MN).2⟩
theorem aeT (h:Inv C S ρ σ own hv w0 σ0 A a w)(hC:CtxOK C σ0)(ht:¬A dst)(af:dst<a.tmps.size){T:TypeId}{x:Operand}{r:St×List PI}(hr:BI C S dst T x=some r){o:Oper}(hd:o.dst=some dst)(ho:o.op=.assign x):bO C w0 σ0 Φ S ρ A a w o r:=by
 unfold BI at hr;split at hr
 case h_2=>cases hr
 rename_i e0 e1 E hu hT;simp only[ax] at hr;obtain⟨e,he,rfl⟩:=hr;have hx:=cf h hC rfl hu;have bX:a.eval x=.slice none 0 0:=by
  generalize a.eval x=v at hx;generalize e1.ev ρ=d at hx;cases hx;rfl
 refine bO.value hd fun ρ' ah=>⟨.slice none 0 0,w,by simp[execOp,ho,bX],?_⟩
 rw[Aj ah];exact h.mkObj ht af (.row E e) _ _ (fun _=>false) (.refl _ _) (by simp) ⟨[],[],by simp[Env.setO,aJ,PE.ev],by rw[aJ];exact World.ownsRow_nil _ _ _ _,⟨fun _=>undef,by simp,by simp⟩,by rw[aJ];simp[Value.ownBlock]⟩
theorem aep (h:Inv C S ρ σ own hv w0 σ0 A a w)(ht:¬A dst)(af:dst<a.tmps.size){T:TypeId}{r:St×List PI}(hr:By C S dst T=some r){o:Oper}(hd:o.dst=some dst)(ho:o.op=.alloc T):bO C w0 σ0 Φ S ρ A a w o r:=by
 unfold By at hr;split at hr
 case h_2=>cases hr
 rename_i t inf ag MS hi ha;cases hc:(sA inf t&&(t.rowT||t.one))<;>simp only[hc,cond_true,cond_false] at hr
 ·cases hr
 simp only[aj,fG] at hc;simp only[ax] at hr;obtain⟨z,hz,rfl⟩:=hr;obtain⟨v0,rH,zg⟩:∃v0,inf.zero=some v0∧jm t v0=true:=by
  have:=hc.1;unfold sA at this;split at this
  ·exact⟨_,by assumption,this⟩
  ·cases this
 obtain⟨k1,k2,k3⟩:=w8 (cap:=C.cap) (σ:=σ) hz zg;have rF:z.1.rowT=true∨z.1.one=true:=by
  rcases hc.2 with e|e
  ·left;cases t<;>simp[Ty.rowT] at e;simp[nK] at hz;obtain⟨_,_,rfl⟩:=hz;rfl
  ·right;rw[k3];exact e
 refine bO.value hd fun ρ' ah=>⟨.pointer (some ⟨w.heap.size,0,none⟩),w.alloc (.cells v0.cells T),?_,?_⟩
 ·simp[execOp,ho,Instr.alloc,zeroValue,run_typeInfo w hi,rH,newVar,newRow]
 ·rw[Aj ah];exact h.mkPtr ht af _ _ _ (fun k=>Nat.beq k w.heap.size) ((Below.refl _ _).alloc (aW _) _) (fun k hk=>by simp at hk;simp;omega) (TA h k1 rF ag T)
theorem Compat.newO (S:St)(hv:Nat→Value)(j:Nat)(ob:Ob)(v:Value):Compat S hv (S.newO j ob) (bN hv j v):=by
 refine⟨fun i=>?_,fun i e=>?_⟩
 ·simp only[St.newO,eR];split<;>rename_i e
  ·subst e;omega
  ·omega
 ·simp only[St.newO,eR] at e;split at e
  ·rename_i e';subst e';omega
  ·rename_i ay;exact bf _ _ ay
theorem aet (h:Inv C S ρ σ own hv w0 σ0 A a w)(hC:CtxOK C σ0)(ht:¬A dst)(af:dst<a.tmps.size){T:TypeId}{x:Operand}{r:St×List PI}(hr:BA C S dst T x=some r){o:Oper}(hd:o.dst=some dst)(ho:o.op=.box T x):bO C w0 σ0 Φ S ρ A a w o r:=by
 unfold BA at hr;split at hr
 case h_3=>cases hr
 case h_2=>
  rename_i hu ha;split at hr
  case h_2=>cases hr
  rename_i l fw;cases hr;have fO:=(qB h (gs:=[]) rfl x).1;rw[fw] at fO;obtain⟨vs,ds,e1,e2,e3,e4,e5⟩:=fO;refine bO.value hd fun ρ' ah=>⟨.pointer (some ⟨w.heap.size,0,none⟩),w.alloc (.cells (a.eval x).cells T),?_,?_⟩
  ·simp[execOp,ho,Instr.box,newVar,newRow]
  ·rw[Aj ah,e2];refine h.mkPtr ht af _ _ _ (fun k=>Nat.beq k w.heap.size) ((Below.refl _ _).alloc (aW _) _) (fun k hk=>by simp at hk;simp;omega) ⟨w.heap.size,(a.eval x).cells,T,ds,aJ _ _ _,by simp[ff],heap_alloc_new w _,by rw[e1];simp[Value.cells,e3],by simp[Env.setO,aJ],by simp[e4],fun i s hi=>?_⟩;simp only[cg,ax] at hi;obtain⟨c,hc,rfl⟩:=hi;have bF:(a.eval x).cells.getD i undef=vs.getD i undef:=by rw[e1];simp[Value.cells,aG,dH]
   have h6:=(e5 i c hc).monoR (Im.le.leR (.refl σ)) (Compat.newO S hv dst (.box true (l.map AgC.sh)) (.pointer (some ⟨w.heap.size,0,none⟩)));rw[bF];cases c with
   |dat t=>exact⟨fun _ _ e=>(by cases e),h6.2⟩
   |obj j ver=>exact⟨fun _ _ e=>(by cases e),h6⟩
 rename_i t e ag hu ha;cases hc:(t.rowT||t.one)<;>simp only[hc,cond_true,cond_false] at hr
 ·cases hr
 cases hr;simp only[fG] at hc;have hx:=cf h hC rfl hu;refine bO.value hd fun ρ' ah=>⟨.pointer (some ⟨w.heap.size,0,none⟩),w.alloc (.cells (a.eval x).cells T),?_,?_⟩
 ·simp[execOp,ho,Instr.box,newVar,newRow]
 ·rw[Aj ah];have:(PE.mk [e]).ev ρ=.agg (e.ev ρ).cells:=by simp[PE.ev,PE.evc]
  rw[this];exact h.mkPtr ht af _ _ _ (fun k=>Nat.beq k w.heap.size) ((Below.refl _ _).alloc (aW _) _) (fun k hk=>by simp at hk;simp;omega) (TA h hx hc ag T)
theorem aeN (h:Inv C S ρ σ own hv w0 σ0 A a w)(ht:¬A dst)(af:dst<a.tmps.size){T:TypeId}{m:Option Operand}{r:St×List PI}(hr:BF C S dst T m=some r){o:Oper}(hd:o.dst=some dst)(ho:o.op=.makeMap T m):bO C w0 σ0 Φ S ρ A a w o r:=by
 unfold BF at hr;split at hr
 case h_2=>cases hr
 rename_i K E hT;simp only[aq,ax] at hr;obtain⟨kt,hk,et,he,rfl⟩:=hr;refine bO.value hd fun ρ' ah=>⟨.map (some w.heap.size),w.alloc (.map #[] 0),?_,?_⟩
 ·simp[execOp,ho,Instr.makeMap]
 ·rw[Aj ah]
  exact h.mkObj ht af (.mp kt et) _ _ (fun k=>Nat.beq k w.heap.size) ((Below.refl _ _).alloc (aW _) _) (fun k hk=>by simp at hk;simp;omega)
   ⟨w.heap.size,#[],0,[],aJ _ _ _,by simp[ff],heap_alloc_new w _,by simp[Env.setO,aJ,PE.ev],rfl,⟨by simp,by simp[lY]⟩,by simp⟩
theorem aeV (h:Inv C S ρ σ own hv w0 σ0 A a w)(ht:¬A dst)(af:dst<a.tmps.size){T:TypeId}{x:Operand}{r:St×List PI}(hr:BJ C S dst T x=some r){o:Oper}(hd:o.dst=some dst)(ho:o.op=.range T x):bO C w0 σ0 Φ S ρ A a w o r:=by
 unfold BJ at hr;split at hr
 case h_2=>cases hr
 rename_i K E j ver hT es;obtain⟨dE,_⟩:=qB h (gs:=[]) rfl x;rw[es] at dE;cases hb:(Nat.beq ver (S.ver j)&& !Nat.beq j dst)<;>simp only[hb,cond_true,cond_false] at hr
 ·cases hr
 simp only[aj,hZ] at hb;have bX:=dE.2 (av hb.1);have ay:j≠dst:=fun e=>by subst e;simp at hb
 have aU:=h.objs j;split at hr
 case h_2=>cases hr
 rename_i kt et eo;cases hr;rw[eo] at aU;obtain⟨m,arr,clock,ds,h1,h2,h3,h4,h5,⟨h6,pX⟩,h7⟩:=aU;have kL:=h.mv ay (by rw[eo];rfl);have oC:m<w.heap.size:=(fX.1 h3).1;have L7:w0.heap.size≤m:=(h.owns m j h2).1;refine bO.value hd fun ρ' ah=>⟨.pointer (some ⟨w.heap.size,0,none⟩),w.alloc (.mapIter (some m) clock #[] clock),?_,?_⟩
 ·simp[execOp,ho,Instr.range,bX,h1,run_underlying hT,getObj,Sem.run,h3]
 have hρ:ρ'=((ρ.setO dst (.tup [.list [],.map ds])).setR dst .none):=by
  simp[PI.runs,PI.run,PE.ev,PE.evs,h4] at ah;exact ah.symm
 subst hρ;have eh:Below w.heap.size w (w.alloc (.mapIter (some m) clock #[] clock)):=(Below.refl _ _).alloc (aW _) _;have MI:=kL.step (S':=(S.mv j dst).newO dst (.it kt et)) (ρ':=(ρ.setO dst (.tup [.list [],.map ds]))) (σ':=σ) (hv':=bN (bN hv dst (hv j)) dst (.pointer (some ⟨w.heap.size,0,none⟩)))
  (own':=fun k=>if k=w.heap.size then some dst else(if own k=some j then some dst else if own k=some dst then none else own k)) (a':=a) (A':=A) (w':=w.alloc (.mapIter (some m) clock #[] clock)) (fun i=>i=dst)
  rfl (.refl σ) (h.ok.below eh) (fun _ _ _ hx=>.inl hx) (fun _ _ hx=>.inl hx) (eh.mono h.below.size) ⟨fun i=>?_,fun i e=>?_⟩ (fun i hi=>⟨?_,?_,?_,fun k hk=>⟨?_,?_⟩⟩) (fun i hi=>?_) (fun k i hk=>?_) (fun _=>id) (fun t=>.inl ⟨rfl,rfl,rfl⟩) (fun _ _=>rfl) (fun k hk _=>eh.block k hk) (fun k i hk=>?_) (fun i hi=>by subst hi;simp[St.newO,aJ])
 ·have gz:=MI.setObj ht (j:=dst) (v:=.pointer (some ⟨w.heap.size,0,none⟩)) (aJ _ _ _) af;have e:((S.mv j dst).newO dst (.it kt et)).ver dst=(S.mv j dst).ver dst+1:=aJ _ _ _;rw[e] at gz;exact⟨_,_,_,gz⟩
 ·simp only[St.newO,eR];split<;>rename_i e
  ·subst e;omega
  ·omega
 ·simp only[St.newO,eR] at e;split at e
  ·rename_i e';subst e';omega
  ·rename_i Mf;exact bf _ _ Mf
 ·simp[St.newO,bf _ _ hi]
 ·simp[Env.setO,bf _ _ hi]
 ·exact bf _ _ hi
 ·have au9:=(kL.owns k i hk).2.1;have bm:k≠w.heap.size:=by omega
  simp only[if_neg bm];exact hk
 ·exact eh.block k (kL.owns k i hk).2.1
 ·subst hi;simp only[St.newO,aJ];have ei:m≠w.heap.size:=by omega
  refine⟨w.heap.size,m,arr,clock,ds,[],aJ _ _ _,by simp,by simp[ei,h2],by omega,?_,heap_alloc_new w _,by simp[Env.setO,aJ,gl],List.nodup_nil,by simp,h5,pX,h7⟩;rw[eh.block m oC];exact h3
 ·split at hk
  ·rename_i e;subst e;refine⟨h.below.size,by simp,fun o=>?_,?_⟩
   ·cases hc:σ.c w.heap.size o with
    |none=>rfl
    |some u=>have:=h.lt hc;omega
   ·cases hc:σ.m w.heap.size with
    |none=>rfl
    |some u=>have:=h.ltm hc;omega
  ·obtain⟨g1,g2,g3,g4⟩:=kL.owns k i hk;exact⟨g1,by simp;omega,g3,g4⟩
 ·split at hk
  ·rename_i e;subst e;exact .inr (aW _)
  ·exact .inl ⟨i,hk⟩
theorem aex (h:Inv C S ρ σ own hv w0 σ0 A a w)(hC:CtxOK C σ0)(ht:¬A dst)(af:dst<a.tmps.size){T U:TypeId}{x:Operand}{r:St×List PI}(hr:BB C S dst T U x=some r){o:Oper}(hd:o.dst=some dst)(ho:o.op=.convert T U x):bO C w0 σ0 Φ S ρ A a w o r:=by
 unfold BB at hr;split at hr
 case h_2=>cases hr
 rename_i e E hu hT hU;split at hr
 case h_2=>cases hr
 rename_i hE;cases hr;have hx:=cf h hC rfl hu;obtain⟨s,aO,aZ,hs⟩:=hx.str_inv;have nj:=Lib.run_convert_string_bytes (P:=C.P) w T U E s hT hU hE;refine bO.value hd fun ρ' ah=>⟨.slice (some ⟨w.heap.size,0,none⟩) s.size (grownCap w s.size 0 E),Lib.bytesWorld w E s,by simp[execOp,ho,aO,nj],?_⟩
 simp only[PI.runs,PI.run,aq] at ah;obtain⟨ρ1,g1,ρ2,g2,g3⟩:=ah;cases c1:((PE.ci BinOp.leq (.slen e) (.con (.int mz))).ev ρ).b<;>simp only[c1,cond_true,cond_false] at g1
 ·cases g1
 cases g1;cases g2;cases g3;have ah8:s.size≤4294967296:=by
  simp[PE.ev,aZ,D.s,D.i,D.b,iW,D.int,mz] at c1;omega
 have eh:Below w.heap.size w (Lib.bytesWorld w E s):=⟨rfl,rfl,rfl,by rw[Lib.bytesWorld_size];omega,fun k hk=>Lib.bytesWorld_at_old w E s k hk⟩
 have aC:(Lib.bytesWorld w E s).heap.size=w.heap.size+1:=Lib.bytesWorld_size w E s
 let σ':Im:={c:=fun k i=>if k=w.heap.size then(if i<s.size then some (.int .u8 (s.data.toList.getD i 0).toNat) else none) else σ.c k i,m:=σ.m}
 have hle:σ.le σ':=by
  refine⟨fun k o v hc=>?_,fun k es hc=>hc⟩;have:k≠w.heap.size:=by have:=h.lt hc;omega
  simp[σ',this,hc]
 have au:σ'.ok (Lib.bytesWorld w E s):=by
  refine⟨fun k i v hc=>?_,(h.ok.below eh).m,fun k i v hc=>?_⟩
  all_goals simp only[σ'] at hc
  all_goals split at hc
  ·rename_i ek;subst ek;split at hc
   ·rename_i hi;cases hc;exact Lib.bytesWorld_cell w E s i hi
   ·cases hc
  ·exact(h.ok.below eh).c k i v hc
  ·split at hc<;>cases hc
  ·exact(h.ok.below eh).f k i v hc
 have h1:=h.step (S':=S) (ρ':=ρ) (σ':=σ') (own':=own) (hv':=hv) (A':=A) (a':=a) (w':=Lib.bytesWorld w E s) (fun _=>False) rfl hle au (fun k i v hc=>?_) (fun k es hc=>.inl hc) (eh.mono h.below.size) ⟨fun _=>aW _,fun _ _=>rfl⟩
  (fun j _=>⟨rfl,rfl,rfl,fun k hk=>⟨hk,eh.block k (h.owns k j hk).2.1⟩⟩) (fun j hj=>hj.elim) (fun k j hk=>?_) (fun _=>id) (fun t=>.inl ⟨rfl,rfl,rfl⟩) (fun _ _=>rfl) (fun k hk _=>eh.block k hk) (fun k i hk=>.inl ⟨i,hk⟩) (fun _ hf=>hf.elim)
 ·refine⟨_,_,_,h1.setReg ht (s:=.dat (.slice (.int .u8))) ?_ af (fun _ _ e=>by cases e)⟩;show Rep C.cap σ' _ _ _;simp only[PE.ev,aZ,D.s];refine .slice (.int .u8) w.heap.size 0 s.size _ _ (fun i=>.int .u8 (s.data.toList.getD i 0).toNat) (by simp) (grownCap_ge w s.size 0 E) (grownCap_le_maxLen w s.size 0 E (by unfold maxLen;omega)) (fun i x hx=>?_) (fun i j u hi hu=>?_) (fun e=>by cases e)
  ·simp only[cg,ax] at hx;obtain⟨b,hb,rfl⟩:=hx;have:s.data.toList.getD i 0=b:=by simp[aG,hb]
   rw[this];have:=b.toNat_lt;exact .int .u8 _ (by show(0:Int)≤_;omega) (by show _≤(255:Int);omega)
  ·have hj:j=0:=by
        have:=(fX.1 hu).1;simp[Value.cells] at this;exact this
   subst hj;simp[Value.cells] at hu;subst hu;simp[σ',Ty.size,hi]
 ·simp only[σ'] at hc;split at hc
  ·rename_i ek;exact .inr ⟨by have:=h.below.size;omega,.inr (by omega)⟩
  ·exact .inl hc
 ·obtain⟨g1,g2,g3,g4⟩:=h.owns k j hk;refine⟨g1,by omega,fun i=>?_,g4⟩;have:k≠w.heap.size:=by omega
  simp[σ',this,g3 i]
end
end Cx
namespace Cx
open Go Go.RowKit
def Gl (C:Ctx)(S:St)(gs:List (Nat×Bool))(e:Ty)(z:D)(parts:List (Nat×Operand))(i:Nat):Option PE:=
 match parts.find? (fun p=>Nat.beq p.1 i) with
 |some p=>(use C S gs p.2).bind fun a=>bif Ty.sub a.1 e then some a.2 else Option.none
 |Option.none=>some (PE.con z)
def u7 (C:Ctx)(S:St)(gs:List (Nat×Bool))(dst:Nat)(T:TypeId)(len:Nat)(parts:List (Nat×Operand)):j7:=
 match C.P.underlying T with
 |some (.slice E)=>
  (nJ C.P E).bind fun e=>(nK e).bind fun z=>
    bif pQ C.P E e&&Ty.sub z.1 e&&gj (parts.map (·.1))&&parts.all (fun p=>Nat.blt p.1 len)&&Nat.ble (len*e.size) 16777216 then
     ((List.range len).mapM (Gl C S gs e z.2 parts)).map fun es=>(mkObj S dst (.row E e),[.setO dst (.lst es),.setR dst (.con .none)])
    else Option.none
 |_=>Option.none
def yu (C:Ctx)(S:St)(gs:List (Nat×Bool))(dst:Nat)(T:TypeId)(len:Nat)(parts:List (Nat×Operand)):j7:=
 match C.P.underlying T,u7 C S gs dst T len parts with
 |some (.slice E),some r=>
  (nJ C.P E).bind fun e=>
    match r.2 with
    |.setO _ x::_=>some ((S.newO dst .dead).setR dst (match gs with|[]=>.dat (.slice e.rol)|_=>.opt gs (.dat (.slice e.rol))),[.setR dst x])
    |_=>Option.none
 |_,_=>Option.none
def Lm (S:St):AgC→Bool
 |.dat _=>true
 |.obj j ver=>Nat.beq ver (S.ver j)&&ko (S.o j)
def sT (C:Ctx)(S:St)(T:TypeId)(x v:Operand):j7:=
 match C.P.info? T with
 |some inf=>
  match eE S [] x with
  |.ptr j ver off=>
   bif Nat.beq ver (S.ver j) then
    match S.o j with
    |.box ag shs=>
     match use C S [] v with
     |some (t,e)=>
      bif Nat.beq inf.size t.size&&(t.rowT||t.one)&&Nat.ble (off+t.size) shs.length then
             some (S.setO j (.box ag (shs.take off++t.flat.map .dat++shs.drop (off+t.size))),[.setO j (.setc (.o j) off e)])
      else Option.none
     |Option.none=>
      match eE S [] v with
      |.obj j' lU=>
       bif Nat.beq lU (S.ver j')&&ko (S.o j')&&Nat.beq inf.size 1&&Nat.blt off shs.length then
              some (S.setO j (.box ag (shs.set off (.obj j' lU))),[.setO j (.setc (.o j) off (.con .none))])
       else Option.none
      |.agg l=>
       bif Nat.beq inf.size l.length&&Nat.ble (off+l.length) shs.length&&l.all (Lm S) then
              some (S.setO j (.box ag (shs.take off++l.map AgC.sh++shs.drop (off+l.length))),[.setO j (.setc (.o j) off (pq v))])
       else Option.none
      |_=>Option.none
    |_=>Option.none
   else Option.none
  |.eptr j ver size off=>
   bif Nat.beq ver (S.ver j) then
    match S.o j,use C S [] v with
    |.row _ (.agg ts),some (t,e)=>
     bif Nat.beq inf.size t.size&&(t.rowT||t.one)&&Nat.beq size ts.length&&Nat.ble (off+t.size) ts.length&&Ty.subs t.flat ((ts.drop off).take t.size) then
         some (S,[.setO j (.setn (.o j) (pq x) off e)])
     else Option.none
    |.row _ e0,some (t,e)=>
     bif Nat.beq inf.size 1&&Nat.beq size 1&&Nat.beq off 0&&e0.one&&Ty.sub t e0 then some (S,[.setO j (.setn (.o j) (pq x) 0 e)]) else Option.none
    |_,_=>Option.none
   else Option.none
  |_=>Option.none
 |Option.none=>Option.none
def q9 (C:Ctx)(S:St)(T:TypeId)(m k v:Operand):j7:=
 match C.P.underlying T,eE S [] m with
 |some (.map K _),.obj j ver=>
  bif Nat.beq ver (S.ver j) then
   match S.o j,use C S [] k,use C S [] v with
   |.mp kt et,some (tk,ek),some (tv,ev)=>
    bif Ty.beq tk kt&&tJ C.P K kt&&Ty.sub tv et then some (S,[.chk (.ci .lss (.mlen (.o j)) (.con (.int mz))),.setO j (.put (.o j) ek ev)]) else Option.none
   |_,_,_=>Option.none
  else Option.none
 |_,_=>Option.none
def Hz (x y:PE):PE:=.ci .leq (.llen (.app x y)) (.con (.int mz))
def Je:Ty→Ty→Bool
 |.slice e',e=>Ty.beq e'.unf e
 |.nils _,_=>true
 |_,_=>false
def Bz (C:Ctx)(S:St)(dst:Nat)(T:TypeId)(s x:Operand):j7:=
 match C.P.underlying T with
 |some (.slice E)=>
  (nJ C.P E).bind fun e=>
    match view C S [] x with
    |some (tx,ex)=>
     bif pQ C.P E e&&Je tx e then
        match use C S [] s with
        |some (.nils _,_)=>some (mkObj S dst (.row E e),[.chk (Hz (.con (.list [])) ex),.setO dst (.app (.con (.list [])) ex),.setR dst (.con .none)])
        |some _=>Option.none
        |Option.none=>
         match eE S [] s with
         |.obj j ver=>
          bif Nat.beq ver (S.ver j) then
             match S.o j with
             |.row E' e'=>
              bif Nat.beq E' E&&Ty.beq e' e then
                some ((S.newO j (.row E e)).setR dst (.obj j (S.ver j+1)),[.chk (Hz (.o j) ex),.setO j (.app (.o j) ex),.setR dst (.con .none)])
              else Option.none
             |_=>Option.none
          else Option.none
         |_=>Option.none
     else Option.none
    |Option.none=>Option.none
 |_=>Option.none
theorem K8 {P:Program}{T:TypeId}{e:Ty}(h:pQ P T e=true):∃inf z,P.info? T=some inf∧inf.size=e.size∧inf.bytes≤vV∧1≤e.size∧inf.zero=some z∧jm e z=true:=by
 unfold pQ at h;split at h
 ·rename_i i hi;simp only[aj] at h;have h4:=h.2;unfold sA at h4;split at h4
  ·rename_i z hz;exact⟨i,z,hi,av h.1.1.1,jo h.1.1.2,jo h.1.2,hz,h4⟩
  ·cases h4
 ·cases h
theorem Sq {e:Ty}{z:Value}(h:jm e z=true):z.cells.size=e.size:=by
 cases e with
 |agg ts=>
  cases z with
  |agg vs=>simp only[jm] at h;have:=(Sr ts vs.toList h).1;simpa [Value.cells,Ty.size] using this
  |_=>simp[jm] at h
 |_=>cases z<;>simp_all [jm,w7,Value.cells,Ty.size]
theorem adO {ρ:Env}{x y:PE}(h:((PE.ci .lss x y).ev ρ).b=true):(x.ev ρ).i<(y.ev ρ).i:=by
 simpa [PE.ev,D.b_bool,iW] using h
theorem TN {ρ:Env}{x y:PE}(h:((PE.ci .leq x y).ev ρ).b=true):(x.ev ρ).i≤(y.ev ρ).i:=by
 simpa [PE.ev,D.b_bool,iW] using h
theorem aj1 {n:Nat}(h:(n:Int)<mz):n<4294967296:=by unfold mz at h;omega
theorem WQ {n:Nat}(h:(n:Int)≤mz):n≤4294967296:=by unfold mz at h;omega
theorem St.setO_self {S:St}{j:Nat}{ob:Ob}(h:S.o j=ob):S.setO j ob=S:=by
 have:bN S.o j ob=S.o:=by
  funext i;rw[eR];split
  ·rename_i e;subst e;exact h.symm
  ·rfl
 cases S;simp only[St.setO] at this ⊢;rw[this]
section
variable {C:Ctx} {S:St} {ρ:Env} {σ:Im} {own:Nat→Option Nat} {hv:Nat→Value} {w0:World} {σ0:Base} {A:Nat→Prop} {a:Act} {w:World} {gs:List (Nat×Bool)} {Φ:aK} {dst:Nat}
theorem Inv.updO (h:Inv C S ρ σ own hv w0 σ0 A a w)(j:Nat)(ob:Ob)(d:D)(v:Value)(nb:Nat→Bool){w':World}(hw:Below w0.heap.size w w')
 (oz:∀k,k<w.heap.size→own k≠some j→w'.heap[k]?=w.heap[k]?) (cW:∀k,nb k=true→(own k=some j∨w.heap.size≤k)∧k<w'.heap.size)
 (cu:bS C (S.newO j ob) (ρ.setO j d) σ (ff own j nb) (bN hv j v) w' w0.heap.size j ob) (mj:ob≠.tr:=by intro h;cases h):Inv C (S.newO j ob) (ρ.setO j d) σ (ff own j nb) (bN hv j v) w0 σ0 A a w':=by
 have aC:w0.heap.size≤w.heap.size:=h.below.size;have bR:∀k i,i≠j→own k=some i→ff own j nb k=some i:=by
  intro k i hi hk;have h1:=h.owns k i hk;have h2:nb k=false:=by
   cases hn:nb k with
   |false=>rfl
   |true=>
    rcases(cW k hn).1 with e|e
    ·rw[hk] at e;simp at e;exact absurd e hi
    ·omega
  simp[ff,h2,hk,hi]
 have au:σ.ok w':=by
  refine⟨fun k o u hc=>?_,fun k es hc=>?_,h.ok.fz fun k o v hc=>oz k (h.lt hc) fun e=>by rw[(h.owns k j e).2.2.1 o] at hc;cases hc⟩
  ·have ay:own k≠some j:=fun e=>by rw[(h.owns k j e).2.2.1 o] at hc;cases hc
   rw[World.cell?_of_block (oz k (h.lt hc) ay)];exact h.ok.c k o u hc
  ·have ay:own k≠some j:=fun e=>by rw[(h.owns k j e).2.2.2] at hc;cases hc
   exact(h.ok.m k es hc).keep (oz k (h.ltm hc) ay)
 refine h.step (fun i=>i=j) rfl (.refl σ) au (fun _ _ _ hx=>.inl hx) (fun _ _ hx=>.inl hx) hw ⟨fun i=>?_,fun i e=>?_⟩ (fun i hi=>⟨?_,?_,?_,fun k hk=>⟨bR k i hi hk,?_⟩⟩) (fun i hi=>?_) (fun k i hk=>?_) (fun _=>id) (fun t=>.inl ⟨rfl,rfl,rfl⟩) (fun _ _=>rfl) (fun k hk e=>oz k hk (by rw[e];simp)) (fun k i hk=>by
  unfold ff at hk;split at hk
  ·rename_i hn;rcases(cW k hn).1 with e|e
   ·exact .inl ⟨j,e⟩
   ·exact .inr e
  ·split at hk
   ·cases hk
   ·exact .inl ⟨i,hk⟩) (fun i hi=>by subst hi;simpa only[St.newO,aJ] using mj)
 ·simp only[St.newO,eR];split<;>rename_i e
  ·subst e;omega
  ·omega
 ·simp only[St.newO,eR] at e;split at e
  ·rename_i e';subst e';omega
  ·rename_i ay;exact bf _ _ ay
 ·simp[St.newO,bf _ _ hi]
 ·simp[Env.setO,bf _ _ hi]
 ·exact bf _ _ hi
 ·exact oz k (h.owns k i hk).2.1 (by rw[hk];simpa using hi)
 ·subst hi;simp only[St.newO,aJ];exact cu
 ·unfold ff at hk;split at hk
  ·rename_i hn;obtain⟨g1,g2⟩:=cW k hn;rcases g1 with e|e
   ·obtain⟨f1,f2,f3,f4⟩:=h.owns k j e;exact⟨f1,g2,f3,f4⟩
   ·refine⟨by omega,g2,fun o=>?_,?_⟩
    ·cases hc:σ.c k o with
     |none=>rfl
     |some u=>have:=h.lt hc;omega
    ·cases hc:σ.m k with
     |none=>rfl
     |some u=>have:=h.ltm hc;omega
  ·split at hk
   ·cases hk
   ·obtain⟨g1,g2,g3,g4⟩:=h.owns k i hk;exact⟨g1,by have:=hw.size;omega,g3,g4⟩
theorem Inv.updB (h:Inv C S ρ σ own hv w0 σ0 A a w)(j:Nat)(ob:Ob)(d:D){w':World}(hw:Below w0.heap.size w w')
 (oz:∀k,k<w.heap.size→own k≠some j→w'.heap[k]?=w.heap[k]?)
 (cu:bS C (S.setO j ob) (ρ.setO j d) σ own hv w' w0.heap.size j ob) (mj:ob≠.tr:=by intro h;cases h):Inv C (S.setO j ob) (ρ.setO j d) σ own hv w0 σ0 A a w':=by
 have au:σ.ok w':=by
  refine⟨fun k o u hc=>?_,fun k es hc=>?_,h.ok.fz fun k o v hc=>oz k (h.lt hc) fun e=>by rw[(h.owns k j e).2.2.1 o] at hc;cases hc⟩
  ·have ay:own k≠some j:=fun e=>by rw[(h.owns k j e).2.2.1 o] at hc;cases hc
   rw[World.cell?_of_block (oz k (h.lt hc) ay)];exact h.ok.c k o u hc
  ·have ay:own k≠some j:=fun e=>by rw[(h.owns k j e).2.2.2] at hc;cases hc
   exact(h.ok.m k es hc).keep (oz k (h.ltm hc) ay)
 refine h.step (fun i=>i=j) rfl (.refl σ) au (fun _ _ _ hx=>.inl hx) (fun _ _ hx=>.inl hx) hw (Compat.setO _ _ _ _) (fun i hi=>⟨by simp[St.setO,bf _ _ hi],by simp[Env.setO,bf _ _ hi],rfl,fun k hk=>⟨hk,oz k (h.owns k i hk).2.1 (by rw[hk];simpa using hi)⟩⟩) (fun i hi=>?_) (fun k i hk=>?_) (fun _=>id) (fun t=>.inl ⟨rfl,rfl,rfl⟩) (fun _ _=>rfl) (fun k hk e=>oz k hk (by rw[e];simp)) (fun k i hk=>.inl ⟨i,hk⟩) (fun i hi=>by subst hi;rw[St.setO_o];exact mj)
 ·subst hi;rw[St.setO_o];exact cu
 ·obtain⟨g1,g2,g3,g4⟩:=h.owns k i hk;exact⟨g1,by have:=hw.size;omega,g3,g4⟩
theorem UJ {B:Nat}{w w':World}{row:Option Nat}(hg:w.grownBy w' row)(hB:B≤w.heap.size)(hr:∀k,row=some k→B≤k):Below B w w':=(Below.refl B w).grown hg hB hr
theorem W7 {z:Array Value}{n i q:Nat}(hz:0<z.size)(hi:i<n)(hq:q<z.size):(madeCells z (n*z.size))[i*z.size+q]?=z[q]?:=by
 have af:i*z.size+q<n*z.size:=by
  have:(i+1)*z.size≤n*z.size:=mP _ hi;rw[nQ] at this;omega
 have hm:(i*z.size+q)%z.size=q:=by rw[AN,ack,Nat.mod_eq_of_lt hq]
 simp[madeCells,Array.getElem?_range,af,hm,hq]
theorem aeP (h:Inv C S ρ σ own hv w0 σ0 A a w)(hC:CtxOK C σ0)(ht:¬A dst)(af:dst<a.tmps.size){T:TypeId}{l c:Operand}{r:St×List PI}(hr:BG C S dst T l c=some r){o:Oper}(hd:o.dst=some dst)(ho:o.op=.makeSlice T l c):bO C w0 σ0 Φ S ρ A a w o r:=by
 unfold BG at hr;split at hr
 case h_2=>cases hr
 rename_i E k1 n k2 m hT hl hc;simp only[aq] at hr;obtain⟨e,he,hr⟩:=hr;cases hf:pQ C.P E e<;>simp only[hf,cond_true,cond_false] at hr
 ·cases hr
 obtain⟨inf,z0,hi,hs,hb,h1,hz,lD⟩:=K8 hf;simp only[aq] at hr;obtain⟨z,hzt,hr⟩:=hr;cases bM:Ty.sub z.1 e<;>simp only[bM,cond_true,cond_false] at hr
 ·cases hr
 cases hr;obtain⟨n1,aO,aZ,b1,b2⟩:=(cf h hC rfl hl).int_inv;obtain⟨n2,gT,dK,b3,b4⟩:=(cf h hC rfl hc).int_inv;simp only at aZ dK;have CW:=((w8 (cap:=C.cap) (σ:=σ) hzt lD).1).sub bM;refine bO.value hd fun ρ' ah=>?_;simp only[PI.runs,PI.run,aq] at ah;obtain⟨ρ1,g1,ρ2,g2,ah⟩:=ah;cases c1:((Nk n).ev ρ).b<;>simp only[c1,cond_true,cond_false] at g1
 ·cases g1
 cases g1;cases c2:((PE.ci BinOp.eql n m).ev ρ).b<;>simp only[c2,cond_true,cond_false] at g2
 ·cases g2
 cases g2;have aip:n1=n2:=by simpa [PE.ev,aZ,dK,D.i_int,D.b_bool,iW] using c2
 subst aip;have hb:0≤n1∧n1≤mz:=by simpa [Nk,PE.ev,aZ,D.i_int,D.b_bool,iW,D.int] using c1
 obtain⟨nn,rfl⟩:=uC hb.1;have Cz:nn≤4294967296:=by have:=hb.2;unfold mz at this;omega
 have rM:z0.cells.size=e.size:=Sq lD;obtain⟨w',r1,r2,r3⟩:=run_make_full (P:=C.P) w w0.heap.size T E inf z0 e.size hT hi hz hs k1 k2 nn (by
  have:inf.bytes*nn≤vV*4294967296:=Nat.mul_le_mul (by assumption) Cz;unfold vV at this;omega) (by unfold maxLen;omega) h.below.size
 refine⟨.slice (some ⟨w.heap.size,0,none⟩) nn nn,w',by simp[execOp,ho,aO,gT,r1],?_⟩;obtain⟨ρ3,g3,ρ4,g4,g5⟩:=ah;cases g3;cases g4;cases g5;simp only[PE.ev,aZ,D.i_int,uD];have hlen:(List.replicate nn z.2).length=nn:=by simp
 refine h.mkObj ht af (.row E e) _ _ (fun k=>Nat.beq k w.heap.size) (UJ r3 (aW _) (by simp)) (fun k hk=>?_) ⟨_,List.replicate nn z.2,by simp[Env.setO,aJ],by rw[aJ,hlen];exact r2,⟨fun _=>z0,fun i x hx=>?_,fun i j u hi hj=>?_⟩,fun k hk=>?_⟩
 ·have bm:k=w.heap.size:=av hk;have:=(r2.lt _ rfl).2;subst bm;exact⟨aW _,this⟩
 ·have:=(eT.1 hx)
  obtain⟨q1,q2⟩:=this;simp at q2;subst q2;exact CW
 ·rw[hlen] at hi;have bG:j<z0.cells.size:=(fX.1 hj).1;rw[AD,←rM];rw[W7 (by omega) hi bG];exact hj
 ·rw[aJ] at hk;simp[Value.ownBlock] at hk;simp[ff,hk]
theorem lY.push {arr:Array MapEntry}{clock:Nat}(h:lY arr clock)(k v:Value):lY (arr.push {key:=k,val:=v,born:=clock}) (clock+1):=by
 have key:∀(i:Nat) (e:MapEntry),(arr.push {key:=k,val:=v,born:=clock})[i]?=some e→(arr[i]?=some e∧e.born<clock)∨(i=arr.size∧e.born=clock):=by
  intro i e he;rw[Array.getElem?_push] at he;split at he
  ·rename_i hi;cases he;exact .inr ⟨hi,rfl⟩
  ·exact .inl ⟨he,h.1 i e he⟩
 refine⟨fun i e he=>?_,fun i j e f he hf hb=>?_⟩
 ·rcases key i e he with⟨_,h1⟩|⟨_,h1⟩<;>omega
 ·rcases key i e he with⟨h1,h2⟩|⟨h1,h2⟩<;>rcases key j f hf with⟨h3,h4⟩|⟨h3,h4⟩
  ·exact h.2 i j e f h1 h3 hb
  ·omega
  ·omega
  ·omega
theorem lY.modify {arr:Array MapEntry}{clock:Nat}(h:lY arr clock)(i0:Nat)(k v:Value):lY (arr.modify i0 fun e=>{e with key:=k,val:=v}) clock:=by
 have key:∀(i:Nat) (e:MapEntry),(arr.modify i0 fun e=>{e with key:=k,val:=v})[i]?=some e→∃e',arr[i]?=some e'∧e'.born=e.born:=by
  intro i e he;rw[JG] at he;split at he
  ·simp only[ax] at he;obtain⟨e',h1,rfl⟩:=he;exact⟨e',h1,rfl⟩
  ·exact⟨e,he,rfl⟩
 refine⟨fun i e he=>?_,fun i j e f he hf hb=>?_⟩
 ·obtain⟨e',h1,h2⟩:=key i e he;rw[←h2];exact h.1 i e' h1
 ·obtain⟨e',h1,h2⟩:=key i e he;obtain⟨f',h3,h4⟩:=key j f hf;exact h.2 i j e' f' h1 h3 (by rw[h2,h4,hb])
theorem T9 (h:Inv C S ρ σ own hv w0 σ0 A a w)(hC:CtxOK C σ0){T:TypeId}{m k v:Operand}{r:St×List PI}(hr:q9 C S T m k v=some r){o:Oper}(hd:o.dst=none)(ho:o.op=.mapUpdate T m k v∨o.op=.insert T m k v):bO C w0 σ0 Φ S ρ A a w o r:=by
 unfold q9 at hr;split at hr
 case h_2=>cases hr
 rename_i K E j ver hT es;obtain⟨dE,_⟩:=qB h (gs:=[]) rfl m;rw[es] at dE;cases hb:Nat.beq ver (S.ver j)<;>simp only[hb,cond_true,cond_false] at hr
 ·cases hr
 have bX:=dE.2 (av hb);have aU:=h.objs j;split at hr
 case h_2=>cases hr
 rename_i kt et tk ek tv ev eo hk vK;rw[eo] at aU;cases hc:(Ty.beq tk kt&&tJ C.P K kt&&Ty.sub tv et)<;>simp only[hc,cond_true,cond_false] at hr
 ·cases hr
 cases hr;simp only[aj] at hc;obtain⟨⟨G8,Cp⟩,bM⟩:=hc;obtain⟨g,arr,clock,ds,h1,h2,h3,h4,h5,⟨h6,pX⟩,h7⟩:=aU;have bm:=cf h hC rfl hk;rw[Ty.beq_eq _ _ G8] at bm;have hv':=(cf h hC rfl vK).sub bM;refine bO.skip hd fun ρ' ah=>?_;simp only[PI.runs,PI.run,aq] at ah;obtain⟨ρ1,g1,ρ2,g2,g3⟩:=ah;cases c1:((PE.ci BinOp.lss (.mlen (.o j)) (.con (.int mz))).ev ρ).b<;>simp only[c1,cond_true,cond_false] at g1
 ·cases g1
 cases g1;cases g2;cases g3;have ah8:ds.length<4294967296:=by
  have h8:=adO c1;simp only[PE.ev,h4,D.m,D.i_int,D.int] at h8;exact aj1 h8
 have ly:(Instr.checkKey false 10000 K (a.eval k)).run C.P w=.ok () w:=TM (cap:=C.cap) (σ:=σ) Cp bm;have du:∃sO yk ds',(Instr.mapUpdate T (a.eval m) (a.eval k) (a.eval v)).run C.P w=.ok () {w with heap:=w.heap.setIfInBounds g (.map sO yk)}∧ky (ek.ev ρ) (ev.ev ρ) ds=ds'∧ds'.length=sO.size∧(ds'.length≤maxLen∧lY sO yk)∧
  ∀(i:Nat) (e:MapEntry) (p:D×D),sO[i]?=some e→ds'[i]?=some p→Rep C.cap σ kt e.key p.1∧Rep C.cap σ et e.val p.2:=by
  rcases run_findKey Cp bm arr ds h5 h7 w with⟨f1,f2,f3⟩|⟨i,e,p,f1,f2,f3,f4,f5,f6⟩
  ·refine⟨arr.push {key:=a.eval k,val:=a.eval v,born:=clock},clock+1,ds++[(ek.ev ρ,ev.ev ρ)],?_,f3 _,by simp[h5],⟨by simp;unfold maxLen;omega,pX.push _ _⟩,fun q e p he hp=>?_⟩
   ·rw[bX,h1];simp[Instr.mapUpdate,run_underlying hT,getObj,Sem.run,h3,ly,f1,setObj]
   ·rw[Array.getElem?_push] at he;rw[ld] at hp;by_cases hq:q=arr.size
    ·subst hq;simp at he;rw[if_neg (by omega)] at hp;simp[h5] at hp;subst he;subst hp;exact⟨bm,hv'⟩
    ·rw[if_neg hq] at he;have Hm:q<arr.size:=(fX.1 he).1;rw[if_pos (by omega)] at hp;exact h7 q e p he hp
  ·refine⟨arr.modify i fun e=>{e with key:=a.eval k,val:=a.eval v},clock,ds.set i (ek.ev ρ,ev.ev ρ),?_,f5 _,by simp[h5],⟨by simp;exact h6,pX.modify _ _ _⟩,fun q e' p' he hp=>?_⟩
   ·rw[bX,h1];have cC:(Instr.keyThatStays e.key (a.eval k)).run C.P w=.ok (a.eval k) w:=by simp[Instr.keyThatStays,f6]
    simp[Instr.mapUpdate,run_underlying hT,getObj,Sem.run,h3,ly,f3,f1,cC,setObj]
   ·rw[JG] at he;rw[AJ] at hp;by_cases hq:i=q
    ·subst hq;simp only[if_true] at he hp;rw[f1] at he;simp at he;split at hp
     ·cases hp;subst he;exact⟨bm,hv'⟩
     ·cases hp
    ·rw[if_neg hq] at he hp;exact h7 q e' p' he hp
 obtain⟨sO,yk,ds',r1,r2,r3,r4,r5⟩:=du;refine⟨{w with heap:=w.heap.setIfInBounds g (.map sO yk)},by rcases ho with ho|ho<;>simp[execOp,ho,r1],?_⟩;have hgl:g<w.heap.size:=(fX.1 h3).1;have hgB:w0.heap.size≤g:=(h.owns g j h2).1;have bF:(PE.put (.o j) ek ev).ev ρ=.map ds':=by simp only[PE.ev,h4,D.m,r2]
 rw[bF]
 have:=h.updB j (.mp kt et) (.map ds') (w':={w with heap:=w.heap.setIfInBounds g (.map sO yk)}) ⟨rfl,rfl,rfl,by simp,fun k hk=>by simp;rw[Sv (by omega)]⟩
  (fun k hk ay=>by simp;rw[Sv (fun e=>ay (by rw[←e];exact h2))])
  ⟨g,sO,yk,ds',h1,h2,by simp[hgl],by simp[Env.setO,aJ],r3,r4,r5⟩
 have eS:S.setO j (.mp kt et)=S:=St.setO_self eo;rw[eS] at this;exact⟨_,_,_,this⟩
end
end Cx
namespace Cx
open Go Go.RowKit
theorem aqT {e:Ty}{z:Value}(h:jm e z=true):e.rowT=true∨e.one=true:=by
 cases e<;>first|exact .inl rfl|exact .inr rfl|(cases z<;>simp[jm,w7] at h)
theorem Rep.cellsOne {cap:Nat→Option CSig}{σ:Im}{t:Ty}{v:Value}{d:D}(h:Rep cap σ t v d)(ht:t.rowT=true∨t.one=true){m:Nat}{u:Value}(hu:v.cells[m]?=some u):u.oneCell'=true:=by
 obtain⟨f1,f2,f3⟩:=h.flat ht;have af:m<v.cells.size:=(fX.1 hu).1;rw[h.size] at af;obtain⟨g1,g2⟩:=f3 m _ (bq (by omega:m<t.flat.length));have:=(g2.oneCell g1).2;rw[dH,hu] at this;exact this
theorem afa {cap:Nat→Option CSig}{σ:Im}{e:Ty}{cells:List Value}{xs:List D}(h:dV cap σ e cells xs)(hl:cells.length=xs.length*e.size)(gS:e.rowT=true∨e.one=true):∀u∈cells,u.oneCell'=true:=by
 obtain⟨vs,h1,h2⟩:=h;intro u hu;obtain⟨p,hp,rfl⟩:=mO hu;rw[hl] at hp;have hs:0<e.size:=Nat.pos_of_ne_zero fun e0=>by rw[e0] at hp;simp at hp
 have hi:p/e.size<xs.length:=(Nat.div_lt_iff_lt_mul hs).2 hp;have hq:p%e.size<e.size:=Nat.mod_lt _ hs;have bH:=h1 _ _ (bq hi);have aC:=bH.size;have kJ:(vs (p/e.size)).cells[p%e.size]?=some (vs (p/e.size)).cells[p%e.size]:=fj (by omega);have:=h2 _ _ _ hi kJ;rw[Nat.mul_comm,Nat.div_add_mod] at this;have h3:cells[p]=(vs (p/e.size)).cells[p%e.size]:=by
  have h4:=bq (show p<cells.length by omega);rw[h4] at this;exact sM this
 rw[h3];exact bH.cellsOne gS kJ
theorem ae9 {cap:Nat→Option CSig}{σ:Im}{e:Ty}{c1 c2:List Value}{xs ys:List D}(h:dV cap σ e c1 xs)(k:dV cap σ e c2 ys)(hl:c1.length=xs.length*e.size):dV cap σ e (c1++c2) (xs++ys):=by
 obtain⟨vs,h1,h2⟩:=h;obtain⟨us,k1,k2⟩:=k;refine⟨fun i=>if i<xs.length then vs i else us (i-xs.length),fun i x hx=>?_,fun i j u hi hj=>?_⟩
 ·rw[ld] at hx;split at hx
  ·rename_i af;simp only[af,if_true];exact h1 i x hx
  ·rename_i af;simp only[af,if_false];exact k1 _ x hx
 ·by_cases af:i<xs.length
  ·simp only[af,if_true] at hj;have:=h2 i j u af hj;rw[jF (eT.1 this).1];exact this
  ·simp only[af,if_false] at hj;have cU:i-xs.length<ys.length:=by simp at hi;omega
   have:=k2 _ j u cU hj;have e1:i*e.size=c1.length+(i-xs.length)*e.size:=by rw[hl,←nQ];congr 1;omega
   rw[kE (by omega)];rw[show i*e.size+j-c1.length=(i-xs.length)*e.size+j by omega];exact this
section
variable {C:Ctx} {S:St} {ρ:Env} {σ:Im} {own:Nat→Option Nat} {hv:Nat→Value} {w0:World} {σ0:Base} {A:Nat→Prop} {a:Act} {w:World} {gs:List (Nat×Bool)} {Φ:aK} {dst:Nat}
theorem aqw (h:Inv C S ρ σ own hv w0 σ0 A a w){B:Nat}{e f:Ty}{v:Value}{d:D}(hs:0<e.size)(gS:e.rowT=true∨e.one=true)(hf:f.unf=e)(MY:J0 C σ w B (.slice f) v d):
 ∃ys,d=.list ys∧ys.length≤maxLen∧((v=.slice none 0 0∧ys=[])∨∃(ad:Addr) (c:Nat) (news:List Value),v=.slice (some ad) ys.length c∧news.length=ys.length*e.size∧
  (∀j u,news[j]?=some u→w.cell? (ad.add j)=some u)∧dV C.cap σ e news ys):=by
 rcases MY with hr|⟨T,e',cells,xs,ht,hd,bR,iZ⟩|⟨k,arr,clock,es,kt,et,ht,_⟩
 ·obtain⟨xs,hd,pY⟩:=hr.slice_inv;rw[←f.unf_size,hf] at pY;rcases pY with⟨⟨p0,aO⟩,rfl⟩|⟨k,o,c,aO,h1,h2,vs,h3,h4⟩
  ·cases p0 with
   |none=>exact⟨[],hd,by simp,.inl ⟨aO,rfl⟩⟩
   |some a0=>exact⟨[],hd,by simp,.inr ⟨a0,0,[],aO,by simp,fun j u hu=>by simp at hu,fun _=>undef,fun i x hx=>by simp at hx,fun i j u hi=>by simp at hi⟩⟩
  ·refine⟨xs,hd,by omega,.inr ⟨⟨k,o,none⟩,c,(List.range (xs.length*e.size)).map fun p=>(vs (p/e.size)).cells.getD (p%e.size) undef,aO,by simp,fun j u hu=>?_,vs,h3,fun i j u hi hj=>?_⟩⟩
   ·simp only[cg,ax] at hu;obtain⟨p,hp,rfl⟩:=hu;have fN:j<xs.length*e.size:=by have:=(eT.1 hp).1;simpa using this
    rw[pD fN] at hp;cases hp;have hi:j/e.size<xs.length:=(Nat.div_lt_iff_lt_mul hs).2 fN;have hq:j%e.size<e.size:=Nat.mod_lt _ hs;have bH:=h3 _ _ (bq hi);have aC:=bH.size;have kJ:(vs (j/e.size)).cells[j%e.size]?=some ((vs (j/e.size)).cells.getD (j%e.size) undef):=by
     rw[dH,fj (by omega)];rfl
    have:=h.cell (h4 _ _ _ hi kJ);rw[qW]
    rwa [show o+j/e.size*e.size+j%e.size=o+j by rw[sK,Nat.mul_comm,Nat.div_add_mod]] at this
   ·have bH:=h3 _ _ (bq hi);have bG:j<e.size:=by rw[←bH.size];exact(fX.1 hj).1
    have af:i*e.size+j<xs.length*e.size:=by
     have:(i+1)*e.size≤xs.length*e.size:=mP _ hi;rw[nQ] at this;omega
    have e1:(i*e.size+j)/e.size=i:=by rw[Nat.mul_comm,Nat.mul_add_div hs,Nat.div_eq_of_lt bG];omega
    have e2:(i*e.size+j)%e.size=j:=by rw[AN,ack,Nat.mod_eq_of_lt bG]
    simp only[cg,pD af,jI,e1,e2];rw[dH,hj];rfl
 ·cases ht;rw[Ty.unf_rol] at hf;obtain⟨b,c,aO,hm,_⟩:=wy bR;have iZ:dV C.cap σ e cells xs:=by
   obtain⟨us,u1,u2⟩:=iZ;refine⟨us,fun i x hx=>hf▸(u1 i x hx).unf,fun i j u hi hu=>?_⟩;rw[←hf,Ty.unf_size];exact u2 i j u hi hu
  have bR:w.ownsRow B T e.size v xs.length cells:=by rw[←hf,Ty.unf_size];exact bR
  rcases bR.2 with⟨e1,e2⟩|⟨g,cap,cur,e1,e2⟩
  ·have:xs=[]:=JH e2;subst this;exact⟨[],hd,by simp,.inl ⟨e1,rfl⟩⟩
  ·exact⟨xs,hd,hm,.inr ⟨⟨g,0,none⟩,cap,cells,e1,bR.1,bR.cells (by rw[e1];rfl),iZ⟩⟩
 ·cases ht
theorem anI {P:Program}{B:Nat}{T E ty:TypeId}{inf:TypeInfo}{z:Value}{size:Nat}{v x:Value}{n m:Nat}{xs news:List Value}(hT:P.underlying T=some (.slice E))(hi:P.info? E=some inf)(hz:inf.zero=some z)
 (hs:inf.size=size) (rM:z.cells.size=size) (aC:0<size) (ox:inf.bytes≤vV) (bR:w.ownsRow B E size v n xs) (hB:B≤w.heap.size) (cE:n+m≤4294967296)
 (hx:(x=.slice none 0 0∧m=0∧news=[])∨∃(ad:Addr) (c:Nat),x=.slice (some ad) m c∧news.length=m*size∧(∀j u,news[j]?=some u→w.cell? (ad.add j)=some u)∧∀u∈news,u.oneCell'=true):
 ∃v' w',(Builtin.append_ #[T,T] ty #[v,x]).run P w=.ok v' w'∧w'.ownsRow B E size v' (n+m) (xs++news)∧w.grownBy w' v.ownBlock∧∀k,v'.ownBlock=some k→v.ownBlock=some k∨(w.heap.size≤k∧k<w'.heap.size):=by
 rcases hx with⟨rfl,rfl,rfl⟩|⟨ad,c,rfl,hl,Hf,h1⟩
 ·refine⟨v,w,run_append_owned_none w B T ty E inf size hT hi v n xs bR,by simpa using bR,⟨rfl,rfl,rfl,aW _,fun _ _ _=>rfl⟩,fun k hk=>.inl hk⟩
 ·have LK:(n+m)*inf.bytes≤140737488355328:=by
   have:(n+m)*inf.bytes≤4294967296*vV:=Nat.mul_le_mul cE ox;unfold vV at this;omega
  obtain⟨v',w',r1,r2,r3,r4⟩:=run_append_own (P:=P) w B T ty E inf z size inf.bytes hT hi hz hs rfl rM aC v n xs bR ad m c news hl Hf h1 (by unfold maxLen;omega) LK hB;refine⟨v',w',r1,r2,r3,fun k hk=>?_⟩;have af:=(r2.lt k hk).2;subst hs;rcases bR.2 with⟨rfl,rfl⟩|⟨g,cap,cur,rfl,hbg,hg,cO,mc,dg,CR⟩
  ·by_cases hm:m=0
   ·subst hm;have:=r4.2 ⟨rfl,rfl⟩;subst this;simp[Value.ownBlock] at hk
   ·have hr:=run_append_nil (P:=P) w T ty E inf z hT hi hz ad m c news hl Hf (by omega) (by omega) (by have hb:=LK;simp only[gw] at hb;omega);rw[hr] at r1;cases r1;simp[Value.ownBlock] at hk;subst hk;exact .inr ⟨aW _,af⟩
  ·by_cases V3:n+m≤cap
   ·have G0:n*inf.size+news.length≤cur.size:=by rw[hl,dg,←nQ];exact mP _ V3
    have hr:=run_append_room (P:=P) w T ty E inf hT hi g n cap cur hg ad m c news hl Hf h1 V3 G0;rw[hr] at r1;cases r1;exact .inl hk
   ·have hr:=run_append_grow (P:=P) w T ty E inf z hT hi hz ⟨g,0,none⟩ n cap xs bR.1 (bR.cells (g:=g) rfl) ad m c news hl Hf (by omega) (by omega) (growslice_fits (by omega) LK);rw[hr] at r1;cases r1;simp[Value.ownBlock] at hk;subst hk;exact .inr ⟨aW _,af⟩
theorem aer (h:Inv C S ρ σ own hv w0 σ0 A a w)(hC:CtxOK C σ0)(ht:¬A dst)(af:dst<a.tmps.size){T:TypeId}{s x:Operand}{r:St×List PI}(hr:Bz C S dst T s x=some r){o:Oper}(hd:o.dst=some dst)
 (ho:o.op=.call {callee:=.builtin .append,args:=#[s,x],argTypes:=#[T,T]}):bO C w0 σ0 Φ S ρ A a w o r:=by
 unfold Bz at hr;split at hr
 case h_2=>cases hr
 rename_i E hT;simp only[aq] at hr;obtain⟨e,he,hr⟩:=hr;split at hr
 case h_2=>cases hr
 rename_i tx ex MY;have hv':=Sk h hC (gs:=[]) rfl MY;obtain⟨cs,ah⟩:=PY (C:=C) (w:=w) (a:=a) ho;cases hc:(pQ C.P E e&&Je tx e)<;>simp only[hc,cond_true,cond_false] at hr
 ·cases hr
 simp only[aj] at hc;obtain⟨inf,z,hi,hs,ox,h1,hz,lD⟩:=K8 hc.1;have rM:=Sq lD;have gS:=aqT lD;have MZ:∃f:Ty,f.unf=e∧J0 C σ w w0.heap.size (.slice f) (a.eval x) (ex.ev ρ):=by
  have cC:=hc.2;unfold Je at cC;split at cC
  ·exact⟨_,Ty.beq_eq _ _ cC,hv'⟩
  ·refine⟨e,Ty.unf_ro gS,?_⟩;rcases hv' with hr|⟨_,_,_,_,ht,_⟩|⟨_,_,_,_,_,_,ht,_⟩
   ·exact .inl (hr.sub (by simp[Ty.sub]))
   ·cases ht
   ·cases ht
  ·cases cC
 obtain⟨fv,ew,MZ⟩:=MZ;obtain⟨ys,GY,jT,ajd⟩:=aqw h h1 gS ew MZ;have hx:∃news,dV C.cap σ e news ys∧news.length=ys.length*e.size∧((a.eval x=.slice none 0 0∧ys.length=0∧news=[])∨∃(ad:Addr) (c:Nat),a.eval x=.slice (some ad) ys.length c∧news.length=ys.length*e.size∧(∀j u,news[j]?=some u→w.cell? (ad.add j)=some u)∧∀u∈news,u.oneCell'=true):=by
  rcases ajd with⟨e1,rfl⟩|⟨ad,c,news,e1,e2,e3,e4⟩
  ·exact⟨[],⟨fun _=>undef,by simp,by simp⟩,by simp,.inl ⟨e1,rfl,rfl⟩⟩
  ·exact⟨news,e4,e2,.inr ⟨ad,c,e1,e2,e3,afa e4 e2 gS⟩⟩
 obtain⟨news,ay,VP,hx⟩:=hx;have main:∀(j:Nat) (v:Value) (xs:List D) (cells:List Value),a.eval s=v→w.ownsRow w0.heap.size E e.size v xs.length cells→dV C.cap σ e cells xs→xs.length+ys.length≤4294967296→
  (∀k,v.ownBlock=some k→own k=some j)→
  ∃v' w',(execOp a.eval o).run C.P w=.ok (.value v') w'∧Good C w0 σ0 ((S.newO j (.row E e)).setR dst (.obj j (S.ver j+1))) ((ρ.setO j (.list (xs++ys))).setR dst .none) (fun u=>A u∨u=dst) (a.put (some dst) v') w':=by
  intro j v xs cells MJ bR iZ hlen cu;obtain⟨v',w',r1,r2,r3,r4⟩:=anI (P:=C.P) (ty:=o.type) hT hi hz hs rM h1 ox bR h.below.size hlen hx;refine⟨v',w',by rw[ah];simp[builtin,MJ,r1],?_⟩
  have MV:=h.updO j (.row E e) (.list (xs++ys)) v' (fun k=>decide (v'.ownBlock=some k)) (w':=w') (UJ r3 h.below.size (fun k hk=>(h.owns k j (cu k hk)).1)) (fun k hk ay=>r3.block k hk (fun e=>ay (cu k e.symm))) (fun k hk=>by
        have bm:v'.ownBlock=some k:=by simpa using hk
        rcases r4 k bm with e|e
        ·exact⟨.inl (cu k e),(r2.lt k bm).2⟩
        ·exact⟨.inr e.1,e.2⟩)
   ⟨cells++news,xs++ys,by simp[Env.setO,aJ],by rw[aJ,kF];exact r2,ae9 iZ ay bR.1,fun k hk=>by rw[aJ] at hk;simp[ff,hk]⟩
  have h2:=MV.setObj ht (j:=j) (v:=v') (aJ _ _ _) af;have e:(S.newO j (.row E e)).ver j=S.ver j+1:=aJ _ _ _;rw[e] at h2;exact⟨_,_,_,h2⟩
 split at hr
 ·rename_i e0 pe0 hu;cases hr;refine bO.value hd fun ρ' ni=>?_;have MK:=cf h hC rfl hu;have MJ:a.eval s=.slice none 0 0:=by
   generalize a.eval s=v at MK;generalize pe0.ev ρ=d at MK;cases MK;rfl
  simp only[PI.runs,PI.run,aq] at ni;obtain⟨ρ1,g1,ρ2,g2,ρ3,g3,g4⟩:=ni;cases c1:((Hz (.con (.list [])) ex).ev ρ).b<;>simp only[c1,cond_true,cond_false] at g1
  ·cases g1
  cases g1;cases g2;cases g3;cases g4;have hlen:=TN c1;simp only[PE.ev,D.l_list,GY,sJ,D.i_int,D.int] at hlen;have:=main dst (.slice none 0 0) [] [] MJ (World.ownsRow_nil _ _ _ _) ⟨fun _=>undef,by simp,by simp⟩ (by simpa using WQ hlen) (by simp[Value.ownBlock]);simpa [PE.ev,D.l_list,GY,mkObj] using this
 ·cases hr
 ·obtain⟨dE,_⟩:=qB h (gs:=[]) rfl s;split at hr
  case h_2=>cases hr
  rename_i j ver es;rw[es] at dE;cases hb:Nat.beq ver (S.ver j)<;>simp only[hb,cond_true,cond_false] at hr
  ·cases hr
  have bX:=dE.2 (av hb);have aU:=h.objs j;split at hr
  case h_2=>cases hr
  rename_i E' e' eo;rw[eo] at aU;cases gA:(Nat.beq E' E&&Ty.beq e' e)<;>simp only[gA,cond_true,cond_false] at hr
  ·cases hr
  cases hr;simp only[aj] at gA;have e1:=av gA.1;have e2:=Ty.beq_eq _ _ gA.2;subst e1;subst e2;obtain⟨cells,xs,k1,k2,k3,k4⟩:=aU;refine bO.value hd fun ρ' ni=>?_;simp only[PI.runs,PI.run,aq] at ni;obtain⟨ρ1,g1,ρ2,g2,ρ3,g3,g4⟩:=ni;cases c1:((Hz (.o j) ex).ev ρ).b<;>simp only[c1,cond_true,cond_false] at g1
  ·cases g1
  cases g1;cases g2;cases g3;cases g4;have hlen:=TN c1;simp only[PE.ev,D.l_list,GY,k1,D.i_int,D.int] at hlen;have:=main j (hv j) xs cells bX k2 k3 (by have:=WQ hlen;simpa using this) k4;simpa [PE.ev,D.l_list,GY,k1] using this
end
end Cx
namespace Cx
open Go Go.RowKit
theorem Ex {P:Program}{a:Act}{w:World}{o:Oper}{T:TypeId}{x v:Operand}{inf:TypeInfo}{k off:Nat}{cs:Array Value}{E:TypeId}(ho:o.op=.store T x v)(hi:P.info? T=some inf)(hx:a.eval x=.pointer (some ⟨k,off,none⟩))
 (hs:(a.eval v).cells.size=inf.size) (cR:∀u∈(a.eval v).cells.toList,u.oneCell'=true) (hb:w.heap[k]?=some (.cells cs E (0,0))) (hle:off+inf.size≤cs.size):
 (execOp a.eval o).run P w=.ok .skip (w.setRow k (cs.toList.take off++(a.eval v).cells.toList++cs.toList.drop (off+inf.size)).toArray):=by
 have:=run_storeCells_at P k off E (a.eval v).cells.toList 0 cs w hb (by simp[hs];exact hle) cR;simp only[ib,AE,hs] at this;simp[execOp,ho,Instr.storeAt,hx,Instr.sureAddr,storeVar,Go.sizeOf,run_typeInfo w hi,hs,this]
theorem aaK {w:World}{B k:Nat}{cs:Array Value}(hB:B≤k):Below B w (w.setRow k cs)∧∀i,i≠k→(w.setRow k cs).heap[i]?=w.heap[i]?:=
 ⟨⟨rfl,rfl,rfl,by simp[World.setRow],fun i hi=>setRow_other w k i cs (by omega)⟩,fun i hi=>setRow_other w k i cs hi⟩
theorem Gy {α:Type}(xs ys:List α)(off:Nat)(d:α)(hle:off+ys.length≤xs.length)(i:Nat):(xs.take off++ys++xs.drop (off+ys.length)).getD i d=if off≤i∧i<off+ys.length then ys.getD (i-off) d else xs.getD i d:=by
 simp only[aG,pC];rw[ld,dN,nR (by omega)];split
 ·rename_i h;rw[if_neg (by omega),fl,if_pos h]
 ·rename_i h;rw[ld];split
  ·rename_i h2;rw[if_pos (by omega)]
  ·rename_i h2;rw[if_neg (by omega),fJ];congr 2;omega
section
variable {C:Ctx} {S:St} {ρ:Env} {σ:Im} {own:Nat→Option Nat} {hv:Nat→Value} {w0:World} {σ0:Base} {A:Nat→Prop} {a:Act} {w:World} {gs:List (Nat×Bool)} {Φ:aK} {dst:Nat}
theorem Inv.storeBox (h:Inv C S ρ σ own hv w0 σ0 A a w){j k off:Nat}{ag:Bool}{shs news:List Sh}{cs:Array Value}{E:TypeId}{ds dn:List D}{vs:List Value}(eo:S.o j=.box ag shs)
 (h1:hv j=.pointer (some ⟨k,0,none⟩)) (h2:own k=some j) (h3:w.heap[k]?=some (.cells cs E (0,0))) (h4:cs.size=shs.length) (h5:ρ.o j=.agg ds) (h6:ds.length=shs.length)
 (h7:∀i s,shs[i]?=some s→(∀gs s',s≠.opt gs s')∧aD C S ρ σ hv s (cs.getD i undef) (ds.getD i .none))
 (l1:news.length=vs.length) (l2:dn.length=vs.length) (hle:off+vs.length≤shs.length)
 (kN:∀i s,news[i]?=some s→(∀gs s',s≠.opt gs s')∧aD C S ρ σ hv s (vs.getD i undef) (dn.getD i .none)):
 Inv C (S.setO j (.box ag (shs.take off++news++shs.drop (off+vs.length)))) (ρ.setO j (.agg (eF ds off dn))) σ own hv w0 σ0 A a (w.setRow k (cs.toList.take off++vs++cs.toList.drop (off+vs.length)).toArray):=by
 have hkB:w0.heap.size≤k:=(h.owns k j h2).1;obtain⟨b1,b2⟩:=aaK (w:=w) (B:=w0.heap.size) (k:=k) (cs:=(cs.toList.take off++vs++cs.toList.drop (off+vs.length)).toArray) hkB;refine h.updB j _ _ b1 (fun i hi ay=>b2 i fun e=>ay (e▸h2)) ⟨k,_,E,eF ds off dn,h1,h2,setRow_heap w k cs _ E _ h3,?_,by simp[Env.setO,aJ],?_,fun i s hi=>?_⟩
 ·simp[l1];omega
 ·simp[eF,l2,l1];omega
 ·have dg:(cs.toList.take off++vs++cs.toList.drop (off+vs.length)).toArray.getD i undef=if off≤i∧i<off+vs.length then vs.getD (i-off) undef else cs.getD i undef:=by
   have e0:∀l:List Value,l.toArray.getD i undef=l.getD i undef:=fun l=>by simp[dH,aG]
   rw[e0,Gy cs.toList vs off undef (by simp;omega),yD cs i]
  have vp:(eF ds off dn).getD i .none=if off≤i∧i<off+vs.length then dn.getD (i-off) .none else ds.getD i .none:=by
   rw[eF,Gy ds dn off .none (by omega),l2]
  rw[dg,vp];have VK:∀s v d,(∀gs s',s≠.opt gs s')→aD C S ρ σ hv s v d→aD C (S.setO j (.box ag (shs.take off++news++shs.drop (off+vs.length)))) (ρ.setO j (.agg (eF ds off dn))) σ hv s v d:=
   fun s v d hn hk=>aD.mono' (.refl σ) (Compat.setO _ _ _ _) hn hk
  have fw:(shs.take off++news++shs.drop (off+vs.length))[i]?=if off≤i∧i<off+vs.length then news[i-off]? else shs[i]?:=by
   rw[pC,ld,dN,nR (by omega)];split
   ·rename_i h;rw[if_neg (by omega),fl,if_pos h]
   ·rename_i h;rw[ld,l1];split
    ·rename_i h2;rw[if_pos (by omega)]
    ·rename_i h2;rw[if_neg (by omega),fJ];congr 1;omega
  rw[fw] at hi;split
  ·rename_i hc;rw[if_pos hc] at hi;obtain⟨g1,g2⟩:=kN _ s hi;exact⟨g1,VK _ _ _ g1 g2⟩
  ·rename_i hc;rw[if_neg hc] at hi;obtain⟨g1,g2⟩:=h7 _ s hi;exact⟨g1,VK _ _ _ g1 g2⟩
theorem aaA (h:Inv C S ρ σ own hv w0 σ0 A a w){j:Nat}(hr:ko (S.o j)=true):(hv j).cells=#[hv j]∧(hv j).oneCell'=true:=by
 have aU:=h.objs j;cases cu:S.o j with
 |row T e=>
  rw[cu] at aU;obtain⟨cells,xs,h1,h2,h3,h4⟩:=aU;obtain⟨b,c,e1,_⟩:=wy h2;rw[e1];exact⟨rfl,rfl⟩
 |mp kt et=>
  rw[cu] at aU;obtain⟨k0,arr,clock,es,h1,_⟩:=aU;rw[h1];exact⟨rfl,rfl⟩
 |_=>rw[cu] at hr;simp[ko] at hr
theorem Inv.storeRow (h:Inv C S ρ σ own hv w0 σ0 A a w){j k n c i p:Nat}{T:TypeId}{e:Ty}{cells vs:List Value}{xs:List D}{v':Value}{d':D}(eo:S.o j=.row T e)(eA:hv j=.slice (some ⟨k,0,none⟩) n c)
 (h1:ρ.o j=.list xs) (h2:w.ownsRow w0.heap.size T e.size (hv j) xs.length cells) (h3:dV C.cap σ e cells xs) (h4:∀k,(hv j).ownBlock=some k→own k=some j) (hi:i<xs.length)
 (CG:i*e.size≤p) (gg:p+vs.length≤i*e.size+e.size) (hr:Rep C.cap σ e v' d')
 (hv':∀q u,v'.cells[q]?=some u→(cells.take p++vs++cells.drop (p+vs.length))[i*e.size+q]?=some u):
 ∃cur,w.heap[k]?=some (.cells cur T (0,0))∧p+vs.length≤cur.size∧Inv C S (ρ.setO j (.list (xs.set i d'))) σ own hv w0 σ0 A a (w.setRow k (cur.toList.take p++vs++cur.toList.drop (p+vs.length)).toArray):=by
 have aV:=h2.1;rcases h2.2 with⟨e0,e1⟩|⟨g,cap,cur,e1,e2,e3,e4,e5,e6,e7⟩
 ·omega
 rw[eA] at e1;cases e1;have ah1:i*e.size+e.size≤xs.length*e.size:=by
  have:(i+1)*e.size≤xs.length*e.size:=mP _ hi;rw[nQ] at this;omega
 have au1:xs.length*e.size≤c*e.size:=mP _ e4;have aiM:p+vs.length≤cur.size:=by omega
 refine⟨cur,e3,aiM,?_⟩;have bR:own k=some j:=h4 k (by rw[eA];rfl);obtain⟨b1,b2⟩:=aaK (w:=w) (B:=w0.heap.size) (k:=k) (cs:=(cur.toList.take p++vs++cur.toList.drop (p+vs.length)).toArray) e2;have CR:(cur.toList.take p++vs++cur.toList.drop (p+vs.length)).take (xs.length*e.size)=cells.take p++vs++cells.drop (p+vs.length):=by
  rw[←e7];apply SL;intro q;simp only[pC,fl,ld,dN,fJ,AE];by_cases hq:q<xs.length*e.size
  ·rw[if_pos hq];by_cases hq1:q<p
   ·simp[hq1,Nat.lt_min,show q<cur.size by omega,hq]
   ·by_cases jc:q-p<vs.length
    ·rw[if_neg (by omega),nR (by omega),if_pos jc,if_neg (by omega),nR (by omega),if_pos jc]
    ·rw[if_neg (by omega),nR (by omega),if_neg jc,if_neg (by omega),nR (by omega),if_neg jc,if_pos (by omega)]
  ·rw[if_neg hq];have:¬q<p:=by omega
   rw[if_neg (by omega),nR (by omega),if_neg (by omega),if_neg (by omega)]
 have:=h.updB j (.row T e) (.list (xs.set i d')) b1 (fun q hq ay=>b2 q fun e=>ay (e▸bR))
  ⟨cells.take p++vs++cells.drop (p+vs.length),xs.set i d',by simp[Env.setO,aJ],⟨by simp;omega,.inr ⟨k,c,_,by rw[eA];simp,e2,setRow_heap w k cur _ T _ e3,by simpa using e4,e5,by simp;omega,by simpa using CR⟩⟩,?_,h4⟩
 ·rw[St.setO_self eo] at this;exact this
 ·obtain⟨us,u1,u2⟩:=h3;refine⟨fun q=>if q=i then v' else us q,fun q x hx=>?_,fun q m u hq hm=>?_⟩
  ·rw[AJ] at hx;by_cases y8:i=q
   ·subst y8;simp only[if_true] at hx ⊢;rw[if_pos hi] at hx;cases hx;exact hr
   ·rw[if_neg y8] at hx;simp only[show ¬q=i from fun e=>y8 e.symm,if_false];exact u1 q x hx
  ·by_cases y8:q=i
   ·subst y8;simp only[if_true] at hm;exact hv' m u hm
   ·simp only[y8,if_false] at hm;simp only[List.length_set] at hq;have h9:=u2 q m u hq hm;have ave:m<e.size:=by rw[←(u1 q _ (bq hq)).size];exact(fX.1 hm).1
    have jP:q*e.size+m<p∨p+vs.length≤q*e.size+m:=by
     rcases JT q i with af|eY
     ·left;have:(q+1)*e.size≤i*e.size:=mP _ af;rw[nQ] at this;omega
     ·right;have:(i+1)*e.size≤q*e.size:=mP _ (by omega);rw[nQ] at this;omega
    rw[pC,ld,dN,nR (by omega)];rcases jP with ho|ho
    ·rw[if_pos ho,fl,if_pos ho];exact h9
    ·rw[if_neg (by omega),kE (by omega),fJ];rw[show p+vs.length+(q*e.size+m-p-vs.length)=q*e.size+m by omega];exact h9
theorem aeX (h:Inv C S ρ σ own hv w0 σ0 A a w)(hC:CtxOK C σ0){T:TypeId}{x v:Operand}{r:St×List PI}(hr:sT C S T x v=some r){o:Oper}(hd:o.dst=none)(ho:o.op=.store T x v):bO C w0 σ0 Φ S ρ A a w o r:=by
 unfold sT at hr;split at hr
 case h_2=>cases hr
 rename_i inf hi;obtain⟨dE,_⟩:=qB h (gs:=[]) rfl x;split at hr
 case h_3=>cases hr
 ·rename_i j ver off es;rw[es] at dE;cases hb:Nat.beq ver (S.ver j)<;>simp only[hb,cond_true,cond_false] at hr
  ·cases hr
  obtain⟨k,eA,fo⟩:=dE.2 (av hb);have aU:=h.objs j;split at hr
  case h_2=>cases hr
  rename_i ag shs eo;rw[eo] at aU;obtain⟨k',cs,E,ds,h1,h2,h3,h4,h5,h6,h7⟩:=aU;have cB:=h1;rw[eA] at h1;cases h1;split at hr
  ·rename_i t e hu;have hv':=cf h hC rfl hu;cases hc:(Nat.beq inf.size t.size&&(t.rowT||t.one)&&Nat.ble (off+t.size) shs.length)<;>simp only[hc,cond_true,cond_false] at hr
   ·cases hr
   cases hr;simp only[aj,fG] at hc;obtain⟨⟨aC,gS⟩,hle⟩:=hc;have aC:=av aC;have hle:=jo hle;obtain⟨f1,f2,f3⟩:=hv'.flat gS;have gU:=hv'.size;refine bO.skip hd fun ρ' ah=>?_;rw[qz ah]
   refine⟨_,Ex ho hi fo (by rw[gU,aC]) (fun u hu=>by
        obtain⟨m,hm,rfl⟩:=mO hu;exact hv'.cellsOne gS (m:=m) (by simp at hm ⊢)) h3 (by omega),?_⟩
   have cC:=h.storeBox (off:=off) (news:=t.flat.map .dat) (vs:=(a.eval v).cells.toList) (dn:=(e.ev ρ).cells) eo cB h2 h3 h4 h5 h6 h7 (by simp[f1,gU]) (by simp[f2,gU]) (by simp[gU];omega) (fun i s hi=>by
        simp only[cg,ax] at hi;obtain⟨ti,MN,rfl⟩:=hi;refine⟨fun _ _ e=>(by cases e),?_⟩;rw[yD];exact(f3 i ti MN).2)
   have e1:(a.eval v).cells.toList.length=t.size:=by simp[gU]
   rw[e1] at cC;rw[aC];refine⟨σ,own,hv,?_⟩;simpa [PE.ev,h5,D.cells] using cC
  ·split at hr
   case h_3=>cases hr
   case h_2=>
        rename_i l fm;obtain⟨za,_⟩:=qB h (gs:=[]) rfl v;rw[fm] at za;obtain⟨vs,ds',q1,q2,q3,q4,q5⟩:=za;cases hc:(Nat.beq inf.size l.length&&Nat.ble (off+l.length) shs.length&&l.all (Lm S))<;>simp only[hc,cond_true,cond_false] at hr
        ·cases hr
        cases hr;simp only[aj] at hc;obtain⟨⟨aC,hle⟩,cQ⟩:=hc;have aC:=av aC;have hle:=jo hle;have iz:(a.eval v).cells.toList=vs:=by rw[q1];simp[Value.cells]
        have dg:(a.eval v).cells.size=vs.length:=by rw[←iz];simp
        have cR:∀u∈(a.eval v).cells.toList,u.oneCell'=true:=fun u hu=>by
         rw[iz] at hu;obtain⟨i,hi,rfl⟩:=mO hu;have vw:i<l.length:=by omega
         have g:=q5 i l[i] (bq vw);have hf:=bz.1 cQ l[i] (cT vw);have LY:vs.getD i undef=vs[i]:=by simp[aG,hi]
         rw[LY] at g;generalize l[i]=c at g hf;cases c with
         |dat t=>exact(g.2.oneCell g.1).2
         |obj j' lU=>
          simp only[Lm,aj] at hf;rw[g.2 (av hf.1)];exact(aaA h hf.2).2
        refine bO.skip hd fun ρ' ah=>?_;rw[qz ah];refine⟨_,Ex ho hi fo (by omega) cR h3 (by omega),?_⟩
        have cC:=h.storeBox (off:=off) (news:=l.map AgC.sh) (vs:=vs) (dn:=ds') eo cB h2 h3 h4 h5 h6 h7 (by simp[q3]) (by omega) (by omega) (fun i s hi=>by
         simp only[cg,ax] at hi;obtain⟨c,hc,rfl⟩:=hi;have g:=q5 i c hc;cases c with
         |dat t=>exact⟨fun _ _ e=>(by cases e),g.2⟩
         |obj j' lU=>exact⟨fun _ _ e=>(by cases e),g⟩)
        rw[iz,aC];have e1:vs.length=l.length:=q3;rw[e1] at cC;refine⟨σ,own,hv,?_⟩;simpa [PE.ev,h5,q2,D.cells] using cC
   rename_i j' lU fm;obtain⟨za,_⟩:=qB h (gs:=[]) rfl v;rw[fm] at za;cases hc:(Nat.beq lU (S.ver j')&&ko (S.o j')&&Nat.beq inf.size 1&&Nat.blt off shs.length)<;>simp only[hc,cond_true,cond_false] at hr
   ·cases hr
   cases hr;simp only[aj] at hc;obtain⟨⟨⟨ajw,gi⟩,aC⟩,af⟩:=hc;have aC:=av aC;have af:off<shs.length:=by simpa [ic] using af
   have bX:=za.2 (av ajw);obtain⟨c1,c2⟩:=aaA h gi;have iz:(a.eval v).cells=#[a.eval v]:=by rw[bX];exact c1
   refine bO.skip hd fun ρ' ah=>?_;rw[qz ah];refine⟨_,Ex ho hi fo (by rw[iz,aC];rfl) (fun u hu=>by rw[iz] at hu;simp at hu;subst hu;rw[bX];exact c2) h3 (by omega),?_⟩
   have cC:=h.storeBox (off:=off) (news:=[.obj j' lU]) (vs:=[a.eval v]) (dn:=[.none]) eo cB h2 h3 h4 h5 h6 h7 rfl rfl (by simp;omega) (fun i s hi=>by
        match i,hi with
        |0,hi=>simp at hi;subst hi;exact⟨fun _ _ e=>(by cases e),za.1,fun _=>by simpa using bX⟩
        |i+1,hi=>simp at hi)
   rw[iz,aC];have e2:shs.take off++[Sh.obj j' lU]++shs.drop (off+[a.eval v].length)=shs.set off (.obj j' lU):=by
        rw[List.set_eq_take_append_cons_drop,if_pos af];simp
   rw[e2] at cC;refine⟨σ,own,hv,?_⟩;simpa [PE.ev,h5,D.cells] using cC
 ·rename_i j ver size off es;rw[es] at dE;cases hb:Nat.beq ver (S.ver j)<;>simp only[hb,cond_true,cond_false] at hr
  ·cases hr
  obtain⟨k,n,c,ik,i,eA,td,br,fo⟩:=dE.2 (av hb);have aU:=h.objs j;split at hr
  ·rename_i T' ts t e eo hu;rw[eo] at aU;have hv':=cf h hC rfl hu;cases hc:(Nat.beq inf.size t.size&&(t.rowT||t.one)&&Nat.beq size ts.length&&Nat.ble (off+t.size) ts.length&&Ty.subs t.flat ((ts.drop off).take t.size))<;>simp only[hc,cond_true,cond_false] at hr
   ·cases hr
   cases hr;simp only[aj,fG] at hc;obtain⟨⟨⟨⟨aC,gS⟩,vI⟩,hle⟩,bM⟩:=hc;have aC:=av aC;have vI:=av vI;have hle:=jo hle;obtain⟨f1,f2,f3⟩:=hv'.flat gS;have gU:=hv'.size;have f1:t.flat.length=t.size:=f1;have f2:(e.ev ρ).cells.length=t.size:=f2;have gU:(a.eval v).cells.size=t.size:=gU;obtain⟨cells,xs,k1,k2,k3,k4⟩:=aU;obtain⟨b,c',e1,Ct,Cu⟩:=wy k2;rw[eA] at e1;cases e1;obtain⟨us,u1,u2⟩:=k3;obtain⟨y,hy⟩:∃y,xs[i]?=some y:=⟨_,bq br⟩
   obtain⟨os,ds,tE,hd0,l1,l2,aN,cR⟩:=(u1 i y hy).agg_inv;have CT:(a.eval v).cells.toList.length=t.size:=by simp[gU]
   have kN:Rep C.cap σ (.agg ts) (.agg (os.take off++(a.eval v).cells.toList++os.drop (off+(a.eval v).cells.toList.length)).toArray) (.agg (eF ds off (e.ev ρ).cells)):=by
        refine .agg _ _ _ (by simp[gU];omega) (by simp[eF,f2];omega) (fun m tm hm=>?_) cR;rw[Gy os _ off undef (by rw[CT];omega),eF,Gy ds _ off .none (by rw[f2];omega),CT,f2];split
        ·rename_i hc;have ajh:=Ty.subs_get _ _ bM (m-off) tm (by
          rw[fl,if_pos (by omega),fJ,show off+(m-off)=m by omega];exact hm)
         obtain⟨tf,htf,cC⟩:=ajh;rw[yD];exact((f3 _ tf htf).2).sub cC
        ·exact aN m tm hm
   have aV:=k2.1;have ah1:i*(Ty.agg ts).size+(Ty.agg ts).size≤xs.length*(Ty.agg ts).size:=by
        have:(i+1)*(Ty.agg ts).size≤xs.length*(Ty.agg ts).size:=mP _ br;rw[nQ] at this;omega
   have V9:(Ty.agg ts).size=ts.length:=rfl
   obtain⟨cur,q1,q2,q3⟩:=h.storeRow (i:=i) (p:=i*(Ty.agg ts).size+off) (vs:=(a.eval v).cells.toList) eo eA k1 k2 ⟨us,u1,u2⟩ k4 br (by omega) (by rw[CT];omega) kN (fun q u hq=>by
        have dt:(os.take off++(a.eval v).cells.toList++os.drop (off+(a.eval v).cells.toList.length))[q]?=some u:=by simpa [Value.cells] using hq
        have avk:q<ts.length:=by have:=(eT.1 dt).1;simp[gU] at this;omega
        rw[pC,ld,dN,nR (by omega)] at dt;rw[pC,ld,dN,nR (by omega)];by_cases qd:q<off
        ·rw[if_pos qd,fl,if_pos qd] at dt;rw[if_pos (by omega),fl,if_pos (by omega)];exact u2 i q u br (by rw[tE];simpa [Value.cells] using dt)
        ·rw[if_neg qd,ld] at dt;rw[if_neg (by omega),ld];rw[show i*(Ty.agg ts).size+q-(i*(Ty.agg ts).size+off)=q-off by omega];by_cases MC:q-off<(a.eval v).cells.toList.length
         ·rw[if_pos MC] at dt ⊢;exact dt
         ·rw[if_neg MC,fJ] at dt;rw[if_neg MC,fJ];rw[show off+(a.eval v).cells.toList.length+(q-off-(a.eval v).cells.toList.length)=q by omega] at dt;rw[show i*(Ty.agg ts).size+off+(a.eval v).cells.toList.length+(q-off-(a.eval v).cells.toList.length)=i*(Ty.agg ts).size+q by omega];exact u2 i q u br (by rw[tE];simpa [Value.cells] using dt))
   refine bO.skip hd fun ρ' ah=>?_;rw[qz ah]
   refine⟨_,Ex ho hi (cs:=cur) (by rw[fo,vI]) (by rw[gU,aC]) (fun u hu=>by
        obtain⟨m,hm,rfl⟩:=mO hu;exact hv'.cellsOne gS (m:=m) (by simp at hm ⊢)) q1 (by rw[CT] at q2;rw[aC,←V9];exact q2),σ,own,hv,?_⟩
   rw[CT] at q3;simp only[PE.ev,k1,D.l_list,td,D.i_int,uD,rp hy,hd0,uk];rw[aC,←V9];exact q3
  ·rename_i T' e0 t e ay eo hu;rw[eo] at aU;have hv':=cf h hC rfl hu;cases hc:(Nat.beq inf.size 1&&Nat.beq size 1&&Nat.beq off 0&&e0.one&&Ty.sub t e0)<;>simp only[hc,cond_true,cond_false] at hr
   ·cases hr
   cases hr;simp only[aj] at hc;obtain⟨⟨⟨⟨aC,vI⟩,jb⟩,cR⟩,bM⟩:=hc;have aC:=av aC;have vI:=av vI;have jb:=av jb;subst jb;subst vI;have Wc:=hv'.sub bM;obtain⟨c1,c2⟩:=Wc.oneCell cR;have Ch:e0.size=1:=by cases e0<;>simp_all [Ty.size,Ty.one]
   obtain⟨cells,xs,k1,k2,k3,k4⟩:=aU;obtain⟨b,c',e1,Ct,Cu⟩:=wy k2;rw[eA] at e1;cases e1;obtain⟨y,hy⟩:∃y,xs[i]?=some y:=⟨_,bq br⟩
   have aV:=k2.1
   obtain⟨cur,q1,q2,q3⟩:=h.storeRow (i:=i) (p:=i*e0.size) (vs:=[a.eval v]) eo eA k1 k2 k3 k4 br (aW _) (by rw[Ch];simp) Wc (fun q u hq=>by
        rw[c1] at hq;have vE:q=0:=by have:=(fX.1 hq).1;simpa using this
        subst vE;simp at hq;subst hq;have:i*e0.size≤cells.length:=by rw[aV];exact mP _ (by omega)
        rw[pC,kE (by simp;omega)];simp[nR this])
   refine bO.skip hd fun ρ' ah=>?_;rw[qz ah];refine⟨_,Ex ho hi (cs:=cur) (by rw[fo]) (by rw[c1,aC];rfl) (fun u hu=>by rw[c1] at hu;simp at hu;subst hu;exact c2) q1 (by rw[Ch] at q2;rw[aC];simpa using q2),σ,own,hv,?_⟩;rw[c1,aC];have CV:uk y 0 (e.ev ρ)=e.ev ρ:=by
        obtain⟨us,u1,u2⟩:=k3;have:=(u1 i y hy).dcells cR;cases y with
        |agg ds=>have h8:=u1 i _ hy;generalize us i=vv at h8;cases h8;simp[Ty.one] at cR
        |_=>rfl
   simp only[PE.ev,k1,D.l_list,td,D.i_int,uD,rp hy,CV];rw[Ch] at q3;simpa using q3
  ·cases hr
end
end Cx
namespace Cx
open Go Go.RowKit
section
variable {C:Ctx} {S:St} {ρ:Env} {σ:Im} {own:Nat→Option Nat} {hv:Nat→Value} {w0:World} {σ0:Base} {A:Nat→Prop} {a:Act} {w:World} {gs:List (Nat×Bool)} {Φ:aK} {dst:Nat}
theorem afk {ρ:Env}{es:List PE}{i:Nat}{e:PE}(h:es[i]?=some e):(PE.evs ρ es)[i]?=some (e.ev ρ):=by
 rw[PE.evs_eq,cg,h];rfl
theorem T3 (h:Inv C S ρ σ own hv w0 σ0 A a w)(hC:CtxOK C σ0)(hg:holds gs ρ=true){T:TypeId}{len:Nat}{ps:Array (Nat×Operand)}{r:St×List PI}(hr:u7 C S gs dst T len ps.toList=some r){o:Oper}
 (ho:o.op=.buildSlice T len ps):∃(E:TypeId) (e:Ty) (es:List PE) (v:Value) (w':World),C.P.underlying T=some (.slice E)∧nJ C.P E=some e∧r=(mkObj S dst (.row E e),[.setO dst (.lst es),.setR dst (.con .none)])∧
   (execOp a.eval o).run C.P w=.ok (.value v) w'∧Below w.heap.size w w'∧(∀k,Nat.beq k w.heap.size=true→w.heap.size≤k∧k<w'.heap.size)∧
   bS C (S.newO dst (.row E e)) (ρ.setO dst (.list (PE.evs ρ es))) σ (ff own dst (fun k=>Nat.beq k w.heap.size)) (bN hv dst v) w' w0.heap.size dst (.row E e):=by
 unfold u7 at hr;split at hr
 case h_2=>cases hr
 rename_i E hT;simp only[aq] at hr;obtain⟨e,he,z,hz,hr⟩:=hr;cases hc:(pQ C.P E e&&Ty.sub z.1 e&&gj (ps.toList.map (·.1))&&ps.toList.all (fun p=>Nat.blt p.1 len)&&Nat.ble (len*e.size) 16777216)<;>simp only[hc,cond_true,cond_false] at hr
 ·cases hr
 simp only[aj] at hc;obtain⟨⟨⟨⟨hef,bM⟩,ba⟩,fa⟩,hle⟩:=hc;have hle:=jo hle;obtain⟨inf,zv,hi,hs,ox,h1,hzv,lD⟩:=K8 hef;have rM:=Sq lD;have jv:=kQ ba;have CW:=((w8 (cap:=C.cap) (σ:=σ) hz lD).1).sub bM;simp only[ax] at hr;obtain⟨es,ja,rfl⟩:=hr;obtain⟨Uc,el2⟩:=mapM_some _ _ _ ja;simp only[SQ] at Uc;have Vi:∀i,i<len→∃pe,es[i]?=some pe∧Gl C S gs e z.2 ps.toList i=some pe:=by
  intro i hi;obtain⟨y,hy1,rK⟩:=el2 i i (by rw[pD hi]);exact⟨y,hy1,rK⟩
 have ng:∀x,x∈ps.toList→x.1<len∧∃t pe,use C S gs x.2=some (t,pe)∧Ty.sub t e=true∧es[x.1]?=some pe:=by
  intro x hx;have vN:x.1<len:=by
   have:=bz.1 fa x hx;simpa [ic] using this
  refine⟨vN,?_⟩;obtain⟨pe,CG,gg⟩:=Vi x.1 vN;have th:=Ur jv (i:=x.1) (x:=x.2) hx;simp only[Gl,th,aq] at gg;obtain⟨y,hy,gg⟩:=gg;cases hs:Ty.sub y.1 e<;>simp only[hs,cond_true,cond_false] at gg
  ·cases gg
  cases gg;exact⟨y.1,y.2,hy,hs,CG⟩
 let c0:Array Value:=madeCells zv.cells (len*e.size)
 have Cc:c0.size=len*e.size:=size_madeCells _ _
 have jy:∀p,p∈(ps.toList.map fun(x:Nat×Operand)=>(x.1,a.eval x.2))→∃o,(fun i=>some (i*e.size,e.size)) p.1=some (o,p.2.cells.size)∧o+p.2.cells.size≤c0.size:=by
  intro p hp;obtain⟨x,hx,rfl⟩:=dP.1 hp;obtain⟨vN,t,pe,hu,cC,_⟩:=ng x hx;have tC:=((cf h hC hg hu).sub cC).size;simp only;refine⟨x.1*e.size,by rw[tC],?_⟩;rw[tC,Cc];have:(x.1+1)*e.size≤len*e.size:=mP _ vN;rw[nQ] at this;omega
 have yU:∀(i j oi si oj sj:Nat),i≠j→(fun i=>some (i*e.size,e.size)) i=some (oi,si)→(fun i=>some (i*e.size,e.size)) j=some (oj,sj)→oi+si≤oj∨oj+sj≤oi:=by
  intro i j oi si oj sj ay hi hj;simp only[aQ,mR] at hi hj;obtain⟨rfl,rfl⟩:=hi;obtain⟨rfl,rfl⟩:=hj;rcases JT i j with af|eY
  ·left;have:(i+1)*e.size≤j*e.size:=mP _ af;rw[nQ] at this;omega
  ·right;have:(j+1)*e.size≤i*e.size:=mP _ (by omega);rw[nQ] at this;omega
 obtain⟨cZ,f1,f2,f3,f4⟩:=Lf (fun i=>some (i*e.size,e.size)) (ps.toList.map fun(x:Nat×Operand)=>(x.1,a.eval x.2)) c0 jy yU (by simpa [ET] using jv);have ah:(execOp a.eval o).run C.P w=.ok (.value (.slice (some ⟨w.heap.size,0,none⟩) len len)) (w.alloc (.cells cZ E)):=by
  have n1:¬(len*inf.size>2^24):=by rw[hs];omega
  have Gr:Instr.fill (fun i=>some (i*inf.size,inf.size)) c0 (ps.toList.map fun(x:Nat×Operand)=>(x.1,a.eval x.2))=some cZ:=by rw[hs];exact f1
  by_cases h0:len*inf.size=0
  ·have yQ:c0=#[]:=by
        apply JF;rw[Cc,←hs];exact h0
   rw[yQ] at Gr
   have afm:Instr.fill (fun i=>some (i*inf.size,inf.size)) (Array.map (fun _=>default) (Array.range 0)) (ps.toList.map fun(x:Nat×Operand)=>(x.1,a.eval x.2))=some cZ:=by
        have:(Array.map (fun _=>(default:Value)) (Array.range 0))=#[]:=by simp
        rw[this];exact Gr
   simp[execOp,ho,Instr.buildSlice,run_underlying hT,Go.sizeOf,run_typeInfo w hi,n1,h0,afm,newRow]
  ·have yQ:c0=(Array.range (len*inf.size)).map (fun x=>zv.cells[x%zv.cells.size]!):=by simp only[c0,madeCells,hs]
   rw[yQ] at Gr;have h00:¬(len=0∨inf.size=0):=by rw[←Nat.mul_eq_zero];exact h0
   simp[execOp,ho,Instr.buildSlice,run_underlying hT,Go.sizeOf,run_typeInfo w hi,n1,h0,h00,zeroValue,hzv,Gr,newRow]
 refine⟨E,e,es,_,_,hT,he,rfl,ah,(Below.refl _ _).alloc (aW _) _,fun k hk=>by simp at hk;simp;omega,?_⟩;have iZ:(PE.evs ρ es).length=len:=by rw[PE.evs_eq,ed,Uc]
 have ahO:∀(i:Nat) (x:D),(PE.evs ρ es)[i]?=some x→∃v,Rep C.cap σ e v x∧∀q u,v.cells[q]?=some u→cZ.toList[i*e.size+q]?=some u:=by
  intro i x hx;have vw:i<len:=by have:=(eT.1 hx).1;omega
  obtain⟨pe,CG,gg⟩:=Vi i vw;rw[afk CG] at hx;cases hx;unfold Gl at gg;split at gg
  ·rename_i p hp;have VW:=uG hp;have Hl:p.1=i:=by have:=JJ hp;simpa using this
   obtain⟨_,t,pe',hu,cC,tu⟩:=ng p VW;rw[Hl,CG] at tu;cases tu;have bH:=(cf h hC hg hu).sub cC;refine⟨_,bH,fun q u hq=>?_⟩;have Hm:q<(a.eval p.2).cells.size:=(fX.1 hq).1;have:=f3 p.1 (a.eval p.2) (p.1*e.size) (dP.2 ⟨p,VW,rfl⟩) (by simp[bH.size]) q Hm;rw[Hl] at this;simp[this,hq]
  ·rename_i hp;cases gg;refine⟨zv,CW,fun q u hq=>?_⟩;have Hm:q<zv.cells.size:=(fX.1 hq).1
   have p8:i∉(ps.toList.map fun(x:Nat×Operand)=>(x.1,a.eval x.2)).map (·.1):=by
        intro cV;simp only[EX,dP,ET] at cV;obtain⟨x,zf,e⟩:=cV;have:=xj.1 hp x zf;simp[e] at this
   have:=f4 i (i*e.size) e.size p8 rfl q (by omega);have h9:c0[i*e.size+q]?=zv.cells[q]?:=by
        simp only[c0];rw[←rM];exact W7 (by omega) vw Hm
   simp[this,h9,hq]
 have gU:∃vs:Nat→Value,∀(i:Nat) (x:D),(PE.evs ρ es)[i]?=some x→Rep C.cap σ e (vs i) x∧∀q u,(vs i).cells[q]?=some u→cZ.toList[i*e.size+q]?=some u:=by
  have lx:∀i,∃v,∀x,(PE.evs ρ es)[i]?=some x→Rep C.cap σ e v x∧∀q u,v.cells[q]?=some u→cZ.toList[i*e.size+q]?=some u:=by
   intro i;cases hx:(PE.evs ρ es)[i]? with
   |none=>exact⟨undef,fun x db=>by cases db⟩
   |some x=>
    obtain⟨v,hv⟩:=ahO i x hx;exact⟨v,fun y hy=>by cases hy;exact hv⟩
  exact⟨fun i=>Classical.choose (lx i),fun i x hx=>SA (lx i) x hx⟩
 obtain⟨vs,gU⟩:=gU;have dg:cZ.size=len*e.size:=by rw[f2,Cc]
 refine⟨cZ.toList,PE.evs ρ es,by simp[Env.setO,aJ],?_,⟨vs,fun i x hx=>(gU i x hx).1,fun i j u hi hj=>(gU i _ (bq hi)).2 j u hj⟩,fun k hk=>by rw[aJ] at hk;simp[Value.ownBlock] at hk;simp[ff,hk]⟩;rw[aJ,iZ];have L4:len≤maxLen:=by
  have:len*1≤len*e.size:=Nat.mul_le_mul_left _ h1;unfold maxLen;omega
 exact⟨by simp[dg],.inr ⟨w.heap.size,len,cZ,rfl,h.below.size,heap_alloc_new w _,aW _,L4,dg,by rw[AM (by simp[dg])]⟩⟩
theorem aev (h:Inv C S ρ σ own hv w0 σ0 A a w)(hC:CtxOK C σ0)(ht:¬A dst)(af:dst<a.tmps.size){T:TypeId}{len:Nat}{ps:Array (Nat×Operand)}{r:St×List PI}(hr:u7 C S [] dst T len ps.toList=some r){o:Oper}(hd:o.dst=some dst)
 (ho:o.op=.buildSlice T len ps):bO C w0 σ0 Φ S ρ A a w o r:=by
 obtain⟨E,e,es,v,w',_,_,rfl,ah,hb,cW,cu⟩:=T3 h hC rfl hr ho;refine bO.value hd fun ρ' ni=>⟨_,_,ah,?_⟩
 rw[Aj ni];exact h.mkObj ht af (.row E e) _ _ (fun k=>Nat.beq k w.heap.size) hb cW cu
theorem Inv.kill (h:Inv C S ρ σ own hv w0 σ0 A a w)(j:Nat):Inv C (S.newO j .dead) ρ σ own hv w0 σ0 A a w:=by
 have dm:∀i,S.ver i≤(S.newO j .dead).ver i:=by
  intro i;show S.ver i≤bN S.ver j (S.ver j+1) i;rw[eR];by_cases e:i=j
  ·subst e;simp
  ·simp[e]
 have hc:Compat S hv (S.newO j .dead) hv:=⟨dm,fun _ _=>rfl⟩
 refine h.step (·=j) rfl (.refl σ) h.ok (fun _ _ _ hx=>.inl hx) (fun _ _ hx=>.inl hx) (.refl _ _) hc (fun i hi=>⟨by simp[St.newO,bf _ _ hi],rfl,rfl,fun k hk=>⟨hk,rfl⟩⟩) (fun i hi=>?_) h.owns (fun _=>id) (fun t=>.inl ⟨rfl,rfl,rfl⟩) (fun _ _=>rfl) (fun _ _ _=>rfl) (fun k i hk=>.inl ⟨i,hk⟩) (fun i hi=>by subst hi;simp[St.newO,aJ]);subst hi;simp only[St.newO,aJ];trivial
theorem aeL (h:Inv C S ρ σ own hv w0 σ0 A a w)(hC:CtxOK C σ0)(ht:¬A dst)(af:dst<a.tmps.size)(dC:∀g,g∈gs→A g.1)(hg:holds gs ρ=true){T:TypeId}{len:Nat}{ps:Array (Nat×Operand)}{r:St×List PI}(hr:yu C S gs dst T len ps.toList=some r){o:Oper}(hd:o.dst=some dst)
 (ho:o.op=.buildSlice T len ps):bO C w0 σ0 Φ S ρ A a w o r:=by
 unfold yu at hr;split at hr
 case h_2=>cases hr
 rename_i E q hT hq;simp only[aq] at hr;obtain⟨e,he,hr⟩:=hr;obtain⟨E',e',es,v,w',yK,oA,rfl,ah,hb,cW,cu⟩:=T3 h hC hg hq ho;rw[hT] at yK;cases yK;rw[he] at oA;cases oA;cases hr;refine bO.value hd fun ρ' ni=>⟨_,_,ah,?_⟩
 have hρ:ρ'=ρ.setR dst (.list (PE.evs ρ es)):=by simp[PI.runs,PI.run,PE.ev] at ni;exact ni.symm
 subst hρ;have h1:=h.newO dst (.row E e) (.list (PE.evs ρ es)) v (fun k=>Nat.beq k w.heap.size) hb cW cu;obtain⟨σ2,iN,_,h2⟩:=h1.fz dst;have yW:(S.newO dst (.row E e)).fz dst=(S.newO dst (.row E e)).setO dst (.fz (.slice e.rol)):=by
  have:(S.newO dst (.row E e)).o dst=.row E e:=aJ _ _ _;unfold St.fz;rw[this]
 rw[yW] at h2;have aU:=h2.objs dst;have e1:((S.newO dst (.row E e)).setO dst (.fz (.slice e.rol))).o dst=.fz (.slice e.rol):=aJ _ _ _;rw[e1] at aU;have bH:Rep C.cap σ2 (.slice e.rol) v (.list (PE.evs ρ es)):=by
  have:=aU.2
  rwa [aJ,show(ρ.setO dst (.list (PE.evs ρ es))).o dst=.list (PE.evs ρ es) from aJ _ _ _] at this
 have h3:Inv C (S.newO dst .dead) ρ σ2 iN (bN hv dst v) w0 σ0 A a w':=by
  refine h2.step (·=dst) rfl (.refl σ2) h2.ok (fun _ _ _ hx=>.inl hx) (fun _ _ hx=>.inl hx) (.refl _ _) ⟨fun i=>aW _,fun _ _=>rfl⟩ (fun i hi=>⟨?_,?_,rfl,fun k hk=>⟨hk,rfl⟩⟩) (fun i hi=>?_) h2.owns (fun _=>id) (fun t=>.inl ⟨rfl,rfl,rfl⟩) (fun _ _=>rfl) (fun _ _ _=>rfl) (fun k i hk=>.inl ⟨i,hk⟩) (fun i hi=>by subst hi;simp[St.newO,aJ])
  ·simp[St.newO,St.setO,bf _ _ hi]
  ·simp[Env.setO,bf _ _ hi]
  ·subst hi;simp only[St.newO,aJ];trivial
 have hh:holds gs (ρ.setR dst (.list (PE.evs ρ es)))=true:=by rw[CD (t:=dst) fun g hm e=>ht (by rw[←e];exact dC g hm)];exact hg
 cases gs with
 |nil=>exact⟨_,_,_,h3.setReg ht (s:=.dat (.slice e.rol)) bH af (fun _ _ e=>by cases e)⟩
 |cons g bI=>
  refine⟨_,_,_,h3.setReg ht (s:=.opt (g::bI) (.dat (.slice e.rol))) ⟨fun _=>bH,fun e=>absurd (hh.symm.trans e) (by decide)⟩ af (fun gs s e=>?_)⟩;cases e;exact⟨dC,fun _ _ e=>by cases e⟩
end
end Cx
