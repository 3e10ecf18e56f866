/-
  Shared texts of this claim.
-/
import Derived.Test.YtipjidjopglknaaGreatDoorNAB
import Derived.Laws.OwnMore
import Derived.Lib.ConvBytes
set_option linter.unusedSimpArgs false
set_option linter.unusedVariables false
namespace Cx
open Go Go.RowKit
def gI (b i:Nat):Nat:=4096*(i+1)+b
def St.fz (S:St)(j:Nat):St:=
 match S.o j with
 |.row _ e=>S.setO j (.fz (.slice e.rol))
 |.mp k e=>S.setO j (.fz (.map k e))
 |_=>S
def Dt (S:St)(b:Nat):Option (St×List PI):=
 match S.o b with
 |.box ag shs=>
  (qU S (.o b) shs 0).bind fun x=>
    bif ag then some (S.setO b (.fbox (.agg x.1)),[.setO b (.mk x.2)])
    else match x.1,x.2 with
     |[t],[e]=>some (S.setO b (.fbox t),[.setO b e])
     |_,_=>Option.none
 |_=>Option.none
def St.mv (S:St)(j j':Nat):St:=
 {S with o:=bT (bT S.o j' (S.o j)) j .dead,ver:=bT (bT S.ver j' (S.ver j'+1)) j (S.ver j+1)}
def kY:Ob→Bool
 |.row ..=>true
 |.mp ..=>true
 |_=>false
def xX (S:St)(t j':Nat):Option (St×List PI):=
 match S.r t with
 |.obj j ver=>
  bif Nat.beq ver (S.ver j)&&kY (S.o j)&& !Nat.beq j j' then some ((S.mv j j').setR t (.obj j' (S.ver j'+1)),[.setO j' (.o j)])
  else some (S,[])
 |_=>some (S,[])
def Gb (S:St)(b i j':Nat):Option (St×List PI):=
 match S.o b with
 |.box ag shs=>
  match shs[i]? with
  |some (.obj j ver)=>
   bif Nat.beq ver (S.ver j)&&kY (S.o j)&& !Nat.beq j j'&& !Nat.beq b j'&& !Nat.beq b j then
    some ((S.mv j j').setO b (.box ag (shs.set i (.obj j' (S.ver j'+1)))),[.setO j' (.o j)])
   else some (S,[])
  |_=>some (S,[])
 |_=>some (S,[])
def Ec (C:Ctx)(S:St)(b i j:Nat)(T:TypeId):Option (St×List PI):=
 match S.o b with
 |.box ag shs=>
  match shs[i]?,pj C.P T with
  |some (.dat (.nils _)),some e=>
   bif !Nat.beq b j then some ((S.newO j (.row T e)).setO b (.box ag (shs.set i (.obj j (S.ver j+1)))),[.setO j (.con (.list []))])
   else some (S,[])
  |_,_=>some (S,[])
 |_=>some (S,[])
section
variable {C:Ctx} {S:St} {ρ:Env} {σ:Im} {own:Nat→Option Nat} {hv:Nat→Value} {w0:World} {σ0:Base} {A:Nat→Prop} {a:Act} {w:World} {gs:List (Nat×Bool)} {Φ:aL} {dst:Nat}
theorem Inv.lt (h:Inv C S ρ σ own hv w0 σ0 A a w){k o:Nat}{u:Value}(hc:σ.c k o=some u):k<w.heap.size:=World.block_lt_of_cell? w (a:=⟨k,o,none⟩) (h.ok.c _ _ _ hc)
theorem Inv.ltm (h:Inv C S ρ σ own hv w0 σ0 A a w){k:Nat}{es:List (Value×Value)}(hc:σ.m k=some es):k<w.heap.size:=by
 exact(h.ok.m _ _ hc).lt
theorem aem {w:World}{k:Nat}{c:Array Value}{T:TypeId}(h:w.heap[k]?=some (.cells c T (0,0)))(o:Nat):w.frozen? ⟨k,o,none⟩=false:=by simp[World.frozen?,h]
theorem acn {w:World}{base:Nat}{e:TypeId}{size:Nat}{v:Value}{n:Nat}{xs:List Value}(h:w.ownsRow base e size v n xs){g:Nat}(hg:v.ownBlock=some g)(o:Nat):w.frozen? ⟨g,o,none⟩=false:=by
 rcases h.2 with⟨rfl,_⟩|⟨g',cap,cur,rfl,_,h3,_⟩
 ·cases hg
 ·cases hg;exact aem h3 o
theorem acm {w:World}{base:Nat}{e:TypeId}{size:Nat}{v:Value}{n:Nat}{xs:List Value}(h:w.ownsRow base e size v n xs){g:Nat}(hg:v.ownBlock=some g):∃cs T fz,w.heap[g]?=some (.cells cs T fz):=by
 rcases h.2 with⟨rfl,_⟩|⟨g',cap,cur,rfl,_,h3,_⟩
 ·cases hg
 ·cases hg;exact⟨_,_,_,h3⟩
theorem Im.ok.fz {σ:Im}{w w':World}(h:σ.ok w)(hk:∀k o v,σ.c k o=some v→w'.heap[k]?=w.heap[k]?):∀k o n,σ.c k o=some (.int .i64 n)→k=0∨w'.frozen? ⟨k,o,none⟩=false:=fun k o n hc=>by
 rw[World.frozen?_of_block (w:=w) (hk k o _ hc)];exact h.f k o n hc
theorem Im.ok.below {σ:Im}{w w':World}(h:σ.ok w)(hb:Below w.heap.size w w'):σ.ok w':=by
 refine⟨fun k o v hc=>?_,fun k es hc=>?_,h.fz fun k o v hc=>hb.block k (World.block_lt_of_cell? w (a:=⟨k,o,none⟩) (h.c k o v hc))⟩
 ·have h1:=h.c k o v hc;rw[hb.cell (World.block_lt_of_cell? w (a:=⟨k,o,none⟩) h1)];exact h1
 ·exact(h.m k es hc).keep (hb.block k (h.m k es hc).lt)
def fF (own:Nat→Option Nat)(j:Nat)(nb:Nat→Bool):Nat→Option Nat:=fun k=>if nb k then some j else if own k=some j then none else own k
theorem Inv.newOσ (h:Inv C S ρ σ own hv w0 σ0 A a w)(j:Nat)(ob:Ob)(d:D)(v:Value)(nb:Nat→Bool){σ':Im}{w':World}(hle:σ.le σ')(av:σ'.ok w')(da:∀k o x,σ'.c k o=some x→σ.c k o=some x∨w.heap.size≤k)(cQ:∀k x,σ'.m k=some x→σ.m k=some x∨w.heap.size≤k)
 (hw:Below w.heap.size w w') (dh:∀k,nb k=true→w.heap.size≤k∧k<w'.heap.size) (db:∀k,nb k=true→(∀o,σ'.c k o=none)∧σ'.m k=none)
 (cG:cd C (S.newO j ob) (ρ.setO j d) σ' (fF own j nb) (bT hv j v) w' w0.heap.size j ob) (nf:ob≠.tr:=by intro h;cases h):Inv C (S.newO j ob) (ρ.setO j d) σ' (fF own j nb) (bT hv j v) w0 σ0 A a w':=by
 have aE:w0.heap.size≤w.heap.size:=h.below.size;have bX:∀k i,i≠j→own k=some i→fF own j nb k=some i:=by
  intro k i hi hk;have h1:=h.owns k i hk;have h2:nb k=false:=by
   cases hn:nb k with
   |false=>rfl
   |true=>have:=dh k hn;omega
  simp[fF,h2,hk,hi]
 refine h.step (fun i=>i=j) rfl hle av (fun k o x hx=>(da k o x hx).imp id fun e=>⟨by omega,.inr e⟩) (fun k x hx=>(cQ k x hx).imp id fun e=>⟨by omega,.inr e⟩) (hw.mono aE) ⟨fun i=>?_,fun i e=>?_⟩ (fun i hi=>⟨?_,?_,?_,fun k hk=>⟨bX k i hi hk,?_⟩⟩) (fun i hi=>?_) (fun k i hk=>?_) (fun _=>id) (fun t=>.inl ⟨rfl,rfl,rfl⟩) (fun _ _=>rfl) (fun k hk _=>hw.block k hk) (fun k i hk=>by
  unfold fF at hk;split at hk
  ·rename_i hn;exact .inr (dh k hn).1
  ·split at hk
   ·cases hk
   ·exact .inl ⟨i,hk⟩) (fun i hi=>by subst hi;simpa only[St.newO,aK] using nf)
 ·simp only[St.newO,fj];split<;>rename_i e
  ·subst e;omega
  ·omega
 ·simp only[St.newO,fj] at e;split at e
  ·rename_i e';subst e';omega
  ·rename_i aw;exact bo _ _ aw
 ·simp[St.newO,bo _ _ hi]
 ·simp[Env.setO,bo _ _ hi]
 ·exact bo _ _ hi
 ·exact hw.block k (h.owns k i hk).2.1
 ·subst hi;simp only[St.newO,aK];exact cG
 ·unfold fF at hk;split at hk
  ·rename_i hn;obtain⟨g1,g2⟩:=dh k hn;exact⟨by omega,g2,(db k hn).1,(db k hn).2⟩
  ·split at hk
   ·cases hk
   ·obtain⟨g1,g2,g3,g4⟩:=h.owns k i hk;refine⟨g1,by have:=hw.size;omega,fun o=>?_,?_⟩
    ·cases hc:σ'.c k o with
     |none=>rfl
     |some u=>
      rcases da k o u hc with e|e
      ·rw[g3 o] at e;cases e
      ·omega
    ·cases hc:σ'.m k with
     |none=>rfl
     |some u=>
      rcases cQ k u hc with e|e
      ·rw[g4] at e;cases e
      ·omega
theorem Inv.newO (h:Inv C S ρ σ own hv w0 σ0 A a w)(j:Nat)(ob:Ob)(d:D)(v:Value)(nb:Nat→Bool){w':World}(hw:Below w.heap.size w w')(dh:∀k,nb k=true→w.heap.size≤k∧k<w'.heap.size)
 (cG:cd C (S.newO j ob) (ρ.setO j d) σ (fF own j nb) (bT hv j v) w' w0.heap.size j ob) (nf:ob≠.tr:=by intro h;cases h):Inv C (S.newO j ob) (ρ.setO j d) σ (fF own j nb) (bT hv j v) w0 σ0 A a w':=by
 refine h.newOσ j ob d v nb (.refl σ) (h.ok.below hw) (fun _ _ _ hx=>.inl hx) (fun _ _ hx=>.inl hx) hw dh (fun k hn=>⟨fun o=>?_,?_⟩) cG nf
 ·cases hc:σ.c k o with
  |none=>rfl
  |some u=>have:=h.lt hc;have:=(dh k hn).1;omega
 ·cases hc:σ.m k with
  |none=>rfl
  |some u=>have:=h.ltm hc;have:=(dh k hn).1;omega
theorem Inv.setObj (h:Inv C S ρ σ own hv w0 σ0 A a w){t j:Nat}(ht:¬A t){v:Value}(eW:hv j=v)(af:t<a.tmps.size):
 Inv C (S.setR t (.obj j (S.ver j))) (ρ.setR t .none) σ own hv w0 σ0 (fun u=>A u∨u=t) (a.put (some t) v) w:=
 h.setReg ht (s:=.obj j (S.ver j)) (v:=v) (d:=.none) ⟨bf _,fun _=>eW.symm⟩ af (fun _ _ e=>by cases e)
theorem It (S:St)(j:Nat):(S.fz j).ver=S.ver∧(S.fz j).r=S.r:=by
 unfold St.fz;split<;>exact⟨rfl,rfl⟩
theorem Inv.fz (h:Inv C S ρ σ own hv w0 σ0 A a w)(j:Nat):∃σ' own',σ.le σ'∧Inv C (S.fz j) ρ σ' own' hv w0 σ0 A a w:=by
 have aX:=h.objs j;unfold St.fz;split
 ·rename_i T e eo;rw[eo] at aX;obtain⟨cells,xs,h1,h2,⟨vs,h3,h4⟩,h5⟩:=aX;have aE:w0.heap.size≤w.heap.size:=h.below.size
  let nb:Nat→Bool:=fun k=>decide ((hv j).ownBlock=some k)
  let σ':Im:={c:=fun k o=>if nb k then cells[o]? else σ.c k o,m:=fun k=>if nb k then some hG else σ.m k}
  have dh:∀k,nb k=true→own k=some j:=fun k hk=>h5 k (by simpa [nb] using hk);have hle:σ.le σ':=by
   refine⟨fun k o v hc=>?_,fun k es hc=>?_⟩
   ·have:nb k=false:=by
     cases hn:nb k with
     |false=>rfl
     |true=>have:=(h.owns k j (dh k hn)).2.2.1 o;rw[this] at hc;cases hc
    simp[σ',this,hc]
   ·have:nb k=false:=by
     cases hn:nb k with
     |false=>rfl
     |true=>have:=(h.owns k j (dh k hn)).2.2.2;rw[this] at hc;cases hc
    simp[σ',this,hc]
  refine⟨σ',fun k=>if nb k then none else own k,hle,h.step (fun i=>i=j) rfl hle ?_ (fun k o x hx=>?_) (fun k x hx=>?_) (.refl _ _) ⟨fun _=>bf _,fun _ _=>rfl⟩ (fun i hi=>⟨?_,rfl,rfl,fun k hk=>⟨?_,rfl⟩⟩) (fun i hi=>?_) (fun k i hk=>?_) (fun _=>id) (fun t=>.inl ⟨rfl,rfl,rfl⟩) (fun _ _=>rfl) (fun _ _ _=>rfl) (fun k i hk=>by
        split at hk
        ·cases hk
        ·exact .inl ⟨i,hk⟩) (fun i hi=>by subst hi;simp[St.setO,aK])⟩
  ·refine⟨fun k o v hc=>?_,fun k es hc=>?_,fun k o v hc=>?_⟩
   all_goals simp only[σ'] at hc
   all_goals split at hc
   ·rename_i hn;have cG:(hv j).ownBlock=some k:=by simpa [nb] using hn
    have:=h2.cells cG o v hc;rw[sy] at this;simpa using this
   ·exact h.ok.c k o v hc
   ·rename_i hn;cases hc;obtain⟨cs,T,fz,e⟩:=acm h2 (g:=k) (by simpa [nb] using hn);exact .inr (.inr ⟨rfl,cs,T,fz,e⟩)
   ·exact h.ok.m k es hc
   ·rename_i hn;exact .inr (acn h2 (by simpa [nb] using hn) o)
   ·exact h.ok.f k o v hc
  ·simp only[σ'] at hx;split at hx
   ·rename_i hn;exact .inr ⟨(h.owns k j (dh k hn)).1,.inl ⟨j,dh k hn⟩⟩
   ·exact .inl hx
  ·simp only[σ'] at hx;split at hx
   ·rename_i hn;exact .inr ⟨(h.owns k j (dh k hn)).1,.inl ⟨j,dh k hn⟩⟩
   ·exact .inl hx
  ·simp[St.setO,bo _ _ hi]
  ·have:nb k=false:=by
        cases hn:nb k with
        |false=>rfl
        |true=>rw[dh k hn] at hk;simp at hk;exact absurd hk.symm hi
   simp[this,hk]
  ·subst hi;simp only[St.setO,aK];refine⟨rfl,?_⟩;rw[h1];rcases h2.2 with⟨e1,e2⟩|⟨g,cap,cur,e1,e2,e3,e4,e5,e6,e7⟩
   ·rw[e1];have:xs=[]:=LU e2;subst this;exact .nil _
   ·rw[e1];refine .slice e.rol g 0 xs.length cap xs vs rfl e4 e5 (fun i x hx=>((h3 i x hx).mono hle).unf_rol) (fun i m u hi hu=>?_) (fun _=>by simp[σ',nb,e1,Value.ownBlock]);rw[Ty.rol_size];have hn:nb g=true:=by simp[nb,e1,Value.ownBlock]
    simp only[σ',hn,if_true,gS];exact h4 i m u hi hu
  ·split at hk
   ·cases hk
   ·rename_i hn;obtain⟨g1,g2,g3,g4⟩:=h.owns k i hk;exact⟨g1,g2,fun o=>by simp[σ',hn,g3 o],by simp[σ',hn,g4]⟩
 ·rename_i kt et eo;rw[eo] at aX;obtain⟨k0,arr,clock,fO,h1,h2,h3,h4,h5,⟨hx,_⟩,h6⟩:=aX;have aE:w0.heap.size≤w.heap.size:=h.below.size
  let σ':Im:={c:=σ.c,m:=fun k=>if k=k0 then some (entriesOf arr) else σ.m k}
  have hle:σ.le σ':=by
   refine⟨fun k o v hc=>hc,fun k es hc=>?_⟩;have:k≠k0:=fun e=>by subst e;rw[(h.owns k j h2).2.2.2] at hc;cases hc
   simp[σ',this,hc]
  refine⟨σ',fun k=>if k=k0 then none else own k,hle,h.step (fun i=>i=j) rfl hle ?_ (fun k o x hx=>.inl hx) (fun k x hx=>?_) (.refl _ _) ⟨fun _=>bf _,fun _ _=>rfl⟩ (fun i hi=>⟨?_,rfl,rfl,fun k hk=>⟨?_,rfl⟩⟩) (fun i hi=>?_) (fun k i hk=>?_) (fun _=>id) (fun t=>.inl ⟨rfl,rfl,rfl⟩) (fun _ _=>rfl) (fun _ _ _=>rfl) (fun k i hk=>by
        split at hk
        ·cases hk
        ·exact .inl ⟨i,hk⟩) (fun i hi=>by subst hi;simp[St.setO,aK])⟩
  ·refine⟨h.ok.c,fun k es hc=>?_,h.ok.f⟩;simp only[σ'] at hc;split at hc
   ·rename_i e;subst e;cases hc;refine .inl ⟨fun e=>?_,arr,clock,h3,rfl⟩;refine EL (cap:=C.cap) (σ:=σ) (kt:=kt) (es:=fO) (by simp[entriesOf,h5]) (fun i p q hp hq=>?_) e;simp only[entriesOf,ct,az] at hp;obtain⟨x,dm,rfl⟩:=hp;exact(h6 i x q (by simpa using dm) hq).1
   ·exact h.ok.m k es hc
  ·simp only[σ'] at hx;split at hx
   ·rename_i e;subst e;exact .inr ⟨(h.owns k j h2).1,.inl ⟨j,h2⟩⟩
   ·exact .inl hx
  ·simp[St.setO,bo _ _ hi]
  ·have:k≠k0:=fun e=>by subst e;rw[h2] at hk;simp at hk;exact hi hk.symm
   simp[this,hk]
  ·subst hi;simp only[St.setO,aK];refine⟨rfl,?_⟩;rw[h1,h4];refine .map kt et k0 (entriesOf arr) fO (by simp[σ']) (by simp[entriesOf,h5]) hx (fun i p q hp hq=>?_) (fun i p q hp hq=>?_)
   ·simp only[entriesOf,ct,az] at hp;obtain⟨e,he,rfl⟩:=hp;exact((h6 i e q (by simpa using he) hq).1).mono hle
   ·simp only[entriesOf,ct,az] at hp;obtain⟨e,he,rfl⟩:=hp;exact((h6 i e q (by simpa using he) hq).2).mono hle
  ·split at hk
   ·cases hk
   ·rename_i hn;obtain⟨g1,g2,g3,g4⟩:=h.owns k i hk;exact⟨g1,g2,g3,by simp[σ',hn,g4]⟩
 ·exact⟨σ,own,.refl σ,h⟩
end
end Cx
namespace Cx
open Go Go.RowKit
section
variable {C:Ctx} {S:St} {ρ:Env} {σ:Im} {own:Nat→Option Nat} {hv:Nat→Value} {w0:World} {σ0:Base} {A:Nat→Prop} {a:Act} {w:World} {gs:List (Nat×Bool)} {Φ:aL} {dst:Nat}
theorem rT {j:Nat}{e:PE}{ρ':Env}(h:PI.runs Φ [.setO j e] ρ=some ρ'):ρ'=ρ.setO j (e.ev ρ):=by
 simp[PI.runs,PI.run] at h;exact h.symm
theorem nA {ρ':Env}(h:PI.runs Φ [] ρ=some ρ'):ρ'=ρ:=by
 simp[PI.runs] at h;exact h.symm
def B5 (C:Ctx)(w0:World)(σ0:Base)(Φ:aL)(S:St)(ρ:Env)(A:Nat→Prop)(a:Act)(w:World)(r:St×List PI):Prop:=
 ∀ρ',PI.runs Φ r.2 ρ=some ρ'→Good C w0 σ0 r.1 ρ' A a w
theorem akd (h:Inv C S ρ σ own hv w0 σ0 A a w){b:Nat}{r:St×List PI}(hr:Dt S b=some r):B5 C w0 σ0 Φ S ρ A a w r:=by
 unfold Dt at hr;split at hr
 case h_2=>cases hr
 rename_i ag shs eo;simp only[aq] at hr;obtain⟨x,hx,hr⟩:=hr;have aX:=h.objs b;rw[eo] at aX;obtain⟨k,cs,T,ds,h1,h2,h3,h4,h5,h6,h7⟩:=aX;obtain⟨l1,es,⟨he,p5⟩,l2,bL⟩:=M8 (b:=.o b) h (cs:=cs.toList) h5 shs 0 x (fun m s hm=>by rw[zU,gS];exact(h7 m s hm).2) hx
 let σ':Im:={c:=fun k' o=>if k'=k then cs[o]? else σ.c k' o,m:=σ.m}
 have hle:σ.le σ':=by
  refine⟨fun k' o v hc=>?_,fun k es hc=>hc⟩;have:k'≠k:=fun e=>by subst e;rw[(h.owns k' b h2).2.2.1 o] at hc;cases hc
  simp[σ',this,hc]
 have key:∀(t:Ty) (v:Value) (d:D),Rep C.cap σ' t v d→(∀(i:Nat) (u:Value),v.cells[i]?=some u→cs[i]?=some u)→
  Inv C (S.setO b (.fbox t)) (ρ.setO b d) σ' (fun k'=>if k'=k then none else own k') hv w0 σ0 A a w:=by
  intro t v d hrv aY
  refine h.step (fun i=>i=b) rfl hle ?_ (fun k' o x hx=>?_) (fun _ _ hx=>.inl hx) (.refl _ _) ⟨fun _=>bf _,fun _ _=>rfl⟩ (fun i hi=>⟨?_,?_,rfl,fun k' hk=>⟨?_,rfl⟩⟩) (fun i hi=>?_) (fun k' i hk=>?_) (fun _=>id) (fun t=>.inl ⟨rfl,rfl,rfl⟩) (fun _ _=>rfl) (fun _ _ _=>rfl) (fun k' i hk=>by
        split at hk
        ·cases hk
        ·exact .inl ⟨i,hk⟩) (fun i hi=>by subst hi;simp[St.setO,aK])
  ·refine⟨fun k' o v hc=>?_,h.ok.m,fun k' o v hc=>?_⟩
   all_goals simp only[σ'] at hc
   all_goals split at hc
   ·rename_i e;subst e;simp[World.cell?,h3,hc]
   ·exact h.ok.c k' o v hc
   ·rename_i e;subst e;exact .inr (aem h3 o)
   ·exact h.ok.f k' o v hc
  ·simp only[σ'] at hx;split at hx
   ·rename_i e;subst e;exact .inr ⟨(h.owns k' b h2).1,.inl ⟨b,h2⟩⟩
   ·exact .inl hx
  ·simp[St.setO,bo _ _ hi]
  ·simp[Env.setO,bo _ _ hi]
  ·have:k'≠k:=fun e=>by subst e;rw[h2] at hk;simp at hk;exact hi hk.symm
   simp[this,hk]
  ·subst hi;simp only[St.setO,aK];exact⟨k,v,h1,by simp only[Env.setO,aK];exact hrv,fun i u hu=>by simp[σ',aY i u hu]⟩
  ·split at hk
   ·cases hk
   ·rename_i hn;obtain⟨g1,g2,g3,g4⟩:=h.owns k' i hk;exact⟨g1,g2,fun o=>by simp[σ',hn,g3 o],g4⟩
 have jd:∀(m:Nat) (t:Ty),x.1[m]?=some t→t.one=true∧Rep C.cap σ' t (cs.toList.getD m undef) (es.getD m .none):=fun m t hm=>by
  obtain⟨g1,g2⟩:=bL m t hm;rw[gS] at g2;exact⟨g1,g2.mono hle⟩
 intro ρ' ah;cases ag with
 |true=>
  simp only[cond_true] at hr;cases hr;have:=rT ah;subst this;refine⟨_,_,_,key (.agg x.1) (.agg cs.toList.toArray) _ ?_ (fun i u hu=>by simpa [Value.cells] using hu)⟩;simp only[PE.ev,he];exact .agg _ _ _ (by simp;omega) (by omega) (fun m t hm=>(jd m t hm).2) (fun m t hm=>(jd m t hm).1)
 |false=>
  simp only[cond_false] at hr;split at hr
  ·rename_i t e et ee;cases hr;have:=rT ah;subst this;obtain⟨g1,g2⟩:=jd 0 t (by rw[et];rfl);have jy:es=[e.ev ρ]:=by rw[←p5,ee];rfl
   subst jy;refine⟨_,_,_,key t (cs.toList.getD 0 undef) _ (by simpa using g2) (fun i u hu=>?_)⟩;rw[(g2.oneCell g1).1] at hu;have hi:i=0:=by
        have:=(gD.1 hu).1;simpa using this
   subst hi;simp at hu;subst hu;have:0<cs.size:=by rw[h4];rw[et] at l1;simp at l1;omega
   rw[fL this];simp[aJ,fL this]
  ·cases hr
theorem Inv.mv (h:Inv C S ρ σ own hv w0 σ0 A a w){j j':Nat}(aw:j≠j')(hk:kY (S.o j)=true):
 Inv C (S.mv j j') (ρ.setO j' (ρ.o j)) σ (fun k=>if own k=some j then some j' else if own k=some j' then none else own k) (bT hv j' (hv j)) w0 σ0 A a w:=by
 have aX:=h.objs j
 refine h.step (fun i=>i=j∨i=j') rfl (.refl σ) h.ok (fun _ _ _ hx=>.inl hx) (fun _ _ hx=>.inl hx) (.refl _ _) ⟨fun i=>?_,fun i e=>?_⟩ (fun i hi=>?_) (fun i hi=>?_) (fun k i hk=>?_) (fun _=>id) (fun t=>.inl ⟨rfl,rfl,rfl⟩) (fun _ _=>rfl) (fun _ _ _=>rfl) (fun k i hk=>by
        split at hk
        ·rename_i e;exact .inl ⟨j,e⟩
        ·split at hk
         ·cases hk
         ·exact .inl ⟨i,hk⟩) (fun i hi=>by
        rcases hi with rfl|rfl
        ·simp[St.mv,aK]
        ·simp only[St.mv,bo _ _ (vQ aw),aK];intro e;rw[e] at hk;cases hk)
 ·simp only[St.mv,fj];split
  ·rename_i e;subst e;omega
  ·split
   ·rename_i e;subst e;omega
   ·omega
 ·simp only[St.mv,fj] at e;split at e
  ·rename_i e';subst e';omega
  ·split at e
   ·rename_i e';subst e';omega
   ·rename_i OD;exact bo _ _ OD
 ·simp only[not_or] at hi;refine⟨by simp[St.mv,bo _ _ hi.1,bo _ _ hi.2],by simp[Env.setO,bo _ _ hi.2],bo _ _ hi.2,fun k hk=>⟨?_,rfl⟩⟩;have e1:i≠j:=hi.1;have e2:i≠j':=hi.2;simp[hk,e1,e2]
 ·rcases hi with rfl|rfl
  ·simp only[St.mv,aK];trivial
  ·simp only[St.mv,bo _ _ (vQ aw),aK];cases cG:S.o j with
   |row T e=>
    rw[cG] at aX;obtain⟨cells,xs,h1,h2,h3,h4⟩:=aX;refine⟨cells,xs,by simp only[Env.setO,aK];exact h1,by rw[aK];exact h2,h3,fun k hk=>?_⟩;rw[aK] at hk;simp[h4 k hk]
   |mp kt et=>
    rw[cG] at aX;obtain⟨k0,arr,clock,es,h1,h2,h3,h4,h5,h6⟩:=aX;exact⟨k0,arr,clock,es,by rw[aK];exact h1,by simp[h2],h3,by simp only[Env.setO,aK];exact h4,h5,h6⟩
   |_=>rw[cG] at hk;simp[kY] at hk
 ·split at hk
  ·rename_i e;exact h.owns k j e
  ·split at hk
   ·cases hk
   ·exact h.owns k i hk
theorem arO (h:Inv C S ρ σ own hv w0 σ0 A a w){t j':Nat}{r:St×List PI}(hr:xX S t j'=some r):B5 C w0 σ0 Φ S ρ A a w r:=by
 intro ρ' ah;unfold xX at hr;split at hr
 ·rename_i j ver es;cases hb:(Nat.beq ver (S.ver j)&&kY (S.o j)&& !Nat.beq j j')<;>simp only[hb,cond_true,cond_false] at hr
  ·cases hr;rw[nA ah];exact⟨_,_,_,h⟩
  ·cases hr;simp only[ao,iU] at hb;have dz:=ay hb.1.1;have aw:j≠j':=fun e=>by subst e;simp at hb
   have lH:=h.mv aw hb.1.2;have gu:=h.regs t;rw[es] at gu;have cn:=gu.2 dz;rw[rT ah];refine⟨_,_,_,lH.step (S':=(S.mv j j').setR t (.obj j' (S.ver j'+1))) (fun _=>False) rfl (.refl σ) lH.ok (fun _ _ _ hx=>.inl hx) (fun _ _ hx=>.inl hx) (.refl _ _) ⟨fun _=>bf _,fun _ _=>rfl⟩ (fun i _=>⟨rfl,rfl,rfl,fun k hk=>⟨hk,rfl⟩⟩) (fun _ hf=>hf.elim) lH.owns (fun _=>id) (fun u=>?_) (fun _ _=>rfl) (fun _ _ _=>rfl) (fun k i hk=>.inl ⟨i,hk⟩) (fun _ hf=>hf.elim)⟩;by_cases hu:u=t
   ·subst hu;refine .inr ⟨?_,fun gs s e=>by simp[St.setR,aK] at e⟩;simp only[St.setR,aK];refine⟨?_,fun _=>?_⟩
    ·simp[St.mv,bo _ _ (vQ aw),aK]
    ·rw[aK];exact cn
   ·exact .inl ⟨by simp[St.setR,bo _ _ hu],rfl,rfl⟩
 ·cases hr;rw[nA ah];exact⟨_,_,_,h⟩
theorem arN (h:Inv C S ρ σ own hv w0 σ0 A a w){b i j':Nat}{r:St×List PI}(hr:Gb S b i j'=some r):B5 C w0 σ0 Φ S ρ A a w r:=by
 intro ρ' ah;unfold Gb at hr;split at hr
 ·rename_i ag shs eo;split at hr
  ·rename_i j ver es;cases hb:(Nat.beq ver (S.ver j)&&kY (S.o j)&& !Nat.beq j j'&& !Nat.beq b j'&& !Nat.beq b j)<;>simp only[hb,cond_true,cond_false] at hr
   ·cases hr;rw[nA ah];exact⟨_,_,_,h⟩
   ·cases hr;simp only[ao,iU] at hb;have dz:=ay hb.1.1.1.1;have aw:j≠j':=fun e=>by subst e;simp at hb
    have ec:b≠j':=fun e=>by subst e;simp at hb
    have cf:b≠j:=fun e=>by subst e;simp at hb
    have aX:=h.objs b;rw[eo] at aX;obtain⟨k,cs,T,ds,h1,h2,h3,h4,h5,h6,h7⟩:=aX;have cn:=(h7 i _ es).2.2 dz;have lH:=h.mv aw hb.1.1.1.2;rw[rT ah];have Ns:(S.mv j j').o b=.box ag shs:=by simp[St.mv,bo _ _ ec,bo _ _ cf,eo]
    have Ea:=lH.objs b;rw[Ns] at Ea;refine⟨_,_,_,lH.step (S':=(S.mv j j').setO b (.box ag (shs.set i (.obj j' (S.ver j'+1))))) (fun m=>m=b) rfl (.refl σ) lH.ok (fun _ _ _ hx=>.inl hx) (fun _ _ hx=>.inl hx) (.refl _ _) ⟨fun _=>bf _,fun _ _=>rfl⟩ (fun m hm=>⟨by simp[St.setO,bo _ _ hm],rfl,rfl,fun k hk=>⟨hk,rfl⟩⟩) (fun m hm=>?_) lH.owns (fun _=>id) (fun t=>.inl ⟨rfl,rfl,rfl⟩) (fun _ _=>rfl) (fun _ _ _=>rfl) (fun k i hk=>.inl ⟨i,hk⟩) (fun m hm=>by subst hm;simp[St.setO,aK])⟩;subst hm;rw[St.setO_o];obtain⟨k1,CW,T1,CZ,g1,g2,g3,g4,g5,g6,g7⟩:=Ea;have e1:CW=cs:=by
     rw[bo _ _ ec,h1] at g1;cases g1;rw[h3] at g3;cases g3;rfl
    refine⟨k1,CW,T1,CZ,g1,g2,g3,by simpa using g4,g5,by simpa using g6,fun q x hq=>?_⟩;rw[B6] at hq;split at hq
    ·rename_i e;subst e;split at hq
     ·cases hq;refine⟨(fun _ _ e=>by cases e),?_,fun _=>?_⟩
      ·simp[St.setO,St.mv,bo _ _ (vQ aw),aK]
      ·rw[aK,e1];exact cn
     ·cases hq
    ·obtain⟨f1,f2⟩:=g7 q x hq;exact⟨f1,f2.mono' (.refl σ) (Compat.setO _ _ _ _) f1⟩
  ·cases hr;rw[nA ah];exact⟨_,_,_,h⟩
 ·cases hr;rw[nA ah];exact⟨_,_,_,h⟩
theorem amr (h:Inv C S ρ σ own hv w0 σ0 A a w){b i j:Nat}{T:TypeId}{r:St×List PI}(hr:Ec C S b i j T=some r):B5 C w0 σ0 Φ S ρ A a w r:=by
 intro ρ' ah;unfold Ec at hr;split at hr
 ·rename_i ag shs eo;split at hr
  ·rename_i e0 e es et;cases hb:(!Nat.beq b j)<;>simp only[hb,cond_true,cond_false] at hr
   ·cases hr;rw[nA ah];exact⟨_,_,_,h⟩
   ·cases hr;have aw:b≠j:=fun e=>by subst e;simp at hb
    have aX:=h.objs b;rw[eo] at aX;obtain⟨k,cs,T0,ds,h1,h2,h3,h4,h5,h6,h7⟩:=aX;have cn:cs.getD i undef=.slice none 0 0:=by
     have:=(h7 i _ es).2;generalize cs.getD i undef=v at this;generalize ds.getD i .none=d at this;cases this;rfl
    have lJ:=h.newO j (.row T e) (.list []) (.slice none 0 0) (fun _=>false) (.refl _ _) (by simp) ⟨[],[],by simp[Env.setO,aK],by rw[aK];exact World.ownsRow_nil _ _ _ _,⟨fun _=>undef,by simp,by simp⟩,by rw[aK];simp[Value.ownBlock]⟩;rw[rT ah];have Ns:(S.newO j (.row T e)).o b=.box ag shs:=by simp[St.newO,bo _ _ aw,eo]
    have Ea:=lJ.objs b;rw[Ns] at Ea;refine⟨_,_,_,lJ.step (S':=(S.newO j (.row T e)).setO b (.box ag (shs.set i (.obj j (S.ver j+1))))) (fun m=>m=b) rfl (.refl σ) lJ.ok (fun _ _ _ hx=>.inl hx) (fun _ _ hx=>.inl hx) (.refl _ _) ⟨fun _=>bf _,fun _ _=>rfl⟩ (fun m hm=>⟨by simp[St.setO,bo _ _ hm],rfl,rfl,fun k hk=>⟨hk,rfl⟩⟩) (fun m hm=>?_) lJ.owns (fun _=>id) (fun t=>.inl ⟨rfl,rfl,rfl⟩) (fun _ _=>rfl) (fun _ _ _=>rfl) (fun k i hk=>.inl ⟨i,hk⟩) (fun m hm=>by subst hm;simp[St.setO,aK])⟩;subst hm;rw[St.setO_o];obtain⟨k1,CW,T1,CZ,g1,g2,g3,g4,g5,g6,g7⟩:=Ea;have e1:CW=cs:=by
     rw[bo _ _ aw,h1] at g1;cases g1;rw[h3] at g3;cases g3;rfl
    refine⟨k1,CW,T1,CZ,g1,g2,g3,by simpa using g4,g5,by simpa using g6,fun q x hq=>?_⟩;rw[B6] at hq;split at hq
    ·rename_i e';subst e';split at hq
     ·cases hq;refine⟨(fun _ _ e=>by cases e),?_,fun _=>?_⟩
      ·simp[St.setO,St.newO,aK]
      ·rw[aK,e1];exact cn
     ·cases hq
    ·obtain⟨f1,f2⟩:=g7 q x hq;exact⟨f1,f2.mono' (.refl σ) (Compat.setO _ _ _ _) f1⟩
  ·cases hr;rw[nA ah];exact⟨_,_,_,h⟩
 ·cases hr;rw[nA ah];exact⟨_,_,_,h⟩
end
end Cx
namespace Cx
open Go Go.RowKit
def mkObj (S:St)(dst:Nat)(ob:Ob):St:=(S.newO dst ob).setR dst (.obj dst (S.ver dst+1))
def mkPtr (S:St)(dst:Nat)(ob:Ob):St:=(S.newO dst ob).setR dst (.ptr dst (S.ver dst+1) 0)
abbrev kK:=Option (St×List PI)
def Da (C:Ctx)(S:St)(dst:Nat)(T:TypeId)(x:Operand):kK:=
 match use C S [] x,C.P.underlying T with
 |some (.nils _,_),some (.slice E)=>(pj C.P E).map fun e=>(mkObj S dst (.row E e),[.setO dst (.con (.list [])),.setR dst (.con .none)])
 |_,_=>Option.none
def C0 (C:Ctx)(S:St)(dst:Nat)(T:TypeId):kK:=
 match pj C.P T,C.P.info? T,qj C.P T with
 |some t,some inf,some ag=>
  bif tR inf t&&(t.rowT||t.one) then
   (pk t).map fun z=>(mkPtr S dst (.box ag (z.1.flat.map .dat)),[.setO dst (.con (.agg z.2.cells)),.setR dst (.con .none)])
  else Option.none
 |_,_,_=>Option.none
def C2 (C:Ctx)(S:St)(dst:Nat)(T:TypeId)(x:Operand):kK:=
 match use C S [] x,qj C.P T with
 |some (t,e),some ag=>
  bif t.rowT||t.one then some (mkPtr S dst (.box ag (t.flat.map .dat)),[.setO dst (.mk [e]),.setR dst (.con .none)]) else Option.none
 |Option.none,some true=>
  match fa S [] x with
  |.agg l=>some (mkPtr S dst (.box true (l.map AgC.sh)),[.setO dst (qB x),.setR dst (.con .none)])
  |_=>Option.none
 |_,_=>Option.none
def C7 (C:Ctx)(S:St)(dst:Nat)(T:TypeId)(r:Option Operand):kK:=
 match C.P.underlying T,r with
 |some (.map K E),Option.none=>
  (pj C.P K).bind fun kt=>(pj C.P E).map fun et=>(mkObj S dst (.mp kt et),[.setO dst (.con (.map [])),.setR dst (.con .none)])
 |_,_=>Option.none
def C8 (C:Ctx)(S:St)(dst:Nat)(T:TypeId)(l c:Operand):kK:=
 match C.P.underlying T,use C S [] l,use C S [] c with
 |some (.slice E),some (.int _,n),some (.int _,m)=>
  (pj C.P E).bind fun e=>
    bif qY C.P E e then
     (pk e).bind fun z=>
        bif Ty.sub z.1 e then some (mkObj S dst (.row E e),[.chk (PN n),.chk (.ci .eql n m),.setO dst (.rep n (.con z.2)),.setR dst (.con .none)]) else Option.none
    else Option.none
 |_,_,_=>Option.none
def Db (C:Ctx)(S:St)(dst:Nat)(T:TypeId)(x:Operand):kK:=
 match C.P.underlying T,fa S [] x with
 |some (.map _ _),.obj j ver=>
  bif Nat.beq ver (S.ver j)&& !Nat.beq j dst then
   match S.o j with
   |.mp kt et=>some (mkObj (S.mv j dst) dst (.it kt et),[.setO dst (.tup [.lst [],.o j]),.setR dst (.con .none)])
   |_=>Option.none
  else Option.none
 |_,_=>Option.none
def C3 (C:Ctx)(S:St)(dst:Nat)(s d:TypeId)(x:Operand):kK:=
 match use C S [] x,C.P.underlying s,C.P.underlying d with
 |some (.str,e),some .string,some (.slice E)=>
  (match C.P.underlying E with
   |some (.int .u8)=>some (S.setR dst (.dat (.slice (.int .u8))),[.chk (.ci .leq (.slen e) (.con (.int nq))),.setR dst (.bytes e)])
   |_=>Option.none)
 |_,_,_=>Option.none
section
variable {C:Ctx} {S:St} {ρ:Env} {σ:Im} {own:Nat→Option Nat} {hv:Nat→Value} {w0:World} {σ0:Base} {A:Nat→Prop} {a:Act} {w:World} {gs:List (Nat×Bool)} {Φ:aL} {dst:Nat}
def bV (C:Ctx)(w0:World)(σ0:Base)(Φ:aL)(S:St)(ρ:Env)(A:Nat→Prop)(a:Act)(w:World)(o:Oper)(r:St×List PI):Prop:=
 ∀ρ',PI.runs Φ r.2 ρ=some ρ'→∀(K:Act→World→Prop) (Q:Exit→Act→World→Prop),(∀a' w',Good C w0 σ0 r.1 ρ' (fun u=>A u∨o.dst=some u) a' w'→a'.tmps.size=a.tmps.size→K a' w')→o.wp C.P a w K Q
theorem size_put (a:Act)(d:Option Tmp)(v:Value):(a.put d v).tmps.size=a.tmps.size:=by
 cases d<;>simp[Act.put]
theorem bV.value {o:Oper}{r:St×List PI}(hd:o.dst=some dst)(hx:∀ρ',PI.runs Φ r.2 ρ=some ρ'→∃v w',(execOp a.eval o).run C.P w=.ok (.value v) w'∧Good C w0 σ0 r.1 ρ' (fun u=>A u∨u=dst) (a.put (some dst) v) w'):bV C w0 σ0 Φ S ρ A a w o r:=by
 intro ρ' ah K Q hK;obtain⟨v,w',h1,h2⟩:=hx ρ' ah;simp only[Oper.wp,h1,Oper.upon,hd];refine hK _ _ ?_ (size_put _ _ _)
 have:(fun u=>A u∨o.dst=some u)=(fun u=>A u∨u=dst):=by
  funext u;rw[hd];simp[eq_comm]
 rw[this];exact h2
theorem bV.skip {o:Oper}{r:St×List PI}(hd:o.dst=none)(hx:∀ρ',PI.runs Φ r.2 ρ=some ρ'→∃w',(execOp a.eval o).run C.P w=.ok .skip w'∧Good C w0 σ0 r.1 ρ' A a w'):bV C w0 σ0 Φ S ρ A a w o r:=by
 intro ρ' ah K Q hK;obtain⟨w',h1,h2⟩:=hx ρ' ah;simp only[Oper.wp,h1,Oper.upon,hd]
 have:(fun u=>A u∨o.dst=some u)=A:=by
  funext u;rw[hd];simp
 rw[this] at hK;exact hK _ _ h2 (size_put _ _ _)
theorem eG.eff (h:Inv C S ρ σ own hv w0 σ0 A a w)(ht:¬A dst)(af:dst<a.tmps.size){o:Oper}(hd:o.dst=some dst){s:Sh}{EW:List PI}(hq:eG C S ρ σ hv Φ dst a w o (s,EW)):bV C w0 σ0 Φ S ρ A a w o (S.setR dst s,EW):=by
 refine bV.value hd fun ρ' ah=>?_;obtain⟨v,d,rfl,h1,h2,h3⟩:=hq ρ' ah;exact⟨v,w,h1,σ,own,hv,h.setReg ht (aH.mono' (.refl σ) (.refl S hv) h3 h2) af (fun gs s' e=>absurd e (h3 gs s'))⟩
theorem eG.effG (h:Inv C S ρ σ own hv w0 σ0 A a w)(ht:¬A dst)(af:dst<a.tmps.size)(dO:∀g,g∈gs→A g.1)(hg:holds gs ρ=true){o:Oper}(hd:o.dst=some dst){s:Sh}{EW:List PI}(hq:eG C S ρ σ hv Φ dst a w o (s,EW)):bV C w0 σ0 Φ S ρ A a w o (S.setR dst (.opt gs s),EW):=by
 refine bV.value hd fun ρ' ah=>?_;obtain⟨v,d,rfl,h1,h2,h3⟩:=hq ρ' ah;have hh:holds gs (ρ.setR dst d)=true:=by rw[Eb (t:=dst) (d:=d) fun g hm e=>ht (by rw[←e];exact dO g hm)];exact hg
 refine⟨v,w,h1,σ,own,hv,h.setReg ht ⟨fun _=>aH.mono' (.refl σ) (.refl S hv) h3 h2,fun e=>absurd (hh.symm.trans e) (by decide)⟩ af (fun bO s' e=>?_)⟩;cases e;exact⟨dO,h3⟩
theorem Inv.passed (h:Inv C S ρ σ own hv w0 σ0 A a w)(ht:¬A dst)(af:dst<a.tmps.size)(dO:∀g,g∈gs→A g.1)(hg:holds gs ρ=false){s:Sh}(hs:∀bO s',s≠.opt bO s')(d:D):Inv C (S.setR dst (.opt gs s)) (ρ.setR dst d) σ own hv w0 σ0 (fun u=>A u∨u=dst) (a.put (some dst) undef) w:=by
 have hh:holds gs (ρ.setR dst d)=false:=by rw[Eb (t:=dst) (d:=d) fun g hm e=>ht (by rw[←e];exact dO g hm)];exact hg
 refine h.setReg ht (s:=.opt gs s) (v:=undef) (d:=d) ⟨fun e=>absurd (hh.symm.trans e) (by decide),fun _=>rfl⟩ af (fun bO s' e=>?_);cases e;exact⟨dO,hs⟩
theorem Inv.mkObj (h:Inv C S ρ σ own hv w0 σ0 A a w)(ht:¬A dst)(af:dst<a.tmps.size)(ob:Ob)(d:D)(v:Value)(nb:Nat→Bool){w':World}(hw:Below w.heap.size w w')(dh:∀k,nb k=true→w.heap.size≤k∧k<w'.heap.size)
 (cG:cd C (S.newO dst ob) (ρ.setO dst d) σ (fF own dst nb) (bT hv dst v) w' w0.heap.size dst ob) (nf:ob≠.tr:=by intro h;cases h):
 Good C w0 σ0 (Cx.mkObj S dst ob) ((ρ.setO dst d).setR dst .none) (fun u=>A u∨u=dst) (a.put (some dst) v) w':=by
 have h1:=h.newO dst ob d v nb hw dh cG nf;have h2:=h1.setObj ht (j:=dst) (v:=v) (aK _ _ _) af;have e:(S.newO dst ob).ver dst=S.ver dst+1:=aK _ _ _;rw[e] at h2;exact⟨_,_,_,h2⟩
theorem Inv.mkPtr (h:Inv C S ρ σ own hv w0 σ0 A a w)(ht:¬A dst)(af:dst<a.tmps.size)(ob:Ob)(d:D)(k:Nat)(nb:Nat→Bool){w':World}(hw:Below w.heap.size w w')(dh:∀k,nb k=true→w.heap.size≤k∧k<w'.heap.size)
 (cG:cd C (S.newO dst ob) (ρ.setO dst d) σ (fF own dst nb) (bT hv dst (.pointer (some ⟨k,0,none⟩))) w' w0.heap.size dst ob) (nf:ob≠.tr:=by intro h;cases h):
 Good C w0 σ0 (Cx.mkPtr S dst ob) ((ρ.setO dst d).setR dst .none) (fun u=>A u∨u=dst) (a.put (some dst) (.pointer (some ⟨k,0,none⟩))) w':=by
 have h1:=h.newO dst ob d _ nb hw dh cG nf;have e:(S.newO dst ob).ver dst=S.ver dst+1:=aK _ _ _;have h2:=h1.setReg ht (s:=.ptr dst (S.ver dst+1) 0) (v:=.pointer (some ⟨k,0,none⟩)) (d:=.none) ⟨Nat.le_of_eq e.symm,fun _=>⟨k,aK _ _ _,rfl⟩⟩ af (fun _ _ e=>by cases e);exact⟨_,_,_,h2⟩
theorem BH {e:PE}{ρ':Env}(h:PI.runs Φ [.setO dst e,.setR dst (.con .none)] ρ=some ρ'):ρ'=(ρ.setO dst (e.ev ρ)).setR dst .none:=by
 simp[PI.runs,PI.run,PE.ev] at h;exact h.symm
theorem Wz (h:Inv C S ρ σ own hv w0 σ0 A a w){t:Ty}{v:Value}{d:D}(hr:Rep C.cap σ t v d)(ho:t.rowT=true∨t.one=true)(ag:Bool)(T:TypeId):
 cd C (S.newO dst (.box ag (t.flat.map .dat))) (ρ.setO dst (.agg d.cells)) σ (fF own dst (fun k=>Nat.beq k w.heap.size)) (bT hv dst (.pointer (some ⟨w.heap.size,0,none⟩))) (w.alloc (.cells v.cells T)) w0.heap.size dst (.box ag (t.flat.map .dat)):=by
 obtain⟨f1,f2,f3⟩:=hr.flat ho;refine⟨w.heap.size,v.cells,T,d.cells,aK _ _ _,by simp[fF],heap_alloc_new w _,by rw[hr.size];simp[f1],by simp[Env.setO,aK],by simp[f1,f2],fun i s hi=>?_⟩;simp only[ct,az] at hi;obtain⟨ti,Pb,rfl⟩:=hi;exact⟨fun _ _ e=>(by cases e),(f3 i ti Pb).2⟩
theorem aiu (h:Inv C S ρ σ own hv w0 σ0 A a w)(hC:CtxOK C σ0)(ht:¬A dst)(af:dst<a.tmps.size){T:TypeId}{x:Operand}{r:St×List PI}(hr:Da C S dst T x=some r){o:Oper}(hd:o.dst=some dst)(ho:o.op=.assign x):bV C w0 σ0 Φ S ρ A a w o r:=by
 unfold Da at hr;split at hr
 case h_2=>cases hr
 rename_i e0 e1 E hu hT;simp only[az] at hr;obtain⟨e,he,rfl⟩:=hr;have hx:=cr h hC rfl hu;have cn:a.eval x=.slice none 0 0:=by
  generalize a.eval x=v at hx;generalize e1.ev ρ=d at hx;cases hx;rfl
 refine bV.value hd fun ρ' ah=>⟨.slice none 0 0,w,by simp[execOp,ho,cn],?_⟩
 rw[BH ah];exact h.mkObj ht af (.row E e) _ _ (fun _=>false) (.refl _ _) (by simp) ⟨[],[],by simp[Env.setO,aK,PE.ev],by rw[aK];exact World.ownsRow_nil _ _ _ _,⟨fun _=>undef,by simp,by simp⟩,by rw[aK];simp[Value.ownBlock]⟩
theorem ahZ (h:Inv C S ρ σ own hv w0 σ0 A a w)(ht:¬A dst)(af:dst<a.tmps.size){T:TypeId}{r:St×List PI}(hr:C0 C S dst T=some r){o:Oper}(hd:o.dst=some dst)(ho:o.op=.alloc T):bV C w0 σ0 Φ S ρ A a w o r:=by
 unfold C0 at hr;split at hr
 case h_2=>cases hr
 rename_i t inf ag Pe hi ha;cases hc:(tR inf t&&(t.rowT||t.one))<;>simp only[hc,cond_true,cond_false] at hr
 ·cases hr
 simp only[ao,gg] at hc;simp only[az] at hr;obtain⟨z,hz,rfl⟩:=hr;obtain⟨v0,sY,AF⟩:∃v0,inf.zero=some v0∧jL t v0=true:=by
  have:=hc.1;unfold tR at this;split at this
  ·exact⟨_,by assumption,this⟩
  ·cases this
 obtain⟨k1,k2,k3⟩:=yk (cap:=C.cap) (σ:=σ) hz AF;have sW:z.1.rowT=true∨z.1.one=true:=by
  rcases hc.2 with e|e
  ·left;cases t<;>simp[Ty.rowT] at e;simp[pk] at hz;obtain⟨_,_,rfl⟩:=hz;rfl
  ·right;rw[k3];exact e
 refine bV.value hd fun ρ' ah=>⟨.pointer (some ⟨w.heap.size,0,none⟩),w.alloc (.cells v0.cells T),?_,?_⟩
 ·simp[execOp,ho,Instr.alloc,zeroValue,run_typeInfo w hi,sY,newVar,newRow]
 ·rw[BH ah];exact h.mkPtr ht af _ _ _ (fun k=>Nat.beq k w.heap.size) ((Below.refl _ _).alloc (bf _) _) (fun k hk=>by simp at hk;simp;omega) (Wz h k1 sW ag T)
theorem Compat.newO (S:St)(hv:Nat→Value)(j:Nat)(ob:Ob)(v:Value):Compat S hv (S.newO j ob) (bT hv j v):=by
 refine⟨fun i=>?_,fun i e=>?_⟩
 ·simp only[St.newO,fj];split<;>rename_i e
  ·subst e;omega
  ·omega
 ·simp only[St.newO,fj] at e;split at e
  ·rename_i e';subst e';omega
  ·rename_i aw;exact bo _ _ aw
theorem ah3 (h:Inv C S ρ σ own hv w0 σ0 A a w)(hC:CtxOK C σ0)(ht:¬A dst)(af:dst<a.tmps.size){T:TypeId}{x:Operand}{r:St×List PI}(hr:C2 C S dst T x=some r){o:Oper}(hd:o.dst=some dst)(ho:o.op=.box T x):bV C w0 σ0 Φ S ρ A a w o r:=by
 unfold C2 at hr;split at hr
 case h_3=>cases hr
 case h_2=>
  rename_i hu ha;split at hr
  case h_2=>cases hr
  rename_i l fV;cases hr;have gu:=(rV h (gs:=[]) rfl x).1;rw[fV] at gu;obtain⟨vs,ds,e1,e2,e3,e4,e5⟩:=gu;refine bV.value hd fun ρ' ah=>⟨.pointer (some ⟨w.heap.size,0,none⟩),w.alloc (.cells (a.eval x).cells T),?_,?_⟩
  ·simp[execOp,ho,Instr.box,newVar,newRow]
  ·rw[BH ah,e2];refine h.mkPtr ht af _ _ _ (fun k=>Nat.beq k w.heap.size) ((Below.refl _ _).alloc (bf _) _) (fun k hk=>by simp at hk;simp;omega) ⟨w.heap.size,(a.eval x).cells,T,ds,aK _ _ _,by simp[fF],heap_alloc_new w _,by rw[e1];simp[Value.cells,e3],by simp[Env.setO,aK],by simp[e4],fun i s hi=>?_⟩;simp only[ct,az] at hi;obtain⟨c,hc,rfl⟩:=hi;have bK:(a.eval x).cells.getD i undef=vs.getD i undef:=by rw[e1];simp[Value.cells,aJ,dV]
   have h6:=(e5 i c hc).monoR (Im.le.leR (.refl σ)) (Compat.newO S hv dst (.box true (l.map AgC.sh)) (.pointer (some ⟨w.heap.size,0,none⟩)));rw[bK];cases c with
   |dat t=>exact⟨fun _ _ e=>(by cases e),h6.2⟩
   |obj j ver=>exact⟨fun _ _ e=>(by cases e),h6⟩
 rename_i t e ag hu ha;cases hc:(t.rowT||t.one)<;>simp only[hc,cond_true,cond_false] at hr
 ·cases hr
 cases hr;simp only[gg] at hc;have hx:=cr h hC rfl hu;refine bV.value hd fun ρ' ah=>⟨.pointer (some ⟨w.heap.size,0,none⟩),w.alloc (.cells (a.eval x).cells T),?_,?_⟩
 ·simp[execOp,ho,Instr.box,newVar,newRow]
 ·rw[BH ah];have:(PE.mk [e]).ev ρ=.agg (e.ev ρ).cells:=by simp[PE.ev,PE.evc]
  rw[this];exact h.mkPtr ht af _ _ _ (fun k=>Nat.beq k w.heap.size) ((Below.refl _ _).alloc (bf _) _) (fun k hk=>by simp at hk;simp;omega) (Wz h hx hc ag T)
theorem aio (h:Inv C S ρ σ own hv w0 σ0 A a w)(ht:¬A dst)(af:dst<a.tmps.size){T:TypeId}{m:Option Operand}{r:St×List PI}(hr:C7 C S dst T m=some r){o:Oper}(hd:o.dst=some dst)(ho:o.op=.makeMap T m):bV C w0 σ0 Φ S ρ A a w o r:=by
 unfold C7 at hr;split at hr
 case h_2=>cases hr
 rename_i K E hT;simp only[aq,az] at hr;obtain⟨kt,hk,et,he,rfl⟩:=hr;refine bV.value hd fun ρ' ah=>⟨.map (some w.heap.size),w.alloc (.map #[] 0),?_,?_⟩
 ·simp[execOp,ho,Instr.makeMap]
 ·rw[BH ah]
  exact h.mkObj ht af (.mp kt et) _ _ (fun k=>Nat.beq k w.heap.size) ((Below.refl _ _).alloc (bf _) _) (fun k hk=>by simp at hk;simp;omega)
   ⟨w.heap.size,#[],0,[],aK _ _ _,by simp[fF],heap_alloc_new w _,by simp[Env.setO,aK,PE.ev],rfl,⟨by simp,by simp[mT]⟩,by simp⟩
theorem aiw (h:Inv C S ρ σ own hv w0 σ0 A a w)(ht:¬A dst)(af:dst<a.tmps.size){T:TypeId}{x:Operand}{r:St×List PI}(hr:Db C S dst T x=some r){o:Oper}(hd:o.dst=some dst)(ho:o.op=.range T x):bV C w0 σ0 Φ S ρ A a w o r:=by
 unfold Db at hr;split at hr
 case h_2=>cases hr
 rename_i K E j ver hT es;obtain⟨dR,_⟩:=rV h (gs:=[]) rfl x;rw[es] at dR;cases hb:(Nat.beq ver (S.ver j)&& !Nat.beq j dst)<;>simp only[hb,cond_true,cond_false] at hr
 ·cases hr
 simp only[ao,iU] at hb;have cn:=dR.2 (ay hb.1);have aw:j≠dst:=fun e=>by subst e;simp at hb
 have aX:=h.objs j;split at hr
 case h_2=>cases hr
 rename_i kt et eo;cases hr;rw[eo] at aX;obtain⟨m,arr,clock,ds,h1,h2,h3,h4,h5,⟨h6,q9⟩,h7⟩:=aX;have lH:=h.mv aw (by rw[eo];rfl);have p8:m<w.heap.size:=(gD.1 h3).1;have Ov:w0.heap.size≤m:=(h.owns m j h2).1;refine bV.value hd fun ρ' ah=>⟨.pointer (some ⟨w.heap.size,0,none⟩),w.alloc (.mapIter (some m) clock #[] clock),?_,?_⟩
 ·simp[execOp,ho,Instr.range,cn,h1,run_underlying hT,getObj,Sem.run,h3]
 have hρ:ρ'=((ρ.setO dst (.tup [.list [],.map ds])).setR dst .none):=by
  simp[PI.runs,PI.run,PE.ev,PE.evs,h4] at ah;exact ah.symm
 subst hρ;have ew:Below w.heap.size w (w.alloc (.mapIter (some m) clock #[] clock)):=(Below.refl _ _).alloc (bf _) _;have O6:=lH.step (S':=(S.mv j dst).newO dst (.it kt et)) (ρ':=(ρ.setO dst (.tup [.list [],.map ds]))) (σ':=σ) (hv':=bT (bT hv dst (hv j)) dst (.pointer (some ⟨w.heap.size,0,none⟩)))
  (own':=fun k=>if k=w.heap.size then some dst else(if own k=some j then some dst else if own k=some dst then none else own k)) (a':=a) (A':=A) (w':=w.alloc (.mapIter (some m) clock #[] clock)) (fun i=>i=dst)
  rfl (.refl σ) (h.ok.below ew) (fun _ _ _ hx=>.inl hx) (fun _ _ hx=>.inl hx) (ew.mono h.below.size) ⟨fun i=>?_,fun i e=>?_⟩ (fun i hi=>⟨?_,?_,?_,fun k hk=>⟨?_,?_⟩⟩) (fun i hi=>?_) (fun k i hk=>?_) (fun _=>id) (fun t=>.inl ⟨rfl,rfl,rfl⟩) (fun _ _=>rfl) (fun k hk _=>ew.block k hk) (fun k i hk=>?_) (fun i hi=>by subst hi;simp[St.newO,aK])
 ·have gU:=O6.setObj ht (j:=dst) (v:=.pointer (some ⟨w.heap.size,0,none⟩)) (aK _ _ _) af;have e:((S.mv j dst).newO dst (.it kt et)).ver dst=(S.mv j dst).ver dst+1:=aK _ _ _;rw[e] at gU;exact⟨_,_,_,gU⟩
 ·simp only[St.newO,fj];split<;>rename_i e
  ·subst e;omega
  ·omega
 ·simp only[St.newO,fj] at e;split at e
  ·rename_i e';subst e';omega
  ·rename_i OD;exact bo _ _ OD
 ·simp[St.newO,bo _ _ hi]
 ·simp[Env.setO,bo _ _ hi]
 ·exact bo _ _ hi
 ·have az6:=(lH.owns k i hk).2.1;have bm:k≠w.heap.size:=by omega
  simp only[if_neg bm];exact hk
 ·exact ew.block k (lH.owns k i hk).2.1
 ·subst hi;simp only[St.newO,aK];have dE:m≠w.heap.size:=by omega
  refine⟨w.heap.size,m,arr,clock,ds,[],aK _ _ _,by simp,by simp[dE,h2],by omega,?_,heap_alloc_new w _,by simp[Env.setO,aK,gO],List.nodup_nil,by simp,h5,q9,h7⟩;rw[ew.block m p8];exact h3
 ·split at hk
  ·rename_i e;subst e;refine⟨h.below.size,by simp,fun o=>?_,?_⟩
   ·cases hc:σ.c w.heap.size o with
    |none=>rfl
    |some u=>have:=h.lt hc;omega
   ·cases hc:σ.m w.heap.size with
    |none=>rfl
    |some u=>have:=h.ltm hc;omega
  ·obtain⟨g1,g2,g3,g4⟩:=lH.owns k i hk;exact⟨g1,by simp;omega,g3,g4⟩
 ·split at hk
  ·rename_i e;subst e;exact .inr (bf _)
  ·exact .inl ⟨i,hk⟩
theorem ah7 (h:Inv C S ρ σ own hv w0 σ0 A a w)(hC:CtxOK C σ0)(ht:¬A dst)(af:dst<a.tmps.size){T U:TypeId}{x:Operand}{r:St×List PI}(hr:C3 C S dst T U x=some r){o:Oper}(hd:o.dst=some dst)(ho:o.op=.convert T U x):bV C w0 σ0 Φ S ρ A a w o r:=by
 unfold C3 at hr;split at hr
 case h_2=>cases hr
 rename_i e E hu hT hU;split at hr
 case h_2=>cases hr
 rename_i hE;cases hr;have hx:=cr h hC rfl hu;obtain⟨s,aQ,bl,hs⟩:=hx.str_inv;have oC:=Lib.run_convert_string_bytes (P:=C.P) w T U E s hT hU hE;refine bV.value hd fun ρ' ah=>⟨.slice (some ⟨w.heap.size,0,none⟩) s.size (grownCap w s.size 0 E),Lib.bytesWorld w E s,by simp[execOp,ho,aQ,oC],?_⟩
 simp only[PI.runs,PI.run,aq] at ah;obtain⟨ρ1,g1,ρ2,g2,g3⟩:=ah;cases c1:((PE.ci BinOp.leq (.slen e) (.con (.int nq))).ev ρ).b<;>simp only[c1,cond_true,cond_false] at g1
 ·cases g1
 cases g1;cases g2;cases g3;have alW:s.size≤4294967296:=by
  simp[PE.ev,bl,D.s,D.i,D.b,jt,D.int,nq] at c1;omega
 have ew:Below w.heap.size w (Lib.bytesWorld w E s):=⟨rfl,rfl,rfl,by rw[Lib.bytesWorld_size];omega,fun k hk=>Lib.bytesWorld_at_old w E s k hk⟩
 have aE:(Lib.bytesWorld w E s).heap.size=w.heap.size+1:=Lib.bytesWorld_size w E s
 let σ':Im:={c:=fun k i=>if k=w.heap.size then(if i<s.size then some (.int .u8 (s.data.toList.getD i 0).toNat) else none) else σ.c k i,m:=σ.m}
 have hle:σ.le σ':=by
  refine⟨fun k o v hc=>?_,fun k es hc=>hc⟩;have:k≠w.heap.size:=by have:=h.lt hc;omega
  simp[σ',this,hc]
 have av:σ'.ok (Lib.bytesWorld w E s):=by
  refine⟨fun k i v hc=>?_,(h.ok.below ew).m,fun k i v hc=>?_⟩
  all_goals simp only[σ'] at hc
  all_goals split at hc
  ·rename_i ek;subst ek;split at hc
   ·rename_i hi;cases hc;exact Lib.bytesWorld_cell w E s i hi
   ·cases hc
  ·exact(h.ok.below ew).c k i v hc
  ·split at hc<;>cases hc
  ·exact(h.ok.below ew).f k i v hc
 have h1:=h.step (S':=S) (ρ':=ρ) (σ':=σ') (own':=own) (hv':=hv) (A':=A) (a':=a) (w':=Lib.bytesWorld w E s) (fun _=>False) rfl hle av (fun k i v hc=>?_) (fun k es hc=>.inl hc) (ew.mono h.below.size) ⟨fun _=>bf _,fun _ _=>rfl⟩
  (fun j _=>⟨rfl,rfl,rfl,fun k hk=>⟨hk,ew.block k (h.owns k j hk).2.1⟩⟩) (fun j hj=>hj.elim) (fun k j hk=>?_) (fun _=>id) (fun t=>.inl ⟨rfl,rfl,rfl⟩) (fun _ _=>rfl) (fun k hk _=>ew.block k hk) (fun k i hk=>.inl ⟨i,hk⟩) (fun _ hf=>hf.elim)
 ·refine⟨_,_,_,h1.setReg ht (s:=.dat (.slice (.int .u8))) ?_ af (fun _ _ e=>by cases e)⟩;show Rep C.cap σ' _ _ _;simp only[PE.ev,bl,D.s];refine .slice (.int .u8) w.heap.size 0 s.size _ _ (fun i=>.int .u8 (s.data.toList.getD i 0).toNat) (by simp) (grownCap_ge w s.size 0 E) (grownCap_le_maxLen w s.size 0 E (by unfold maxLen;omega)) (fun i x hx=>?_) (fun i j u hi hu=>?_) (fun e=>by cases e)
  ·simp only[ct,az] at hx;obtain⟨b,hb,rfl⟩:=hx;have:s.data.toList.getD i 0=b:=by simp[aJ,hb]
   rw[this];have:=b.toNat_lt;exact .int .u8 _ (by show(0:Int)≤_;omega) (by show _≤(255:Int);omega)
  ·have hj:j=0:=by
        have:=(gD.1 hu).1;simp[Value.cells] at this;exact this
   subst hj;simp[Value.cells] at hu;subst hu;simp[σ',Ty.size,hi]
 ·simp only[σ'] at hc;split at hc
  ·rename_i ek;exact .inr ⟨by have:=h.below.size;omega,.inr (by omega)⟩
  ·exact .inl hc
 ·obtain⟨g1,g2,g3,g4⟩:=h.owns k j hk;refine⟨g1,by omega,fun i=>?_,g4⟩;have:k≠w.heap.size:=by omega
  simp[σ',this,g3 i]
end
end Cx
namespace Cx
open Go Go.RowKit
def Ih (C:Ctx)(S:St)(gs:List (Nat×Bool))(e:Ty)(z:D)(parts:List (Nat×Operand))(i:Nat):Option PE:=
 match parts.find? (fun p=>Nat.beq p.1 i) with
 |some p=>(use C S gs p.2).bind fun a=>bif Ty.sub a.1 e then some a.2 else Option.none
 |Option.none=>some (PE.con z)
def wh (C:Ctx)(S:St)(gs:List (Nat×Bool))(dst:Nat)(T:TypeId)(len:Nat)(parts:List (Nat×Operand)):kK:=
 match C.P.underlying T with
 |some (.slice E)=>
  (pj C.P E).bind fun e=>(pk e).bind fun z=>
    bif qY C.P E e&&Ty.sub z.1 e&&gM (parts.map (·.1))&&parts.all (fun p=>Nat.blt p.1 len)&&Nat.ble (len*e.size) 16777216 then
     ((List.range len).mapM (Ih C S gs e z.2 parts)).map fun es=>(mkObj S dst (.row E e),[.setO dst (.lst es),.setR dst (.con .none)])
    else Option.none
 |_=>Option.none
def zM (C:Ctx)(S:St)(gs:List (Nat×Bool))(dst:Nat)(T:TypeId)(len:Nat)(parts:List (Nat×Operand)):kK:=
 match C.P.underlying T,wh C S gs dst T len parts with
 |some (.slice E),some r=>
  (pj C.P E).bind fun e=>
    match r.2 with
    |.setO _ x::_=>some ((S.newO dst .dead).setR dst (match gs with|[]=>.dat (.slice e.rol)|_=>.opt gs (.dat (.slice e.rol))),[.setR dst x])
    |_=>Option.none
 |_,_=>Option.none
def NI (S:St):AgC→Bool
 |.dat _=>true
 |.obj j ver=>Nat.beq ver (S.ver j)&&kY (S.o j)
def um (C:Ctx)(S:St)(T:TypeId)(x v:Operand):kK:=
 match C.P.info? T with
 |some inf=>
  match fa S [] x with
  |.ptr j ver off=>
   bif Nat.beq ver (S.ver j) then
    match S.o j with
    |.box ag shs=>
     match use C S [] v with
     |some (t,e)=>
      bif Nat.beq inf.size t.size&&(t.rowT||t.one)&&Nat.ble (off+t.size) shs.length then
             some (S.setO j (.box ag (shs.take off++t.flat.map .dat++shs.drop (off+t.size))),[.setO j (.setc (.o j) off e)])
      else Option.none
     |Option.none=>
      match fa S [] v with
      |.obj j' mP=>
       bif Nat.beq mP (S.ver j')&&kY (S.o j')&&Nat.beq inf.size 1&&Nat.blt off shs.length then
              some (S.setO j (.box ag (shs.set off (.obj j' mP))),[.setO j (.setc (.o j) off (.con .none))])
       else Option.none
      |.agg l=>
       bif Nat.beq inf.size l.length&&Nat.ble (off+l.length) shs.length&&l.all (NI S) then
              some (S.setO j (.box ag (shs.take off++l.map AgC.sh++shs.drop (off+l.length))),[.setO j (.setc (.o j) off (qB v))])
       else Option.none
      |_=>Option.none
    |_=>Option.none
   else Option.none
  |.eptr j ver size off=>
   bif Nat.beq ver (S.ver j) then
    match S.o j,use C S [] v with
    |.row _ (.agg ts),some (t,e)=>
     bif Nat.beq inf.size t.size&&(t.rowT||t.one)&&Nat.beq size ts.length&&Nat.ble (off+t.size) ts.length&&Ty.subs t.flat ((ts.drop off).take t.size) then
         some (S,[.setO j (.setn (.o j) (qB x) off e)])
     else Option.none
    |.row _ e0,some (t,e)=>
     bif Nat.beq inf.size 1&&Nat.beq size 1&&Nat.beq off 0&&e0.one&&Ty.sub t e0 then some (S,[.setO j (.setn (.o j) (qB x) 0 e)]) else Option.none
    |_,_=>Option.none
   else Option.none
  |_=>Option.none
 |Option.none=>Option.none
def sG (C:Ctx)(S:St)(T:TypeId)(m k v:Operand):kK:=
 match C.P.underlying T,fa S [] m with
 |some (.map K _),.obj j ver=>
  bif Nat.beq ver (S.ver j) then
   match S.o j,use C S [] k,use C S [] v with
   |.mp kt et,some (tk,ek),some (tv,ev)=>
    bif Ty.beq tk kt&&uT C.P K kt&&Ty.sub tv et then some (S,[.chk (.ci .lss (.mlen (.o j)) (.con (.int nq))),.setO j (.put (.o j) ek ev)]) else Option.none
   |_,_,_=>Option.none
  else Option.none
 |_,_=>Option.none
def Jz (x y:PE):PE:=.ci .leq (.llen (.app x y)) (.con (.int nq))
def Ln:Ty→Ty→Bool
 |.slice e',e=>Ty.beq e'.unf e
 |.nils _,_=>true
 |_,_=>false
def C1 (C:Ctx)(S:St)(dst:Nat)(T:TypeId)(s x:Operand):kK:=
 match C.P.underlying T with
 |some (.slice E)=>
  (pj C.P E).bind fun e=>
    match view C S [] x with
    |some (tx,ex)=>
     bif qY C.P E e&&Ln tx e then
        match use C S [] s with
        |some (.nils _,_)=>some (mkObj S dst (.row E e),[.chk (Jz (.con (.list [])) ex),.setO dst (.app (.con (.list [])) ex),.setR dst (.con .none)])
        |some _=>Option.none
        |Option.none=>
         match fa S [] s with
         |.obj j ver=>
          bif Nat.beq ver (S.ver j) then
             match S.o j with
             |.row E' e'=>
              bif Nat.beq E' E&&Ty.beq e' e then
                some ((S.newO j (.row E e)).setR dst (.obj j (S.ver j+1)),[.chk (Jz (.o j) ex),.setO j (.app (.o j) ex),.setR dst (.con .none)])
              else Option.none
             |_=>Option.none
          else Option.none
         |_=>Option.none
     else Option.none
    |Option.none=>Option.none
 |_=>Option.none
theorem Np {P:Program}{T:TypeId}{e:Ty}(h:qY P T e=true):∃inf z,P.info? T=some inf∧inf.size=e.size∧inf.bytes≤xl∧1≤e.size∧inf.zero=some z∧jL e z=true:=by
 unfold qY at h;split at h
 ·rename_i i hi;simp only[ao] at h;have h4:=h.2;unfold tR at h4;split at h4
  ·rename_i z hz;exact⟨i,z,hi,ay h.1.1.1,jN h.1.1.2,jN h.1.2,hz,h4⟩
  ·cases h4
 ·cases h
theorem Vv {e:Ty}{z:Value}(h:jL e z=true):z.cells.size=e.size:=by
 cases e with
 |agg ts=>
  cases z with
  |agg vs=>simp only[jL] at h;have:=(Vw ts vs.toList h).1;simpa [Value.cells,Ty.size] using this
  |_=>simp[jL] at h
 |_=>cases z<;>simp_all [jL,yj,Value.cells,Ty.size]
theorem ahm {ρ:Env}{x y:PE}(h:((PE.ci .lss x y).ev ρ).b=true):(x.ev ρ).i<(y.ev ρ).i:=by
 simpa [PE.ev,D.b_bool,jt] using h
theorem WQ {ρ:Env}{x y:PE}(h:((PE.ci .leq x y).ev ρ).b=true):(x.ev ρ).i≤(y.ev ρ).i:=by
 simpa [PE.ev,D.b_bool,jt] using h
theorem anU {n:Nat}(h:(n:Int)<nq):n<4294967296:=by unfold nq at h;omega
theorem Z2 {n:Nat}(h:(n:Int)≤nq):n≤4294967296:=by unfold nq at h;omega
theorem St.setO_self {S:St}{j:Nat}{ob:Ob}(h:S.o j=ob):S.setO j ob=S:=by
 have:bT S.o j ob=S.o:=by
  funext i;rw[fj];split
  ·rename_i e;subst e;exact h.symm
  ·rfl
 cases S;simp only[St.setO] at this ⊢;rw[this]
section
variable {C:Ctx} {S:St} {ρ:Env} {σ:Im} {own:Nat→Option Nat} {hv:Nat→Value} {w0:World} {σ0:Base} {A:Nat→Prop} {a:Act} {w:World} {gs:List (Nat×Bool)} {Φ:aL} {dst:Nat}
theorem Inv.updO (h:Inv C S ρ σ own hv w0 σ0 A a w)(j:Nat)(ob:Ob)(d:D)(v:Value)(nb:Nat→Bool){w':World}(hw:Below w0.heap.size w w')
 (pZ:∀k,k<w.heap.size→own k≠some j→w'.heap[k]?=w.heap[k]?) (dh:∀k,nb k=true→(own k=some j∨w.heap.size≤k)∧k<w'.heap.size)
 (cG:cd C (S.newO j ob) (ρ.setO j d) σ (fF own j nb) (bT hv j v) w' w0.heap.size j ob) (nf:ob≠.tr:=by intro h;cases h):Inv C (S.newO j ob) (ρ.setO j d) σ (fF own j nb) (bT hv j v) w0 σ0 A a w':=by
 have aE:w0.heap.size≤w.heap.size:=h.below.size;have bX:∀k i,i≠j→own k=some i→fF own j nb k=some i:=by
  intro k i hi hk;have h1:=h.owns k i hk;have h2:nb k=false:=by
   cases hn:nb k with
   |false=>rfl
   |true=>
    rcases(dh k hn).1 with e|e
    ·rw[hk] at e;simp at e;exact absurd e hi
    ·omega
  simp[fF,h2,hk,hi]
 have av:σ.ok w':=by
  refine⟨fun k o u hc=>?_,fun k es hc=>?_,h.ok.fz fun k o v hc=>pZ k (h.lt hc) fun e=>by rw[(h.owns k j e).2.2.1 o] at hc;cases hc⟩
  ·have aw:own k≠some j:=fun e=>by rw[(h.owns k j e).2.2.1 o] at hc;cases hc
   rw[World.cell?_of_block (pZ k (h.lt hc) aw)];exact h.ok.c k o u hc
  ·have aw:own k≠some j:=fun e=>by rw[(h.owns k j e).2.2.2] at hc;cases hc
   exact(h.ok.m k es hc).keep (pZ k (h.ltm hc) aw)
 refine h.step (fun i=>i=j) rfl (.refl σ) av (fun _ _ _ hx=>.inl hx) (fun _ _ hx=>.inl hx) hw ⟨fun i=>?_,fun i e=>?_⟩ (fun i hi=>⟨?_,?_,?_,fun k hk=>⟨bX k i hi hk,?_⟩⟩) (fun i hi=>?_) (fun k i hk=>?_) (fun _=>id) (fun t=>.inl ⟨rfl,rfl,rfl⟩) (fun _ _=>rfl) (fun k hk e=>pZ k hk (by rw[e];simp)) (fun k i hk=>by
  unfold fF at hk;split at hk
  ·rename_i hn;rcases(dh k hn).1 with e|e
   ·exact .inl ⟨j,e⟩
   ·exact .inr e
  ·split at hk
   ·cases hk
   ·exact .inl ⟨i,hk⟩) (fun i hi=>by subst hi;simpa only[St.newO,aK] using nf)
 ·simp only[St.newO,fj];split<;>rename_i e
  ·subst e;omega
  ·omega
 ·simp only[St.newO,fj] at e;split at e
  ·rename_i e';subst e';omega
  ·rename_i aw;exact bo _ _ aw
 ·simp[St.newO,bo _ _ hi]
 ·simp[Env.setO,bo _ _ hi]
 ·exact bo _ _ hi
 ·exact pZ k (h.owns k i hk).2.1 (by rw[hk];simpa using hi)
 ·subst hi;simp only[St.newO,aK];exact cG
 ·unfold fF at hk;split at hk
  ·rename_i hn;obtain⟨g1,g2⟩:=dh k hn;rcases g1 with e|e
   ·obtain⟨f1,f2,f3,f4⟩:=h.owns k j e;exact⟨f1,g2,f3,f4⟩
   ·refine⟨by omega,g2,fun o=>?_,?_⟩
    ·cases hc:σ.c k o with
     |none=>rfl
     |some u=>have:=h.lt hc;omega
    ·cases hc:σ.m k with
     |none=>rfl
     |some u=>have:=h.ltm hc;omega
  ·split at hk
   ·cases hk
   ·obtain⟨g1,g2,g3,g4⟩:=h.owns k i hk;exact⟨g1,by have:=hw.size;omega,g3,g4⟩
theorem Inv.updB (h:Inv C S ρ σ own hv w0 σ0 A a w)(j:Nat)(ob:Ob)(d:D){w':World}(hw:Below w0.heap.size w w')
 (pZ:∀k,k<w.heap.size→own k≠some j→w'.heap[k]?=w.heap[k]?)
 (cG:cd C (S.setO j ob) (ρ.setO j d) σ own hv w' w0.heap.size j ob) (nf:ob≠.tr:=by intro h;cases h):Inv C (S.setO j ob) (ρ.setO j d) σ own hv w0 σ0 A a w':=by
 have av:σ.ok w':=by
  refine⟨fun k o u hc=>?_,fun k es hc=>?_,h.ok.fz fun k o v hc=>pZ k (h.lt hc) fun e=>by rw[(h.owns k j e).2.2.1 o] at hc;cases hc⟩
  ·have aw:own k≠some j:=fun e=>by rw[(h.owns k j e).2.2.1 o] at hc;cases hc
   rw[World.cell?_of_block (pZ k (h.lt hc) aw)];exact h.ok.c k o u hc
  ·have aw:own k≠some j:=fun e=>by rw[(h.owns k j e).2.2.2] at hc;cases hc
   exact(h.ok.m k es hc).keep (pZ k (h.ltm hc) aw)
 refine h.step (fun i=>i=j) rfl (.refl σ) av (fun _ _ _ hx=>.inl hx) (fun _ _ hx=>.inl hx) hw (Compat.setO _ _ _ _) (fun i hi=>⟨by simp[St.setO,bo _ _ hi],by simp[Env.setO,bo _ _ hi],rfl,fun k hk=>⟨hk,pZ k (h.owns k i hk).2.1 (by rw[hk];simpa using hi)⟩⟩) (fun i hi=>?_) (fun k i hk=>?_) (fun _=>id) (fun t=>.inl ⟨rfl,rfl,rfl⟩) (fun _ _=>rfl) (fun k hk e=>pZ k hk (by rw[e];simp)) (fun k i hk=>.inl ⟨i,hk⟩) (fun i hi=>by subst hi;rw[St.setO_o];exact nf)
 ·subst hi;rw[St.setO_o];exact cG
 ·obtain⟨g1,g2,g3,g4⟩:=h.owns k i hk;exact⟨g1,by have:=hw.size;omega,g3,g4⟩
theorem XQ {B:Nat}{w w':World}{row:Option Nat}(hg:w.grownBy w' row)(hB:B≤w.heap.size)(hr:∀k,row=some k→B≤k):Below B w w':=(Below.refl B w).grown hg hB hr
theorem aaf {z:Array Value}{n i q:Nat}(hz:0<z.size)(hi:i<n)(hq:q<z.size):(madeCells z (n*z.size))[i*z.size+q]?=z[q]?:=by
 have af:i*z.size+q<n*z.size:=by
  have:(i+1)*z.size≤n*z.size:=nM _ hi;rw[py] at this;omega
 have hm:(i*z.size+q)%z.size=q:=by rw[B9,afL,Nat.mod_eq_of_lt hq]
 simp[madeCells,Array.getElem?_range,af,hm,hq]
theorem aiq (h:Inv C S ρ σ own hv w0 σ0 A a w)(hC:CtxOK C σ0)(ht:¬A dst)(af:dst<a.tmps.size){T:TypeId}{l c:Operand}{r:St×List PI}(hr:C8 C S dst T l c=some r){o:Oper}(hd:o.dst=some dst)(ho:o.op=.makeSlice T l c):bV C w0 σ0 Φ S ρ A a w o r:=by
 unfold C8 at hr;split at hr
 case h_2=>cases hr
 rename_i E k1 n k2 m hT hl hc;simp only[aq] at hr;obtain⟨e,he,hr⟩:=hr;cases hf:qY C.P E e<;>simp only[hf,cond_true,cond_false] at hr
 ·cases hr
 obtain⟨inf,z0,hi,hs,hb,h1,hz,mw⟩:=Np hf;simp only[aq] at hr;obtain⟨z,hzt,hr⟩:=hr;cases bS:Ty.sub z.1 e<;>simp only[bS,cond_true,cond_false] at hr
 ·cases hr
 cases hr;obtain⟨n1,aQ,bl,b1,b2⟩:=(cr h hC rfl hl).int_inv;obtain⟨n2,iL,ed,b3,b4⟩:=(cr h hC rfl hc).int_inv;simp only at bl ed;have Ev:=((yk (cap:=C.cap) (σ:=σ) hzt mw).1).sub bS;refine bV.value hd fun ρ' ah=>?_;simp only[PI.runs,PI.run,aq] at ah;obtain⟨ρ1,g1,ρ2,g2,ah⟩:=ah;cases c1:((PN n).ev ρ).b<;>simp only[c1,cond_true,cond_false] at g1
 ·cases g1
 cases g1;cases c2:((PE.ci BinOp.eql n m).ev ρ).b<;>simp only[c2,cond_true,cond_false] at g2
 ·cases g2
 cases g2;have amd:n1=n2:=by simpa [PE.ev,bl,ed,D.i_int,D.b_bool,jt] using c2
 subst amd;have hb:0≤n1∧n1≤nq:=by simpa [PN,PE.ev,bl,D.i_int,D.b_bool,jt,D.int] using c1
 obtain⟨nn,rfl⟩:=tW hb.1;have D7:nn≤4294967296:=by have:=hb.2;unfold nq at this;omega
 have tg:z0.cells.size=e.size:=Vv mw;obtain⟨w',r1,r2,r3⟩:=run_make_full (P:=C.P) w w0.heap.size T E inf z0 e.size hT hi hz hs k1 k2 nn (by
  have:inf.bytes*nn≤xl*4294967296:=Nat.mul_le_mul (by assumption) D7;unfold xl at this;omega) (by unfold maxLen;omega) h.below.size
 refine⟨.slice (some ⟨w.heap.size,0,none⟩) nn nn,w',by simp[execOp,ho,aQ,iL,r1],?_⟩;obtain⟨ρ3,g3,ρ4,g4,g5⟩:=ah;cases g3;cases g4;cases g5;simp only[PE.ev,bl,D.i_int,vL];have hlen:(List.replicate nn z.2).length=nn:=by simp
 refine h.mkObj ht af (.row E e) _ _ (fun k=>Nat.beq k w.heap.size) (XQ r3 (bf _) (by simp)) (fun k hk=>?_) ⟨_,List.replicate nn z.2,by simp[Env.setO,aK],by rw[aK,hlen];exact r2,⟨fun _=>z0,fun i x hx=>?_,fun i j u hi hj=>?_⟩,fun k hk=>?_⟩
 ·have bm:k=w.heap.size:=ay hk;have:=(r2.lt _ rfl).2;subst bm;exact⟨bf _,this⟩
 ·have:=(fm.1 hx)
  obtain⟨q1,q2⟩:=this;simp at q2;subst q2;exact Ev
 ·rw[hlen] at hi;have bE:j<z0.cells.size:=(gD.1 hj).1;rw[B1,←tg];rw[aaf (by omega) hi bE];exact hj
 ·rw[aK] at hk;simp[Value.ownBlock] at hk;simp[fF,hk]
theorem mT.push {arr:Array MapEntry}{clock:Nat}(h:mT arr clock)(k v:Value):mT (arr.push {key:=k,val:=v,born:=clock}) (clock+1):=by
 have key:∀(i:Nat) (e:MapEntry),(arr.push {key:=k,val:=v,born:=clock})[i]?=some e→(arr[i]?=some e∧e.born<clock)∨(i=arr.size∧e.born=clock):=by
  intro i e he;rw[Array.getElem?_push] at he;split at he
  ·rename_i hi;cases he;exact .inr ⟨hi,rfl⟩
  ·exact .inl ⟨he,h.1 i e he⟩
 refine⟨fun i e he=>?_,fun i j e f he hf hb=>?_⟩
 ·rcases key i e he with⟨_,h1⟩|⟨_,h1⟩<;>omega
 ·rcases key i e he with⟨h1,h2⟩|⟨h1,h2⟩<;>rcases key j f hf with⟨h3,h4⟩|⟨h3,h4⟩
  ·exact h.2 i j e f h1 h3 hb
  ·omega
  ·omega
  ·omega
theorem mT.modify {arr:Array MapEntry}{clock:Nat}(h:mT arr clock)(i0:Nat)(k v:Value):mT (arr.modify i0 fun e=>{e with key:=k,val:=v}) clock:=by
 have key:∀(i:Nat) (e:MapEntry),(arr.modify i0 fun e=>{e with key:=k,val:=v})[i]?=some e→∃e',arr[i]?=some e'∧e'.born=e.born:=by
  intro i e he;rw[LS] at he;split at he
  ·simp only[az] at he;obtain⟨e',h1,rfl⟩:=he;exact⟨e',h1,rfl⟩
  ·exact⟨e,he,rfl⟩
 refine⟨fun i e he=>?_,fun i j e f he hf hb=>?_⟩
 ·obtain⟨e',h1,h2⟩:=key i e he;rw[←h2];exact h.1 i e' h1
 ·obtain⟨e',h1,h2⟩:=key i e he;obtain⟨f',h3,h4⟩:=key j f hf;exact h.2 i j e' f' h1 h3 (by rw[h2,h4,hb])
theorem Xf (h:Inv C S ρ σ own hv w0 σ0 A a w)(hC:CtxOK C σ0){T:TypeId}{m k v:Operand}{r:St×List PI}(hr:sG C S T m k v=some r){o:Oper}(hd:o.dst=none)(ho:o.op=.mapUpdate T m k v∨o.op=.insert T m k v):bV C w0 σ0 Φ S ρ A a w o r:=by
 unfold sG at hr;split at hr
 case h_2=>cases hr
 rename_i K E j ver hT es;obtain⟨dR,_⟩:=rV h (gs:=[]) rfl m;rw[es] at dR;cases hb:Nat.beq ver (S.ver j)<;>simp only[hb,cond_true,cond_false] at hr
 ·cases hr
 have cn:=dR.2 (ay hb);have aX:=h.objs j;split at hr
 case h_2=>cases hr
 rename_i kt et tk ek tv ev eo hk w8;rw[eo] at aX;cases hc:(Ty.beq tk kt&&uT C.P K kt&&Ty.sub tv et)<;>simp only[hc,cond_true,cond_false] at hr
 ·cases hr
 cases hr;simp only[ao] at hc;obtain⟨⟨I7,DW⟩,bS⟩:=hc;obtain⟨g,arr,clock,ds,h1,h2,h3,h4,h5,⟨h6,q9⟩,h7⟩:=aX;have bm:=cr h hC rfl hk;rw[Ty.beq_eq _ _ I7] at bm;have hv':=(cr h hC rfl w8).sub bS;refine bV.skip hd fun ρ' ah=>?_;simp only[PI.runs,PI.run,aq] at ah;obtain⟨ρ1,g1,ρ2,g2,g3⟩:=ah;cases c1:((PE.ci BinOp.lss (.mlen (.o j)) (.con (.int nq))).ev ρ).b<;>simp only[c1,cond_true,cond_false] at g1
 ·cases g1
 cases g1;cases g2;cases g3;have alW:ds.length<4294967296:=by
  have h8:=ahm c1;simp only[PE.ev,h4,D.m,D.i_int,D.int] at h8;exact anU h8
 have ml:(Instr.checkKey false 10000 K (a.eval k)).run C.P w=.ok () w:=WO (cap:=C.cap) (σ:=σ) DW bm;have dG:∃uh zD ds',(Instr.mapUpdate T (a.eval m) (a.eval k) (a.eval v)).run C.P w=.ok () {w with heap:=w.heap.setIfInBounds g (.map uh zD)}∧lf (ek.ev ρ) (ev.ev ρ) ds=ds'∧ds'.length=uh.size∧(ds'.length≤maxLen∧mT uh zD)∧
  ∀(i:Nat) (e:MapEntry) (p:D×D),uh[i]?=some e→ds'[i]?=some p→Rep C.cap σ kt e.key p.1∧Rep C.cap σ et e.val p.2:=by
  rcases run_findKey DW bm arr ds h5 h7 w with⟨f1,f2,f3⟩|⟨i,e,p,f1,f2,f3,f4,f5,f6⟩
  ·refine⟨arr.push {key:=a.eval k,val:=a.eval v,born:=clock},clock+1,ds++[(ek.ev ρ,ev.ev ρ)],?_,f3 _,by simp[h5],⟨by simp;unfold maxLen;omega,q9.push _ _⟩,fun q e p he hp=>?_⟩
   ·rw[cn,h1];simp[Instr.mapUpdate,run_underlying hT,getObj,Sem.run,h3,ml,f1,setObj]
   ·rw[Array.getElem?_push] at he;rw[l7] at hp;by_cases hq:q=arr.size
    ·subst hq;simp at he;rw[if_neg (by omega)] at hp;simp[h5] at hp;subst he;subst hp;exact⟨bm,hv'⟩
    ·rw[if_neg hq] at he;have Jm:q<arr.size:=(gD.1 he).1;rw[if_pos (by omega)] at hp;exact h7 q e p he hp
  ·refine⟨arr.modify i fun e=>{e with key:=a.eval k,val:=a.eval v},clock,ds.set i (ek.ev ρ,ev.ev ρ),?_,f5 _,by simp[h5],⟨by simp;exact h6,q9.modify _ _ _⟩,fun q e' p' he hp=>?_⟩
   ·rw[cn,h1];have cH:(Instr.keyThatStays e.key (a.eval k)).run C.P w=.ok (a.eval k) w:=by simp[Instr.keyThatStays,f6]
    simp[Instr.mapUpdate,run_underlying hT,getObj,Sem.run,h3,ml,f3,f1,cH,setObj]
   ·rw[LS] at he;rw[B6] at hp;by_cases hq:i=q
    ·subst hq;simp only[if_true] at he hp;rw[f1] at he;simp at he;split at hp
     ·cases hp;subst he;exact⟨bm,hv'⟩
     ·cases hp
    ·rw[if_neg hq] at he hp;exact h7 q e' p' he hp
 obtain⟨uh,zD,ds',r1,r2,r3,r4,r5⟩:=dG;refine⟨{w with heap:=w.heap.setIfInBounds g (.map uh zD)},by rcases ho with ho|ho<;>simp[execOp,ho,r1],?_⟩;have hgl:g<w.heap.size:=(gD.1 h3).1;have hgB:w0.heap.size≤g:=(h.owns g j h2).1;have bK:(PE.put (.o j) ek ev).ev ρ=.map ds':=by simp only[PE.ev,h4,D.m,r2]
 rw[bK]
 have:=h.updB j (.mp kt et) (.map ds') (w':={w with heap:=w.heap.setIfInBounds g (.map uh zD)}) ⟨rfl,rfl,rfl,by simp,fun k hk=>by simp;rw[Vz (by omega)]⟩
  (fun k hk aw=>by simp;rw[Vz (fun e=>aw (by rw[←e];exact h2))])
  ⟨g,uh,zD,ds',h1,h2,by simp[hgl],by simp[Env.setO,aK],r3,r4,r5⟩
 have eS:S.setO j (.mp kt et)=S:=St.setO_self eo;rw[eS] at this;exact⟨_,_,_,this⟩
end
end Cx
namespace Cx
open Go Go.RowKit
theorem avM {e:Ty}{z:Value}(h:jL e z=true):e.rowT=true∨e.one=true:=by
 cases e<;>first|exact .inl rfl|exact .inr rfl|(cases z<;>simp[jL,yj] at h)
theorem Rep.cellsOne {cap:Nat→Option CSig}{σ:Im}{t:Ty}{v:Value}{d:D}(h:Rep cap σ t v d)(ht:t.rowT=true∨t.one=true){m:Nat}{u:Value}(hu:v.cells[m]?=some u):u.oneCell'=true:=by
 obtain⟨f1,f2,f3⟩:=h.flat ht;have af:m<v.cells.size:=(gD.1 hu).1;rw[h.size] at af;obtain⟨g1,g2⟩:=f3 m _ (bA (by omega:m<t.flat.length));have:=(g2.oneCell g1).2;rw[dV,hu] at this;exact this
theorem aiL {cap:Nat→Option CSig}{σ:Im}{e:Ty}{cells:List Value}{xs:List D}(h:eF cap σ e cells xs)(hl:cells.length=xs.length*e.size)(iK:e.rowT=true∨e.one=true):∀u∈cells,u.oneCell'=true:=by
 obtain⟨vs,h1,h2⟩:=h;intro u hu;obtain⟨p,hp,rfl⟩:=nK hu;rw[hl] at hp;have hs:0<e.size:=Nat.pos_of_ne_zero fun e0=>by rw[e0] at hp;simp at hp
 have hi:p/e.size<xs.length:=(Nat.div_lt_iff_lt_mul hs).2 hp;have hq:p%e.size<e.size:=Nat.mod_lt _ hs;have bL:=h1 _ _ (bA hi);have aE:=bL.size;have kl:(vs (p/e.size)).cells[p%e.size]?=some (vs (p/e.size)).cells[p%e.size]:=fL (by omega);have:=h2 _ _ _ hi kl;rw[Nat.mul_comm,Nat.div_add_mod] at this;have h3:cells[p]=(vs (p/e.size)).cells[p%e.size]:=by
  have h4:=bA (show p<cells.length by omega);rw[h4] at this;exact uc this
 rw[h3];exact bL.cellsOne iK kl
theorem aiK {cap:Nat→Option CSig}{σ:Im}{e:Ty}{c1 c2:List Value}{xs ys:List D}(h:eF cap σ e c1 xs)(k:eF cap σ e c2 ys)(hl:c1.length=xs.length*e.size):eF cap σ e (c1++c2) (xs++ys):=by
 obtain⟨vs,h1,h2⟩:=h;obtain⟨us,k1,k2⟩:=k;refine⟨fun i=>if i<xs.length then vs i else us (i-xs.length),fun i x hx=>?_,fun i j u hi hj=>?_⟩
 ·rw[l7] at hx;split at hx
  ·rename_i af;simp only[af,if_true];exact h1 i x hx
  ·rename_i af;simp only[af,if_false];exact k1 _ x hx
 ·by_cases af:i<xs.length
  ·simp only[af,if_true] at hj;have:=h2 i j u af hj;rw[j6 (fm.1 this).1];exact this
  ·simp only[af,if_false] at hj;have df:i-xs.length<ys.length:=by simp at hi;omega
   have:=k2 _ j u df hj;have e1:i*e.size=c1.length+(i-xs.length)*e.size:=by rw[hl,←py];congr 1;omega
   rw[lC (by omega)];rw[show i*e.size+j-c1.length=(i-xs.length)*e.size+j by omega];exact this
section
variable {C:Ctx} {S:St} {ρ:Env} {σ:Im} {own:Nat→Option Nat} {hv:Nat→Value} {w0:World} {σ0:Base} {A:Nat→Prop} {a:Act} {w:World} {gs:List (Nat×Bool)} {Φ:aL} {dst:Nat}
theorem avk (h:Inv C S ρ σ own hv w0 σ0 A a w){B:Nat}{e f:Ty}{v:Value}{d:D}(hs:0<e.size)(iK:e.rowT=true∨e.one=true)(hf:f.unf=e)(Pl:Mc C σ w B (.slice f) v d):
 ∃ys,d=.list ys∧ys.length≤maxLen∧((v=.slice none 0 0∧ys=[])∨∃(ad:Addr) (c:Nat) (news:List Value),v=.slice (some ad) ys.length c∧news.length=ys.length*e.size∧
  (∀j u,news[j]?=some u→w.cell? (ad.add j)=some u)∧eF C.cap σ e news ys):=by
 rcases Pl with hr|⟨T,e',cells,xs,ht,hd,bX,jx⟩|⟨k,arr,clock,es,kt,et,ht,_⟩
 ·obtain⟨xs,hd,re⟩:=hr.slice_inv;rw[←f.unf_size,hf] at re;rcases re with⟨⟨p0,aQ⟩,rfl⟩|⟨k,o,c,aQ,h1,h2,vs,h3,h4⟩
  ·cases p0 with
   |none=>exact⟨[],hd,by simp,.inl ⟨aQ,rfl⟩⟩
   |some a0=>exact⟨[],hd,by simp,.inr ⟨a0,0,[],aQ,by simp,fun j u hu=>by simp at hu,fun _=>undef,fun i x hx=>by simp at hx,fun i j u hi=>by simp at hi⟩⟩
  ·refine⟨xs,hd,by omega,.inr ⟨⟨k,o,none⟩,c,(List.range (xs.length*e.size)).map fun p=>(vs (p/e.size)).cells.getD (p%e.size) undef,aQ,by simp,fun j u hu=>?_,vs,h3,fun i j u hi hj=>?_⟩⟩
   ·simp only[ct,az] at hu;obtain⟨p,hp,rfl⟩:=hu;have gr:j<xs.length*e.size:=by have:=(fm.1 hp).1;simpa using this
    rw[qK gr] at hp;cases hp;have hi:j/e.size<xs.length:=(Nat.div_lt_iff_lt_mul hs).2 gr;have hq:j%e.size<e.size:=Nat.mod_lt _ hs;have bL:=h3 _ _ (bA hi);have aE:=bL.size;have kl:(vs (j/e.size)).cells[j%e.size]?=some ((vs (j/e.size)).cells.getD (j%e.size) undef):=by
     rw[dV,fL (by omega)];rfl
    have:=h.cell (h4 _ _ _ hi kl);rw[sy]
    rwa [show o+j/e.size*e.size+j%e.size=o+j by rw[ua,Nat.mul_comm,Nat.div_add_mod]] at this
   ·have bL:=h3 _ _ (bA hi);have bE:j<e.size:=by rw[←bL.size];exact(gD.1 hj).1
    have af:i*e.size+j<xs.length*e.size:=by
     have:(i+1)*e.size≤xs.length*e.size:=nM _ hi;rw[py] at this;omega
    have e1:(i*e.size+j)/e.size=i:=by rw[Nat.mul_comm,Nat.mul_add_div hs,Nat.div_eq_of_lt bE];omega
    have e2:(i*e.size+j)%e.size=j:=by rw[B9,afL,Nat.mod_eq_of_lt bE]
    simp only[ct,qK af,ka,e1,e2];rw[dV,hj];rfl
 ·cases ht;rw[Ty.unf_rol] at hf;obtain⟨b,c,aQ,hm,_⟩:=xF bX;have jx:eF C.cap σ e cells xs:=by
   obtain⟨us,u1,u2⟩:=jx;refine⟨us,fun i x hx=>hf▸(u1 i x hx).unf,fun i j u hi hu=>?_⟩;rw[←hf,Ty.unf_size];exact u2 i j u hi hu
  have bX:w.ownsRow B T e.size v xs.length cells:=by rw[←hf,Ty.unf_size];exact bX
  rcases bX.2 with⟨e1,e2⟩|⟨g,cap,cur,e1,e2⟩
  ·have:xs=[]:=LU e2;subst this;exact⟨[],hd,by simp,.inl ⟨e1,rfl⟩⟩
  ·exact⟨xs,hd,hm,.inr ⟨⟨g,0,none⟩,cap,cells,e1,bX.1,bX.cells (by rw[e1];rfl),jx⟩⟩
 ·cases ht
theorem ar1 {P:Program}{B:Nat}{T E ty:TypeId}{inf:TypeInfo}{z:Value}{size:Nat}{v x:Value}{n m:Nat}{xs news:List Value}(hT:P.underlying T=some (.slice E))(hi:P.info? E=some inf)(hz:inf.zero=some z)
 (hs:inf.size=size) (tg:z.cells.size=size) (aE:0<size) (pX:inf.bytes≤xl) (bX:w.ownsRow B E size v n xs) (hB:B≤w.heap.size) (cQ:n+m≤4294967296)
 (hx:(x=.slice none 0 0∧m=0∧news=[])∨∃(ad:Addr) (c:Nat),x=.slice (some ad) m c∧news.length=m*size∧(∀j u,news[j]?=some u→w.cell? (ad.add j)=some u)∧∀u∈news,u.oneCell'=true):
 ∃v' w',(Builtin.append_ #[T,T] ty #[v,x]).run P w=.ok v' w'∧w'.ownsRow B E size v' (n+m) (xs++news)∧w.grownBy w' v.ownBlock∧∀k,v'.ownBlock=some k→v.ownBlock=some k∨(w.heap.size≤k∧k<w'.heap.size):=by
 rcases hx with⟨rfl,rfl,rfl⟩|⟨ad,c,rfl,hl,Jf,h1⟩
 ·refine⟨v,w,run_append_owned_none w B T ty E inf size hT hi v n xs bX,by simpa using bX,⟨rfl,rfl,rfl,bf _,fun _ _ _=>rfl⟩,fun k hk=>.inl hk⟩
 ·have N7:(n+m)*inf.bytes≤140737488355328:=by
   have:(n+m)*inf.bytes≤4294967296*xl:=Nat.mul_le_mul cQ pX;unfold xl at this;omega
  obtain⟨v',w',r1,r2,r3,r4⟩:=run_append_own (P:=P) w B T ty E inf z size inf.bytes hT hi hz hs rfl tg aE v n xs bX ad m c news hl Jf h1 (by unfold maxLen;omega) N7 hB;refine⟨v',w',r1,r2,r3,fun k hk=>?_⟩;have af:=(r2.lt k hk).2;subst hs;rcases bX.2 with⟨rfl,rfl⟩|⟨g,cap,cur,rfl,hbg,hg,da,m4,dv,Eo⟩
  ·by_cases hm:m=0
   ·subst hm;have:=r4.2 ⟨rfl,rfl⟩;subst this;simp[Value.ownBlock] at hk
   ·have hr:=run_append_nil (P:=P) w T ty E inf z hT hi hz ad m c news hl Jf (by omega) (by omega) (by have hb:=N7;simp only[gS] at hb;omega);rw[hr] at r1;cases r1;simp[Value.ownBlock] at hk;subst hk;exact .inr ⟨bf _,af⟩
  ·by_cases Zi:n+m≤cap
   ·have IZ:n*inf.size+news.length≤cur.size:=by rw[hl,dv,←py];exact nM _ Zi
    have hr:=run_append_room (P:=P) w T ty E inf hT hi g n cap cur hg ad m c news hl Jf h1 Zi IZ;rw[hr] at r1;cases r1;exact .inl hk
   ·have hr:=run_append_grow (P:=P) w T ty E inf z hT hi hz ⟨g,0,none⟩ n cap xs bX.1 (bX.cells (g:=g) rfl) ad m c news hl Jf (by omega) (by omega) (growslice_fits (by omega) N7);rw[hr] at r1;cases r1;simp[Value.ownBlock] at hk;subst hk;exact .inr ⟨bf _,af⟩
theorem ah1 (h:Inv C S ρ σ own hv w0 σ0 A a w)(hC:CtxOK C σ0)(ht:¬A dst)(af:dst<a.tmps.size){T:TypeId}{s x:Operand}{r:St×List PI}(hr:C1 C S dst T s x=some r){o:Oper}(hd:o.dst=some dst)
 (ho:o.op=.call {callee:=.builtin .append,args:=#[s,x],argTypes:=#[T,T]}):bV C w0 σ0 Φ S ρ A a w o r:=by
 unfold C1 at hr;split at hr
 case h_2=>cases hr
 rename_i E hT;simp only[aq] at hr;obtain⟨e,he,hr⟩:=hr;split at hr
 case h_2=>cases hr
 rename_i tx ex Pl;have hv':=Vq h hC (gs:=[]) rfl Pl;obtain⟨cs,ah⟩:=SH (C:=C) (w:=w) (a:=a) ho;cases hc:(qY C.P E e&&Ln tx e)<;>simp only[hc,cond_true,cond_false] at hr
 ·cases hr
 simp only[ao] at hc;obtain⟨inf,z,hi,hs,pX,h1,hz,mw⟩:=Np hc.1;have tg:=Vv mw;have iK:=avM mw;have Pm:∃f:Ty,f.unf=e∧Mc C σ w w0.heap.size (.slice f) (a.eval x) (ex.ev ρ):=by
  have cH:=hc.2;unfold Ln at cH;split at cH
  ·exact⟨_,Ty.beq_eq _ _ cH,hv'⟩
  ·refine⟨e,Ty.unf_ro iK,?_⟩;rcases hv' with hr|⟨_,_,_,_,ht,_⟩|⟨_,_,_,_,_,_,ht,_⟩
   ·exact .inl (hr.sub (by simp[Ty.sub]))
   ·cases ht
   ·cases ht
  ·cases cH
 obtain⟨fv,eV,Pm⟩:=Pm;obtain⟨ys,IX,ku,am1⟩:=avk h h1 iK eV Pm;have hx:∃news,eF C.cap σ e news ys∧news.length=ys.length*e.size∧((a.eval x=.slice none 0 0∧ys.length=0∧news=[])∨∃(ad:Addr) (c:Nat),a.eval x=.slice (some ad) ys.length c∧news.length=ys.length*e.size∧(∀j u,news[j]?=some u→w.cell? (ad.add j)=some u)∧∀u∈news,u.oneCell'=true):=by
  rcases am1 with⟨e1,rfl⟩|⟨ad,c,news,e1,e2,e3,e4⟩
  ·exact⟨[],⟨fun _=>undef,by simp,by simp⟩,by simp,.inl ⟨e1,rfl,rfl⟩⟩
  ·exact⟨news,e4,e2,.inr ⟨ad,c,e1,e2,e3,aiL e4 e2 iK⟩⟩
 obtain⟨news,aw,YT,hx⟩:=hx;have main:∀(j:Nat) (v:Value) (xs:List D) (cells:List Value),a.eval s=v→w.ownsRow w0.heap.size E e.size v xs.length cells→eF C.cap σ e cells xs→xs.length+ys.length≤4294967296→
  (∀k,v.ownBlock=some k→own k=some j)→
  ∃v' w',(execOp a.eval o).run C.P w=.ok (.value v') w'∧Good C w0 σ0 ((S.newO j (.row E e)).setR dst (.obj j (S.ver j+1))) ((ρ.setO j (.list (xs++ys))).setR dst .none) (fun u=>A u∨u=dst) (a.put (some dst) v') w':=by
  intro j v xs cells O7 bX jx hlen cG;obtain⟨v',w',r1,r2,r3,r4⟩:=ar1 (P:=C.P) (ty:=o.type) hT hi hz hs tg h1 pX bX h.below.size hlen hx;refine⟨v',w',by rw[ah];simp[builtin,O7,r1],?_⟩
  have Ph:=h.updO j (.row E e) (.list (xs++ys)) v' (fun k=>decide (v'.ownBlock=some k)) (w':=w') (XQ r3 h.below.size (fun k hk=>(h.owns k j (cG k hk)).1)) (fun k hk aw=>r3.block k hk (fun e=>aw (cG k e.symm))) (fun k hk=>by
        have bm:v'.ownBlock=some k:=by simpa using hk
        rcases r4 k bm with e|e
        ·exact⟨.inl (cG k e),(r2.lt k bm).2⟩
        ·exact⟨.inr e.1,e.2⟩)
   ⟨cells++news,xs++ys,by simp[Env.setO,aK],by rw[aK,kL];exact r2,aiK jx aw bX.1,fun k hk=>by rw[aK] at hk;simp[fF,hk]⟩
  have h2:=Ph.setObj ht (j:=j) (v:=v') (aK _ _ _) af;have e:(S.newO j (.row E e)).ver j=S.ver j+1:=aK _ _ _;rw[e] at h2;exact⟨_,_,_,h2⟩
 split at hr
 ·rename_i e0 pe0 hu;cases hr;refine bV.value hd fun ρ' oB=>?_;have O8:=cr h hC rfl hu;have O7:a.eval s=.slice none 0 0:=by
   generalize a.eval s=v at O8;generalize pe0.ev ρ=d at O8;cases O8;rfl
  simp only[PI.runs,PI.run,aq] at oB;obtain⟨ρ1,g1,ρ2,g2,ρ3,g3,g4⟩:=oB;cases c1:((Jz (.con (.list [])) ex).ev ρ).b<;>simp only[c1,cond_true,cond_false] at g1
  ·cases g1
  cases g1;cases g2;cases g3;cases g4;have hlen:=WQ c1;simp only[PE.ev,D.l_list,IX,tZ,D.i_int,D.int] at hlen;have:=main dst (.slice none 0 0) [] [] O7 (World.ownsRow_nil _ _ _ _) ⟨fun _=>undef,by simp,by simp⟩ (by simpa using Z2 hlen) (by simp[Value.ownBlock]);simpa [PE.ev,D.l_list,IX,mkObj] using this
 ·cases hr
 ·obtain⟨dR,_⟩:=rV h (gs:=[]) rfl s;split at hr
  case h_2=>cases hr
  rename_i j ver es;rw[es] at dR;cases hb:Nat.beq ver (S.ver j)<;>simp only[hb,cond_true,cond_false] at hr
  ·cases hr
  have cn:=dR.2 (ay hb);have aX:=h.objs j;split at hr
  case h_2=>cases hr
  rename_i E' e' eo;rw[eo] at aX;cases gV:(Nat.beq E' E&&Ty.beq e' e)<;>simp only[gV,cond_true,cond_false] at hr
  ·cases hr
  cases hr;simp only[ao] at gV;have e1:=ay gV.1;have e2:=Ty.beq_eq _ _ gV.2;subst e1;subst e2;obtain⟨cells,xs,k1,k2,k3,k4⟩:=aX;refine bV.value hd fun ρ' oB=>?_;simp only[PI.runs,PI.run,aq] at oB;obtain⟨ρ1,g1,ρ2,g2,ρ3,g3,g4⟩:=oB;cases c1:((Jz (.o j) ex).ev ρ).b<;>simp only[c1,cond_true,cond_false] at g1
  ·cases g1
  cases g1;cases g2;cases g3;cases g4;have hlen:=WQ c1;simp only[PE.ev,D.l_list,IX,k1,D.i_int,D.int] at hlen;have:=main j (hv j) xs cells cn k2 k3 (by have:=Z2 hlen;simpa using this) k4;simpa [PE.ev,D.l_list,IX,k1] using this
end
end Cx
namespace Cx
open Go Go.RowKit
theorem Gg {P:Program}{a:Act}{w:World}{o:Oper}{T:TypeId}{x v:Operand}{inf:TypeInfo}{k off:Nat}{cs:Array Value}{E:TypeId}(ho:o.op=.store T x v)(hi:P.info? T=some inf)(hx:a.eval x=.pointer (some ⟨k,off,none⟩))
 (hs:(a.eval v).cells.size=inf.size) (dc:∀u∈(a.eval v).cells.toList,u.oneCell'=true) (hb:w.heap[k]?=some (.cells cs E (0,0))) (hle:off+inf.size≤cs.size):
 (execOp a.eval o).run P w=.ok .skip (w.setRow k (cs.toList.take off++(a.eval v).cells.toList++cs.toList.drop (off+inf.size)).toArray):=by
 have:=run_storeCells_at P k off E (a.eval v).cells.toList 0 cs w hb (by simp[hs];exact hle) dc;simp only[iW,B2,hs] at this;simp[execOp,ho,Instr.storeAt,hx,Instr.sureAddr,storeVar,Go.sizeOf,run_typeInfo w hi,hs,this]
theorem ad6 {w:World}{B k:Nat}{cs:Array Value}(hB:B≤k):Below B w (w.setRow k cs)∧∀i,i≠k→(w.setRow k cs).heap[i]?=w.heap[i]?:=
 ⟨⟨rfl,rfl,rfl,by simp[World.setRow],fun i hi=>setRow_other w k i cs (by omega)⟩,fun i hi=>setRow_other w k i cs hi⟩
theorem Iu {α:Type}(xs ys:List α)(off:Nat)(d:α)(hle:off+ys.length≤xs.length)(i:Nat):(xs.take off++ys++xs.drop (off+ys.length)).getD i d=if off≤i∧i<off+ys.length then ys.getD (i-off) d else xs.getD i d:=by
 simp only[aJ,nI];rw[l7,dW,pz (by omega)];split
 ·rename_i h;rw[if_neg (by omega),fM,if_pos h]
 ·rename_i h;rw[l7];split
  ·rename_i h2;rw[if_pos (by omega)]
  ·rename_i h2;rw[if_neg (by omega),gj];congr 2;omega
section
variable {C:Ctx} {S:St} {ρ:Env} {σ:Im} {own:Nat→Option Nat} {hv:Nat→Value} {w0:World} {σ0:Base} {A:Nat→Prop} {a:Act} {w:World} {gs:List (Nat×Bool)} {Φ:aL} {dst:Nat}
theorem Inv.storeBox (h:Inv C S ρ σ own hv w0 σ0 A a w){j k off:Nat}{ag:Bool}{shs news:List Sh}{cs:Array Value}{E:TypeId}{ds dn:List D}{vs:List Value}(eo:S.o j=.box ag shs)
 (h1:hv j=.pointer (some ⟨k,0,none⟩)) (h2:own k=some j) (h3:w.heap[k]?=some (.cells cs E (0,0))) (h4:cs.size=shs.length) (h5:ρ.o j=.agg ds) (h6:ds.length=shs.length)
 (h7:∀i s,shs[i]?=some s→(∀gs s',s≠.opt gs s')∧aH C S ρ σ hv s (cs.getD i undef) (ds.getD i .none))
 (l1:news.length=vs.length) (l2:dn.length=vs.length) (hle:off+vs.length≤shs.length)
 (lJ:∀i s,news[i]?=some s→(∀gs s',s≠.opt gs s')∧aH C S ρ σ hv s (vs.getD i undef) (dn.getD i .none)):
 Inv C (S.setO j (.box ag (shs.take off++news++shs.drop (off+vs.length)))) (ρ.setO j (.agg (eM ds off dn))) σ own hv w0 σ0 A a (w.setRow k (cs.toList.take off++vs++cs.toList.drop (off+vs.length)).toArray):=by
 have hkB:w0.heap.size≤k:=(h.owns k j h2).1;obtain⟨b1,b2⟩:=ad6 (w:=w) (B:=w0.heap.size) (k:=k) (cs:=(cs.toList.take off++vs++cs.toList.drop (off+vs.length)).toArray) hkB;refine h.updB j _ _ b1 (fun i hi aw=>b2 i fun e=>aw (e▸h2)) ⟨k,_,E,eM ds off dn,h1,h2,setRow_heap w k cs _ E _ h3,?_,by simp[Env.setO,aK],?_,fun i s hi=>?_⟩
 ·simp[l1];omega
 ·simp[eM,l2,l1];omega
 ·have dv:(cs.toList.take off++vs++cs.toList.drop (off+vs.length)).toArray.getD i undef=if off≤i∧i<off+vs.length then vs.getD (i-off) undef else cs.getD i undef:=by
   have e0:∀l:List Value,l.toArray.getD i undef=l.getD i undef:=fun l=>by simp[dV,aJ]
   rw[e0,Iu cs.toList vs off undef (by simp;omega),zU cs i]
  have wH:(eM ds off dn).getD i .none=if off≤i∧i<off+vs.length then dn.getD (i-off) .none else ds.getD i .none:=by
   rw[eM,Iu ds dn off .none (by omega),l2]
  rw[dv,wH];have D4:∀s v d,(∀gs s',s≠.opt gs s')→aH C S ρ σ hv s v d→aH C (S.setO j (.box ag (shs.take off++news++shs.drop (off+vs.length)))) (ρ.setO j (.agg (eM ds off dn))) σ hv s v d:=
   fun s v d hn hk=>aH.mono' (.refl σ) (Compat.setO _ _ _ _) hn hk
  have fV:(shs.take off++news++shs.drop (off+vs.length))[i]?=if off≤i∧i<off+vs.length then news[i-off]? else shs[i]?:=by
   rw[nI,l7,dW,pz (by omega)];split
   ·rename_i h;rw[if_neg (by omega),fM,if_pos h]
   ·rename_i h;rw[l7,l1];split
    ·rename_i h2;rw[if_pos (by omega)]
    ·rename_i h2;rw[if_neg (by omega),gj];congr 1;omega
  rw[fV] at hi;split
  ·rename_i hc;rw[if_pos hc] at hi;obtain⟨g1,g2⟩:=lJ _ s hi;exact⟨g1,D4 _ _ _ g1 g2⟩
  ·rename_i hc;rw[if_neg hc] at hi;obtain⟨g1,g2⟩:=h7 _ s hi;exact⟨g1,D4 _ _ _ g1 g2⟩
theorem adW (h:Inv C S ρ σ own hv w0 σ0 A a w){j:Nat}(hr:kY (S.o j)=true):(hv j).cells=#[hv j]∧(hv j).oneCell'=true:=by
 have aX:=h.objs j;cases cG:S.o j with
 |row T e=>
  rw[cG] at aX;obtain⟨cells,xs,h1,h2,h3,h4⟩:=aX;obtain⟨b,c,e1,_⟩:=xF h2;rw[e1];exact⟨rfl,rfl⟩
 |mp kt et=>
  rw[cG] at aX;obtain⟨k0,arr,clock,es,h1,_⟩:=aX;rw[h1];exact⟨rfl,rfl⟩
 |_=>rw[cG] at hr;simp[kY] at hr
theorem Inv.storeRow (h:Inv C S ρ σ own hv w0 σ0 A a w){j k n c i p:Nat}{T:TypeId}{e:Ty}{cells vs:List Value}{xs:List D}{v':Value}{d':D}(eo:S.o j=.row T e)(eW:hv j=.slice (some ⟨k,0,none⟩) n c)
 (h1:ρ.o j=.list xs) (h2:w.ownsRow w0.heap.size T e.size (hv j) xs.length cells) (h3:eF C.cap σ e cells xs) (h4:∀k,(hv j).ownBlock=some k→own k=some j) (hi:i<xs.length)
 (Ee:i*e.size≤p) (fB:p+vs.length≤i*e.size+e.size) (hr:Rep C.cap σ e v' d')
 (hv':∀q u,v'.cells[q]?=some u→(cells.take p++vs++cells.drop (p+vs.length))[i*e.size+q]?=some u):
 ∃cur,w.heap[k]?=some (.cells cur T (0,0))∧p+vs.length≤cur.size∧Inv C S (ρ.setO j (.list (xs.set i d'))) σ own hv w0 σ0 A a (w.setRow k (cur.toList.take p++vs++cur.toList.drop (p+vs.length)).toArray):=by
 have aY:=h2.1;rcases h2.2 with⟨e0,e1⟩|⟨g,cap,cur,e1,e2,e3,e4,e5,e6,e7⟩
 ·omega
 rw[eW] at e1;cases e1;have alP:i*e.size+e.size≤xs.length*e.size:=by
  have:(i+1)*e.size≤xs.length*e.size:=nM _ hi;rw[py] at this;omega
 have azX:xs.length*e.size≤c*e.size:=nM _ e4;have amA:p+vs.length≤cur.size:=by omega
 refine⟨cur,e3,amA,?_⟩;have bX:own k=some j:=h4 k (by rw[eW];rfl);obtain⟨b1,b2⟩:=ad6 (w:=w) (B:=w0.heap.size) (k:=k) (cs:=(cur.toList.take p++vs++cur.toList.drop (p+vs.length)).toArray) e2;have Eo:(cur.toList.take p++vs++cur.toList.drop (p+vs.length)).take (xs.length*e.size)=cells.take p++vs++cells.drop (p+vs.length):=by
  rw[←e7];apply VQ;intro q;simp only[nI,fM,l7,dW,gj,B2];by_cases hq:q<xs.length*e.size
  ·rw[if_pos hq];by_cases hq1:q<p
   ·simp[hq1,Nat.lt_min,show q<cur.size by omega,hq]
   ·by_cases jB:q-p<vs.length
    ·rw[if_neg (by omega),pz (by omega),if_pos jB,if_neg (by omega),pz (by omega),if_pos jB]
    ·rw[if_neg (by omega),pz (by omega),if_neg jB,if_neg (by omega),pz (by omega),if_neg jB,if_pos (by omega)]
  ·rw[if_neg hq];have:¬q<p:=by omega
   rw[if_neg (by omega),pz (by omega),if_neg (by omega),if_neg (by omega)]
 have:=h.updB j (.row T e) (.list (xs.set i d')) b1 (fun q hq aw=>b2 q fun e=>aw (e▸bX))
  ⟨cells.take p++vs++cells.drop (p+vs.length),xs.set i d',by simp[Env.setO,aK],⟨by simp;omega,.inr ⟨k,c,_,by rw[eW];simp,e2,setRow_heap w k cur _ T _ e3,by simpa using e4,e5,by simp;omega,by simpa using Eo⟩⟩,?_,h4⟩
 ·rw[St.setO_self eo] at this;exact this
 ·obtain⟨us,u1,u2⟩:=h3;refine⟨fun q=>if q=i then v' else us q,fun q x hx=>?_,fun q m u hq hm=>?_⟩
  ·rw[B6] at hx;by_cases Aw:i=q
   ·subst Aw;simp only[if_true] at hx ⊢;rw[if_pos hi] at hx;cases hx;exact hr
   ·rw[if_neg Aw] at hx;simp only[show ¬q=i from fun e=>Aw e.symm,if_false];exact u1 q x hx
  ·by_cases Aw:q=i
   ·subst Aw;simp only[if_true] at hm;exact hv' m u hm
   ·simp only[Aw,if_false] at hm;simp only[List.length_set] at hq;have h9:=u2 q m u hq hm;have aAb:m<e.size:=by rw[←(u1 q _ (bA hq)).size];exact(gD.1 hm).1
    have ko:q*e.size+m<p∨p+vs.length≤q*e.size+m:=by
     rcases L5 q i with af|fA
     ·left;have:(q+1)*e.size≤i*e.size:=nM _ af;rw[py] at this;omega
     ·right;have:(i+1)*e.size≤q*e.size:=nM _ (by omega);rw[py] at this;omega
    rw[nI,l7,dW,pz (by omega)];rcases ko with ho|ho
    ·rw[if_pos ho,fM,if_pos ho];exact h9
    ·rw[if_neg (by omega),lC (by omega),gj];rw[show p+vs.length+(q*e.size+m-p-vs.length)=q*e.size+m by omega];exact h9
theorem aiy (h:Inv C S ρ σ own hv w0 σ0 A a w)(hC:CtxOK C σ0){T:TypeId}{x v:Operand}{r:St×List PI}(hr:um C S T x v=some r){o:Oper}(hd:o.dst=none)(ho:o.op=.store T x v):bV C w0 σ0 Φ S ρ A a w o r:=by
 unfold um at hr;split at hr
 case h_2=>cases hr
 rename_i inf hi;obtain⟨dR,_⟩:=rV h (gs:=[]) rfl x;split at hr
 case h_3=>cases hr
 ·rename_i j ver off es;rw[es] at dR;cases hb:Nat.beq ver (S.ver j)<;>simp only[hb,cond_true,cond_false] at hr
  ·cases hr
  obtain⟨k,eW,fR⟩:=dR.2 (ay hb);have aX:=h.objs j;split at hr
  case h_2=>cases hr
  rename_i ag shs eo;rw[eo] at aX;obtain⟨k',cs,E,ds,h1,h2,h3,h4,h5,h6,h7⟩:=aX;have cw:=h1;rw[eW] at h1;cases h1;split at hr
  ·rename_i t e hu;have hv':=cr h hC rfl hu;cases hc:(Nat.beq inf.size t.size&&(t.rowT||t.one)&&Nat.ble (off+t.size) shs.length)<;>simp only[hc,cond_true,cond_false] at hr
   ·cases hr
   cases hr;simp only[ao,gg] at hc;obtain⟨⟨aE,iK⟩,hle⟩:=hc;have aE:=ay aE;have hle:=jN hle;obtain⟨f1,f2,f3⟩:=hv'.flat iK;have iM:=hv'.size;refine bV.skip hd fun ρ' ah=>?_;rw[rT ah]
   refine⟨_,Gg ho hi fR (by rw[iM,aE]) (fun u hu=>by
        obtain⟨m,hm,rfl⟩:=nK hu;exact hv'.cellsOne iK (m:=m) (by simp at hm ⊢)) h3 (by omega),?_⟩
   have cH:=h.storeBox (off:=off) (news:=t.flat.map .dat) (vs:=(a.eval v).cells.toList) (dn:=(e.ev ρ).cells) eo cw h2 h3 h4 h5 h6 h7 (by simp[f1,iM]) (by simp[f2,iM]) (by simp[iM];omega) (fun i s hi=>by
        simp only[ct,az] at hi;obtain⟨ti,Pb,rfl⟩:=hi;refine⟨fun _ _ e=>(by cases e),?_⟩;rw[zU];exact(f3 i ti Pb).2)
   have e1:(a.eval v).cells.toList.length=t.size:=by simp[iM]
   rw[e1] at cH;rw[aE];refine⟨σ,own,hv,?_⟩;simpa [PE.ev,h5,D.cells] using cH
  ·split at hr
   case h_3=>cases hr
   case h_2=>
        rename_i l fO;obtain⟨Ay,_⟩:=rV h (gs:=[]) rfl v;rw[fO] at Ay;obtain⟨vs,ds',q1,q2,q3,q4,q5⟩:=Ay;cases hc:(Nat.beq inf.size l.length&&Nat.ble (off+l.length) shs.length&&l.all (NI S))<;>simp only[hc,cond_true,cond_false] at hr
        ·cases hr
        cases hr;simp only[ao] at hc;obtain⟨⟨aE,hle⟩,db⟩:=hc;have aE:=ay aE;have hle:=jN hle;have jd:(a.eval v).cells.toList=vs:=by rw[q1];simp[Value.cells]
        have dv:(a.eval v).cells.size=vs.length:=by rw[←jd];simp
        have dc:∀u∈(a.eval v).cells.toList,u.oneCell'=true:=fun u hu=>by
         rw[jd] at hu;obtain⟨i,hi,rfl⟩:=nK hu;have wL:i<l.length:=by omega
         have g:=q5 i l[i] (bA wL);have hf:=bF.1 db l[i] (cS wL);have Ol:vs.getD i undef=vs[i]:=by simp[aJ,hi]
         rw[Ol] at g;generalize l[i]=c at g hf;cases c with
         |dat t=>exact(g.2.oneCell g.1).2
         |obj j' mP=>
          simp only[NI,ao] at hf;rw[g.2 (ay hf.1)];exact(adW h hf.2).2
        refine bV.skip hd fun ρ' ah=>?_;rw[rT ah];refine⟨_,Gg ho hi fR (by omega) dc h3 (by omega),?_⟩
        have cH:=h.storeBox (off:=off) (news:=l.map AgC.sh) (vs:=vs) (dn:=ds') eo cw h2 h3 h4 h5 h6 h7 (by simp[q3]) (by omega) (by omega) (fun i s hi=>by
         simp only[ct,az] at hi;obtain⟨c,hc,rfl⟩:=hi;have g:=q5 i c hc;cases c with
         |dat t=>exact⟨fun _ _ e=>(by cases e),g.2⟩
         |obj j' mP=>exact⟨fun _ _ e=>(by cases e),g⟩)
        rw[jd,aE];have e1:vs.length=l.length:=q3;rw[e1] at cH;refine⟨σ,own,hv,?_⟩;simpa [PE.ev,h5,q2,D.cells] using cH
   rename_i j' mP fO;obtain⟨Ay,_⟩:=rV h (gs:=[]) rfl v;rw[fO] at Ay;cases hc:(Nat.beq mP (S.ver j')&&kY (S.o j')&&Nat.beq inf.size 1&&Nat.blt off shs.length)<;>simp only[hc,cond_true,cond_false] at hr
   ·cases hr
   cases hr;simp only[ao] at hc;obtain⟨⟨⟨ann,gK⟩,aE⟩,af⟩:=hc;have aE:=ay aE;have af:off<shs.length:=by simpa [iX] using af
   have cn:=Ay.2 (ay ann);obtain⟨c1,c2⟩:=adW h gK;have jd:(a.eval v).cells=#[a.eval v]:=by rw[cn];exact c1
   refine bV.skip hd fun ρ' ah=>?_;rw[rT ah];refine⟨_,Gg ho hi fR (by rw[jd,aE];rfl) (fun u hu=>by rw[jd] at hu;simp at hu;subst hu;rw[cn];exact c2) h3 (by omega),?_⟩
   have cH:=h.storeBox (off:=off) (news:=[.obj j' mP]) (vs:=[a.eval v]) (dn:=[.none]) eo cw h2 h3 h4 h5 h6 h7 rfl rfl (by simp;omega) (fun i s hi=>by
        match i,hi with
        |0,hi=>simp at hi;subst hi;exact⟨fun _ _ e=>(by cases e),Ay.1,fun _=>by simpa using cn⟩
        |i+1,hi=>simp at hi)
   rw[jd,aE];have e2:shs.take off++[Sh.obj j' mP]++shs.drop (off+[a.eval v].length)=shs.set off (.obj j' mP):=by
        rw[List.set_eq_take_append_cons_drop,if_pos af];simp
   rw[e2] at cH;refine⟨σ,own,hv,?_⟩;simpa [PE.ev,h5,D.cells] using cH
 ·rename_i j ver size off es;rw[es] at dR;cases hb:Nat.beq ver (S.ver j)<;>simp only[hb,cond_true,cond_false] at hr
  ·cases hr
  obtain⟨k,n,c,ik,i,eW,uA,bt,fR⟩:=dR.2 (ay hb);have aX:=h.objs j;split at hr
  ·rename_i T' ts t e eo hu;rw[eo] at aX;have hv':=cr h hC rfl hu;cases hc:(Nat.beq inf.size t.size&&(t.rowT||t.one)&&Nat.beq size ts.length&&Nat.ble (off+t.size) ts.length&&Ty.subs t.flat ((ts.drop off).take t.size))<;>simp only[hc,cond_true,cond_false] at hr
   ·cases hr
   cases hr;simp only[ao,gg] at hc;obtain⟨⟨⟨⟨aE,iK⟩,wZ⟩,hle⟩,bS⟩:=hc;have aE:=ay aE;have wZ:=ay wZ;have hle:=jN hle;obtain⟨f1,f2,f3⟩:=hv'.flat iK;have iM:=hv'.size;have f1:t.flat.length=t.size:=f1;have f2:(e.ev ρ).cells.length=t.size:=f2;have iM:(a.eval v).cells.size=t.size:=iM;obtain⟨cells,xs,k1,k2,k3,k4⟩:=aX;obtain⟨b,c',e1,D0,D1⟩:=xF k2;rw[eW] at e1;cases e1;obtain⟨us,u1,u2⟩:=k3;obtain⟨y,hy⟩:∃y,xs[i]?=some y:=⟨_,bA bt⟩
   obtain⟨os,ds,uO,hd0,l1,l2,aO,dc⟩:=(u1 i y hy).agg_inv;have Er:(a.eval v).cells.toList.length=t.size:=by simp[iM]
   have lJ:Rep C.cap σ (.agg ts) (.agg (os.take off++(a.eval v).cells.toList++os.drop (off+(a.eval v).cells.toList.length)).toArray) (.agg (eM ds off (e.ev ρ).cells)):=by
        refine .agg _ _ _ (by simp[iM];omega) (by simp[eM,f2];omega) (fun m tm hm=>?_) dc;rw[Iu os _ off undef (by rw[Er];omega),eM,Iu ds _ off .none (by rw[f2];omega),Er,f2];split
        ·rename_i hc;have am5:=Ty.subs_get _ _ bS (m-off) tm (by
          rw[fM,if_pos (by omega),gj,show off+(m-off)=m by omega];exact hm)
         obtain⟨tf,htf,cH⟩:=am5;rw[zU];exact((f3 _ tf htf).2).sub cH
        ·exact aO m tm hm
   have aY:=k2.1;have alP:i*(Ty.agg ts).size+(Ty.agg ts).size≤xs.length*(Ty.agg ts).size:=by
        have:(i+1)*(Ty.agg ts).size≤xs.length*(Ty.agg ts).size:=nM _ bt;rw[py] at this;omega
   have Zo:(Ty.agg ts).size=ts.length:=rfl
   obtain⟨cur,q1,q2,q3⟩:=h.storeRow (i:=i) (p:=i*(Ty.agg ts).size+off) (vs:=(a.eval v).cells.toList) eo eW k1 k2 ⟨us,u1,u2⟩ k4 bt (by omega) (by rw[Er];omega) lJ (fun q u hq=>by
        have dF:(os.take off++(a.eval v).cells.toList++os.drop (off+(a.eval v).cells.toList.length))[q]?=some u:=by simpa [Value.cells] using hq
        have aAh:q<ts.length:=by have:=(fm.1 dF).1;simp[iM] at this;omega
        rw[nI,l7,dW,pz (by omega)] at dF;rw[nI,l7,dW,pz (by omega)];by_cases rq:q<off
        ·rw[if_pos rq,fM,if_pos rq] at dF;rw[if_pos (by omega),fM,if_pos (by omega)];exact u2 i q u bt (by rw[uO];simpa [Value.cells] using dF)
        ·rw[if_neg rq,l7] at dF;rw[if_neg (by omega),l7];rw[show i*(Ty.agg ts).size+q-(i*(Ty.agg ts).size+off)=q-off by omega];by_cases O0:q-off<(a.eval v).cells.toList.length
         ·rw[if_pos O0] at dF ⊢;exact dF
         ·rw[if_neg O0,gj] at dF;rw[if_neg O0,gj];rw[show off+(a.eval v).cells.toList.length+(q-off-(a.eval v).cells.toList.length)=q by omega] at dF;rw[show i*(Ty.agg ts).size+off+(a.eval v).cells.toList.length+(q-off-(a.eval v).cells.toList.length)=i*(Ty.agg ts).size+q by omega];exact u2 i q u bt (by rw[uO];simpa [Value.cells] using dF))
   refine bV.skip hd fun ρ' ah=>?_;rw[rT ah]
   refine⟨_,Gg ho hi (cs:=cur) (by rw[fR,wZ]) (by rw[iM,aE]) (fun u hu=>by
        obtain⟨m,hm,rfl⟩:=nK hu;exact hv'.cellsOne iK (m:=m) (by simp at hm ⊢)) q1 (by rw[Er] at q2;rw[aE,←Zo];exact q2),σ,own,hv,?_⟩
   rw[Er] at q3;simp only[PE.ev,k1,D.l_list,uA,D.i_int,vL,sN hy,hd0,vu];rw[aE,←Zo];exact q3
  ·rename_i T' e0 t e aw eo hu;rw[eo] at aX;have hv':=cr h hC rfl hu;cases hc:(Nat.beq inf.size 1&&Nat.beq size 1&&Nat.beq off 0&&e0.one&&Ty.sub t e0)<;>simp only[hc,cond_true,cond_false] at hr
   ·cases hr
   cases hr;simp only[ao] at hc;obtain⟨⟨⟨⟨aE,wZ⟩,jA⟩,dc⟩,bS⟩:=hc;have aE:=ay aE;have wZ:=ay wZ;have jA:=ay jA;subst jA;subst wZ;have Zr:=hv'.sub bS;obtain⟨c1,c2⟩:=Zr.oneCell dc;have DM:e0.size=1:=by cases e0<;>simp_all [Ty.size,Ty.one]
   obtain⟨cells,xs,k1,k2,k3,k4⟩:=aX;obtain⟨b,c',e1,D0,D1⟩:=xF k2;rw[eW] at e1;cases e1;obtain⟨y,hy⟩:∃y,xs[i]?=some y:=⟨_,bA bt⟩
   have aY:=k2.1
   obtain⟨cur,q1,q2,q3⟩:=h.storeRow (i:=i) (p:=i*e0.size) (vs:=[a.eval v]) eo eW k1 k2 k3 k4 bt (bf _) (by rw[DM];simp) Zr (fun q u hq=>by
        rw[c1] at hq;have wU:q=0:=by have:=(gD.1 hq).1;simpa using this
        subst wU;simp at hq;subst hq;have:i*e0.size≤cells.length:=by rw[aY];exact nM _ (by omega)
        rw[nI,lC (by simp;omega)];simp[pz this])
   refine bV.skip hd fun ρ' ah=>?_;rw[rT ah];refine⟨_,Gg ho hi (cs:=cur) (by rw[fR]) (by rw[c1,aE];rfl) (fun u hu=>by rw[c1] at hu;simp at hu;subst hu;exact c2) q1 (by rw[DM] at q2;rw[aE];simpa using q2),σ,own,hv,?_⟩;rw[c1,aE];have Eu:vu y 0 (e.ev ρ)=e.ev ρ:=by
        obtain⟨us,u1,u2⟩:=k3;have:=(u1 i y hy).dcells dc;cases y with
        |agg ds=>have h8:=u1 i _ hy;generalize us i=vv at h8;cases h8;simp[Ty.one] at dc
        |_=>rfl
   simp only[PE.ev,k1,D.l_list,uA,D.i_int,vL,sN hy,Eu];rw[DM] at q3;simpa using q3
  ·cases hr
end
end Cx
namespace Cx
open Go Go.RowKit
section
variable {C:Ctx} {S:St} {ρ:Env} {σ:Im} {own:Nat→Option Nat} {hv:Nat→Value} {w0:World} {σ0:Base} {A:Nat→Prop} {a:Act} {w:World} {gs:List (Nat×Bool)} {Φ:aL} {dst:Nat}
theorem aiW {ρ:Env}{es:List PE}{i:Nat}{e:PE}(h:es[i]?=some e):(PE.evs ρ es)[i]?=some (e.ev ρ):=by
 rw[PE.evs_eq,ct,h];rfl
theorem W9 (h:Inv C S ρ σ own hv w0 σ0 A a w)(hC:CtxOK C σ0)(hg:holds gs ρ=true){T:TypeId}{len:Nat}{ps:Array (Nat×Operand)}{r:St×List PI}(hr:wh C S gs dst T len ps.toList=some r){o:Oper}
 (ho:o.op=.buildSlice T len ps):∃(E:TypeId) (e:Ty) (es:List PE) (v:Value) (w':World),C.P.underlying T=some (.slice E)∧pj C.P E=some e∧r=(mkObj S dst (.row E e),[.setO dst (.lst es),.setR dst (.con .none)])∧
   (execOp a.eval o).run C.P w=.ok (.value v) w'∧Below w.heap.size w w'∧(∀k,Nat.beq k w.heap.size=true→w.heap.size≤k∧k<w'.heap.size)∧
   cd C (S.newO dst (.row E e)) (ρ.setO dst (.list (PE.evs ρ es))) σ (fF own dst (fun k=>Nat.beq k w.heap.size)) (bT hv dst v) w' w0.heap.size dst (.row E e):=by
 unfold wh at hr;split at hr
 case h_2=>cases hr
 rename_i E hT;simp only[aq] at hr;obtain⟨e,he,z,hz,hr⟩:=hr;cases hc:(qY C.P E e&&Ty.sub z.1 e&&gM (ps.toList.map (·.1))&&ps.toList.all (fun p=>Nat.blt p.1 len)&&Nat.ble (len*e.size) 16777216)<;>simp only[hc,cond_true,cond_false] at hr
 ·cases hr
 simp only[ao] at hc;obtain⟨⟨⟨⟨hef,bS⟩,bn⟩,fC⟩,hle⟩:=hc;have hle:=jN hle;obtain⟨inf,zv,hi,hs,pX,h1,hzv,mw⟩:=Np hef;have tg:=Vv mw;have jU:=lL bn;have Ev:=((yk (cap:=C.cap) (σ:=σ) hz mw).1).sub bS;simp only[az] at hr;obtain⟨es,jy,rfl⟩:=hr;obtain⟨Xi,el2⟩:=mapM_some _ _ _ jy;simp only[VU] at Xi;have Yn:∀i,i<len→∃pe,es[i]?=some pe∧Ih C S gs e z.2 ps.toList i=some pe:=by
  intro i hi;obtain⟨y,hy1,tc⟩:=el2 i i (by rw[qK hi]);exact⟨y,hy1,tc⟩
 have oA:∀x,x∈ps.toList→x.1<len∧∃t pe,use C S gs x.2=some (t,pe)∧Ty.sub t e=true∧es[x.1]?=some pe:=by
  intro x hx;have xc:x.1<len:=by
   have:=bF.1 fC x hx;simpa [iX] using this
  refine⟨xc,?_⟩;obtain⟨pe,Ee,fB⟩:=Yn x.1 xc;have DP:=Xz jU (i:=x.1) (x:=x.2) hx;simp only[Ih,DP,aq] at fB;obtain⟨y,hy,fB⟩:=fB;cases hs:Ty.sub y.1 e<;>simp only[hs,cond_true,cond_false] at fB
  ·cases fB
  cases fB;exact⟨y.1,y.2,hy,hs,Ee⟩
 let c0:Array Value:=madeCells zv.cells (len*e.size)
 have DH:c0.size=len*e.size:=size_madeCells _ _
 have jW:∀p,p∈(ps.toList.map fun(x:Nat×Operand)=>(x.1,a.eval x.2))→∃o,(fun i=>some (i*e.size,e.size)) p.1=some (o,p.2.cells.size)∧o+p.2.cells.size≤c0.size:=by
  intro p hp;obtain⟨x,hx,rfl⟩:=ei.1 hp;obtain⟨xc,t,pe,hu,cH,_⟩:=oA x hx;have uM:=((cr h hC hg hu).sub cH).size;simp only;refine⟨x.1*e.size,by rw[uM],?_⟩;rw[uM,DH];have:(x.1+1)*e.size≤len*e.size:=nM _ xc;rw[py] at this;omega
 have Ai:∀(i j oi si oj sj:Nat),i≠j→(fun i=>some (i*e.size,e.size)) i=some (oi,si)→(fun i=>some (i*e.size,e.size)) j=some (oj,sj)→oi+si≤oj∨oj+sj≤oi:=by
  intro i j oi si oj sj aw hi hj;simp only[aS,nO] at hi hj;obtain⟨rfl,rfl⟩:=hi;obtain⟨rfl,rfl⟩:=hj;rcases L5 i j with af|fA
  ·left;have:(i+1)*e.size≤j*e.size:=nM _ af;rw[py] at this;omega
  ·right;have:(j+1)*e.size≤i*e.size:=nM _ (by omega);rw[py] at this;omega
 obtain⟨dj,f1,f2,f3,f4⟩:=Nw (fun i=>some (i*e.size,e.size)) (ps.toList.map fun(x:Nat×Operand)=>(x.1,a.eval x.2)) c0 jW Ai (by simpa [GF] using jU);have ah:(execOp a.eval o).run C.P w=.ok (.value (.slice (some ⟨w.heap.size,0,none⟩) len len)) (w.alloc (.cells dj E)):=by
  have n1:¬(len*inf.size>2^24):=by rw[hs];omega
  have Io:Instr.fill (fun i=>some (i*inf.size,inf.size)) c0 (ps.toList.map fun(x:Nat×Operand)=>(x.1,a.eval x.2))=some dj:=by rw[hs];exact f1
  by_cases h0:len*inf.size=0
  ·have Ae:c0=#[]:=by
        apply LR;rw[DH,←hs];exact h0
   rw[Ae] at Io
   have aiY:Instr.fill (fun i=>some (i*inf.size,inf.size)) (Array.map (fun _=>default) (Array.range 0)) (ps.toList.map fun(x:Nat×Operand)=>(x.1,a.eval x.2))=some dj:=by
        have:(Array.map (fun _=>(default:Value)) (Array.range 0))=#[]:=by simp
        rw[this];exact Io
   simp[execOp,ho,Instr.buildSlice,run_underlying hT,Go.sizeOf,run_typeInfo w hi,n1,h0,aiY,newRow]
  ·have Ae:c0=(Array.range (len*inf.size)).map (fun x=>zv.cells[x%zv.cells.size]!):=by simp only[c0,madeCells,hs]
   rw[Ae] at Io;have h00:¬(len=0∨inf.size=0):=by rw[←Nat.mul_eq_zero];exact h0
   simp[execOp,ho,Instr.buildSlice,run_underlying hT,Go.sizeOf,run_typeInfo w hi,n1,h0,h00,zeroValue,hzv,Io,newRow]
 refine⟨E,e,es,_,_,hT,he,rfl,ah,(Below.refl _ _).alloc (bf _) _,fun k hk=>by simp at hk;simp;omega,?_⟩;have jx:(PE.evs ρ es).length=len:=by rw[PE.evs_eq,eN,Xi]
 have alC:∀(i:Nat) (x:D),(PE.evs ρ es)[i]?=some x→∃v,Rep C.cap σ e v x∧∀q u,v.cells[q]?=some u→dj.toList[i*e.size+q]?=some u:=by
  intro i x hx;have wL:i<len:=by have:=(fm.1 hx).1;omega
  obtain⟨pe,Ee,fB⟩:=Yn i wL;rw[aiW Ee] at hx;cases hx;unfold Ih at fB;split at fB
  ·rename_i p hp;have Zb:=vP hp;have Jl:p.1=i:=by have:=LY hp;simpa using this
   obtain⟨_,t,pe',hu,cH,uH⟩:=oA p Zb;rw[Jl,Ee] at uH;cases uH;have bL:=(cr h hC hg hu).sub cH;refine⟨_,bL,fun q u hq=>?_⟩;have Jm:q<(a.eval p.2).cells.size:=(gD.1 hq).1;have:=f3 p.1 (a.eval p.2) (p.1*e.size) (ei.2 ⟨p,Zb,rfl⟩) (by simp[bL.size]) q Jm;rw[Jl] at this;simp[this,hq]
  ·rename_i hp;cases fB;refine⟨zv,Ev,fun q u hq=>?_⟩;have Jm:q<zv.cells.size:=(gD.1 hq).1
   have rl:i∉(ps.toList.map fun(x:Nat×Operand)=>(x.1,a.eval x.2)).map (·.1):=by
        intro dg;simp only[GN,ei,GF] at dg;obtain⟨x,AE,e⟩:=dg;have:=vN.1 hp x AE;simp[e] at this
   have:=f4 i (i*e.size) e.size rl rfl q (by omega);have h9:c0[i*e.size+q]?=zv.cells[q]?:=by
        simp only[c0];rw[←tg];exact aaf (by omega) wL Jm
   simp[this,h9,hq]
 have iM:∃vs:Nat→Value,∀(i:Nat) (x:D),(PE.evs ρ es)[i]?=some x→Rep C.cap σ e (vs i) x∧∀q u,(vs i).cells[q]?=some u→dj.toList[i*e.size+q]?=some u:=by
  have mj:∀i,∃v,∀x,(PE.evs ρ es)[i]?=some x→Rep C.cap σ e v x∧∀q u,v.cells[q]?=some u→dj.toList[i*e.size+q]?=some u:=by
   intro i;cases hx:(PE.evs ρ es)[i]? with
   |none=>exact⟨undef,fun x dm=>by cases dm⟩
   |some x=>
    obtain⟨v,hv⟩:=alC i x hx;exact⟨v,fun y hy=>by cases hy;exact hv⟩
  exact⟨fun i=>Classical.choose (mj i),fun i x hx=>VE (mj i) x hx⟩
 obtain⟨vs,iM⟩:=iM;have dv:dj.size=len*e.size:=by rw[f2,DH]
 refine⟨dj.toList,PE.evs ρ es,by simp[Env.setO,aK],?_,⟨vs,fun i x hx=>(iM i x hx).1,fun i j u hi hj=>(iM i _ (bA hi)).2 j u hj⟩,fun k hk=>by rw[aK] at hk;simp[Value.ownBlock] at hk;simp[fF,hk]⟩;rw[aK,jx];have Oq:len≤maxLen:=by
  have:len*1≤len*e.size:=Nat.mul_le_mul_left _ h1;unfold maxLen;omega
 exact⟨by simp[dv],.inr ⟨w.heap.size,len,dj,rfl,h.below.size,heap_alloc_new w _,bf _,Oq,dv,by rw[B8 (by simp[dv])]⟩⟩
theorem ah5 (h:Inv C S ρ σ own hv w0 σ0 A a w)(hC:CtxOK C σ0)(ht:¬A dst)(af:dst<a.tmps.size){T:TypeId}{len:Nat}{ps:Array (Nat×Operand)}{r:St×List PI}(hr:wh C S [] dst T len ps.toList=some r){o:Oper}(hd:o.dst=some dst)
 (ho:o.op=.buildSlice T len ps):bV C w0 σ0 Φ S ρ A a w o r:=by
 obtain⟨E,e,es,v,w',_,_,rfl,ah,hb,dh,cG⟩:=W9 h hC rfl hr ho;refine bV.value hd fun ρ' oB=>⟨_,_,ah,?_⟩
 rw[BH oB];exact h.mkObj ht af (.row E e) _ _ (fun k=>Nat.beq k w.heap.size) hb dh cG
theorem Inv.kill (h:Inv C S ρ σ own hv w0 σ0 A a w)(j:Nat):Inv C (S.newO j .dead) ρ σ own hv w0 σ0 A a w:=by
 have dz:∀i,S.ver i≤(S.newO j .dead).ver i:=by
  intro i;show S.ver i≤bT S.ver j (S.ver j+1) i;rw[fj];by_cases e:i=j
  ·subst e;simp
  ·simp[e]
 have hc:Compat S hv (S.newO j .dead) hv:=⟨dz,fun _ _=>rfl⟩
 refine h.step (·=j) rfl (.refl σ) h.ok (fun _ _ _ hx=>.inl hx) (fun _ _ hx=>.inl hx) (.refl _ _) hc (fun i hi=>⟨by simp[St.newO,bo _ _ hi],rfl,rfl,fun k hk=>⟨hk,rfl⟩⟩) (fun i hi=>?_) h.owns (fun _=>id) (fun t=>.inl ⟨rfl,rfl,rfl⟩) (fun _ _=>rfl) (fun _ _ _=>rfl) (fun k i hk=>.inl ⟨i,hk⟩) (fun i hi=>by subst hi;simp[St.newO,aK]);subst hi;simp only[St.newO,aK];trivial
theorem aim (h:Inv C S ρ σ own hv w0 σ0 A a w)(hC:CtxOK C σ0)(ht:¬A dst)(af:dst<a.tmps.size)(dO:∀g,g∈gs→A g.1)(hg:holds gs ρ=true){T:TypeId}{len:Nat}{ps:Array (Nat×Operand)}{r:St×List PI}(hr:zM C S gs dst T len ps.toList=some r){o:Oper}(hd:o.dst=some dst)
 (ho:o.op=.buildSlice T len ps):bV C w0 σ0 Φ S ρ A a w o r:=by
 unfold zM at hr;split at hr
 case h_2=>cases hr
 rename_i E q hT hq;simp only[aq] at hr;obtain⟨e,he,hr⟩:=hr;obtain⟨E',e',es,v,w',z7,p5,rfl,ah,hb,dh,cG⟩:=W9 h hC hg hq ho;rw[hT] at z7;cases z7;rw[he] at p5;cases p5;cases hr;refine bV.value hd fun ρ' oB=>⟨_,_,ah,?_⟩
 have hρ:ρ'=ρ.setR dst (.list (PE.evs ρ es)):=by simp[PI.runs,PI.run,PE.ev] at oB;exact oB.symm
 subst hρ;have h1:=h.newO dst (.row E e) (.list (PE.evs ρ es)) v (fun k=>Nat.beq k w.heap.size) hb dh cG;obtain⟨σ2,jk,_,h2⟩:=h1.fz dst;have Ak:(S.newO dst (.row E e)).fz dst=(S.newO dst (.row E e)).setO dst (.fz (.slice e.rol)):=by
  have:(S.newO dst (.row E e)).o dst=.row E e:=aK _ _ _;unfold St.fz;rw[this]
 rw[Ak] at h2;have aX:=h2.objs dst;have e1:((S.newO dst (.row E e)).setO dst (.fz (.slice e.rol))).o dst=.fz (.slice e.rol):=aK _ _ _;rw[e1] at aX;have bL:Rep C.cap σ2 (.slice e.rol) v (.list (PE.evs ρ es)):=by
  have:=aX.2
  rwa [aK,show(ρ.setO dst (.list (PE.evs ρ es))).o dst=.list (PE.evs ρ es) from aK _ _ _] at this
 have h3:Inv C (S.newO dst .dead) ρ σ2 jk (bT hv dst v) w0 σ0 A a w':=by
  refine h2.step (·=dst) rfl (.refl σ2) h2.ok (fun _ _ _ hx=>.inl hx) (fun _ _ hx=>.inl hx) (.refl _ _) ⟨fun i=>bf _,fun _ _=>rfl⟩ (fun i hi=>⟨?_,?_,rfl,fun k hk=>⟨hk,rfl⟩⟩) (fun i hi=>?_) h2.owns (fun _=>id) (fun t=>.inl ⟨rfl,rfl,rfl⟩) (fun _ _=>rfl) (fun _ _ _=>rfl) (fun k i hk=>.inl ⟨i,hk⟩) (fun i hi=>by subst hi;simp[St.newO,aK])
  ·simp[St.newO,St.setO,bo _ _ hi]
  ·simp[Env.setO,bo _ _ hi]
  ·subst hi;simp only[St.newO,aK];trivial
 have hh:holds gs (ρ.setR dst (.list (PE.evs ρ es)))=true:=by rw[Eb (t:=dst) fun g hm e=>ht (by rw[←e];exact dO g hm)];exact hg
 cases gs with
 |nil=>exact⟨_,_,_,h3.setReg ht (s:=.dat (.slice e.rol)) bL af (fun _ _ e=>by cases e)⟩
 |cons g bO=>
  refine⟨_,_,_,h3.setReg ht (s:=.opt (g::bO) (.dat (.slice e.rol))) ⟨fun _=>bL,fun e=>absurd (hh.symm.trans e) (by decide)⟩ af (fun gs s e=>?_)⟩;cases e;exact⟨dO,fun _ _ e=>by cases e⟩
end
end Cx
