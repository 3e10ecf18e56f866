/-
  Shared texts of this claim.
-/
import Derived.Test.YtipjidjopglknaaGreatDoorMAB
import Derived.Laws.OwnMore
import Derived.Lib.ConvBytes
set_option linter.defProp false
set_option linter.unusedSimpArgs false
set_option linter.unusedVariables false
namespace Cx
open Go Go.RowKit
def iu (b i:Nat):Nat:=4096*(i+1)+b
def St.fz (S:St)(j:Nat):St:=
 match S.o j with
 |.row _ e=>S.setO j (.fz (.slice e.rol))
 |.mp k e=>S.setO j (.fz (.map k e))
 |_=>S
def FA (S:St)(b:Nat):Option (St×List PI):=
 match S.o b with
 |.box ag shs=>
  (sf S (.o b) shs 0).bind λx=>
    bif ag then some (S.setO b (.fbox (.agg x.1)),[.setO b (.mk x.2)])
    else match x.1,x.2 with
     |[t],[e]=>some (S.setO b (.fbox t),[.setO b e])
     |_,_=>Option.none
 |_=>Option.none
def St.mv (S:St)(j j':Nat):St:=
 {S with o:=cr (cr S.o j' (S.o j)) j .dead,ver:=cr (cr S.ver j' (S.ver j'+1)) j (S.ver j+1)}
def lZ:Ob->Bool
 |.row ..=>true
 |.mp ..=>true
 |_=>false
def Am (S:St)(t j':Nat):Option (St×List PI):=
 match S.r t with
 |.obj j ver=>
  bif Nat.beq ver (S.ver j)&&lZ (S.o j)&& !Nat.beq j j' then some ((S.mv j j').setR t (.obj j' (S.ver j'+1)),[.setO j' (.o j)])
  else some (S,[])
 |_=>some (S,[])
def IE (S:St)(b i j':Nat):Option (St×List PI):=
 match S.o b with
 |.box ag shs=>
  match shs[i]? with
  |some (.obj j ver)=>
   bif Nat.beq ver (S.ver j)&&lZ (S.o j)&& !Nat.beq j j'&& !Nat.beq b j'&& !Nat.beq b j then
    some ((S.mv j j').setO b (.box ag (shs.set i (.obj j' (S.ver j'+1)))),[.setO j' (.o j)])
   else some (S,[])
  |_=>some (S,[])
 |_=>some (S,[])
def Gi (C:Ctx)(S:St)(b i j:Nat)(T:TypeId):Option (St×List PI):=
 match S.o b with
 |.box ag shs=>
  match shs[i]?,qm C.P T with
  |some (.dat (.nils _)),some e=>
   bif !Nat.beq b j then some ((S.newO j (.row T e)).setO b (.box ag (shs.set i (.obj j (S.ver j+1)))),[.setO j (.con (.list []))])
   else some (S,[])
  |_,_=>some (S,[])
 |_=>some (S,[])
section
variable {C:Ctx} {S:St} {O:Env} {V:Im} {own:Nat->Option Nat} {hv:Nat->Value} {w0:World} {σ0:Base} {A:Nat->Prop} {a:Act} {w:World} {gs:List (Nat×Bool)} {Z:aQ} {dst:Nat}
def Inv.lt (h:Inv C S O V own hv w0 σ0 A a w){k o:Nat}{u:Value}(hc:V.c k o=some u):k<w.heap.size:=World.block_lt_of_cell? w (a:=⟨k,o,none⟩) (h.ok.c _ _ _ hc)
def Inv.ltm (h:Inv C S O V own hv w0 σ0 A a w){k:Nat}{es:List (Value×Value)}(hc:V.m k=some es):k<w.heap.size:=by
 exact(h.ok.m _ _ hc).lt
def ajl {w:World}{k:Nat}{c:Array Value}{T:TypeId}(h:w.heap[k]?=some (.cells c T (0,0)))(o:Nat):w.frozen? ⟨k,o,none⟩=false:=by simp[World.frozen?,h]
def ag6 {w:World}{base:Nat}{e:TypeId}{size:Nat}{v:Value}{n:Nat}{xs:List Value}(h:w.ownsRow base e size v n xs){g:Nat}(hg:v.ownBlock=some g)(o:Nat):w.frozen? ⟨g,o,none⟩=false:=by
 rcases h.2 with⟨rfl,_⟩|⟨g',cap,cur,rfl,_,h3,_⟩
 .cases hg
 .cases hg;exact ajl h3 o
def ag5 {w:World}{base:Nat}{e:TypeId}{size:Nat}{v:Value}{n:Nat}{xs:List Value}(h:w.ownsRow base e size v n xs){g:Nat}(hg:v.ownBlock=some g):∃cs T fz,w.heap[g]?=some (.cells cs T fz):=by
 rcases h.2 with⟨rfl,_⟩|⟨g',cap,cur,rfl,_,h3,_⟩
 .cases hg
 .cases hg;exact⟨_,_,_,h3⟩
def Im.ok.fz {V:Im}{w w':World}(h:V.ok w)(hk:∀k o v,V.c k o=some v->w'.heap[k]?=w.heap[k]?):∀k o n,V.c k o=some (.int .i64 n)->k=0\/w'.frozen? ⟨k,o,none⟩=false:=λk o n hc=>by
 rw[World.frozen?_of_block (w:=w) (hk k o _ hc)];exact h.f k o n hc
def Im.ok.below {V:Im}{w w':World}(h:V.ok w)(hb:Below w.heap.size w w'):V.ok w':=by
 refine⟨λk o v hc=>?_,λk es hc=>?_,h.fz λk o v hc=>hb.block k (World.block_lt_of_cell? w (a:=⟨k,o,none⟩) (h.c k o v hc))⟩
 .have h1:=h.c k o v hc;rw[hb.cell (World.block_lt_of_cell? w (a:=⟨k,o,none⟩) h1)];exact h1
 .exact(h.m k es hc).keep (hb.block k (h.m k es hc).lt)
def gp (own:Nat->Option Nat)(j:Nat)(nb:Nat->Bool):Nat->Option Nat:=λk=>if nb k then some j else if own k=some j then none else own k
def Inv.newOσ (h:Inv C S O V own hv w0 σ0 A a w)(j:Nat)(ob:Ob)(d:D)(v:Value)(nb:Nat->Bool){V':Im}{w':World}(hle:V.le V')(av:V'.ok w')(dw:∀k o x,V'.c k o=some x->V.c k o=some x\/w.heap.size<=k)(cY:∀k x,V'.m k=some x->V.m k=some x\/w.heap.size<=k)
 (hw:Below w.heap.size w w') (dv:∀k,nb k=true->w.heap.size<=k/\k<w'.heap.size) (dy:∀k,nb k=true->(∀o,V'.c k o=none)/\V'.m k=none)
 (cZ:cG C (S.newO j ob) (O.setO j d) V' (gp own j nb) (cr hv j v) w' w0.heap.size j ob) (og:ob≠.tr:=by intro h;cases h):Inv C (S.newO j ob) (O.setO j d) V' (gp own j nb) (cr hv j v) w0 σ0 A a w':=by
 have aF:w0.heap.size<=w.heap.size:=h.below.size;have cE:∀k i,i≠j->own k=some i->gp own j nb k=some i:=by
  intro k i hi hk;have h1:=h.owns k i hk;have h2:nb k=false:=by
   cases hn:nb k with
   |false=>rfl
   |true=>have:=dv k hn;omega
  simp[gp,h2,hk,hi]
 refine h.step (λi=>i=j) rfl hle av (λk o x hx=>(dw k o x hx).imp id λe=>⟨by omega,.inr e⟩) (λk x hx=>(cY k x hx).imp id λe=>⟨by omega,.inr e⟩) (hw.mono aF) ⟨λi=>?_,λi e=>?_⟩ (λi hi=>⟨?_,?_,?_,λk hk=>⟨cE k i hi hk,?_⟩⟩) (λi hi=>?_) (λk i hk=>?_) (λ_=>id) (λt=>.inl ⟨rfl,rfl,rfl⟩) (λ_ _=>rfl) (λk hk _=>hw.block k hk) (λk i hk=>by
  unfold gp at hk;split at hk
  .rename_i hn;exact .inr (dv k hn).1
  .split at hk
   .cases hk
   .exact .inl ⟨i,hk⟩) (λi hi=>by subst hi;simpa only[St.newO,aP] using og)
 .simp only[St.newO,fY];split<;>rename_i e
  .subst e;omega
  .omega
 .simp only[St.newO,fY] at e;split at e
  .rename_i e';subst e';omega
  .rename_i aB;exact bF _ _ aB
 .simp[St.newO,bF _ _ hi]
 .simp[Env.setO,bF _ _ hi]
 .exact bF _ _ hi
 .exact hw.block k (h.owns k i hk).2.1
 .subst hi;simp only[St.newO,aP];exact cZ
 .unfold gp at hk;split at hk
  .rename_i hn;obtain⟨g1,g2⟩:=dv k hn;exact⟨by omega,g2,(dy k hn).1,(dy k hn).2⟩
  .split at hk
   .cases hk
   .obtain⟨g1,g2,g3,g4⟩:=h.owns k i hk;refine⟨g1,by have:=hw.size;omega,λo=>?_,?_⟩
    .cases hc:V'.c k o with
     |none=>rfl
     |some u=>
      rcases dw k o u hc with e|e
      .rw[g3 o] at e;cases e
      .omega
    .cases hc:V'.m k with
     |none=>rfl
     |some u=>
      rcases cY k u hc with e|e
      .rw[g4] at e;cases e
      .omega
def Inv.newO (h:Inv C S O V own hv w0 σ0 A a w)(j:Nat)(ob:Ob)(d:D)(v:Value)(nb:Nat->Bool){w':World}(hw:Below w.heap.size w w')(dv:∀k,nb k=true->w.heap.size<=k/\k<w'.heap.size)
 (cZ:cG C (S.newO j ob) (O.setO j d) V (gp own j nb) (cr hv j v) w' w0.heap.size j ob) (og:ob≠.tr:=by intro h;cases h):Inv C (S.newO j ob) (O.setO j d) V (gp own j nb) (cr hv j v) w0 σ0 A a w':=by
 refine h.newOσ j ob d v nb (.refl V) (h.ok.below hw) (λ_ _ _ hx=>.inl hx) (λ_ _ hx=>.inl hx) hw dv (λk hn=>⟨λo=>?_,?_⟩) cZ og
 .cases hc:V.c k o with
  |none=>rfl
  |some u=>have:=h.lt hc;have:=(dv k hn).1;omega
 .cases hc:V.m k with
  |none=>rfl
  |some u=>have:=h.ltm hc;have:=(dv k hn).1;omega
def Inv.setObj (h:Inv C S O V own hv w0 σ0 A a w){t j:Nat}(ht:¬A t){v:Value}(fI:hv j=v)(ak:t<a.tmps.size):
 Inv C (S.setR t (.obj j (S.ver j))) (O.setR t .none) V own hv w0 σ0 (λu=>A u\/u=t) (a.put (some t) v) w:=
 h.setReg ht (s:=.obj j (S.ver j)) (v:=v) (d:=.none) ⟨bj _,λ_=>fI.symm⟩ ak (λ_ _ e=>by cases e)
def Lo (S:St)(j:Nat):(S.fz j).ver=S.ver/\(S.fz j).r=S.r:=by
 unfold St.fz;split<;>exact⟨rfl,rfl⟩
def Inv.fz (h:Inv C S O V own hv w0 σ0 A a w)(j:Nat):∃V' own',V.le V'/\Inv C (S.fz j) O V' own' hv w0 σ0 A a w:=by
 have bo:=h.objs j;unfold St.fz;split
 .rename_i T e eo;rw[eo] at bo;obtain⟨cells,xs,h1,h2,⟨vs,h3,h4⟩,h5⟩:=bo;have aF:w0.heap.size<=w.heap.size:=h.below.size
  let nb:Nat->Bool:=λk=>decide ((hv j).ownBlock=some k)
  let V':Im:={c:=λk o=>if nb k then cells[o]? else V.c k o,m:=λk=>if nb k then some iV else V.m k}
  have dv:∀k,nb k=true->own k=some j:=λk hk=>h5 k (by simpa [nb] using hk);have hle:V.le V':=by
   refine⟨λk o v hc=>?_,λk es hc=>?_⟩
   .have:nb k=false:=by
     cases hn:nb k with
     |false=>rfl
     |true=>have:=(h.owns k j (dv k hn)).2.2.1 o;rw[this] at hc;cases hc
    simp[V',this,hc]
   .have:nb k=false:=by
     cases hn:nb k with
     |false=>rfl
     |true=>have:=(h.owns k j (dv k hn)).2.2.2;rw[this] at hc;cases hc
    simp[V',this,hc]
  refine⟨V',λk=>if nb k then none else own k,hle,h.step (λi=>i=j) rfl hle ?_ (λk o x hx=>?_) (λk x hx=>?_) (.refl _ _) ⟨λ_=>bj _,λ_ _=>rfl⟩ (λi hi=>⟨?_,rfl,rfl,λk hk=>⟨?_,rfl⟩⟩) (λi hi=>?_) (λk i hk=>?_) (λ_=>id) (λt=>.inl ⟨rfl,rfl,rfl⟩) (λ_ _=>rfl) (λ_ _ _=>rfl) (λk i hk=>by
        split at hk
        .cases hk
        .exact .inl ⟨i,hk⟩) (λi hi=>by subst hi;simp[St.setO,aP])⟩
  .refine⟨λk o v hc=>?_,λk es hc=>?_,λk o v hc=>?_⟩
   all_goals simp only[V'] at hc
   all_goals split at hc
   .rename_i hn;have cZ:(hv j).ownBlock=some k:=by simpa [nb] using hn
    have:=h2.cells cZ o v hc;rw[tS] at this;simpa using this
   .exact h.ok.c k o v hc
   .rename_i hn;cases hc;obtain⟨cs,T,fz,e⟩:=ag5 h2 (g:=k) (by simpa [nb] using hn);exact .inr (.inr ⟨rfl,cs,T,fz,e⟩)
   .exact h.ok.m k es hc
   .rename_i hn;exact .inr (ag6 h2 (by simpa [nb] using hn) o)
   .exact h.ok.f k o v hc
  .simp only[V'] at hx;split at hx
   .rename_i hn;exact .inr ⟨(h.owns k j (dv k hn)).1,.inl ⟨j,dv k hn⟩⟩
   .exact .inl hx
  .simp only[V'] at hx;split at hx
   .rename_i hn;exact .inr ⟨(h.owns k j (dv k hn)).1,.inl ⟨j,dv k hn⟩⟩
   .exact .inl hx
  .simp[St.setO,bF _ _ hi]
  .have:nb k=false:=by
        cases hn:nb k with
        |false=>rfl
        |true=>rw[dv k hn] at hk;simp at hk;exact absurd hk.symm hi
   simp[this,hk]
  .subst hi;simp only[St.setO,aP];refine⟨rfl,?_⟩;rw[h1];rcases h2.2 with⟨e1,e2⟩|⟨g,cap,cur,e1,e2,e3,e4,e5,e6,e7⟩
   .rw[e1];have:xs=[]:=Pe e2;subst this;exact .nil _
   .rw[e1];refine .slice e.rol g 0 xs.length cap xs vs rfl e4 e5 (λi x hx=>((h3 i x hx).mono hle).unf_rol) (λi m u hi hu=>?_) (λ_=>by simp[V',nb,e1,Value.ownBlock]);rw[Ty.rol_size];have hn:nb g=true:=by simp[nb,e1,Value.ownBlock]
    simp only[V',hn,if_true,iM];exact h4 i m u hi hu
  .split at hk
   .cases hk
   .rename_i hn;obtain⟨g1,g2,g3,g4⟩:=h.owns k i hk;exact⟨g1,g2,λo=>by simp[V',hn,g3 o],by simp[V',hn,g4]⟩
 .rename_i kt et eo;rw[eo] at bo;obtain⟨k0,arr,clock,gA,h1,h2,h3,h4,h5,⟨hx,_⟩,h6⟩:=bo;have aF:w0.heap.size<=w.heap.size:=h.below.size
  let V':Im:={c:=V.c,m:=λk=>if k=k0 then some (entriesOf arr) else V.m k}
  have hle:V.le V':=by
   refine⟨λk o v hc=>hc,λk es hc=>?_⟩;have:k≠k0:=λe=>by subst e;rw[(h.owns k j h2).2.2.2] at hc;cases hc
   simp[V',this,hc]
  refine⟨V',λk=>if k=k0 then none else own k,hle,h.step (λi=>i=j) rfl hle ?_ (λk o x hx=>.inl hx) (λk x hx=>?_) (.refl _ _) ⟨λ_=>bj _,λ_ _=>rfl⟩ (λi hi=>⟨?_,rfl,rfl,λk hk=>⟨?_,rfl⟩⟩) (λi hi=>?_) (λk i hk=>?_) (λ_=>id) (λt=>.inl ⟨rfl,rfl,rfl⟩) (λ_ _=>rfl) (λ_ _ _=>rfl) (λk i hk=>by
        split at hk
        .cases hk
        .exact .inl ⟨i,hk⟩) (λi hi=>by subst hi;simp[St.setO,aP])⟩
  .refine⟨h.ok.c,λk es hc=>?_,h.ok.f⟩;simp only[V'] at hc;split at hc
   .rename_i e;subst e;cases hc;refine .inl ⟨λe=>?_,arr,clock,h3,rfl⟩;refine GV (cap:=C.cap) (V:=V) (kt:=kt) (es:=gA) (by simp[entriesOf,h5]) (λi p q hp hq=>?_) e;simp only[entriesOf,cL,aD] at hp;obtain⟨x,dN,rfl⟩:=hp;exact(h6 i x q (by simpa using dN) hq).1
   .exact h.ok.m k es hc
  .simp only[V'] at hx;split at hx
   .rename_i e;subst e;exact .inr ⟨(h.owns k j h2).1,.inl ⟨j,h2⟩⟩
   .exact .inl hx
  .simp[St.setO,bF _ _ hi]
  .have:k≠k0:=λe=>by subst e;rw[h2] at hk;simp at hk;exact hi hk.symm
   simp[this,hk]
  .subst hi;simp only[St.setO,aP];refine⟨rfl,?_⟩;rw[h1,h4];refine .map kt et k0 (entriesOf arr) gA (by simp[V']) (by simp[entriesOf,h5]) hx (λi p q hp hq=>?_) (λi p q hp hq=>?_)
   .simp only[entriesOf,cL,aD] at hp;obtain⟨e,he,rfl⟩:=hp;exact((h6 i e q (by simpa using he) hq).1).mono hle
   .simp only[entriesOf,cL,aD] at hp;obtain⟨e,he,rfl⟩:=hp;exact((h6 i e q (by simpa using he) hq).2).mono hle
  .split at hk
   .cases hk
   .rename_i hn;obtain⟨g1,g2,g3,g4⟩:=h.owns k i hk;exact⟨g1,g2,g3,by simp[V',hn,g4]⟩
 .exact⟨V,own,.refl V,h⟩
def tt {j:Nat}{e:PE}{O':Env}(h:PI.runs Z [.setO j e] O=some O'):O'=O.setO j (e.ev O):=by
 simp[PI.runs,PI.run] at h;exact h.symm
def oL {O':Env}(h:PI.runs Z [] O=some O'):O'=O:=by
 simp[PI.runs] at h;exact h.symm
def D8 (C:Ctx)(w0:World)(σ0:Base)(Z:aQ)(S:St)(O:Env)(A:Nat->Prop)(a:Act)(w:World)(r:St×List PI):Prop:=
 ∀O',PI.runs Z r.2 O=some O'->Good C w0 σ0 r.1 O' A a w
def aqb (h:Inv C S O V own hv w0 σ0 A a w){b:Nat}{r:St×List PI}(hr:FA S b=some r):D8 C w0 σ0 Z S O A a w r:=by
 unfold FA at hr;split at hr
 case h_2=>cases hr
 rename_i ag shs eo;simp only[ay] at hr;obtain⟨x,hx,hr⟩:=hr;have bo:=h.objs b;rw[eo] at bo;obtain⟨k,cs,T,ds,h1,h2,h3,h4,h5,h6,h7⟩:=bo;obtain⟨l1,es,⟨he,qZ⟩,l2,bX⟩:=QI (b:=.o b) h (cs:=cs.toList) h5 shs 0 x (λm s hm=>by rw[B7,iM];exact(h7 m s hm).2) hx
 let V':Im:={c:=λk' o=>if k'=k then cs[o]? else V.c k' o,m:=V.m}
 have hle:V.le V':=by
  refine⟨λk' o v hc=>?_,λk es hc=>hc⟩;have:k'≠k:=λe=>by subst e;rw[(h.owns k' b h2).2.2.1 o] at hc;cases hc
  simp[V',this,hc]
 have key:∀(t:Ty) (v:Value) (d:D),Rep C.cap V' t v d->(∀(i:Nat) (u:Value),v.cells[i]?=some u->cs[i]?=some u)->
  Inv C (S.setO b (.fbox t)) (O.setO b d) V' (λk'=>if k'=k then none else own k') hv w0 σ0 A a w:=by
  intro t v d hrv bh
  refine h.step (λi=>i=b) rfl hle ?_ (λk' o x hx=>?_) (λ_ _ hx=>.inl hx) (.refl _ _) ⟨λ_=>bj _,λ_ _=>rfl⟩ (λi hi=>⟨?_,?_,rfl,λk' hk=>⟨?_,rfl⟩⟩) (λi hi=>?_) (λk' i hk=>?_) (λ_=>id) (λt=>.inl ⟨rfl,rfl,rfl⟩) (λ_ _=>rfl) (λ_ _ _=>rfl) (λk' i hk=>by
        split at hk
        .cases hk
        .exact .inl ⟨i,hk⟩) (λi hi=>by subst hi;simp[St.setO,aP])
  .refine⟨λk' o v hc=>?_,h.ok.m,λk' o v hc=>?_⟩
   all_goals simp only[V'] at hc
   all_goals split at hc
   .rename_i e;subst e;simp[World.cell?,h3,hc]
   .exact h.ok.c k' o v hc
   .rename_i e;subst e;exact .inr (ajl h3 o)
   .exact h.ok.f k' o v hc
  .simp only[V'] at hx;split at hx
   .rename_i e;subst e;exact .inr ⟨(h.owns k' b h2).1,.inl ⟨b,h2⟩⟩
   .exact .inl hx
  .simp[St.setO,bF _ _ hi]
  .simp[Env.setO,bF _ _ hi]
  .have:k'≠k:=λe=>by subst e;rw[h2] at hk;simp at hk;exact hi hk.symm
   simp[this,hk]
  .subst hi;simp only[St.setO,aP];exact⟨k,v,h1,by simp only[Env.setO,aP];exact hrv,λi u hu=>by simp[V',bh i u hu]⟩
  .split at hk
   .cases hk
   .rename_i hn;obtain⟨g1,g2,g3,g4⟩:=h.owns k' i hk;exact⟨g1,g2,λo=>by simp[V',hn,g3 o],g4⟩
 have jH:∀(m:Nat) (t:Ty),x.1[m]?=some t->t.one=true/\Rep C.cap V' t (cs.toList.getD m undef) (es.getD m .none):=λm t hm=>by
  obtain⟨g1,g2⟩:=bX m t hm;rw[iM] at g2;exact⟨g1,g2.mono hle⟩
 intro O' ar;cases ag with
 |true=>
  simp only[zyy] at hr;cases hr;have:=tt ar;subst this;refine⟨_,_,_,key (.agg x.1) (.agg cs.toList.toArray) _ ?_ (λi u hu=>by simpa [Value.cells] using hu)⟩;simp only[PE.ev,he];exact .agg _ _ _ (by simp;omega) (by omega) (λm t hm=>(jH m t hm).2) (λm t hm=>(jH m t hm).1)
 |false=>
  simp only[zyx] at hr;split at hr
  .rename_i t e et ee;cases hr;have:=tt ar;subst this;obtain⟨g1,g2⟩:=jH 0 t (by rw[et];rfl);have j2:es=[e.ev O]:=by rw[<-qZ,ee];rfl
   subst j2;refine⟨_,_,_,key t (cs.toList.getD 0 undef) _ (by simpa using g2) (λi u hu=>?_)⟩;rw[(g2.oneCell g1).1] at hu;have hi:i=0:=by
        have:=(hZ.1 hu).1;simpa using this
   subst hi;simp at hu;subst hu;have:0<cs.size:=by rw[h4];rw[et] at l1;simp at l1;omega
   rw[gw this];simp[aK,gw this]
  .cases hr
def Inv.mv (h:Inv C S O V own hv w0 σ0 A a w){j j':Nat}(aB:j≠j')(hk:lZ (S.o j)=true):
 Inv C (S.mv j j') (O.setO j' (O.o j)) V (λk=>if own k=some j then some j' else if own k=some j' then none else own k) (cr hv j' (hv j)) w0 σ0 A a w:=by
 have bo:=h.objs j
 refine h.step (λi=>i=j\/i=j') rfl (.refl V) h.ok (λ_ _ _ hx=>.inl hx) (λ_ _ hx=>.inl hx) (.refl _ _) ⟨λi=>?_,λi e=>?_⟩ (λi hi=>?_) (λi hi=>?_) (λk i hk=>?_) (λ_=>id) (λt=>.inl ⟨rfl,rfl,rfl⟩) (λ_ _=>rfl) (λ_ _ _=>rfl) (λk i hk=>by
        split at hk
        .rename_i e;exact .inl ⟨j,e⟩
        .split at hk
         .cases hk
         .exact .inl ⟨i,hk⟩) (λi hi=>by
        rcases hi with rfl|rfl
        .simp[St.mv,aP]
        .simp only[St.mv,bF _ _ (ya aB),aP];intro e;rw[e] at hk;cases hk)
 .simp only[St.mv,fY];split
  .rename_i e;subst e;omega
  .split
   .rename_i e;subst e;omega
   .omega
 .simp only[St.mv,fY] at e;split at e
  .rename_i e';subst e';omega
  .split at e
   .rename_i e';subst e';omega
   .rename_i Sc;exact bF _ _ Sc
 .simp only[not_or] at hi;refine⟨by simp[St.mv,bF _ _ hi.1,bF _ _ hi.2],by simp[Env.setO,bF _ _ hi.2],bF _ _ hi.2,λk hk=>⟨?_,rfl⟩⟩;have e1:i≠j:=hi.1;have e2:i≠j':=hi.2;simp[hk,e1,e2]
 .rcases hi with rfl|rfl
  .simp only[St.mv,aP];trivial
  .simp only[St.mv,bF _ _ (ya aB),aP];cases cZ:S.o j with
   |row T e=>
    rw[cZ] at bo;obtain⟨cells,xs,h1,h2,h3,h4⟩:=bo;refine⟨cells,xs,by simp only[Env.setO,aP];exact h1,by rw[aP];exact h2,h3,λk hk=>?_⟩;rw[aP] at hk;simp[h4 k hk]
   |mp kt et=>
    rw[cZ] at bo;obtain⟨k0,arr,clock,es,h1,h2,h3,h4,h5,h6⟩:=bo;exact⟨k0,arr,clock,es,by rw[aP];exact h1,by simp[h2],h3,by simp only[Env.setO,aP];exact h4,h5,h6⟩
   |_=>rw[cZ] at hk;simp[lZ] at hk
 .split at hk
  .rename_i e;exact h.owns k j e
  .split at hk
   .cases hk
   .exact h.owns k i hk
def ayo (h:Inv C S O V own hv w0 σ0 A a w){t j':Nat}{r:St×List PI}(hr:Am S t j'=some r):D8 C w0 σ0 Z S O A a w r:=by
 intro O' ar;unfold Am at hr;split at hr
 .rename_i j ver es;cases hb:(Nat.beq ver (S.ver j)&&lZ (S.o j)&& !Nat.beq j j')<;>simp only[hb,zyy,zyx] at hr
  .cases hr;rw[oL ar];exact⟨_,_,_,h⟩
  .cases hr;simp only[au,iZ] at hb;have dY:=aC hb.1.1;have aB:j≠j':=λe=>by subst e;simp at hb
   have mz:=h.mv aB hb.1.2;have gU:=h.regs t;rw[es] at gU;have cC:=gU.2 dY;rw[tt ar];refine⟨_,_,_,mz.step (S':=(S.mv j j').setR t (.obj j' (S.ver j'+1))) (λ_=>False) rfl (.refl V) mz.ok (λ_ _ _ hx=>.inl hx) (λ_ _ hx=>.inl hx) (.refl _ _) ⟨λ_=>bj _,λ_ _=>rfl⟩ (λi _=>⟨rfl,rfl,rfl,λk hk=>⟨hk,rfl⟩⟩) (λ_ hf=>hf.elim) mz.owns (λ_=>id) (λu=>?_) (λ_ _=>rfl) (λ_ _ _=>rfl) (λk i hk=>.inl ⟨i,hk⟩) (λ_ hf=>hf.elim)⟩;by_cases hu:u=t
   .subst hu;refine .inr ⟨?_,λgs s e=>by simp[St.setR,aP] at e⟩;simp only[St.setR,aP];refine⟨?_,λ_=>?_⟩
    .simp[St.mv,bF _ _ (ya aB),aP]
    .rw[aP];exact cC
   .exact .inl ⟨by simp[St.setR,bF _ _ hu],rfl,rfl⟩
 .cases hr;rw[oL ar];exact⟨_,_,_,h⟩
def ayn (h:Inv C S O V own hv w0 σ0 A a w){b i j':Nat}{r:St×List PI}(hr:IE S b i j'=some r):D8 C w0 σ0 Z S O A a w r:=by
 intro O' ar;unfold IE at hr;split at hr
 .rename_i ag shs eo;split at hr
  .rename_i j ver es;cases hb:(Nat.beq ver (S.ver j)&&lZ (S.o j)&& !Nat.beq j j'&& !Nat.beq b j'&& !Nat.beq b j)<;>simp only[hb,zyy,zyx] at hr
   .cases hr;rw[oL ar];exact⟨_,_,_,h⟩
   .cases hr;simp only[au,iZ] at hb;have dY:=aC hb.1.1.1.1;have aB:j≠j':=λe=>by subst e;simp at hb
    have eP:b≠j':=λe=>by subst e;simp at hb
    have cB:b≠j:=λe=>by subst e;simp at hb
    have bo:=h.objs b;rw[eo] at bo;obtain⟨k,cs,T,ds,h1,h2,h3,h4,h5,h6,h7⟩:=bo;have cC:=(h7 i _ es).2.2 dY;have mz:=h.mv aB hb.1.1.1.2;rw[tt ar];have Q6:(S.mv j j').o b=.box ag shs:=by simp[St.mv,bF _ _ eP,bF _ _ cB,eo]
    have Gf:=mz.objs b;rw[Q6] at Gf;refine⟨_,_,_,mz.step (S':=(S.mv j j').setO b (.box ag (shs.set i (.obj j' (S.ver j'+1))))) (λm=>m=b) rfl (.refl V) mz.ok (λ_ _ _ hx=>.inl hx) (λ_ _ hx=>.inl hx) (.refl _ _) ⟨λ_=>bj _,λ_ _=>rfl⟩ (λm hm=>⟨by simp[St.setO,bF _ _ hm],rfl,rfl,λk hk=>⟨hk,rfl⟩⟩) (λm hm=>?_) mz.owns (λ_=>id) (λt=>.inl ⟨rfl,rfl,rfl⟩) (λ_ _=>rfl) (λ_ _ _=>rfl) (λk i hk=>.inl ⟨i,hk⟩) (λm hm=>by subst hm;simp[St.setO,aP])⟩;subst hm;rw[St.setO_o];obtain⟨k1,E5,T1,E7,g1,g2,g3,g4,g5,g6,g7⟩:=Gf;have e1:E5=cs:=by
     rw[bF _ _ eP,h1] at g1;cases g1;rw[h3] at g3;cases g3;rfl
    refine⟨k1,E5,T1,E7,g1,g2,g3,by simpa using g4,g5,by simpa using g6,λq x hq=>?_⟩;rw[Eb] at hq;split at hq
    .rename_i e;subst e;split at hq
     .cases hq;refine⟨(λ_ _ e=>by cases e),?_,λ_=>?_⟩
      .simp[St.setO,St.mv,bF _ _ (ya aB),aP]
      .rw[aP,e1];exact cC
     .cases hq
    .obtain⟨f1,f2⟩:=g7 q x hq;exact⟨f1,f2.mono' (.refl V) (Compat.setO _ _ _ _) f1⟩
  .cases hr;rw[oL ar];exact⟨_,_,_,h⟩
 .cases hr;rw[oL ar];exact⟨_,_,_,h⟩
def asp (h:Inv C S O V own hv w0 σ0 A a w){b i j:Nat}{T:TypeId}{r:St×List PI}(hr:Gi C S b i j T=some r):D8 C w0 σ0 Z S O A a w r:=by
 intro O' ar;unfold Gi at hr;split at hr
 .rename_i ag shs eo;split at hr
  .rename_i e0 e es et;cases hb:(!Nat.beq b j)<;>simp only[hb,zyy,zyx] at hr
   .cases hr;rw[oL ar];exact⟨_,_,_,h⟩
   .cases hr;have aB:b≠j:=λe=>by subst e;simp at hb
    have bo:=h.objs b;rw[eo] at bo;obtain⟨k,cs,T0,ds,h1,h2,h3,h4,h5,h6,h7⟩:=bo;have cC:cs.getD i undef=.slice none 0 0:=by
     have:=(h7 i _ es).2;generalize cs.getD i undef=v at this;generalize ds.getD i .none=d at this;cases this;rfl
    have mB:=h.newO j (.row T e) (.list []) (.slice none 0 0) (λ_=>false) (.refl _ _) (by simp) ⟨[],[],by simp[Env.setO,aP],by rw[aP];exact World.ownsRow_nil _ _ _ _,⟨λ_=>undef,by simp,by simp⟩,by rw[aP];simp[Value.ownBlock]⟩;rw[tt ar];have Q6:(S.newO j (.row T e)).o b=.box ag shs:=by simp[St.newO,bF _ _ aB,eo]
    have Gf:=mB.objs b;rw[Q6] at Gf;refine⟨_,_,_,mB.step (S':=(S.newO j (.row T e)).setO b (.box ag (shs.set i (.obj j (S.ver j+1))))) (λm=>m=b) rfl (.refl V) mB.ok (λ_ _ _ hx=>.inl hx) (λ_ _ hx=>.inl hx) (.refl _ _) ⟨λ_=>bj _,λ_ _=>rfl⟩ (λm hm=>⟨by simp[St.setO,bF _ _ hm],rfl,rfl,λk hk=>⟨hk,rfl⟩⟩) (λm hm=>?_) mB.owns (λ_=>id) (λt=>.inl ⟨rfl,rfl,rfl⟩) (λ_ _=>rfl) (λ_ _ _=>rfl) (λk i hk=>.inl ⟨i,hk⟩) (λm hm=>by subst hm;simp[St.setO,aP])⟩;subst hm;rw[St.setO_o];obtain⟨k1,E5,T1,E7,g1,g2,g3,g4,g5,g6,g7⟩:=Gf;have e1:E5=cs:=by
     rw[bF _ _ aB,h1] at g1;cases g1;rw[h3] at g3;cases g3;rfl
    refine⟨k1,E5,T1,E7,g1,g2,g3,by simpa using g4,g5,by simpa using g6,λq x hq=>?_⟩;rw[Eb] at hq;split at hq
    .rename_i e';subst e';split at hq
     .cases hq;refine⟨(λ_ _ e=>by cases e),?_,λ_=>?_⟩
      .simp[St.setO,St.newO,aP]
      .rw[aP,e1];exact cC
     .cases hq
    .obtain⟨f1,f2⟩:=g7 q x hq;exact⟨f1,f2.mono' (.refl V) (Compat.setO _ _ _ _) f1⟩
  .cases hr;rw[oL ar];exact⟨_,_,_,h⟩
 .cases hr;rw[oL ar];exact⟨_,_,_,h⟩
end
def mkObj (S:St)(dst:Nat)(ob:Ob):St:=(S.newO dst ob).setR dst (.obj dst (S.ver dst+1))
def mkPtr (S:St)(dst:Nat)(ob:Ob):St:=(S.newO dst ob).setR dst (.ptr dst (S.ver dst+1) 0)
abbrev lD:=Option (St×List PI)
def Fj (C:Ctx)(S:St)(dst:Nat)(T:TypeId)(x:Operand):lD:=
 match use C S [] x,C.P.underlying T with
 |some (.nils _,_),some (.slice E)=>(qm C.P E).map λe=>(mkObj S dst (.row E e),[.setO dst (.con (.list [])),.setR dst (.con .none)])
 |_,_=>Option.none
def E8 (C:Ctx)(S:St)(dst:Nat)(T:TypeId):lD:=
 match qm C.P T,C.P.info? T,rk C.P T with
 |some t,some inf,some ag=>
  bif vy inf t&&(t.rowT||t.one) then
   (qn t).map λz=>(mkPtr S dst (.box ag (z.1.flat.map .dat)),[.setO dst (.con (.agg z.2.cells)),.setR dst (.con .none)])
  else Option.none
 |_,_,_=>Option.none
def Fa (C:Ctx)(S:St)(dst:Nat)(T:TypeId)(x:Operand):lD:=
 match use C S [] x,rk C.P T with
 |some (t,e),some ag=>
  bif t.rowT||t.one then some (mkPtr S dst (.box ag (t.flat.map .dat)),[.setO dst (.mk [e]),.setR dst (.con .none)]) else Option.none
 |Option.none,some true=>
  match fN S [] x with
  |.agg l=>some (mkPtr S dst (.box true (l.map AgC.sh)),[.setO dst (rN x),.setR dst (.con .none)])
  |_=>Option.none
 |_,_=>Option.none
def Fg (C:Ctx)(S:St)(dst:Nat)(T:TypeId)(r:Option Operand):lD:=
 match C.P.underlying T,r with
 |some (.map K E),Option.none=>
  (qm C.P K).bind λkt=>(qm C.P E).map λet=>(mkObj S dst (.mp kt et),[.setO dst (.con (.map [])),.setR dst (.con .none)])
 |_,_=>Option.none
def Fh (C:Ctx)(S:St)(dst:Nat)(T:TypeId)(l c:Operand):lD:=
 match C.P.underlying T,use C S [] l,use C S [] c with
 |some (.slice E),some (.int _,n),some (.int _,m)=>
  (qm C.P E).bind λe=>
    bif sr C.P E e then
     (qn e).bind λz=>
        bif Ty.sub z.1 e then some (mkObj S dst (.row E e),[.chk (Tj n),.chk (.ci .eql n m),.setO dst (.rep n (.con z.2)),.setR dst (.con .none)]) else Option.none
    else Option.none
 |_,_,_=>Option.none
def Fk (C:Ctx)(S:St)(dst:Nat)(T:TypeId)(x:Operand):lD:=
 match C.P.underlying T,fN S [] x with
 |some (.map _ _),.obj j ver=>
  bif Nat.beq ver (S.ver j)&& !Nat.beq j dst then
   match S.o j with
   |.mp kt et=>some (mkObj (S.mv j dst) dst (.it kt et),[.setO dst (.tup [.lst [],.o j]),.setR dst (.con .none)])
   |_=>Option.none
  else Option.none
 |_,_=>Option.none
def Fb (C:Ctx)(S:St)(dst:Nat)(s d:TypeId)(x:Operand):lD:=
 match use C S [] x,C.P.underlying s,C.P.underlying d with
 |some (.str,e),some .string,some (.slice E)=>
  (match C.P.underlying E with
   |some (.int .u8)=>some (S.setR dst (.dat (.slice (.int .u8))),[.chk (.ci .leq (.slen e) (.con (.int oz))),.setR dst (.bytes e)])
   |_=>Option.none)
 |_,_,_=>Option.none
section
variable {C:Ctx} {S:St} {O:Env} {V:Im} {own:Nat->Option Nat} {hv:Nat->Value} {w0:World} {σ0:Base} {A:Nat->Prop} {a:Act} {w:World} {gs:List (Nat×Bool)} {Z:aQ} {dst:Nat}
def ct (C:Ctx)(w0:World)(σ0:Base)(Z:aQ)(S:St)(O:Env)(A:Nat->Prop)(a:Act)(w:World)(o:Oper)(r:St×List PI):Prop:=
 ∀O',PI.runs Z r.2 O=some O'->∀(K:Act->World->Prop) (Q:Exit->Act->World->Prop),(∀a' w',Good C w0 σ0 r.1 O' (λu=>A u\/o.dst=some u) a' w'->a'.tmps.size=a.tmps.size->K a' w')->o.wp C.P a w K Q
def size_put (a:Act)(d:Option Tmp)(v:Value):(a.put d v).tmps.size=a.tmps.size:=by
 cases d<;>simp[Act.put]
def ct.value {o:Oper}{r:St×List PI}(hd:o.dst=some dst)(hx:∀O',PI.runs Z r.2 O=some O'->∃v w',(execOp a.eval o).run C.P w=.ok (.value v) w'/\Good C w0 σ0 r.1 O' (λu=>A u\/u=dst) (a.put (some dst) v) w'):ct C w0 σ0 Z S O A a w o r:=by
 intro O' ar K Q hK;obtain⟨v,w',h1,h2⟩:=hx O' ar;simp only[Oper.wp,h1,Oper.upon,hd];refine hK _ _ ?_ (size_put _ _ _)
 have:(λu=>A u\/o.dst=some u)=(λu=>A u\/u=dst):=by
  funext u;rw[hd];simp[eq_comm]
 rw[this];exact h2
def ct.skip {o:Oper}{r:St×List PI}(hd:o.dst=none)(hx:∀O',PI.runs Z r.2 O=some O'->∃w',(execOp a.eval o).run C.P w=.ok .skip w'/\Good C w0 σ0 r.1 O' A a w'):ct C w0 σ0 Z S O A a w o r:=by
 intro O' ar K Q hK;obtain⟨w',h1,h2⟩:=hx O' ar;simp only[Oper.wp,h1,Oper.upon,hd]
 have:(λu=>A u\/o.dst=some u)=A:=by
  funext u;rw[hd];simp
 rw[this] at hK;exact hK _ _ h2 (size_put _ _ _)
def fe.eff (h:Inv C S O V own hv w0 σ0 A a w)(ht:¬A dst)(ak:dst<a.tmps.size){o:Oper}(hd:o.dst=some dst){s:Sh}{G7:List PI}(hq:fe C S O V hv Z dst a w o (s,G7)):ct C w0 σ0 Z S O A a w o (S.setR dst s,G7):=by
 refine ct.value hd λO' ar=>?_;obtain⟨v,d,rfl,h1,h2,h3⟩:=hq O' ar;exact⟨v,w,h1,V,own,hv,h.setReg ht (aI.mono' (.refl V) (.refl S hv) h3 h2) ak (λgs s' e=>absurd e (h3 gs s'))⟩
def fe.effG (h:Inv C S O V own hv w0 σ0 A a w)(ht:¬A dst)(ak:dst<a.tmps.size)(eG:∀g,g∈gs->A g.1)(hg:holds gs O=true){o:Oper}(hd:o.dst=some dst){s:Sh}{G7:List PI}(hq:fe C S O V hv Z dst a w o (s,G7)):ct C w0 σ0 Z S O A a w o (S.setR dst (.opt gs s),G7):=by
 refine ct.value hd λO' ar=>?_;obtain⟨v,d,rfl,h1,h2,h3⟩:=hq O' ar;have hh:holds gs (O.setR dst d)=true:=by rw[Gg (t:=dst) (d:=d) λg hm e=>ht (by rw[<-e];exact eG g hm)];exact hg
 refine⟨v,w,h1,V,own,hv,h.setReg ht ⟨λ_=>aI.mono' (.refl V) (.refl S hv) h3 h2,λe=>absurd (hh.symm.trans e) (by decide)⟩ ak (λcd s' e=>?_)⟩;cases e;exact⟨eG,h3⟩
def Inv.passed (h:Inv C S O V own hv w0 σ0 A a w)(ht:¬A dst)(ak:dst<a.tmps.size)(eG:∀g,g∈gs->A g.1)(hg:holds gs O=false){s:Sh}(hs:∀cd s',s≠.opt cd s')(d:D):Inv C (S.setR dst (.opt gs s)) (O.setR dst d) V own hv w0 σ0 (λu=>A u\/u=dst) (a.put (some dst) undef) w:=by
 have hh:holds gs (O.setR dst d)=false:=by rw[Gg (t:=dst) (d:=d) λg hm e=>ht (by rw[<-e];exact eG g hm)];exact hg
 refine h.setReg ht (s:=.opt gs s) (v:=undef) (d:=d) ⟨λe=>absurd (hh.symm.trans e) (by decide),λ_=>rfl⟩ ak (λcd s' e=>?_);cases e;exact⟨eG,hs⟩
def Inv.mkObj (h:Inv C S O V own hv w0 σ0 A a w)(ht:¬A dst)(ak:dst<a.tmps.size)(ob:Ob)(d:D)(v:Value)(nb:Nat->Bool){w':World}(hw:Below w.heap.size w w')(dv:∀k,nb k=true->w.heap.size<=k/\k<w'.heap.size)
 (cZ:cG C (S.newO dst ob) (O.setO dst d) V (gp own dst nb) (cr hv dst v) w' w0.heap.size dst ob) (og:ob≠.tr:=by intro h;cases h):
 Good C w0 σ0 (Cx.mkObj S dst ob) ((O.setO dst d).setR dst .none) (λu=>A u\/u=dst) (a.put (some dst) v) w':=by
 have h1:=h.newO dst ob d v nb hw dv cZ og;have h2:=h1.setObj ht (j:=dst) (v:=v) (aP _ _ _) ak;have e:(S.newO dst ob).ver dst=S.ver dst+1:=aP _ _ _;rw[e] at h2;exact⟨_,_,_,h2⟩
def Inv.mkPtr (h:Inv C S O V own hv w0 σ0 A a w)(ht:¬A dst)(ak:dst<a.tmps.size)(ob:Ob)(d:D)(k:Nat)(nb:Nat->Bool){w':World}(hw:Below w.heap.size w w')(dv:∀k,nb k=true->w.heap.size<=k/\k<w'.heap.size)
 (cZ:cG C (S.newO dst ob) (O.setO dst d) V (gp own dst nb) (cr hv dst (.pointer (some ⟨k,0,none⟩))) w' w0.heap.size dst ob) (og:ob≠.tr:=by intro h;cases h):
 Good C w0 σ0 (Cx.mkPtr S dst ob) ((O.setO dst d).setR dst .none) (λu=>A u\/u=dst) (a.put (some dst) (.pointer (some ⟨k,0,none⟩))) w':=by
 have h1:=h.newO dst ob d _ nb hw dv cZ og;have e:(S.newO dst ob).ver dst=S.ver dst+1:=aP _ _ _;have h2:=h1.setReg ht (s:=.ptr dst (S.ver dst+1) 0) (v:=.pointer (some ⟨k,0,none⟩)) (d:=.none) ⟨Nat.le_of_eq e.symm,λ_=>⟨k,aP _ _ _,rfl⟩⟩ ak (λ_ _ e=>by cases e);exact⟨_,_,_,h2⟩
def DM {e:PE}{O':Env}(h:PI.runs Z [.setO dst e,.setR dst (.con .none)] O=some O'):O'=(O.setO dst (e.ev O)).setR dst .none:=by
 simp[PI.runs,PI.run,PE.ev] at h;exact h.symm
def aaM (h:Inv C S O V own hv w0 σ0 A a w){t:Ty}{v:Value}{d:D}(hr:Rep C.cap V t v d)(ho:t.rowT=true\/t.one=true)(ag:Bool)(T:TypeId):
 cG C (S.newO dst (.box ag (t.flat.map .dat))) (O.setO dst (.agg d.cells)) V (gp own dst (λk=>Nat.beq k w.heap.size)) (cr hv dst (.pointer (some ⟨w.heap.size,0,none⟩))) (w.alloc (.cells v.cells T)) w0.heap.size dst (.box ag (t.flat.map .dat)):=by
 obtain⟨f1,f2,f3⟩:=hr.flat ho;refine⟨w.heap.size,v.cells,T,d.cells,aP _ _ _,by simp[gp],heap_alloc_new w _,by rw[hr.size];simp[f1],by simp[Env.setO,aP],by simp[f1,f2],λi s hi=>?_⟩;simp only[cL,aD] at hi;obtain⟨ti,Gw,rfl⟩:=hi;exact⟨λ_ _ e=>(by cases e),(f3 i ti Gw).2⟩
def aok (h:Inv C S O V own hv w0 σ0 A a w)(hC:CtxOK C σ0)(ht:¬A dst)(ak:dst<a.tmps.size){T:TypeId}{x:Operand}{r:St×List PI}(hr:Fj C S dst T x=some r){o:Oper}(hd:o.dst=some dst)(ho:o.op=.assign x):ct C w0 σ0 Z S O A a w o r:=by
 unfold Fj at hr;split at hr
 case h_2=>cases hr
 rename_i e0 e1 E hu hT;simp only[aD] at hr;obtain⟨e,he,rfl⟩:=hr;have hx:=cK h hC rfl hu;have cC:a.eval x=.slice none 0 0:=by
  generalize a.eval x=v at hx;generalize e1.ev O=d at hx;cases hx;rfl
 refine ct.value hd λO' ar=>⟨.slice none 0 0,w,by simp[execOp,ho,cC],?_⟩
 rw[DM ar];exact h.mkObj ht ak (.row E e) _ _ (λ_=>false) (.refl _ _) (by simp) ⟨[],[],by simp[Env.setO,aP,PE.ev],by rw[aP];exact World.ownsRow_nil _ _ _ _,⟨λ_=>undef,by simp,by simp⟩,by rw[aP];simp[Value.ownBlock]⟩
def anQ (h:Inv C S O V own hv w0 σ0 A a w)(ht:¬A dst)(ak:dst<a.tmps.size){T:TypeId}{r:St×List PI}(hr:E8 C S dst T=some r){o:Oper}(hd:o.dst=some dst)(ho:o.op=.alloc T):ct C w0 σ0 Z S O A a w o r:=by
 unfold E8 at hr;split at hr
 case h_2=>cases hr
 rename_i t inf ag SN hi ha;cases hc:(vy inf t&&(t.rowT||t.one))<;>simp only[hc,zyy,zyx] at hr
 .cases hr
 simp only[au,fZ] at hc;simp only[aD] at hr;obtain⟨z,hz,rfl⟩:=hr;obtain⟨v0,uB,CG⟩:∃v0,inf.zero=some v0/\kl t v0=true:=by
  have:=hc.1;unfold vy at this;split at this
  .exact⟨_,by assumption,this⟩
  .cases this
 obtain⟨k1,k2,k3⟩:=AB (cap:=C.cap) (V:=V) hz CG;have uz:z.1.rowT=true\/z.1.one=true:=by
  rcases hc.2 with e|e
  .left;cases t<;>simp[Ty.rowT] at e;simp[qn] at hz;obtain⟨_,_,rfl⟩:=hz;rfl
  .right;rw[k3];exact e
 refine ct.value hd λO' ar=>⟨.pointer (some ⟨w.heap.size,0,none⟩),w.alloc (.cells v0.cells T),?_,?_⟩
 .simp[execOp,ho,Instr.alloc,zeroValue,run_typeInfo w hi,uB,newVar,newRow]
 .rw[DM ar];exact h.mkPtr ht ak _ _ _ (λk=>Nat.beq k w.heap.size) ((Below.refl _ _).alloc (bj _) _) (λk hk=>by simp at hk;simp;omega) (aaM h k1 uz ag T)
def Compat.newO (S:St)(hv:Nat->Value)(j:Nat)(ob:Ob)(v:Value):Compat S hv (S.newO j ob) (cr hv j v):=by
 refine⟨λi=>?_,λi e=>?_⟩
 .simp only[St.newO,fY];split<;>rename_i e
  .subst e;omega
  .omega
 .simp only[St.newO,fY] at e;split at e
  .rename_i e';subst e';omega
  .rename_i aB;exact bF _ _ aB
def anU (h:Inv C S O V own hv w0 σ0 A a w)(hC:CtxOK C σ0)(ht:¬A dst)(ak:dst<a.tmps.size){T:TypeId}{x:Operand}{r:St×List PI}(hr:Fa C S dst T x=some r){o:Oper}(hd:o.dst=some dst)(ho:o.op=.box T x):ct C w0 σ0 Z S O A a w o r:=by
 unfold Fa at hr;split at hr
 case h_3=>cases hr
 case h_2=>
  rename_i hu ha;split at hr
  case h_2=>cases hr
  rename_i l gG;cases hr;have gU:=(tw h (gs:=[]) rfl x).1;rw[gG] at gU;obtain⟨vs,ds,e1,e2,e3,e4,e5⟩:=gU;refine ct.value hd λO' ar=>⟨.pointer (some ⟨w.heap.size,0,none⟩),w.alloc (.cells (a.eval x).cells T),?_,?_⟩
  .simp[execOp,ho,Instr.box,newVar,newRow]
  .rw[DM ar,e2];refine h.mkPtr ht ak _ _ _ (λk=>Nat.beq k w.heap.size) ((Below.refl _ _).alloc (bj _) _) (λk hk=>by simp at hk;simp;omega) ⟨w.heap.size,(a.eval x).cells,T,ds,aP _ _ _,by simp[gp],heap_alloc_new w _,by rw[e1];simp[Value.cells,e3],by simp[Env.setO,aP],by simp[e4],λi s hi=>?_⟩;simp only[cL,aD] at hi;obtain⟨c,hc,rfl⟩:=hi;have bT:(a.eval x).cells.getD i undef=vs.getD i undef:=by rw[e1];simp[Value.cells,aK,eM]
   have h6:=(e5 i c hc).monoR (Im.le.leR (.refl V)) (Compat.newO S hv dst (.box true (l.map AgC.sh)) (.pointer (some ⟨w.heap.size,0,none⟩)));rw[bT];cases c with
   |dat t=>exact⟨λ_ _ e=>(by cases e),h6.2⟩
   |obj j ver=>exact⟨λ_ _ e=>(by cases e),h6⟩
 rename_i t e ag hu ha;cases hc:(t.rowT||t.one)<;>simp only[hc,zyy,zyx] at hr
 .cases hr
 cases hr;simp only[fZ] at hc;have hx:=cK h hC rfl hu;refine ct.value hd λO' ar=>⟨.pointer (some ⟨w.heap.size,0,none⟩),w.alloc (.cells (a.eval x).cells T),?_,?_⟩
 .simp[execOp,ho,Instr.box,newVar,newRow]
 .rw[DM ar];have:(PE.mk [e]).ev O=.agg (e.ev O).cells:=by simp[PE.ev,PE.evc]
  rw[this];exact h.mkPtr ht ak _ _ _ (λk=>Nat.beq k w.heap.size) ((Below.refl _ _).alloc (bj _) _) (λk hk=>by simp at hk;simp;omega) (aaM h hx hc ag T)
def aoe (h:Inv C S O V own hv w0 σ0 A a w)(ht:¬A dst)(ak:dst<a.tmps.size){T:TypeId}{m:Option Operand}{r:St×List PI}(hr:Fg C S dst T m=some r){o:Oper}(hd:o.dst=some dst)(ho:o.op=.makeMap T m):ct C w0 σ0 Z S O A a w o r:=by
 unfold Fg at hr;split at hr
 case h_2=>cases hr
 rename_i K E hT;simp only[ay,aD] at hr;obtain⟨kt,hk,et,he,rfl⟩:=hr;refine ct.value hd λO' ar=>⟨.map (some w.heap.size),w.alloc (.map #[] 0),?_,?_⟩
 .simp[execOp,ho,Instr.makeMap]
 .rw[DM ar]
  exact h.mkObj ht ak (.mp kt et) _ _ (λk=>Nat.beq k w.heap.size) ((Below.refl _ _).alloc (bj _) _) (λk hk=>by simp at hk;simp;omega)
   ⟨w.heap.size,#[],0,[],aP _ _ _,by simp[gp],heap_alloc_new w _,by simp[Env.setO,aP,PE.ev],rfl,⟨by simp,by simp[nN]⟩,by simp⟩
def aom (h:Inv C S O V own hv w0 σ0 A a w)(ht:¬A dst)(ak:dst<a.tmps.size){T:TypeId}{x:Operand}{r:St×List PI}(hr:Fk C S dst T x=some r){o:Oper}(hd:o.dst=some dst)(ho:o.op=.range T x):ct C w0 σ0 Z S O A a w o r:=by
 unfold Fk at hr;split at hr
 case h_2=>cases hr
 rename_i K E j ver hT es;obtain⟨eJ,_⟩:=tw h (gs:=[]) rfl x;rw[es] at eJ;cases hb:(Nat.beq ver (S.ver j)&& !Nat.beq j dst)<;>simp only[hb,zyy,zyx] at hr
 .cases hr
 simp only[au,iZ] at hb;have cC:=eJ.2 (aC hb.1);have aB:j≠dst:=λe=>by subst e;simp at hb
 have bo:=h.objs j;split at hr
 case h_2=>cases hr
 rename_i kt et eo;cases hr;rw[eo] at bo;obtain⟨m,arr,clock,ds,h1,h2,h3,h4,h5,⟨h6,sB⟩,h7⟩:=bo;have mz:=h.mv aB (by rw[eo];rfl);have od:m<w.heap.size:=(hZ.1 h3).1;have R4:w0.heap.size<=m:=(h.owns m j h2).1;refine ct.value hd λO' ar=>⟨.pointer (some ⟨w.heap.size,0,none⟩),w.alloc (.mapIter (some m) clock #[] clock),?_,?_⟩
 .simp[execOp,ho,Instr.range,cC,h1,run_underlying hT,getObj,Sem.run,h3]
 have hρ:O'=((O.setO dst (.tup [.list [],.map ds])).setR dst .none):=by
  simp[PI.runs,PI.run,PE.ev,PE.evs,h4] at ar;exact ar.symm
 subst hρ;have dR:Below w.heap.size w (w.alloc (.mapIter (some m) clock #[] clock)):=(Below.refl _ _).alloc (bj _) _;have SH:=mz.step (S':=(S.mv j dst).newO dst (.it kt et)) (O':=(O.setO dst (.tup [.list [],.map ds]))) (V':=V) (hv':=cr (cr hv dst (hv j)) dst (.pointer (some ⟨w.heap.size,0,none⟩)))
  (own':=λk=>if k=w.heap.size then some dst else(if own k=some j then some dst else if own k=some dst then none else own k)) (a':=a) (A':=A) (w':=w.alloc (.mapIter (some m) clock #[] clock)) (λi=>i=dst)
  rfl (.refl V) (h.ok.below dR) (λ_ _ _ hx=>.inl hx) (λ_ _ hx=>.inl hx) (dR.mono h.below.size) ⟨λi=>?_,λi e=>?_⟩ (λi hi=>⟨?_,?_,?_,λk hk=>⟨?_,?_⟩⟩) (λi hi=>?_) (λk i hk=>?_) (λ_=>id) (λt=>.inl ⟨rfl,rfl,rfl⟩) (λ_ _=>rfl) (λk hk _=>dR.block k hk) (λk i hk=>?_) (λi hi=>by subst hi;simp[St.newO,aP])
 .have gi:=SH.setObj ht (j:=dst) (v:=.pointer (some ⟨w.heap.size,0,none⟩)) (aP _ _ _) ak;have e:((S.mv j dst).newO dst (.it kt et)).ver dst=(S.mv j dst).ver dst+1:=aP _ _ _;rw[e] at gi;exact⟨_,_,_,gi⟩
 .simp only[St.newO,fY];split<;>rename_i e
  .subst e;omega
  .omega
 .simp only[St.newO,fY] at e;split at e
  .rename_i e';subst e';omega
  .rename_i Sc;exact bF _ _ Sc
 .simp[St.newO,bF _ _ hi]
 .simp[Env.setO,bF _ _ hi]
 .exact bF _ _ hi
 .have aHd:=(mz.owns k i hk).2.1;have br:k≠w.heap.size:=by omega
  simp only[if_neg br];exact hk
 .exact dR.block k (mz.owns k i hk).2.1
 .subst hi;simp only[St.newO,aP];have bP:m≠w.heap.size:=by omega
  refine⟨w.heap.size,m,arr,clock,ds,[],aP _ _ _,by simp,by simp[bP,h2],by omega,?_,heap_alloc_new w _,by simp[Env.setO,aP,iz],List.nodup_nil,by simp,h5,sB,h7⟩;rw[dR.block m od];exact h3
 .split at hk
  .rename_i e;subst e;refine⟨h.below.size,by simp,λo=>?_,?_⟩
   .cases hc:V.c w.heap.size o with
    |none=>rfl
    |some u=>have:=h.lt hc;omega
   .cases hc:V.m w.heap.size with
    |none=>rfl
    |some u=>have:=h.ltm hc;omega
  .obtain⟨g1,g2,g3,g4⟩:=mz.owns k i hk;exact⟨g1,by simp;omega,g3,g4⟩
 .split at hk
  .rename_i e;subst e;exact .inr (bj _)
  .exact .inl ⟨i,hk⟩
def anY (h:Inv C S O V own hv w0 σ0 A a w)(hC:CtxOK C σ0)(ht:¬A dst)(ak:dst<a.tmps.size){T U:TypeId}{x:Operand}{r:St×List PI}(hr:Fb C S dst T U x=some r){o:Oper}(hd:o.dst=some dst)(ho:o.op=.convert T U x):ct C w0 σ0 Z S O A a w o r:=by
 unfold Fb at hr;split at hr
 case h_2=>cases hr
 rename_i e E hu hT hU;split at hr
 case h_2=>cases hr
 rename_i hE;cases hr;have hx:=cK h hC rfl hu;obtain⟨s,aV,bA,hs⟩:=hx.str_inv;have pH:=Lib.run_convert_string_bytes (P:=C.P) w T U E s hT hU hE;refine ct.value hd λO' ar=>⟨.slice (some ⟨w.heap.size,0,none⟩) s.size (grownCap w s.size 0 E),Lib.bytesWorld w E s,by simp[execOp,ho,aV,pH],?_⟩
 simp only[PI.runs,PI.run,ay] at ar;obtain⟨ρ1,g1,ρ2,g2,g3⟩:=ar;cases c1:((PE.ci BinOp.leq (.slen e) (.con (.int oz))).ev O).b<;>simp only[c1,zyy,zyx] at g1
 .cases g1
 cases g1;cases g2;cases g3;have arW:s.size<=4294967296:=by
  simp[PE.ev,bA,D.s,D.i,D.b,jW,D.int,oz] at c1;omega
 have dR:Below w.heap.size w (Lib.bytesWorld w E s):=⟨rfl,rfl,rfl,by rw[Lib.bytesWorld_size];omega,λk hk=>Lib.bytesWorld_at_old w E s k hk⟩
 have aF:(Lib.bytesWorld w E s).heap.size=w.heap.size+1:=Lib.bytesWorld_size w E s
 let V':Im:={c:=λk i=>if k=w.heap.size then(if i<s.size then some (.int .u8 (s.data.toList.getD i 0).toNat) else none) else V.c k i,m:=V.m}
 have hle:V.le V':=by
  refine⟨λk o v hc=>?_,λk es hc=>hc⟩;have:k≠w.heap.size:=by have:=h.lt hc;omega
  simp[V',this,hc]
 have av:V'.ok (Lib.bytesWorld w E s):=by
  refine⟨λk i v hc=>?_,(h.ok.below dR).m,λk i v hc=>?_⟩
  all_goals simp only[V'] at hc
  all_goals split at hc
  .rename_i ek;subst ek;split at hc
   .rename_i hi;cases hc;exact Lib.bytesWorld_cell w E s i hi
   .cases hc
  .exact(h.ok.below dR).c k i v hc
  .split at hc<;>cases hc
  .exact(h.ok.below dR).f k i v hc
 have h1:=h.step (S':=S) (O':=O) (V':=V') (own':=own) (hv':=hv) (A':=A) (a':=a) (w':=Lib.bytesWorld w E s) (λ_=>False) rfl hle av (λk i v hc=>?_) (λk es hc=>.inl hc) (dR.mono h.below.size) ⟨λ_=>bj _,λ_ _=>rfl⟩
  (λj _=>⟨rfl,rfl,rfl,λk hk=>⟨hk,dR.block k (h.owns k j hk).2.1⟩⟩) (λj hj=>hj.elim) (λk j hk=>?_) (λ_=>id) (λt=>.inl ⟨rfl,rfl,rfl⟩) (λ_ _=>rfl) (λk hk _=>dR.block k hk) (λk i hk=>.inl ⟨i,hk⟩) (λ_ hf=>hf.elim)
 .refine⟨_,_,_,h1.setReg ht (s:=.dat (.slice (.int .u8))) ?_ ak (λ_ _ e=>by cases e)⟩;show Rep C.cap V' _ _ _;simp only[PE.ev,bA,D.s];refine .slice (.int .u8) w.heap.size 0 s.size _ _ (λi=>.int .u8 (s.data.toList.getD i 0).toNat) (by simp) (grownCap_ge w s.size 0 E) (grownCap_le_maxLen w s.size 0 E (by unfold maxLen;omega)) (λi x hx=>?_) (λi j u hi hu=>?_) (λe=>by cases e)
  .simp only[cL,aD] at hx;obtain⟨b,hb,rfl⟩:=hx;have:s.data.toList.getD i 0=b:=by simp[aK,hb]
   rw[this];have:=b.toNat_lt;exact .int .u8 _ (by show(0:Int)<=_;omega) (by show _<=(255:Int);omega)
  .have hj:j=0:=by
        have:=(hZ.1 hu).1;simp[Value.cells] at this;exact this
   subst hj;simp[Value.cells] at hu;subst hu;simp[V',Ty.size,hi]
 .simp only[V'] at hc;split at hc
  .rename_i ek;exact .inr ⟨by have:=h.below.size;omega,.inr (by omega)⟩
  .exact .inl hc
 .obtain⟨g1,g2,g3,g4⟩:=h.owns k j hk;refine⟨g1,by omega,λi=>?_,g4⟩;have:k≠w.heap.size:=by omega
  simp[V',this,g3 i]
end
def Lf (C:Ctx)(S:St)(gs:List (Nat×Bool))(e:Ty)(z:D)(parts:List (Nat×Operand))(i:Nat):Option PE:=
 match parts.find? (λp=>Nat.beq p.1 i) with
 |some p=>(use C S gs p.2).bind λa=>bif Ty.sub a.1 e then some a.2 else Option.none
 |Option.none=>some (PE.con z)
def yx (C:Ctx)(S:St)(gs:List (Nat×Bool))(dst:Nat)(T:TypeId)(len:Nat)(parts:List (Nat×Operand)):lD:=
 match C.P.underlying T with
 |some (.slice E)=>
  (qm C.P E).bind λe=>(qn e).bind λz=>
    bif sr C.P E e&&Ty.sub z.1 e&&ix (parts.map (·.1))&&parts.all (λp=>Nat.blt p.1 len)&&Nat.ble (len*e.size) 16777216 then
     ((List.range len).mapM (Lf C S gs e z.2 parts)).map λes=>(mkObj S dst (.row E e),[.setO dst (.lst es),.setR dst (.con .none)])
    else Option.none
 |_=>Option.none
def BX (C:Ctx)(S:St)(gs:List (Nat×Bool))(dst:Nat)(T:TypeId)(len:Nat)(parts:List (Nat×Operand)):lD:=
 match C.P.underlying T,yx C S gs dst T len parts with
 |some (.slice E),some r=>
  (qm C.P E).bind λe=>
    match r.2 with
    |.setO _ x::_=>some ((S.newO dst .dead).setR dst (match gs with|[]=>.dat (.slice e.rol)|_=>.opt gs (.dat (.slice e.rol))),[.setR dst x])
    |_=>Option.none
 |_,_=>Option.none
def Rg (S:St):AgC->Bool
 |.dat _=>true
 |.obj j ver=>Nat.beq ver (S.ver j)&&lZ (S.o j)
def vW (C:Ctx)(S:St)(T:TypeId)(x v:Operand):lD:=
 match C.P.info? T with
 |some inf=>
  match fN S [] x with
  |.ptr j ver off=>
   bif Nat.beq ver (S.ver j) then
    match S.o j with
    |.box ag shs=>
     match use C S [] v with
     |some (t,e)=>
      bif Nat.beq inf.size t.size&&(t.rowT||t.one)&&Nat.ble (off+t.size) shs.length then
             some (S.setO j (.box ag (shs.take off++t.flat.map .dat++shs.drop (off+t.size))),[.setO j (.setc (.o j) off e)])
      else Option.none
     |Option.none=>
      match fN S [] v with
      |.obj j' nJ=>
       bif Nat.beq nJ (S.ver j')&&lZ (S.o j')&&Nat.beq inf.size 1&&Nat.blt off shs.length then
              some (S.setO j (.box ag (shs.set off (.obj j' nJ))),[.setO j (.setc (.o j) off (.con .none))])
       else Option.none
      |.agg l=>
       bif Nat.beq inf.size l.length&&Nat.ble (off+l.length) shs.length&&l.all (Rg S) then
              some (S.setO j (.box ag (shs.take off++l.map AgC.sh++shs.drop (off+l.length))),[.setO j (.setc (.o j) off (rN v))])
       else Option.none
      |_=>Option.none
    |_=>Option.none
   else Option.none
  |.eptr j ver size off=>
   bif Nat.beq ver (S.ver j) then
    match S.o j,use C S [] v with
    |.row _ (.agg ts),some (t,e)=>
     bif Nat.beq inf.size t.size&&(t.rowT||t.one)&&Nat.beq size ts.length&&Nat.ble (off+t.size) ts.length&&Ty.subs t.flat ((ts.drop off).take t.size) then
         some (S,[.setO j (.setn (.o j) (rN x) off e)])
     else Option.none
    |.row _ e0,some (t,e)=>
     bif Nat.beq inf.size 1&&Nat.beq size 1&&Nat.beq off 0&&e0.one&&Ty.sub t e0 then some (S,[.setO j (.setn (.o j) (rN x) 0 e)]) else Option.none
    |_,_=>Option.none
   else Option.none
  |_=>Option.none
 |Option.none=>Option.none
def ua (C:Ctx)(S:St)(T:TypeId)(m k v:Operand):lD:=
 match C.P.underlying T,fN S [] m with
 |some (.map K _),.obj j ver=>
  bif Nat.beq ver (S.ver j) then
   match S.o j,use C S [] k,use C S [] v with
   |.mp kt et,some (tk,ek),some (tv,ev)=>
    bif Ty.beq tk kt&&wX C.P K kt&&Ty.sub tv et then some (S,[.chk (.ci .lss (.mlen (.o j)) (.con (.int oz))),.setO j (.put (.o j) ek ev)]) else Option.none
   |_,_,_=>Option.none
  else Option.none
 |_,_=>Option.none
def My (x y:PE):PE:=.ci .leq (.llen (.app x y)) (.con (.int oz))
def OE:Ty->Ty->Bool
 |.slice e',e=>Ty.beq e'.unf e
 |.nils _,_=>true
 |_,_=>false
def E9 (C:Ctx)(S:St)(dst:Nat)(T:TypeId)(s x:Operand):lD:=
 match C.P.underlying T with
 |some (.slice E)=>
  (qm C.P E).bind λe=>
    match view C S [] x with
    |some (tx,ex)=>
     bif sr C.P E e&&OE tx e then
        match use C S [] s with
        |some (.nils _,_)=>some (mkObj S dst (.row E e),[.chk (My (.con (.list [])) ex),.setO dst (.app (.con (.list [])) ex),.setR dst (.con .none)])
        |some _=>Option.none
        |Option.none=>
         match fN S [] s with
         |.obj j ver=>
          bif Nat.beq ver (S.ver j) then
             match S.o j with
             |.row E' e'=>
              bif Nat.beq E' E&&Ty.beq e' e then
                some ((S.newO j (.row E e)).setR dst (.obj j (S.ver j+1)),[.chk (My (.o j) ex),.setO j (.app (.o j) ex),.setR dst (.con .none)])
              else Option.none
             |_=>Option.none
          else Option.none
         |_=>Option.none
     else Option.none
    |Option.none=>Option.none
 |_=>Option.none
def Q3 {P:Program}{T:TypeId}{e:Ty}(h:sr P T e=true):∃inf z,P.info? T=some inf/\inf.size=e.size/\inf.bytes<=zt/\1<=e.size/\inf.zero=some z/\kl e z=true:=by
 unfold sr at h;split at h
 .rename_i i hi;simp only[au] at h;have h4:=h.2;unfold vy at h4;split at h4
  .rename_i z hz;exact⟨i,z,hi,aC h.1.1.1,kp h.1.1.2,kp h.1.2,hz,h4⟩
  .cases h4
 .cases h
def ZP {e:Ty}{z:Value}(h:kl e z=true):z.cells.size=e.size:=by
 cases e with
 |agg ts=>
  cases z with
  |agg vs=>simp only[kl] at h;have:=(ZQ ts vs.toList h).1;simpa [Value.cells,Ty.size] using this
  |_=>simp[kl] at h
 |_=>cases z<;>simp_all [kl,AA,Value.cells,Ty.size]
def am7 {O:Env}{x y:PE}(h:((PE.ci .lss x y).ev O).b=true):(x.ev O).i<(y.ev O).i:=by
 simpa [PE.ev,D.b_bool,jW] using h
def aa0 {O:Env}{x y:PE}(h:((PE.ci .leq x y).ev O).b=true):(x.ev O).i<=(y.ev O).i:=by
 simpa [PE.ev,D.b_bool,jW] using h
def atZ {n:Nat}(h:(n:Int)<oz):n<4294967296:=by unfold oz at h;omega
def aef {n:Nat}(h:(n:Int)<=oz):n<=4294967296:=by unfold oz at h;omega
def St.setO_self {S:St}{j:Nat}{ob:Ob}(h:S.o j=ob):S.setO j ob=S:=by
 have:cr S.o j ob=S.o:=by
  funext i;rw[fY];split
  .rename_i e;subst e;exact h.symm
  .rfl
 cases S;simp only[St.setO] at this ⊢;rw[this]
section
variable {C:Ctx} {S:St} {O:Env} {V:Im} {own:Nat->Option Nat} {hv:Nat->Value} {w0:World} {σ0:Base} {A:Nat->Prop} {a:Act} {w:World} {gs:List (Nat×Bool)} {Z:aQ} {dst:Nat}
def Inv.updO (h:Inv C S O V own hv w0 σ0 A a w)(j:Nat)(ob:Ob)(d:D)(v:Value)(nb:Nat->Bool){w':World}(hw:Below w0.heap.size w w')
 (qY:∀k,k<w.heap.size->own k≠some j->w'.heap[k]?=w.heap[k]?) (dv:∀k,nb k=true->(own k=some j\/w.heap.size<=k)/\k<w'.heap.size)
 (cZ:cG C (S.newO j ob) (O.setO j d) V (gp own j nb) (cr hv j v) w' w0.heap.size j ob) (og:ob≠.tr:=by intro h;cases h):Inv C (S.newO j ob) (O.setO j d) V (gp own j nb) (cr hv j v) w0 σ0 A a w':=by
 have aF:w0.heap.size<=w.heap.size:=h.below.size;have cE:∀k i,i≠j->own k=some i->gp own j nb k=some i:=by
  intro k i hi hk;have h1:=h.owns k i hk;have h2:nb k=false:=by
   cases hn:nb k with
   |false=>rfl
   |true=>
    rcases(dv k hn).1 with e|e
    .rw[hk] at e;simp at e;exact absurd e hi
    .omega
  simp[gp,h2,hk,hi]
 have av:V.ok w':=by
  refine⟨λk o u hc=>?_,λk es hc=>?_,h.ok.fz λk o v hc=>qY k (h.lt hc) λe=>by rw[(h.owns k j e).2.2.1 o] at hc;cases hc⟩
  .have aB:own k≠some j:=λe=>by rw[(h.owns k j e).2.2.1 o] at hc;cases hc
   rw[World.cell?_of_block (qY k (h.lt hc) aB)];exact h.ok.c k o u hc
  .have aB:own k≠some j:=λe=>by rw[(h.owns k j e).2.2.2] at hc;cases hc
   exact(h.ok.m k es hc).keep (qY k (h.ltm hc) aB)
 refine h.step (λi=>i=j) rfl (.refl V) av (λ_ _ _ hx=>.inl hx) (λ_ _ hx=>.inl hx) hw ⟨λi=>?_,λi e=>?_⟩ (λi hi=>⟨?_,?_,?_,λk hk=>⟨cE k i hi hk,?_⟩⟩) (λi hi=>?_) (λk i hk=>?_) (λ_=>id) (λt=>.inl ⟨rfl,rfl,rfl⟩) (λ_ _=>rfl) (λk hk e=>qY k hk (by rw[e];simp)) (λk i hk=>by
  unfold gp at hk;split at hk
  .rename_i hn;rcases(dv k hn).1 with e|e
   .exact .inl ⟨j,e⟩
   .exact .inr e
  .split at hk
   .cases hk
   .exact .inl ⟨i,hk⟩) (λi hi=>by subst hi;simpa only[St.newO,aP] using og)
 .simp only[St.newO,fY];split<;>rename_i e
  .subst e;omega
  .omega
 .simp only[St.newO,fY] at e;split at e
  .rename_i e';subst e';omega
  .rename_i aB;exact bF _ _ aB
 .simp[St.newO,bF _ _ hi]
 .simp[Env.setO,bF _ _ hi]
 .exact bF _ _ hi
 .exact qY k (h.owns k i hk).2.1 (by rw[hk];simpa using hi)
 .subst hi;simp only[St.newO,aP];exact cZ
 .unfold gp at hk;split at hk
  .rename_i hn;obtain⟨g1,g2⟩:=dv k hn;rcases g1 with e|e
   .obtain⟨f1,f2,f3,f4⟩:=h.owns k j e;exact⟨f1,g2,f3,f4⟩
   .refine⟨by omega,g2,λo=>?_,?_⟩
    .cases hc:V.c k o with
     |none=>rfl
     |some u=>have:=h.lt hc;omega
    .cases hc:V.m k with
     |none=>rfl
     |some u=>have:=h.ltm hc;omega
  .split at hk
   .cases hk
   .obtain⟨g1,g2,g3,g4⟩:=h.owns k i hk;exact⟨g1,by have:=hw.size;omega,g3,g4⟩
def Inv.updB (h:Inv C S O V own hv w0 σ0 A a w)(j:Nat)(ob:Ob)(d:D){w':World}(hw:Below w0.heap.size w w')
 (qY:∀k,k<w.heap.size->own k≠some j->w'.heap[k]?=w.heap[k]?)
 (cZ:cG C (S.setO j ob) (O.setO j d) V own hv w' w0.heap.size j ob) (og:ob≠.tr:=by intro h;cases h):Inv C (S.setO j ob) (O.setO j d) V own hv w0 σ0 A a w':=by
 have av:V.ok w':=by
  refine⟨λk o u hc=>?_,λk es hc=>?_,h.ok.fz λk o v hc=>qY k (h.lt hc) λe=>by rw[(h.owns k j e).2.2.1 o] at hc;cases hc⟩
  .have aB:own k≠some j:=λe=>by rw[(h.owns k j e).2.2.1 o] at hc;cases hc
   rw[World.cell?_of_block (qY k (h.lt hc) aB)];exact h.ok.c k o u hc
  .have aB:own k≠some j:=λe=>by rw[(h.owns k j e).2.2.2] at hc;cases hc
   exact(h.ok.m k es hc).keep (qY k (h.ltm hc) aB)
 refine h.step (λi=>i=j) rfl (.refl V) av (λ_ _ _ hx=>.inl hx) (λ_ _ hx=>.inl hx) hw (Compat.setO _ _ _ _) (λi hi=>⟨by simp[St.setO,bF _ _ hi],by simp[Env.setO,bF _ _ hi],rfl,λk hk=>⟨hk,qY k (h.owns k i hk).2.1 (by rw[hk];simpa using hi)⟩⟩) (λi hi=>?_) (λk i hk=>?_) (λ_=>id) (λt=>.inl ⟨rfl,rfl,rfl⟩) (λ_ _=>rfl) (λk hk e=>qY k hk (by rw[e];simp)) (λk i hk=>.inl ⟨i,hk⟩) (λi hi=>by subst hi;rw[St.setO_o];exact og)
 .subst hi;rw[St.setO_o];exact cZ
 .obtain⟨g1,g2,g3,g4⟩:=h.owns k i hk;exact⟨g1,by have:=hw.size;omega,g3,g4⟩
def abX {B:Nat}{w w':World}{row:Option Nat}(hg:w.grownBy w' row)(hB:B<=w.heap.size)(hr:∀k,row=some k->B<=k):Below B w w':=(Below.refl B w).grown hg hB hr
def aeu {z:Array Value}{n i q:Nat}(hz:0<z.size)(hi:i<n)(hq:q<z.size):(madeCells z (n*z.size))[i*z.size+q]?=z[q]?:=by
 have ak:i*z.size+q<n*z.size:=by
  have:(i+1)*z.size<=n*z.size:=oT _ hi;rw[qv] at this;omega
 have hm:(i*z.size+q)%z.size=q:=by rw[Ee,alw,Nat.mod_eq_of_lt hq]
 simp[madeCells,Array.getElem?_range,ak,hm,hq]
def aog (h:Inv C S O V own hv w0 σ0 A a w)(hC:CtxOK C σ0)(ht:¬A dst)(ak:dst<a.tmps.size){T:TypeId}{l c:Operand}{r:St×List PI}(hr:Fh C S dst T l c=some r){o:Oper}(hd:o.dst=some dst)(ho:o.op=.makeSlice T l c):ct C w0 σ0 Z S O A a w o r:=by
 unfold Fh at hr;split at hr
 case h_2=>cases hr
 rename_i E k1 n k2 m hT hl hc;simp only[ay] at hr;obtain⟨e,he,hr⟩:=hr;cases hf:sr C.P E e<;>simp only[hf,zyy,zyx] at hr
 .cases hr
 obtain⟨inf,z0,hi,hs,hb,h1,hz,nm⟩:=Q3 hf;simp only[ay] at hr;obtain⟨z,hzt,hr⟩:=hr;cases cn:Ty.sub z.1 e<;>simp only[cn,zyy,zyx] at hr
 .cases hr
 cases hr;obtain⟨n1,aV,bA,b1,b2⟩:=(cK h hC rfl hl).int_inv;obtain⟨n2,jh,dX,b3,b4⟩:=(cK h hC rfl hc).int_inv;simp only at bA dX;have GD:=((AB (cap:=C.cap) (V:=V) hzt nm).1).sub cn;refine ct.value hd λO' ar=>?_;simp only[PI.runs,PI.run,ay] at ar;obtain⟨ρ1,g1,ρ2,g2,ar⟩:=ar;cases c1:((Tj n).ev O).b<;>simp only[c1,zyy,zyx] at g1
 .cases g1
 cases g1;cases c2:((PE.ci BinOp.eql n m).ev O).b<;>simp only[c2,zyy,zyx] at g2
 .cases g2
 cases g2;have asa:n1=n2:=by simpa [PE.ev,bA,dX,D.i_int,D.b_bool,jW] using c2
 subst asa;have hb:0<=n1/\n1<=oz:=by simpa [Tj,PE.ev,bA,D.i_int,D.b_bool,jW,D.int] using c1
 obtain⟨nn,rfl⟩:=vD hb.1;have y6:nn<=4294967296:=by have:=hb.2;unfold oz at this;omega
 have uG:z0.cells.size=e.size:=ZP nm;obtain⟨w',r1,r2,r3⟩:=run_make_full (P:=C.P) w w0.heap.size T E inf z0 e.size hT hi hz hs k1 k2 nn (by
  have:inf.bytes*nn<=zt*4294967296:=Nat.mul_le_mul (by assumption) y6;unfold zt at this;omega) (by unfold maxLen;omega) h.below.size
 refine⟨.slice (some ⟨w.heap.size,0,none⟩) nn nn,w',by simp[execOp,ho,aV,jh,r1],?_⟩;obtain⟨ρ3,g3,ρ4,g4,g5⟩:=ar;cases g3;cases g4;cases g5;simp only[PE.ev,bA,D.i_int,xX];have hlen:(List.replicate nn z.2).length=nn:=by simp
 refine h.mkObj ht ak (.row E e) _ _ (λk=>Nat.beq k w.heap.size) (abX r3 (bj _) (by simp)) (λk hk=>?_) ⟨_,List.replicate nn z.2,by simp[Env.setO,aP],by rw[aP,hlen];exact r2,⟨λ_=>z0,λi x hx=>?_,λi j u hi hj=>?_⟩,λk hk=>?_⟩
 .have br:k=w.heap.size:=aC hk;have:=(r2.lt _ rfl).2;subst br;exact⟨bj _,this⟩
 .have:=(ga.1 hx)
  obtain⟨q1,q2⟩:=this;simp at q2;subst q2;exact GD
 .rw[hlen] at hi;have bf:j<z0.cells.size:=(hZ.1 hj).1;rw[D5,<-uG];rw[aeu (by omega) hi bf];exact hj
 .rw[aP] at hk;simp[Value.ownBlock] at hk;simp[gp,hk]
def nN.push {arr:Array MapEntry}{clock:Nat}(h:nN arr clock)(k v:Value):nN (arr.push {key:=k,val:=v,born:=clock}) (clock+1):=by
 have key:∀(i:Nat) (e:MapEntry),(arr.push {key:=k,val:=v,born:=clock})[i]?=some e->(arr[i]?=some e/\e.born<clock)\/(i=arr.size/\e.born=clock):=by
  intro i e he;rw[Array.getElem?_push] at he;split at he
  .rename_i hi;cases he;exact .inr ⟨hi,rfl⟩
  .exact .inl ⟨he,h.1 i e he⟩
 refine⟨λi e he=>?_,λi j e f he hf hb=>?_⟩
 .rcases key i e he with⟨_,h1⟩|⟨_,h1⟩<;>omega
 .rcases key i e he with⟨h1,h2⟩|⟨h1,h2⟩<;>rcases key j f hf with⟨h3,h4⟩|⟨h3,h4⟩
  .exact h.2 i j e f h1 h3 hb
  .omega
  .omega
  .omega
def nN.modify {arr:Array MapEntry}{clock:Nat}(h:nN arr clock)(i0:Nat)(k v:Value):nN (arr.modify i0 λe=>{e with key:=k,val:=v}) clock:=by
 have key:∀(i:Nat) (e:MapEntry),(arr.modify i0 λe=>{e with key:=k,val:=v})[i]?=some e->∃e',arr[i]?=some e'/\e'.born=e.born:=by
  intro i e he;rw[Pa] at he;split at he
  .simp only[aD] at he;obtain⟨e',h1,rfl⟩:=he;exact⟨e',h1,rfl⟩
  .exact⟨e,he,rfl⟩
 refine⟨λi e he=>?_,λi j e f he hf hb=>?_⟩
 .obtain⟨e',h1,h2⟩:=key i e he;rw[<-h2];exact h.1 i e' h1
 .obtain⟨e',h1,h2⟩:=key i e he;obtain⟨f',h3,h4⟩:=key j f hf;exact h.2 i j e' f' h1 h3 (by rw[h2,h4,hb])
def abm (h:Inv C S O V own hv w0 σ0 A a w)(hC:CtxOK C σ0){T:TypeId}{m k v:Operand}{r:St×List PI}(hr:ua C S T m k v=some r){o:Oper}(hd:o.dst=none)(ho:o.op=.mapUpdate T m k v\/o.op=.insert T m k v):ct C w0 σ0 Z S O A a w o r:=by
 unfold ua at hr;split at hr
 case h_2=>cases hr
 rename_i K E j ver hT es;obtain⟨eJ,_⟩:=tw h (gs:=[]) rfl m;rw[es] at eJ;cases hb:Nat.beq ver (S.ver j)<;>simp only[hb,zyy,zyx] at hr
 .cases hr
 have cC:=eJ.2 (aC hb);have bo:=h.objs j;split at hr
 case h_2=>cases hr
 rename_i kt et tk ek tv ev eo hk zg;rw[eo] at bo;cases hc:(Ty.beq tk kt&&wX C.P K kt&&Ty.sub tv et)<;>simp only[hc,zyy,zyx] at hr
 .cases hr
 cases hr;simp only[au] at hc;obtain⟨⟨L2,F6⟩,cn⟩:=hc;obtain⟨g,arr,clock,ds,h1,h2,h3,h4,h5,⟨h6,sB⟩,h7⟩:=bo;have br:=cK h hC rfl hk;rw[Ty.beq_eq _ _ L2] at br;have hv':=(cK h hC rfl zg).sub cn;refine ct.skip hd λO' ar=>?_;simp only[PI.runs,PI.run,ay] at ar;obtain⟨ρ1,g1,ρ2,g2,g3⟩:=ar;cases c1:((PE.ci BinOp.lss (.mlen (.o j)) (.con (.int oz))).ev O).b<;>simp only[c1,zyy,zyx] at g1
 .cases g1
 cases g1;cases g2;cases g3;have arW:ds.length<4294967296:=by
  have h8:=am7 c1;simp only[PE.ev,h4,D.m,D.i_int,D.int] at h8;exact atZ h8
 have gR:(Instr.checkKey false 10000 K (a.eval k)).run C.P w=.ok () w:=aaY (cap:=C.cap) (V:=V) F6 br;have ew:∃vQ BP ds',(Instr.mapUpdate T (a.eval m) (a.eval k) (a.eval v)).run C.P w=.ok () {w with heap:=w.heap.setIfInBounds g (.map vQ BP)}/\l9 (ek.ev O) (ev.ev O) ds=ds'/\ds'.length=vQ.size/\(ds'.length<=maxLen/\nN vQ BP)/\
  ∀(i:Nat) (e:MapEntry) (p:D×D),vQ[i]?=some e->ds'[i]?=some p->Rep C.cap V kt e.key p.1/\Rep C.cap V et e.val p.2:=by
  rcases run_findKey F6 br arr ds h5 h7 w with⟨f1,f2,f3⟩|⟨i,e,p,f1,f2,f3,f4,f5,f6⟩
  .refine⟨arr.push {key:=a.eval k,val:=a.eval v,born:=clock},clock+1,ds++[(ek.ev O,ev.ev O)],?_,f3 _,by simp[h5],⟨by simp;unfold maxLen;omega,sB.push _ _⟩,λq e p he hp=>?_⟩
   .rw[cC,h1];simp[Instr.mapUpdate,run_underlying hT,getObj,Sem.run,h3,gR,f1,setObj]
   .rw[Array.getElem?_push] at he;rw[mX] at hp;by_cases hq:q=arr.size
    .subst hq;simp at he;rw[if_neg (by omega)] at hp;simp[h5] at hp;subst he;subst hp;exact⟨br,hv'⟩
    .rw[if_neg hq] at he;have Mh:q<arr.size:=(hZ.1 he).1;rw[if_pos (by omega)] at hp;exact h7 q e p he hp
  .refine⟨arr.modify i λe=>{e with key:=a.eval k,val:=a.eval v},clock,ds.set i (ek.ev O,ev.ev O),?_,f5 _,by simp[h5],⟨by simp;exact h6,sB.modify _ _ _⟩,λq e' p' he hp=>?_⟩
   .rw[cC,h1];have df:(Instr.keyThatStays e.key (a.eval k)).run C.P w=.ok (a.eval k) w:=by simp[Instr.keyThatStays,f6]
    simp[Instr.mapUpdate,run_underlying hT,getObj,Sem.run,h3,gR,f3,f1,df,setObj]
   .rw[Pa] at he;rw[Eb] at hp;by_cases hq:i=q
    .subst hq;simp only[if_true] at he hp;rw[f1] at he;simp at he;split at hp
     .cases hp;subst he;exact⟨br,hv'⟩
     .cases hp
    .rw[if_neg hq] at he hp;exact h7 q e' p' he hp
 obtain⟨vQ,BP,ds',r1,r2,r3,r4,r5⟩:=ew;refine⟨{w with heap:=w.heap.setIfInBounds g (.map vQ BP)},by rcases ho with ho|ho<;>simp[execOp,ho,r1],?_⟩;have hgl:g<w.heap.size:=(hZ.1 h3).1;have hgB:w0.heap.size<=g:=(h.owns g j h2).1;have bT:(PE.put (.o j) ek ev).ev O=.map ds':=by simp only[PE.ev,h4,D.m,r2]
 rw[bT]
 have:=h.updB j (.mp kt et) (.map ds') (w':={w with heap:=w.heap.setIfInBounds g (.map vQ BP)}) ⟨rfl,rfl,rfl,by simp,λk hk=>by simp;rw[ZT (by omega)]⟩
  (λk hk aB=>by simp;rw[ZT (λe=>aB (by rw[<-e];exact h2))])
  ⟨g,vQ,BP,ds',h1,h2,by simp[hgl],by simp[Env.setO,aP],r3,r4,r5⟩
 have eS:S.setO j (.mp kt et)=S:=St.setO_self eo;rw[eS] at this;exact⟨_,_,_,this⟩
end
def aC1 {e:Ty}{z:Value}(h:kl e z=true):e.rowT=true\/e.one=true:=by
 cases e<;>first|exact .inl rfl|exact .inr rfl|(cases z<;>simp[kl,AA] at h)
def Rep.cellsOne {cap:Nat->Option CSig}{V:Im}{t:Ty}{v:Value}{d:D}(h:Rep cap V t v d)(ht:t.rowT=true\/t.one=true){m:Nat}{u:Value}(hu:v.cells[m]?=some u):u.oneCell'=true:=by
 obtain⟨f1,f2,f3⟩:=h.flat ht;have ak:m<v.cells.size:=(hZ.1 hu).1;rw[h.size] at ak;obtain⟨g1,g2⟩:=f3 m _ (bI (by omega:m<t.flat.length));have:=(g2.oneCell g1).2;rw[eM,hu] at this;exact this
def aoB {cap:Nat->Option CSig}{V:Im}{e:Ty}{cells:List Value}{xs:List D}(h:fc cap V e cells xs)(hl:cells.length=xs.length*e.size)(jf:e.rowT=true\/e.one=true):∀u∈cells,u.oneCell'=true:=by
 obtain⟨vs,h1,h2⟩:=h;intro u hu;obtain⟨p,hp,rfl⟩:=lE hu;rw[hl] at hp;have hs:0<e.size:=Nat.pos_of_ne_zero λe0=>by rw[e0] at hp;simp at hp
 have hi:p/e.size<xs.length:=(Nat.div_lt_iff_lt_mul hs).2 hp;have hq:p%e.size<e.size:=Nat.mod_lt _ hs;have bX:=h1 _ _ (bI hi);have aF:=bX.size;have mq:(vs (p/e.size)).cells[p%e.size]?=some (vs (p/e.size)).cells[p%e.size]:=gw (by omega);have:=h2 _ _ _ hi mq;rw[Nat.mul_comm,Nat.div_add_mod] at this;have h3:cells[p]=(vs (p/e.size)).cells[p%e.size]:=by
  have h4:=bI (show p<cells.length by omega);rw[h4] at this;exact vM this
 rw[h3];exact bX.cellsOne jf mq
def aoA {cap:Nat->Option CSig}{V:Im}{e:Ty}{c1 c2:List Value}{xs ys:List D}(h:fc cap V e c1 xs)(k:fc cap V e c2 ys)(hl:c1.length=xs.length*e.size):fc cap V e (c1++c2) (xs++ys):=by
 obtain⟨vs,h1,h2⟩:=h;obtain⟨us,k1,k2⟩:=k;refine⟨λi=>if i<xs.length then vs i else us (i-xs.length),λi x hx=>?_,λi j u hi hj=>?_⟩
 .rw[mX] at hx;split at hx
  .rename_i ak;simp only[ak,if_true];exact h1 i x hx
  .rename_i ak;simp only[ak,if_false];exact k1 _ x hx
 .by_cases ak:i<xs.length
  .simp only[ak,if_true] at hj;have:=h2 i j u ak hj;rw[kL (ga.1 this).1];exact this
  .simp only[ak,if_false] at hj;have dG:i-xs.length<ys.length:=by simp at hi;omega
   have:=k2 _ j u dG hj;have e1:i*e.size=c1.length+(i-xs.length)*e.size:=by rw[hl,<-qv];congr 1;omega
   rw[mf (by omega)];rw[show i*e.size+j-c1.length=(i-xs.length)*e.size+j by omega];exact this
section
variable {C:Ctx} {S:St} {O:Env} {V:Im} {own:Nat->Option Nat} {hv:Nat->Value} {w0:World} {σ0:Base} {A:Nat->Prop} {a:Act} {w:World} {gs:List (Nat×Bool)} {Z:aQ} {dst:Nat}
def aCC (h:Inv C S O V own hv w0 σ0 A a w){B:Nat}{e f:Ty}{v:Value}{d:D}(hs:0<e.size)(jf:e.rowT=true\/e.one=true)(hf:f.unf=e)(SU:Pv C V w B (.slice f) v d):
 ∃ys,d=.list ys/\ys.length<=maxLen/\((v=.slice none 0 0/\ys=[])\/∃(ad:Addr) (c:Nat) (news:List Value),v=.slice (some ad) ys.length c/\news.length=ys.length*e.size/\
  (∀j u,news[j]?=some u->w.cell? (ad.add j)=some u)/\fc C.cap V e news ys):=by
 rcases SU with hr|⟨T,e',cells,xs,ht,hd,cE,j1⟩|⟨k,arr,clock,es,kt,et,ht,_⟩
 .obtain⟨xs,hd,sC⟩:=hr.slice_inv;rw[<-f.unf_size,hf] at sC;rcases sC with⟨⟨p0,aV⟩,rfl⟩|⟨k,o,c,aV,h1,h2,vs,h3,h4⟩
  .cases p0 with
   |none=>exact⟨[],hd,by simp,.inl ⟨aV,rfl⟩⟩
   |some a0=>exact⟨[],hd,by simp,.inr ⟨a0,0,[],aV,by simp,λj u hu=>by simp at hu,λ_=>undef,λi x hx=>by simp at hx,λi j u hi=>by simp at hi⟩⟩
  .refine⟨xs,hd,by omega,.inr ⟨⟨k,o,none⟩,c,(List.range (xs.length*e.size)).map λp=>(vs (p/e.size)).cells.getD (p%e.size) undef,aV,by simp,λj u hu=>?_,vs,h3,λi j u hi hj=>?_⟩⟩
   .simp only[cL,aD] at hu;obtain⟨p,hp,rfl⟩:=hu;have gT:j<xs.length*e.size:=by have:=(ga.1 hp).1;simpa using this
    rw[rX gT] at hp;cases hp;have hi:j/e.size<xs.length:=(Nat.div_lt_iff_lt_mul hs).2 gT;have hq:j%e.size<e.size:=Nat.mod_lt _ hs;have bX:=h3 _ _ (bI hi);have aF:=bX.size;have mq:(vs (j/e.size)).cells[j%e.size]?=some ((vs (j/e.size)).cells.getD (j%e.size) undef):=by
     rw[eM,gw (by omega)];rfl
    have:=h.cell (h4 _ _ _ hi mq);rw[tS]
    rwa [show o+j/e.size*e.size+j%e.size=o+j by rw[vK,Nat.mul_comm,Nat.div_add_mod]] at this
   .have bX:=h3 _ _ (bI hi);have bf:j<e.size:=by rw[<-bX.size];exact(hZ.1 hj).1
    have ak:i*e.size+j<xs.length*e.size:=by
     have:(i+1)*e.size<=xs.length*e.size:=oT _ hi;rw[qv] at this;omega
    have e1:(i*e.size+j)/e.size=i:=by rw[Nat.mul_comm,Nat.mul_add_div hs,Nat.div_eq_of_lt bf];omega
    have e2:(i*e.size+j)%e.size=j:=by rw[Ee,alw,Nat.mod_eq_of_lt bf]
    simp only[cL,rX ak,kO,e1,e2];rw[eM,hj];rfl
 .cases ht;rw[Ty.unf_rol] at hf;obtain⟨b,c,aV,hm,_⟩:=zP cE;have j1:fc C.cap V e cells xs:=by
   obtain⟨us,u1,u2⟩:=j1;refine⟨us,λi x hx=>hf▸(u1 i x hx).unf,λi j u hi hu=>?_⟩;rw[<-hf,Ty.unf_size];exact u2 i j u hi hu
  have cE:w.ownsRow B T e.size v xs.length cells:=by rw[<-hf,Ty.unf_size];exact cE
  rcases cE.2 with⟨e1,e2⟩|⟨g,cap,cur,e1,e2⟩
  .have:xs=[]:=Pe e2;subst this;exact⟨[],hd,by simp,.inl ⟨e1,rfl⟩⟩
  .exact⟨xs,hd,hm,.inr ⟨⟨g,0,none⟩,cap,cells,e1,cE.1,cE.cells (by rw[e1];rfl),j1⟩⟩
 .cases ht
def ayC {P:Program}{B:Nat}{T E ty:TypeId}{inf:TypeInfo}{z:Value}{size:Nat}{v x:Value}{n m:Nat}{xs news:List Value}(hT:P.underlying T=some (.slice E))(hi:P.info? E=some inf)(hz:inf.zero=some z)
 (hs:inf.size=size) (uG:z.cells.size=size) (aF:0<size) (lN:inf.bytes<=zt) (cE:w.ownsRow B E size v n xs) (hB:B<=w.heap.size) (cY:n+m<=4294967296)
 (hx:(x=.slice none 0 0/\m=0/\news=[])\/∃(ad:Addr) (c:Nat),x=.slice (some ad) m c/\news.length=m*size/\(∀j u,news[j]?=some u->w.cell? (ad.add j)=some u)/\∀u∈news,u.oneCell'=true):
 ∃v' w',(Builtin.append_ #[T,T] ty #[v,x]).run P w=.ok v' w'/\w'.ownsRow B E size v' (n+m) (xs++news)/\w.grownBy w' v.ownBlock/\∀k,v'.ownBlock=some k->v.ownBlock=some k\/(w.heap.size<=k/\k<w'.heap.size):=by
 rcases hx with⟨rfl,rfl,rfl⟩|⟨ad,c,rfl,hl,L8,h1⟩
 .refine⟨v,w,run_append_owned_none w B T ty E inf size hT hi v n xs cE,by simpa using cE,⟨rfl,rfl,rfl,bj _,λ_ _ _=>rfl⟩,λk hk=>.inl hk⟩
 .have RF:(n+m)*inf.bytes<=140737488355328:=by
   have:(n+m)*inf.bytes<=4294967296*zt:=Nat.mul_le_mul cY lN;unfold zt at this;omega
  obtain⟨v',w',r1,r2,r3,r4⟩:=run_append_own (P:=P) w B T ty E inf z size inf.bytes hT hi hz hs rfl uG aF v n xs cE ad m c news hl L8 h1 (by unfold maxLen;omega) RF hB;refine⟨v',w',r1,r2,r3,λk hk=>?_⟩;have ak:=(r2.lt k hk).2;subst hs;rcases cE.2 with⟨rfl,rfl⟩|⟨g,cap,cur,rfl,hbg,hg,dw,mu,dF,Gv⟩
  .by_cases hm:m=0
   .subst hm;have:=r4.2 ⟨rfl,rfl⟩;subst this;simp[Value.ownBlock] at hk
   .have hr:=run_append_nil (P:=P) w T ty E inf z hT hi hz ad m c news hl L8 (by omega) (by omega) (by have hb:=RF;simp only[iM] at hb;omega);rw[hr] at r1;cases r1;simp[Value.ownBlock] at hk;subst hk;exact .inr ⟨bj _,ak⟩
  .by_cases ads:n+m<=cap
   .have LV:n*inf.size+news.length<=cur.size:=by rw[hl,dF,<-qv];exact oT _ ads
    have hr:=run_append_room (P:=P) w T ty E inf hT hi g n cap cur hg ad m c news hl L8 h1 ads LV;rw[hr] at r1;cases r1;exact .inl hk
   .have hr:=run_append_grow (P:=P) w T ty E inf z hT hi hz ⟨g,0,none⟩ n cap xs cE.1 (cE.cells (g:=g) rfl) ad m c news hl L8 (by omega) (by omega) (growslice_fits (by omega) RF);rw[hr] at r1;cases r1;simp[Value.ownBlock] at hk;subst hk;exact .inr ⟨bj _,ak⟩
def anS (h:Inv C S O V own hv w0 σ0 A a w)(hC:CtxOK C σ0)(ht:¬A dst)(ak:dst<a.tmps.size){T:TypeId}{s x:Operand}{r:St×List PI}(hr:E9 C S dst T s x=some r){o:Oper}(hd:o.dst=some dst)
 (ho:o.op=.call {callee:=.builtin .append,args:=#[s,x],argTypes:=#[T,T]}):ct C w0 σ0 Z S O A a w o r:=by
 unfold E9 at hr;split at hr
 case h_2=>cases hr
 rename_i E hT;simp only[ay] at hr;obtain⟨e,he,hr⟩:=hr;split at hr
 case h_2=>cases hr
 rename_i tx ex SU;have hv':=ZK h hC (gs:=[]) rfl SU;obtain⟨cs,ar⟩:=Wq (C:=C) (w:=w) (a:=a) ho;cases hc:(sr C.P E e&&OE tx e)<;>simp only[hc,zyy,zyx] at hr
 .cases hr
 simp only[au] at hc;obtain⟨inf,z,hi,hs,lN,h1,hz,nm⟩:=Q3 hc.1;have uG:=ZP nm;have jf:=aC1 nm;have SV:∃f:Ty,f.unf=e/\Pv C V w w0.heap.size (.slice f) (a.eval x) (ex.ev O):=by
  have df:=hc.2;unfold OE at df;split at df
  .exact⟨_,Ty.beq_eq _ _ df,hv'⟩
  .refine⟨e,Ty.unf_ro jf,?_⟩;rcases hv' with hr|⟨_,_,_,_,ht,_⟩|⟨_,_,_,_,_,_,ht,_⟩
   .exact .inl (hr.sub (by simp[Ty.sub]))
   .cases ht
   .cases ht
  .cases df
 obtain⟨fv,fH,SV⟩:=SV;obtain⟨ys,LR,la,as0⟩:=aCC h h1 jf fH SV;have hx:∃news,fc C.cap V e news ys/\news.length=ys.length*e.size/\((a.eval x=.slice none 0 0/\ys.length=0/\news=[])\/∃(ad:Addr) (c:Nat),a.eval x=.slice (some ad) ys.length c/\news.length=ys.length*e.size/\(∀j u,news[j]?=some u->w.cell? (ad.add j)=some u)/\∀u∈news,u.oneCell'=true):=by
  rcases as0 with⟨e1,rfl⟩|⟨ad,c,news,e1,e2,e3,e4⟩
  .exact⟨[],⟨λ_=>undef,by simp,by simp⟩,by simp,.inl ⟨e1,rfl,rfl⟩⟩
  .exact⟨news,e4,e2,.inr ⟨ad,c,e1,e2,e3,aoB e4 e2 jf⟩⟩
 obtain⟨news,aB,Sf,hx⟩:=hx;have main:∀(j:Nat) (v:Value) (xs:List D) (cells:List Value),a.eval s=v->w.ownsRow w0.heap.size E e.size v xs.length cells->fc C.cap V e cells xs->xs.length+ys.length<=4294967296->
  (∀k,v.ownBlock=some k->own k=some j)->
  ∃v' w',(execOp a.eval o).run C.P w=.ok (.value v') w'/\Good C w0 σ0 ((S.newO j (.row E e)).setR dst (.obj j (S.ver j+1))) ((O.setO j (.list (xs++ys))).setR dst .none) (λu=>A u\/u=dst) (a.put (some dst) v') w':=by
  intro j v xs cells SI cE j1 hlen cZ;obtain⟨v',w',r1,r2,r3,r4⟩:=ayC (P:=C.P) (ty:=o.type) hT hi hz hs uG h1 lN cE h.below.size hlen hx;refine⟨v',w',by rw[ar];simp[builtin,SI,r1],?_⟩
  have SQ:=h.updO j (.row E e) (.list (xs++ys)) v' (λk=>decide (v'.ownBlock=some k)) (w':=w') (abX r3 h.below.size (λk hk=>(h.owns k j (cZ k hk)).1)) (λk hk aB=>r3.block k hk (λe=>aB (cZ k e.symm))) (λk hk=>by
        have br:v'.ownBlock=some k:=by simpa using hk
        rcases r4 k br with e|e
        .exact⟨.inl (cZ k e),(r2.lt k br).2⟩
        .exact⟨.inr e.1,e.2⟩)
   ⟨cells++news,xs++ys,by simp[Env.setO,aP],by rw[aP,mh];exact r2,aoA j1 aB cE.1,λk hk=>by rw[aP] at hk;simp[gp,hk]⟩
  have h2:=SQ.setObj ht (j:=j) (v:=v') (aP _ _ _) ak;have e:(S.newO j (.row E e)).ver j=S.ver j+1:=aP _ _ _;rw[e] at h2;exact⟨_,_,_,h2⟩
 split at hr
 .rename_i e0 pe0 hu;cases hr;refine ct.value hd λO' pG=>?_;have SJ:=cK h hC rfl hu;have SI:a.eval s=.slice none 0 0:=by
   generalize a.eval s=v at SJ;generalize pe0.ev O=d at SJ;cases SJ;rfl
  simp only[PI.runs,PI.run,ay] at pG;obtain⟨ρ1,g1,ρ2,g2,ρ3,g3,g4⟩:=pG;cases c1:((My (.con (.list [])) ex).ev O).b<;>simp only[c1,zyy,zyx] at g1
  .cases g1
  cases g1;cases g2;cases g3;cases g4;have hlen:=aa0 c1;simp only[PE.ev,D.l_list,LR,vJ,D.i_int,D.int] at hlen;have:=main dst (.slice none 0 0) [] [] SI (World.ownsRow_nil _ _ _ _) ⟨λ_=>undef,by simp,by simp⟩ (by simpa using aef hlen) (by simp[Value.ownBlock]);simpa [PE.ev,D.l_list,LR,mkObj] using this
 .cases hr
 .obtain⟨eJ,_⟩:=tw h (gs:=[]) rfl s;split at hr
  case h_2=>cases hr
  rename_i j ver es;rw[es] at eJ;cases hb:Nat.beq ver (S.ver j)<;>simp only[hb,zyy,zyx] at hr
  .cases hr
  have cC:=eJ.2 (aC hb);have bo:=h.objs j;split at hr
  case h_2=>cases hr
  rename_i E' e' eo;rw[eo] at bo;cases iP:(Nat.beq E' E&&Ty.beq e' e)<;>simp only[iP,zyy,zyx] at hr
  .cases hr
  cases hr;simp only[au] at iP;have e1:=aC iP.1;have e2:=Ty.beq_eq _ _ iP.2;subst e1;subst e2;obtain⟨cells,xs,k1,k2,k3,k4⟩:=bo;refine ct.value hd λO' pG=>?_;simp only[PI.runs,PI.run,ay] at pG;obtain⟨ρ1,g1,ρ2,g2,ρ3,g3,g4⟩:=pG;cases c1:((My (.o j) ex).ev O).b<;>simp only[c1,zyy,zyx] at g1
  .cases g1
  cases g1;cases g2;cases g3;cases g4;have hlen:=aa0 c1;simp only[PE.ev,D.l_list,LR,k1,D.i_int,D.int] at hlen;have:=main j (hv j) xs cells cC k2 k3 (by have:=aef hlen;simpa using this) k4;simpa [PE.ev,D.l_list,LR,k1] using this
end
def IK {P:Program}{a:Act}{w:World}{o:Oper}{T:TypeId}{x v:Operand}{inf:TypeInfo}{k off:Nat}{cs:Array Value}{E:TypeId}(ho:o.op=.store T x v)(hi:P.info? T=some inf)(hx:a.eval x=.pointer (some ⟨k,off,none⟩))
 (hs:(a.eval v).cells.size=inf.size) (de:∀u∈(a.eval v).cells.toList,u.oneCell'=true) (hb:w.heap[k]?=some (.cells cs E (0,0))) (hle:off+inf.size<=cs.size):
 (execOp a.eval o).run P w=.ok .skip (w.setRow k (cs.toList.take off++(a.eval v).cells.toList++cs.toList.drop (off+inf.size)).toArray):=by
 have:=run_storeCells_at P k off E (a.eval v).cells.toList 0 cs w hb (by simp[hs];exact hle) de;simp only[jA,D6,hs] at this;simp[execOp,ho,Instr.storeAt,hx,Instr.sureAddr,storeVar,Go.sizeOf,run_typeInfo w hi,hs,this]
def ai5 {w:World}{B k:Nat}{cs:Array Value}(hB:B<=k):Below B w (w.setRow k cs)/\∀i,i≠k->(w.setRow k cs).heap[i]?=w.heap[i]?:=
 ⟨⟨rfl,rfl,rfl,by simp[World.setRow],λi hi=>setRow_other w k i cs (by omega)⟩,λi hi=>setRow_other w k i cs hi⟩
def Lp {α:Type}(xs ys:List α)(off:Nat)(d:α)(hle:off+ys.length<=xs.length)(i:Nat):(xs.take off++ys++xs.drop (off+ys.length)).getD i d=if off<=i/\i<off+ys.length then ys.getD (i-off) d else xs.getD i d:=by
 simp only[aK,qq];rw[mX,eN,qw (by omega)];split
 .rename_i h;rw[if_neg (by omega),gx,if_pos h]
 .rename_i h;rw[mX];split
  .rename_i h2;rw[if_pos (by omega)]
  .rename_i h2;rw[if_neg (by omega),gP];congr 2;omega
section
variable {C:Ctx} {S:St} {O:Env} {V:Im} {own:Nat->Option Nat} {hv:Nat->Value} {w0:World} {σ0:Base} {A:Nat->Prop} {a:Act} {w:World} {gs:List (Nat×Bool)} {Z:aQ} {dst:Nat}
def Inv.storeBox (h:Inv C S O V own hv w0 σ0 A a w){j k off:Nat}{ag:Bool}{shs news:List Sh}{cs:Array Value}{E:TypeId}{ds dn:List D}{vs:List Value}(eo:S.o j=.box ag shs)
 (h1:hv j=.pointer (some ⟨k,0,none⟩)) (h2:own k=some j) (h3:w.heap[k]?=some (.cells cs E (0,0))) (h4:cs.size=shs.length) (h5:O.o j=.agg ds) (h6:ds.length=shs.length)
 (h7:∀i s,shs[i]?=some s->(∀gs s',s≠.opt gs s')/\aI C S O V hv s (cs.getD i undef) (ds.getD i .none))
 (l1:news.length=vs.length) (l2:dn.length=vs.length) (hle:off+vs.length<=shs.length)
 (mB:∀i s,news[i]?=some s->(∀gs s',s≠.opt gs s')/\aI C S O V hv s (vs.getD i undef) (dn.getD i .none)):
 Inv C (S.setO j (.box ag (shs.take off++news++shs.drop (off+vs.length)))) (O.setO j (.agg (eU ds off dn))) V own hv w0 σ0 A a (w.setRow k (cs.toList.take off++vs++cs.toList.drop (off+vs.length)).toArray):=by
 have hkB:w0.heap.size<=k:=(h.owns k j h2).1;obtain⟨b1,b2⟩:=ai5 (w:=w) (B:=w0.heap.size) (k:=k) (cs:=(cs.toList.take off++vs++cs.toList.drop (off+vs.length)).toArray) hkB;refine h.updB j _ _ b1 (λi hi aB=>b2 i λe=>aB (e▸h2)) ⟨k,_,E,eU ds off dn,h1,h2,setRow_heap w k cs _ E _ h3,?_,by simp[Env.setO,aP],?_,λi s hi=>?_⟩
 .simp[l1];omega
 .simp[eU,l2,l1];omega
 .have dF:(cs.toList.take off++vs++cs.toList.drop (off+vs.length)).toArray.getD i undef=if off<=i/\i<off+vs.length then vs.getD (i-off) undef else cs.getD i undef:=by
   have e0:∀l:List Value,l.toArray.getD i undef=l.getD i undef:=λl=>by simp[eM,aK]
   rw[e0,Lp cs.toList vs off undef (by simp;omega),B7 cs i]
  have yP:(eU ds off dn).getD i .none=if off<=i/\i<off+vs.length then dn.getD (i-off) .none else ds.getD i .none:=by
   rw[eU,Lp ds dn off .none (by omega),l2]
  rw[dF,yP];have ac0:∀s v d,(∀gs s',s≠.opt gs s')->aI C S O V hv s v d->aI C (S.setO j (.box ag (shs.take off++news++shs.drop (off+vs.length)))) (O.setO j (.agg (eU ds off dn))) V hv s v d:=
   λs v d hn hk=>aI.mono' (.refl V) (Compat.setO _ _ _ _) hn hk
  have gG:(shs.take off++news++shs.drop (off+vs.length))[i]?=if off<=i/\i<off+vs.length then news[i-off]? else shs[i]?:=by
   rw[qq,mX,eN,qw (by omega)];split
   .rename_i h;rw[if_neg (by omega),gx,if_pos h]
   .rename_i h;rw[mX,l1];split
    .rename_i h2;rw[if_pos (by omega)]
    .rename_i h2;rw[if_neg (by omega),gP];congr 1;omega
  rw[gG] at hi;split
  .rename_i hc;rw[if_pos hc] at hi;obtain⟨g1,g2⟩:=mB _ s hi;exact⟨g1,ac0 _ _ _ g1 g2⟩
  .rename_i hc;rw[if_neg hc] at hi;obtain⟨g1,g2⟩:=h7 _ s hi;exact⟨g1,ac0 _ _ _ g1 g2⟩
def aiV (h:Inv C S O V own hv w0 σ0 A a w){j:Nat}(hr:lZ (S.o j)=true):(hv j).cells=#[hv j]/\(hv j).oneCell'=true:=by
 have bo:=h.objs j;cases cZ:S.o j with
 |row T e=>
  rw[cZ] at bo;obtain⟨cells,xs,h1,h2,h3,h4⟩:=bo;obtain⟨b,c,e1,_⟩:=zP h2;rw[e1];exact⟨rfl,rfl⟩
 |mp kt et=>
  rw[cZ] at bo;obtain⟨k0,arr,clock,es,h1,_⟩:=bo;rw[h1];exact⟨rfl,rfl⟩
 |_=>rw[cZ] at hr;simp[lZ] at hr
def Inv.storeRow (h:Inv C S O V own hv w0 σ0 A a w){j k n c i p:Nat}{T:TypeId}{e:Ty}{cells vs:List Value}{xs:List D}{v':Value}{d':D}(eo:S.o j=.row T e)(fI:hv j=.slice (some ⟨k,0,none⟩) n c)
 (h1:O.o j=.list xs) (h2:w.ownsRow w0.heap.size T e.size (hv j) xs.length cells) (h3:fc C.cap V e cells xs) (h4:∀k,(hv j).ownBlock=some k->own k=some j) (hi:i<xs.length)
 (Gj:i*e.size<=p) (iv:p+vs.length<=i*e.size+e.size) (hr:Rep C.cap V e v' d')
 (hv':∀q u,v'.cells[q]?=some u->(cells.take p++vs++cells.drop (p+vs.length))[i*e.size+q]?=some u):
 ∃cur,w.heap[k]?=some (.cells cur T (0,0))/\p+vs.length<=cur.size/\Inv C S (O.setO j (.list (xs.set i d'))) V own hv w0 σ0 A a (w.setRow k (cur.toList.take p++vs++cur.toList.drop (p+vs.length)).toArray):=by
 have bh:=h2.1;rcases h2.2 with⟨e0,e1⟩|⟨g,cap,cur,e1,e2,e3,e4,e5,e6,e7⟩
 .omega
 rw[fI] at e1;cases e1;have arL:i*e.size+e.size<=xs.length*e.size:=by
  have:(i+1)*e.size<=xs.length*e.size:=oT _ hi;rw[qv] at this;omega
 have aG6:xs.length*e.size<=c*e.size:=oT _ e4;have asy:p+vs.length<=cur.size:=by omega
 refine⟨cur,e3,asy,?_⟩;have cE:own k=some j:=h4 k (by rw[fI];rfl);obtain⟨b1,b2⟩:=ai5 (w:=w) (B:=w0.heap.size) (k:=k) (cs:=(cur.toList.take p++vs++cur.toList.drop (p+vs.length)).toArray) e2;have Gv:(cur.toList.take p++vs++cur.toList.drop (p+vs.length)).take (xs.length*e.size)=cells.take p++vs++cells.drop (p+vs.length):=by
  rw[<-e7];apply Z7;intro q;simp only[qq,gx,mX,eN,gP,D6];by_cases hq:q<xs.length*e.size
  .rw[if_pos hq];by_cases hq1:q<p
   .simp[hq1,Nat.lt_min,show q<cur.size by omega,hq]
   .by_cases j4:q-p<vs.length
    .rw[if_neg (by omega),qw (by omega),if_pos j4,if_neg (by omega),qw (by omega),if_pos j4]
    .rw[if_neg (by omega),qw (by omega),if_neg j4,if_neg (by omega),qw (by omega),if_neg j4,if_pos (by omega)]
  .rw[if_neg hq];have:¬q<p:=by omega
   rw[if_neg (by omega),qw (by omega),if_neg (by omega),if_neg (by omega)]
 have:=h.updB j (.row T e) (.list (xs.set i d')) b1 (λq hq aB=>b2 q λe=>aB (e▸cE))
  ⟨cells.take p++vs++cells.drop (p+vs.length),xs.set i d',by simp[Env.setO,aP],⟨by simp;omega,.inr ⟨k,c,_,by rw[fI];simp,e2,setRow_heap w k cur _ T _ e3,by simpa using e4,e5,by simp;omega,by simpa using Gv⟩⟩,?_,h4⟩
 .rw[St.setO_self eo] at this;exact this
 .obtain⟨us,u1,u2⟩:=h3;refine⟨λq=>if q=i then v' else us q,λq x hx=>?_,λq m u hq hm=>?_⟩
  .rw[Eb] at hx;by_cases Cz:i=q
   .subst Cz;simp only[if_true] at hx ⊢;rw[if_pos hi] at hx;cases hx;exact hr
   .rw[if_neg Cz] at hx;simp only[show ¬q=i from λe=>Cz e.symm,if_false];exact u1 q x hx
  .by_cases Cz:q=i
   .subst Cz;simp only[if_true] at hm;exact hv' m u hm
   .simp only[Cz,if_false] at hm;simp only[List.length_set] at hq;have h9:=u2 q m u hq hm;have aHi:m<e.size:=by rw[<-(u1 q _ (bI hq)).size];exact(hZ.1 hm).1
    have kX:q*e.size+m<p\/p+vs.length<=q*e.size+m:=by
     rcases Po q i with ak|eQ
     .left;have:(q+1)*e.size<=i*e.size:=oT _ ak;rw[qv] at this;omega
     .right;have:(i+1)*e.size<=q*e.size:=oT _ (by omega);rw[qv] at this;omega
    rw[qq,mX,eN,qw (by omega)];rcases kX with ho|ho
    .rw[if_pos ho,gx,if_pos ho];exact h9
    .rw[if_neg (by omega),mf (by omega),gP];rw[show p+vs.length+(q*e.size+m-p-vs.length)=q*e.size+m by omega];exact h9
def aoo (h:Inv C S O V own hv w0 σ0 A a w)(hC:CtxOK C σ0){T:TypeId}{x v:Operand}{r:St×List PI}(hr:vW C S T x v=some r){o:Oper}(hd:o.dst=none)(ho:o.op=.store T x v):ct C w0 σ0 Z S O A a w o r:=by
 unfold vW at hr;split at hr
 case h_2=>cases hr
 rename_i inf hi;obtain⟨eJ,_⟩:=tw h (gs:=[]) rfl x;split at hr
 case h_3=>cases hr
 .rename_i j ver off es;rw[es] at eJ;cases hb:Nat.beq ver (S.ver j)<;>simp only[hb,zyy,zyx] at hr
  .cases hr
  obtain⟨k,fI,gB⟩:=eJ.2 (aC hb);have bo:=h.objs j;split at hr
  case h_2=>cases hr
  rename_i ag shs eo;rw[eo] at bo;obtain⟨k',cs,E,ds,h1,h2,h3,h4,h5,h6,h7⟩:=bo;have cA:=h1;rw[fI] at h1;cases h1;split at hr
  .rename_i t e hu;have hv':=cK h hC rfl hu;cases hc:(Nat.beq inf.size t.size&&(t.rowT||t.one)&&Nat.ble (off+t.size) shs.length)<;>simp only[hc,zyy,zyx] at hr
   .cases hr
   cases hr;simp only[au,fZ] at hc;obtain⟨⟨aF,jf⟩,hle⟩:=hc;have aF:=aC aF;have hle:=kp hle;obtain⟨f1,f2,f3⟩:=hv'.flat jf;have ji:=hv'.size;refine ct.skip hd λO' ar=>?_;rw[tt ar]
   refine⟨_,IK ho hi gB (by rw[ji,aF]) (λu hu=>by
        obtain⟨m,hm,rfl⟩:=lE hu;exact hv'.cellsOne jf (m:=m) (by simp at hm ⊢)) h3 (by omega),?_⟩
   have df:=h.storeBox (off:=off) (news:=t.flat.map .dat) (vs:=(a.eval v).cells.toList) (dn:=(e.ev O).cells) eo cA h2 h3 h4 h5 h6 h7 (by simp[f1,ji]) (by simp[f2,ji]) (by simp[ji];omega) (λi s hi=>by
        simp only[cL,aD] at hi;obtain⟨ti,Gw,rfl⟩:=hi;refine⟨λ_ _ e=>(by cases e),?_⟩;rw[B7];exact(f3 i ti Gw).2)
   have e1:(a.eval v).cells.toList.length=t.size:=by simp[ji]
   rw[e1] at df;rw[aF];refine⟨V,own,hv,?_⟩;simpa [PE.ev,h5,D.cells] using df
  .split at hr
   case h_3=>cases hr
   case h_2=>
        rename_i l gA;obtain⟨CA,_⟩:=tw h (gs:=[]) rfl v;rw[gA] at CA;obtain⟨vs,ds',q1,q2,q3,q4,q5⟩:=CA;cases hc:(Nat.beq inf.size l.length&&Nat.ble (off+l.length) shs.length&&l.all (Rg S))<;>simp only[hc,zyy,zyx] at hr
        .cases hr
        cases hr;simp only[au] at hc;obtain⟨⟨aF,hle⟩,dy⟩:=hc;have aF:=aC aF;have hle:=kp hle;have jH:(a.eval v).cells.toList=vs:=by rw[q1];simp[Value.cells]
        have dF:(a.eval v).cells.size=vs.length:=by rw[<-jH];simp
        have de:∀u∈(a.eval v).cells.toList,u.oneCell'=true:=λu hu=>by
         rw[jH] at hu;obtain⟨i,hi,rfl⟩:=lE hu;have yU:i<l.length:=by omega
         have g:=q5 i l[i] (bI yU);have hf:=bR.1 dy l[i] (bW yU);have RT:vs.getD i undef=vs[i]:=by simp[aK,hi]
         rw[RT] at g;generalize l[i]=c at g hf;cases c with
         |dat t=>exact(g.2.oneCell g.1).2
         |obj j' nJ=>
          simp only[Rg,au] at hf;rw[g.2 (aC hf.1)];exact(aiV h hf.2).2
        refine ct.skip hd λO' ar=>?_;rw[tt ar];refine⟨_,IK ho hi gB (by omega) de h3 (by omega),?_⟩
        have df:=h.storeBox (off:=off) (news:=l.map AgC.sh) (vs:=vs) (dn:=ds') eo cA h2 h3 h4 h5 h6 h7 (by simp[q3]) (by omega) (by omega) (λi s hi=>by
         simp only[cL,aD] at hi;obtain⟨c,hc,rfl⟩:=hi;have g:=q5 i c hc;cases c with
         |dat t=>exact⟨λ_ _ e=>(by cases e),g.2⟩
         |obj j' nJ=>exact⟨λ_ _ e=>(by cases e),g⟩)
        rw[jH,aF];have e1:vs.length=l.length:=q3;rw[e1] at df;refine⟨V,own,hv,?_⟩;simpa [PE.ev,h5,q2,D.cells] using df
   rename_i j' nJ gA;obtain⟨CA,_⟩:=tw h (gs:=[]) rfl v;rw[gA] at CA;cases hc:(Nat.beq nJ (S.ver j')&&lZ (S.o j')&&Nat.beq inf.size 1&&Nat.blt off shs.length)<;>simp only[hc,zyy,zyx] at hr
   .cases hr
   cases hr;simp only[au] at hc;obtain⟨⟨⟨ath,iw⟩,aF⟩,ak⟩:=hc;have aF:=aC aF;have ak:off<shs.length:=by simpa [jB] using ak
   have cC:=CA.2 (aC ath);obtain⟨c1,c2⟩:=aiV h iw;have jH:(a.eval v).cells=#[a.eval v]:=by rw[cC];exact c1
   refine ct.skip hd λO' ar=>?_;rw[tt ar];refine⟨_,IK ho hi gB (by rw[jH,aF];rfl) (λu hu=>by rw[jH] at hu;simp at hu;subst hu;rw[cC];exact c2) h3 (by omega),?_⟩
   have df:=h.storeBox (off:=off) (news:=[.obj j' nJ]) (vs:=[a.eval v]) (dn:=[.none]) eo cA h2 h3 h4 h5 h6 h7 rfl rfl (by simp;omega) (λi s hi=>by
        match i,hi with
        |0,hi=>simp at hi;subst hi;exact⟨λ_ _ e=>(by cases e),CA.1,λ_=>by simpa using cC⟩
        |i+1,hi=>simp at hi)
   rw[jH,aF];have e2:shs.take off++[Sh.obj j' nJ]++shs.drop (off+[a.eval v].length)=shs.set off (.obj j' nJ):=by
        rw[List.set_eq_take_append_cons_drop,if_pos ak];simp
   rw[e2] at df;refine⟨V,own,hv,?_⟩;simpa [PE.ev,h5,D.cells] using df
 .rename_i j ver size off es;rw[es] at eJ;cases hb:Nat.beq ver (S.ver j)<;>simp only[hb,zyy,zyx] at hr
  .cases hr
  obtain⟨k,n,c,ik,i,fI,wj,bG,gB⟩:=eJ.2 (aC hb);have bo:=h.objs j;split at hr
  .rename_i T' ts t e eo hu;rw[eo] at bo;have hv':=cK h hC rfl hu;cases hc:(Nat.beq inf.size t.size&&(t.rowT||t.one)&&Nat.beq size ts.length&&Nat.ble (off+t.size) ts.length&&Ty.subs t.flat ((ts.drop off).take t.size))<;>simp only[hc,zyy,zyx] at hr
   .cases hr
   cases hr;simp only[au,fZ] at hc;obtain⟨⟨⟨⟨aF,jf⟩,zc⟩,hle⟩,cn⟩:=hc;have aF:=aC aF;have zc:=aC zc;have hle:=kp hle;obtain⟨f1,f2,f3⟩:=hv'.flat jf;have ji:=hv'.size;have f1:t.flat.length=t.size:=f1;have f2:(e.ev O).cells.length=t.size:=f2;have ji:(a.eval v).cells.size=t.size:=ji;obtain⟨cells,xs,k1,k2,k3,k4⟩:=bo;obtain⟨b,c',e1,y3,y4⟩:=zP k2;rw[fI] at e1;cases e1;obtain⟨us,u1,u2⟩:=k3;obtain⟨y,hy⟩:∃y,xs[i]?=some y:=⟨_,bI bG⟩
   obtain⟨os,ds,wP,RH,l1,l2,aS,de⟩:=(u1 i y hy).agg_inv;have Gz:(a.eval v).cells.toList.length=t.size:=by simp[ji]
   have mB:Rep C.cap V (.agg ts) (.agg (os.take off++(a.eval v).cells.toList++os.drop (off+(a.eval v).cells.toList.length)).toArray) (.agg (eU ds off (e.ev O).cells)):=by
        refine .agg _ _ _ (by simp[ji];omega) (by simp[eU,f2];omega) (λm tm hm=>?_) de;rw[Lp os _ off undef (by rw[Gz];omega),eU,Lp ds _ off .none (by rw[f2];omega),Gz,f2];split
        .rename_i hc;have as4:=Ty.subs_get _ _ cn (m-off) tm (by
          rw[gx,if_pos (by omega),gP,show off+(m-off)=m by omega];exact hm)
         obtain⟨tf,htf,df⟩:=as4;rw[B7];exact((f3 _ tf htf).2).sub df
        .exact aS m tm hm
   have bh:=k2.1;have arL:i*(Ty.agg ts).size+(Ty.agg ts).size<=xs.length*(Ty.agg ts).size:=by
        have:(i+1)*(Ty.agg ts).size<=xs.length*(Ty.agg ts).size:=oT _ bG;rw[qv] at this;omega
   have ady:(Ty.agg ts).size=ts.length:=rfl
   obtain⟨cur,q1,q2,q3⟩:=h.storeRow (i:=i) (p:=i*(Ty.agg ts).size+off) (vs:=(a.eval v).cells.toList) eo fI k1 k2 ⟨us,u1,u2⟩ k4 bG (by omega) (by rw[Gz];omega) mB (λq u hq=>by
        have eu:(os.take off++(a.eval v).cells.toList++os.drop (off+(a.eval v).cells.toList.length))[q]?=some u:=by simpa [Value.cells] using hq
        have aHn:q<ts.length:=by have:=(ga.1 eu).1;simp[ji] at this;omega
        rw[qq,mX,eN,qw (by omega)] at eu;rw[qq,mX,eN,qw (by omega)];by_cases sJ:q<off
        .rw[if_pos sJ,gx,if_pos sJ] at eu;rw[if_pos (by omega),gx,if_pos (by omega)];exact u2 i q u bG (by rw[wP];simpa [Value.cells] using eu)
        .rw[if_neg sJ,mX] at eu;rw[if_neg (by omega),mX];rw[show i*(Ty.agg ts).size+q-(i*(Ty.agg ts).size+off)=q-off by omega];by_cases SA:q-off<(a.eval v).cells.toList.length
         .rw[if_pos SA] at eu ⊢;exact eu
         .rw[if_neg SA,gP] at eu;rw[if_neg SA,gP];rw[show off+(a.eval v).cells.toList.length+(q-off-(a.eval v).cells.toList.length)=q by omega] at eu;rw[show i*(Ty.agg ts).size+off+(a.eval v).cells.toList.length+(q-off-(a.eval v).cells.toList.length)=i*(Ty.agg ts).size+q by omega];exact u2 i q u bG (by rw[wP];simpa [Value.cells] using eu))
   refine ct.skip hd λO' ar=>?_;rw[tt ar]
   refine⟨_,IK ho hi (cs:=cur) (by rw[gB,zc]) (by rw[ji,aF]) (λu hu=>by
        obtain⟨m,hm,rfl⟩:=lE hu;exact hv'.cellsOne jf (m:=m) (by simp at hm ⊢)) q1 (by rw[Gz] at q2;rw[aF,<-ady];exact q2),V,own,hv,?_⟩
   rw[Gz] at q3;simp only[PE.ev,k1,D.l_list,wj,D.i_int,xX,uk hy,RH,vl];rw[aF,<-ady];exact q3
  .rename_i T' e0 t e aB eo hu;rw[eo] at bo;have hv':=cK h hC rfl hu;cases hc:(Nat.beq inf.size 1&&Nat.beq size 1&&Nat.beq off 0&&e0.one&&Ty.sub t e0)<;>simp only[hc,zyy,zyx] at hr
   .cases hr
   cases hr;simp only[au] at hc;obtain⟨⟨⟨⟨aF,zc⟩,j3⟩,de⟩,cn⟩:=hc;have aF:=aC aF;have zc:=aC zc;have j3:=aC j3;subst j3;subst zc;have hve:=hv'.sub cn;obtain⟨c1,c2⟩:=hve.oneCell de;have FW:e0.size=1:=by cases e0<;>simp_all [Ty.size,Ty.one]
   obtain⟨cells,xs,k1,k2,k3,k4⟩:=bo;obtain⟨b,c',e1,y3,y4⟩:=zP k2;rw[fI] at e1;cases e1;obtain⟨y,hy⟩:∃y,xs[i]?=some y:=⟨_,bI bG⟩
   have bh:=k2.1
   obtain⟨cur,q1,q2,q3⟩:=h.storeRow (i:=i) (p:=i*e0.size) (vs:=[a.eval v]) eo fI k1 k2 k3 k4 bG (bj _) (by rw[FW];simp) hve (λq u hq=>by
        rw[c1] at hq;have wH:q=0:=by have:=(hZ.1 hq).1;simpa using this
        subst wH;simp at hq;subst hq;have:i*e0.size<=cells.length:=by rw[bh];exact oT _ (by omega)
        rw[qq,mf (by simp;omega)];simp[qw this])
   refine ct.skip hd λO' ar=>?_;rw[tt ar];refine⟨_,IK ho hi (cs:=cur) (by rw[gB]) (by rw[c1,aF];rfl) (λu hu=>by rw[c1] at hu;simp at hu;subst hu;exact c2) q1 (by rw[FW] at q2;rw[aF];simpa using q2),V,own,hv,?_⟩;rw[c1,aF];have GC:vl y 0 (e.ev O)=e.ev O:=by
        obtain⟨us,u1,u2⟩:=k3;have:=(u1 i y hy).dcells de;cases y with
        |agg ds=>have h8:=u1 i _ hy;generalize us i=vv at h8;cases h8;simp[Ty.one] at de
        |_=>rfl
   simp only[PE.ev,k1,D.l_list,wj,D.i_int,xX,uk hy,GC];rw[FW] at q3;simpa using q3
  .cases hr
def aoL {O:Env}{es:List PE}{i:Nat}{e:PE}(h:es[i]?=some e):(PE.evs O es)[i]?=some (e.ev O):=by
 rw[PE.evs_eq,cL,h];rfl
def abg (h:Inv C S O V own hv w0 σ0 A a w)(hC:CtxOK C σ0)(hg:holds gs O=true){T:TypeId}{len:Nat}{ps:Array (Nat×Operand)}{r:St×List PI}(hr:yx C S gs dst T len ps.toList=some r){o:Oper}
 (ho:o.op=.buildSlice T len ps):∃(E:TypeId) (e:Ty) (es:List PE) (v:Value) (w':World),C.P.underlying T=some (.slice E)/\qm C.P E=some e/\r=(mkObj S dst (.row E e),[.setO dst (.lst es),.setR dst (.con .none)])/\
   (execOp a.eval o).run C.P w=.ok (.value v) w'/\Below w.heap.size w w'/\(∀k,Nat.beq k w.heap.size=true->w.heap.size<=k/\k<w'.heap.size)/\
   cG C (S.newO dst (.row E e)) (O.setO dst (.list (PE.evs O es))) V (gp own dst (λk=>Nat.beq k w.heap.size)) (cr hv dst v) w' w0.heap.size dst (.row E e):=by
 unfold yx at hr;split at hr
 case h_2=>cases hr
 rename_i E hT;simp only[ay] at hr;obtain⟨e,he,z,hz,hr⟩:=hr;cases hc:(sr C.P E e&&Ty.sub z.1 e&&ix (ps.toList.map (·.1))&&ps.toList.all (λp=>Nat.blt p.1 len)&&Nat.ble (len*e.size) 16777216)<;>simp only[hc,zyy,zyx] at hr
 .cases hr
 simp only[au] at hc;obtain⟨⟨⟨⟨hef,cn⟩,bC⟩,dM⟩,hle⟩:=hc;have hle:=kp hle;obtain⟨inf,zv,hi,hs,lN,h1,hzv,nm⟩:=Q3 hef;have uG:=ZP nm;have kz:=mH bC;have GD:=((AB (cap:=C.cap) (V:=V) hz nm).1).sub cn;simp only[aD] at hr;obtain⟨es,j2,rfl⟩:=hr;obtain⟨el1,el2⟩:=mapM_some _ _ _ j2;simp only[aad] at el1;have acy:∀i,i<len->∃pe,es[i]?=some pe/\Lf C S gs e z.2 ps.toList i=some pe:=by
  intro i hi;obtain⟨y,hy1,uE⟩:=el2 i i (by rw[rX hi]);exact⟨y,hy1,uE⟩
 have pE:∀x,x∈ps.toList->x.1<len/\∃t pe,use C S gs x.2=some (t,pe)/\Ty.sub t e=true/\es[x.1]?=some pe:=by
  intro x hx;have zm:x.1<len:=by
   have:=bR.1 dM x hx;simpa [jB] using this
  refine⟨zm,?_⟩;obtain⟨pe,Gj,iv⟩:=acy x.1 zm;have FZ:=abF kz (i:=x.1) (x:=x.2) hx;simp only[Lf,FZ,ay] at iv;obtain⟨y,hy,iv⟩:=iv;cases hs:Ty.sub y.1 e<;>simp only[hs,zyy,zyx] at iv
  .cases iv
  cases iv;exact⟨y.1,y.2,hy,hs,Gj⟩
 let c0:Array Value:=madeCells zv.cells (len*e.size)
 have FQ:c0.size=len*e.size:=size_madeCells _ _
 have kB:∀p,p∈(ps.toList.map λ(x:Nat×Operand)=>(x.1,a.eval x.2))->∃o,(λi=>some (i*e.size,e.size)) p.1=some (o,p.2.cells.size)/\o+p.2.cells.size<=c0.size:=by
  intro p hp;obtain⟨x,hx,rfl⟩:=dW.1 hp;obtain⟨zm,t,pe,hu,df,_⟩:=pE x hx;have wN:=((cK h hC hg hu).sub df).size;simp only;refine⟨x.1*e.size,by rw[wN],?_⟩;rw[wN,FQ];have:(x.1+1)*e.size<=len*e.size:=oT _ zm;rw[qv] at this;omega
 have Ck:∀(i j oi si oj sj:Nat),i≠j->(λi=>some (i*e.size,e.size)) i=some (oi,si)->(λi=>some (i*e.size,e.size)) j=some (oj,sj)->oi+si<=oj\/oj+sj<=oi:=by
  intro i j oi si oj sj aB hi hj;simp only[aX,oV] at hi hj;obtain⟨rfl,rfl⟩:=hi;obtain⟨rfl,rfl⟩:=hj;rcases Po i j with ak|eQ
  .left;have:(i+1)*e.size<=j*e.size:=oT _ ak;rw[qv] at this;omega
  .right;have:(j+1)*e.size<=i*e.size:=oT _ (by omega);rw[qv] at this;omega
 obtain⟨dI,f1,f2,f3,f4⟩:=Q9 (λi=>some (i*e.size,e.size)) (ps.toList.map λ(x:Nat×Operand)=>(x.1,a.eval x.2)) c0 kB Ck (by simpa [I9] using kz);have ar:(execOp a.eval o).run C.P w=.ok (.value (.slice (some ⟨w.heap.size,0,none⟩) len len)) (w.alloc (.cells dI E)):=by
  have n1:¬(len*inf.size>2^24):=by rw[hs];omega
  have Lj:Instr.fill (λi=>some (i*inf.size,inf.size)) c0 (ps.toList.map λ(x:Nat×Operand)=>(x.1,a.eval x.2))=some dI:=by rw[hs];exact f1
  by_cases h0:len*inf.size=0
  .have Cg:c0=#[]:=by
        apply O9;rw[FQ,<-hs];exact h0
   rw[Cg] at Lj
   have aoN:Instr.fill (λi=>some (i*inf.size,inf.size)) (Array.map (λ_=>default) (Array.range 0)) (ps.toList.map λ(x:Nat×Operand)=>(x.1,a.eval x.2))=some dI:=by
        have:(Array.map (λ_=>(default:Value)) (Array.range 0))=#[]:=by simp
        rw[this];exact Lj
   simp[execOp,ho,Instr.buildSlice,run_underlying hT,Go.sizeOf,run_typeInfo w hi,n1,h0,aoN,newRow]
  .have Cg:c0=(Array.range (len*inf.size)).map (λx=>zv.cells[x%zv.cells.size]!):=by simp only[c0,madeCells,hs]
   rw[Cg] at Lj;have h00:¬(len=0\/inf.size=0):=by rw[<-Nat.mul_eq_zero];exact h0
   simp[execOp,ho,Instr.buildSlice,run_underlying hT,Go.sizeOf,run_typeInfo w hi,n1,h0,h00,zeroValue,hzv,Lj,newRow]
 refine⟨E,e,es,_,_,hT,he,rfl,ar,(Below.refl _ _).alloc (bj _) _,λk hk=>by simp at hk;simp;omega,?_⟩;have j1:(PE.evs O es).length=len:=by rw[PE.evs_eq,fw,el1]
 have ary:∀(i:Nat) (x:D),(PE.evs O es)[i]?=some x->∃v,Rep C.cap V e v x/\∀q u,v.cells[q]?=some u->dI.toList[i*e.size+q]?=some u:=by
  intro i x hx;have yU:i<len:=by have:=(ga.1 hx).1;omega
  obtain⟨pe,Gj,iv⟩:=acy i yU;rw[aoL Gj] at hx;cases hx;unfold Lf at iv;split at iv
  .rename_i p hp;have hpm:=vI hp;have Mf:p.1=i:=by have:=Ph hp;simpa using this
   obtain⟨_,t,pe',hu,df,wF⟩:=pE p hpm;rw[Mf,Gj] at wF;cases wF;have bX:=(cK h hC hg hu).sub df;refine⟨_,bX,λq u hq=>?_⟩;have Mh:q<(a.eval p.2).cells.size:=(hZ.1 hq).1;have:=f3 p.1 (a.eval p.2) (p.1*e.size) (dW.2 ⟨p,hpm,rfl⟩) (by simp[bX.size]) q Mh;rw[Mf] at this;simp[this,hq]
  .rename_i hp;cases iv;refine⟨zv,GD,λq u hq=>?_⟩;have Mh:q<zv.cells.size:=(hZ.1 hq).1
   have oe:i∉(ps.toList.map λ(x:Nat×Operand)=>(x.1,a.eval x.2)).map (·.1):=by
        intro cR;simp only[Jf,dW,I9] at cR;obtain⟨x,CF,e⟩:=cR;have:=vE.1 hp x CF;simp[e] at this
   have:=f4 i (i*e.size) e.size oe rfl q (by omega);have h9:c0[i*e.size+q]?=zv.cells[q]?:=by
        simp only[c0];rw[<-uG];exact aeu (by omega) yU Mh
   simp[this,h9,hq]
 have ji:∃vs:Nat->Value,∀(i:Nat) (x:D),(PE.evs O es)[i]?=some x->Rep C.cap V e (vs i) x/\∀q u,(vs i).cells[q]?=some u->dI.toList[i*e.size+q]?=some u:=by
  have lO:∀i,∃v,∀x,(PE.evs O es)[i]?=some x->Rep C.cap V e v x/\∀q u,v.cells[q]?=some u->dI.toList[i*e.size+q]?=some u:=by
   intro i;cases hx:(PE.evs O es)[i]? with
   |none=>exact⟨undef,λx dN=>by cases dN⟩
   |some x=>
    obtain⟨v,hv⟩:=ary i x hx;exact⟨v,λy hy=>by cases hy;exact hv⟩
  exact⟨λi=>Classical.choose (lO i),λi x hx=>ZX (lO i) x hx⟩
 obtain⟨vs,ji⟩:=ji;have dF:dI.size=len*e.size:=by rw[f2,FQ]
 refine⟨dI.toList,PE.evs O es,by simp[Env.setO,aP],?_,⟨vs,λi x hx=>(ji i x hx).1,λi j u hi hj=>(ji i _ (bI hi)).2 j u hj⟩,λk hk=>by rw[aP] at hk;simp[Value.ownBlock] at hk;simp[gp,hk]⟩;rw[aP,j1];have R2:len<=maxLen:=by
  have:len*1<=len*e.size:=Nat.mul_le_mul_left _ h1;unfold maxLen;omega
 exact⟨by simp[dF],.inr ⟨w.heap.size,len,dI,rfl,h.below.size,heap_alloc_new w _,bj _,R2,dF,by rw[Ed (by simp[dF])]⟩⟩
def anW (h:Inv C S O V own hv w0 σ0 A a w)(hC:CtxOK C σ0)(ht:¬A dst)(ak:dst<a.tmps.size){T:TypeId}{len:Nat}{ps:Array (Nat×Operand)}{r:St×List PI}(hr:yx C S [] dst T len ps.toList=some r){o:Oper}(hd:o.dst=some dst)
 (ho:o.op=.buildSlice T len ps):ct C w0 σ0 Z S O A a w o r:=by
 obtain⟨E,e,es,v,w',_,_,rfl,ar,hb,dv,cZ⟩:=abg h hC rfl hr ho;refine ct.value hd λO' pG=>⟨_,_,ar,?_⟩
 rw[DM pG];exact h.mkObj ht ak (.row E e) _ _ (λk=>Nat.beq k w.heap.size) hb dv cZ
def Inv.kill (h:Inv C S O V own hv w0 σ0 A a w)(j:Nat):Inv C (S.newO j .dead) O V own hv w0 σ0 A a w:=by
 have dY:∀i,S.ver i<=(S.newO j .dead).ver i:=by
  intro i;show S.ver i<=cr S.ver j (S.ver j+1) i;rw[fY];by_cases e:i=j
  .subst e;simp
  .simp[e]
 have hc:Compat S hv (S.newO j .dead) hv:=⟨dY,λ_ _=>rfl⟩
 refine h.step (·=j) rfl (.refl V) h.ok (λ_ _ _ hx=>.inl hx) (λ_ _ hx=>.inl hx) (.refl _ _) hc (λi hi=>⟨by simp[St.newO,bF _ _ hi],rfl,rfl,λk hk=>⟨hk,rfl⟩⟩) (λi hi=>?_) h.owns (λ_=>id) (λt=>.inl ⟨rfl,rfl,rfl⟩) (λ_ _=>rfl) (λ_ _ _=>rfl) (λk i hk=>.inl ⟨i,hk⟩) (λi hi=>by subst hi;simp[St.newO,aP]);subst hi;simp only[St.newO,aP];trivial
def aoc (h:Inv C S O V own hv w0 σ0 A a w)(hC:CtxOK C σ0)(ht:¬A dst)(ak:dst<a.tmps.size)(eG:∀g,g∈gs->A g.1)(hg:holds gs O=true){T:TypeId}{len:Nat}{ps:Array (Nat×Operand)}{r:St×List PI}(hr:BX C S gs dst T len ps.toList=some r){o:Oper}(hd:o.dst=some dst)
 (ho:o.op=.buildSlice T len ps):ct C w0 σ0 Z S O A a w o r:=by
 unfold BX at hr;split at hr
 case h_2=>cases hr
 rename_i E q hT hq;simp only[ay] at hr;obtain⟨e,he,hr⟩:=hr;obtain⟨E',e',es,v,w',Cb,qZ,rfl,ar,hb,dv,cZ⟩:=abg h hC hg hq ho;rw[hT] at Cb;cases Cb;rw[he] at qZ;cases qZ;cases hr;refine ct.value hd λO' pG=>⟨_,_,ar,?_⟩
 have hρ:O'=O.setR dst (.list (PE.evs O es)):=by simp[PI.runs,PI.run,PE.ev] at pG;exact pG.symm
 subst hρ;have h1:=h.newO dst (.row E e) (.list (PE.evs O es)) v (λk=>Nat.beq k w.heap.size) hb dv cZ;obtain⟨σ2,jP,_,h2⟩:=h1.fz dst;have Cm:(S.newO dst (.row E e)).fz dst=(S.newO dst (.row E e)).setO dst (.fz (.slice e.rol)):=by
  have:(S.newO dst (.row E e)).o dst=.row E e:=aP _ _ _;unfold St.fz;rw[this]
 rw[Cm] at h2;have bo:=h2.objs dst;have e1:((S.newO dst (.row E e)).setO dst (.fz (.slice e.rol))).o dst=.fz (.slice e.rol):=aP _ _ _;rw[e1] at bo;have bX:Rep C.cap σ2 (.slice e.rol) v (.list (PE.evs O es)):=by
  have:=bo.2
  rwa [aP,show(O.setO dst (.list (PE.evs O es))).o dst=.list (PE.evs O es) from aP _ _ _] at this
 have h3:Inv C (S.newO dst .dead) O σ2 jP (cr hv dst v) w0 σ0 A a w':=by
  refine h2.step (·=dst) rfl (.refl σ2) h2.ok (λ_ _ _ hx=>.inl hx) (λ_ _ hx=>.inl hx) (.refl _ _) ⟨λi=>bj _,λ_ _=>rfl⟩ (λi hi=>⟨?_,?_,rfl,λk hk=>⟨hk,rfl⟩⟩) (λi hi=>?_) h2.owns (λ_=>id) (λt=>.inl ⟨rfl,rfl,rfl⟩) (λ_ _=>rfl) (λ_ _ _=>rfl) (λk i hk=>.inl ⟨i,hk⟩) (λi hi=>by subst hi;simp[St.newO,aP])
  .simp[St.newO,St.setO,bF _ _ hi]
  .simp[Env.setO,bF _ _ hi]
  .subst hi;simp only[St.newO,aP];trivial
 have hh:holds gs (O.setR dst (.list (PE.evs O es)))=true:=by rw[Gg (t:=dst) λg hm e=>ht (by rw[<-e];exact eG g hm)];exact hg
 cases gs with
 |nil=>exact⟨_,_,_,h3.setReg ht (s:=.dat (.slice e.rol)) bX ak (λ_ _ e=>by cases e)⟩
 |cons g cd=>
  refine⟨_,_,_,h3.setReg ht (s:=.opt (g::cd) (.dat (.slice e.rol))) ⟨λ_=>bX,λe=>absurd (hh.symm.trans e) (by decide)⟩ ak (λgs s e=>?_)⟩;cases e;exact⟨eG,λ_ _ e=>by cases e⟩
end
end Cx
