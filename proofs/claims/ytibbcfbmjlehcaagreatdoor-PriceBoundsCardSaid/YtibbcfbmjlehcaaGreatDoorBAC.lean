/-
  Shared texts of this claim.
-/
import Derived.Test.YtibbcfbmjlehcaaGreatDoorBAB
import Derived.Laws.OwnMore
import Derived.Lib.ConvBytes
set_option linter.defProp false
set_option linter.unusedSimpArgs false
set_option linter.unusedVariables false
namespace Cx
open Go Go.RowKit
def gU (b i:Nat):Nat:=4096*(i+1)+b
def St.fz (S:St)(j:Nat):St:=
 match S.o j with
 |.row _ e=>S.setO j (.fz (.slice e.rol))
 |.mp k e=>S.setO j (.fz (.map k e))
 |_=>S
def E9 (S:St)(b:Nat):Option (St×List PI):=
 match S.o b with
 |.box ag shs=>
  (xU S (.o b) shs 0).bind λx=>
    bif ag then some (S.setO b (.fbox (.agg x.1)),[.setO b (.mk x.2)])
    else match x.1,x.2 with
     |[t],[e]=>some (S.setO b (.fbox t),[.setO b e])
     |_,_=>Option.none
 |_=>Option.none
def St.mv (S:St)(j j':Nat):St:=
 {S with o:=bY (bY S.o j' (S.o j)) j .dead,ver:=bY (bY S.ver j' (S.ver j'+1)) j (S.ver j+1)}
def lH:Ob->Bool
 |.row ..=>true
 |.mp ..=>true
 |_=>false
def Ia (S:St)(t j':Nat):Option (St×List PI):=
 match S.r t with
 |.obj j ver=>
  bif Nat.beq ver (S.ver j)&&lH (S.o j)&& !Nat.beq j j' then some ((S.mv j j').setR t (.obj j' (S.ver j'+1)),[.setO j' (.o j)])
  else some (S,[])
 |_=>some (S,[])
def H9 (S:St)(b i j':Nat):Option (St×List PI):=
 match S.o b with
 |.box ag shs=>
  match shs[i]? with
  |some (.obj j ver)=>
   bif Nat.beq ver (S.ver j)&&lH (S.o j)&& !Nat.beq j j'&& !Nat.beq b j'&& !Nat.beq b j then
    some ((S.mv j j').setO b (.box ag (shs.set i (.obj j' (S.ver j'+1)))),[.setO j' (.o j)])
   else some (S,[])
  |_=>some (S,[])
 |_=>some (S,[])
def FU (C:Ctx)(S:St)(b i j:Nat)(T:TypeId):Option (St×List PI):=
 match S.o b with
 |.box ag shs=>
  match shs[i]?,qs C.P T with
  |some (.dat (.nils _)),some e=>
   bif !Nat.beq b j then some ((S.newO j (.row T e)).setO b (.box ag (shs.set i (.obj j (S.ver j+1)))),[.setO j (.con (.list []))])
   else some (S,[])
  |_,_=>some (S,[])
 |_=>some (S,[])
section
variable {C:Ctx} {S:St} {O:Env} {V:Im} {own:Nat->Option Nat} {hv:Nat->Value} {w0:World} {σ0:Base} {A:Nat->Prop} {a:Act} {w:World} {gs:List (Nat×Bool)} {Z:aT} {dst:Nat}
def Inv.lt (h:Inv C S O V own hv w0 σ0 A a w){k o:Nat}{u:Value}(hc:V.c k o=some u):k<w.heap.size:=World.block_lt_of_cell? w (a:=⟨k,o,none⟩) (h.ok.c _ _ _ hc)
def Inv.ltm (h:Inv C S O V own hv w0 σ0 A a w){k:Nat}{es:List (Value×Value)}(hc:V.m k=some es):k<w.heap.size:=by
 exact(h.ok.m _ _ hc).lt
def ajs {w:World}{k:Nat}{c:Array Value}{T:TypeId}(h:w.heap[k]?=some (.cells c T (0,0)))(o:Nat):w.frozen? ⟨k,o,none⟩=false:=by simp[World.frozen?,h]
def ahp {w:World}{base:Nat}{e:TypeId}{size:Nat}{v:Value}{n:Nat}{xs:List Value}(h:w.ownsRow base e size v n xs){g:Nat}(hg:v.ownBlock=some g)(o:Nat):w.frozen? ⟨g,o,none⟩=false:=by
 rcases h.2 with⟨rfl,_⟩|⟨g',cap,cur,rfl,_,h3,_⟩
 .cases hg
 .cases hg;exact ajs h3 o
def aho {w:World}{base:Nat}{e:TypeId}{size:Nat}{v:Value}{n:Nat}{xs:List Value}(h:w.ownsRow base e size v n xs){g:Nat}(hg:v.ownBlock=some g):∃cs T fz,w.heap[g]?=some (.cells cs T fz):=by
 rcases h.2 with⟨rfl,_⟩|⟨g',cap,cur,rfl,_,h3,_⟩
 .cases hg
 .cases hg;exact⟨_,_,_,h3⟩
def Im.ok.fz {V:Im}{w w':World}(h:V.ok w)(hk:∀k o v,V.c k o=some v->w'.heap[k]?=w.heap[k]?):∀k o n,V.c k o=some (.int .i64 n)->k<=2\/w'.frozen? ⟨k,o,none⟩=false:=λk o n hc=>by
 rw[World.frozen?_of_block (w:=w) (hk k o _ hc)];exact h.f k o n hc
def Im.ok.below {V:Im}{w w':World}(h:V.ok w)(hb:Below w.heap.size w w'):V.ok w':=by
 refine⟨λk o v hc=>?_,λk es hc=>?_,h.fz λk o v hc=>hb.block k (World.block_lt_of_cell? w (a:=⟨k,o,none⟩) (h.c k o v hc))⟩
 .have h1:=h.c k o v hc;rw[hb.cell (World.block_lt_of_cell? w (a:=⟨k,o,none⟩) h1)];exact h1
 .exact(h.m k es hc).keep (hb.block k (h.m k es hc).lt)
def fJ (own:Nat->Option Nat)(j:Nat)(nb:Nat->Bool):Nat->Option Nat:=λk=>if nb k then some j else if own k=some j then none else own k
def Inv.newOσ (h:Inv C S O V own hv w0 σ0 A a w)(j:Nat)(ob:Ob)(d:D)(v:Value)(nb:Nat->Bool){V':Im}{w':World}(hle:V.le V')(ar:V'.ok w')(dg:∀k o x,V'.c k o=some x->V.c k o=some x\/w.heap.size<=k)(cR:∀k x,V'.m k=some x->V.m k=some x\/w.heap.size<=k)
 (hw:Below w.heap.size w w') (dS:∀k,nb k=true->w.heap.size<=k/\k<w'.heap.size) (dR:∀k,nb k=true->(∀o,V'.c k o=none)/\V'.m k=none)
 (cS:bZ C (S.newO j ob) (O.setO j d) V' (fJ own j nb) (bY hv j v) w' w0.heap.size j ob) (oA:ob≠.tr:=by intro h;cases h):Inv C (S.newO j ob) (O.setO j d) V' (fJ own j nb) (bY hv j v) w0 σ0 A a w':=by
 have aJ:w0.heap.size<=w.heap.size:=h.below.size;have bu:∀k i,i≠j->own k=some i->fJ own j nb k=some i:=by
  intro k i hi hk;have h1:=h.owns k i hk;have h2:nb k=false:=by
   cases hn:nb k with
   |false=>rfl
   |true=>have:=dS k hn;omega
  simp[fJ,h2,hk,hi]
 refine h.step (λi=>i=j) rfl hle ar (λk o x hx=>(dg k o x hx).imp id λe=>⟨by omega,.inr e⟩) (λk x hx=>(cR k x hx).imp id λe=>⟨by omega,.inr e⟩) (hw.mono aJ) ⟨λi=>?_,λi e=>?_⟩ (λi hi=>⟨?_,?_,?_,λk hk=>⟨bu k i hi hk,?_⟩⟩) (λi hi=>?_) (λk i hk=>?_) (λ_=>id) (λt=>.inl ⟨rfl,rfl,rfl⟩) (λ_ _=>rfl) (λk hk _=>hw.block k hk) (λk i hk=>by
  unfold fJ at hk;split at hk
  .rename_i hn;exact .inr (dS k hn).1
  .split at hk
   .cases hk
   .exact .inl ⟨i,hk⟩) (λi hi=>by subst hi;simpa only[St.newO,aN] using oA)
 .simp only[St.newO,fj];split<;>rename_i e
  .subst e;omega
  .omega
 .simp only[St.newO,fj] at e;split at e
  .rename_i e';subst e';omega
  .rename_i au;exact bA _ _ au
 .simp[St.newO,bA _ _ hi]
 .simp[Env.setO,bA _ _ hi]
 .exact bA _ _ hi
 .exact hw.block k (h.owns k i hk).2.1
 .subst hi;simp only[St.newO,aN];exact cS
 .unfold fJ at hk;split at hk
  .rename_i hn;obtain⟨g1,g2⟩:=dS k hn;exact⟨by omega,g2,(dR k hn).1,(dR k hn).2⟩
  .split at hk
   .cases hk
   .obtain⟨g1,g2,g3,g4⟩:=h.owns k i hk;refine⟨g1,by have:=hw.size;omega,λo=>?_,?_⟩
    .cases hc:V'.c k o with
     |none=>rfl
     |some u=>
      rcases dg k o u hc with e|e
      .rw[g3 o] at e;cases e
      .omega
    .cases hc:V'.m k with
     |none=>rfl
     |some u=>
      rcases cR k u hc with e|e
      .rw[g4] at e;cases e
      .omega
def Inv.newO (h:Inv C S O V own hv w0 σ0 A a w)(j:Nat)(ob:Ob)(d:D)(v:Value)(nb:Nat->Bool){w':World}(hw:Below w.heap.size w w')(dS:∀k,nb k=true->w.heap.size<=k/\k<w'.heap.size)
 (cS:bZ C (S.newO j ob) (O.setO j d) V (fJ own j nb) (bY hv j v) w' w0.heap.size j ob) (oA:ob≠.tr:=by intro h;cases h):Inv C (S.newO j ob) (O.setO j d) V (fJ own j nb) (bY hv j v) w0 σ0 A a w':=by
 refine h.newOσ j ob d v nb (.refl V) (h.ok.below hw) (λ_ _ _ hx=>.inl hx) (λ_ _ hx=>.inl hx) hw dS (λk hn=>⟨λo=>?_,?_⟩) cS oA
 .cases hc:V.c k o with
  |none=>rfl
  |some u=>have:=h.lt hc;have:=(dS k hn).1;omega
 .cases hc:V.m k with
  |none=>rfl
  |some u=>have:=h.ltm hc;have:=(dS k hn).1;omega
def Inv.setObj (h:Inv C S O V own hv w0 σ0 A a w){t j:Nat}(ht:¬A t){v:Value}(eR:hv j=v)(af:t<a.tmps.size):
 Inv C (S.setR t (.obj j (S.ver j))) (O.setR t .none) V own hv w0 σ0 (λu=>A u\/u=t) (a.put (some t) v) w:=
 h.setReg ht (s:=.obj j (S.ver j)) (v:=v) (d:=.none) ⟨aX _,λ_=>eR.symm⟩ af (λ_ _ e=>by cases e)
def KU (S:St)(j:Nat):(S.fz j).ver=S.ver/\(S.fz j).r=S.r:=by
 unfold St.fz;split<;>exact⟨rfl,rfl⟩
def Inv.fz (h:Inv C S O V own hv w0 σ0 A a w)(j:Nat):∃V' own',V.le V'/\Inv C (S.fz j) O V' own' hv w0 σ0 A a w:=by
 have bj:=h.objs j;unfold St.fz;split
 .rename_i T e eo;rw[eo] at bj;obtain⟨cells,xs,h1,h2,⟨vs,h3,h4⟩,h5⟩:=bj;have aJ:w0.heap.size<=w.heap.size:=h.below.size
  let nb:Nat->Bool:=λk=>decide ((hv j).ownBlock=some k)
  let V':Im:={c:=λk o=>if nb k then cells[o]? else V.c k o,m:=λk=>if nb k then some my else V.m k}
  have dS:∀k,nb k=true->own k=some j:=λk hk=>h5 k (by simpa [nb] using hk);have hle:V.le V':=by
   refine⟨λk o v hc=>?_,λk es hc=>?_⟩
   .have:nb k=false:=by
     cases hn:nb k with
     |false=>rfl
     |true=>have:=(h.owns k j (dS k hn)).2.2.1 o;rw[this] at hc;cases hc
    simp[V',this,hc]
   .have:nb k=false:=by
     cases hn:nb k with
     |false=>rfl
     |true=>have:=(h.owns k j (dS k hn)).2.2.2;rw[this] at hc;cases hc
    simp[V',this,hc]
  refine⟨V',λk=>if nb k then none else own k,hle,h.step (λi=>i=j) rfl hle ?_ (λk o x hx=>?_) (λk x hx=>?_) (.refl _ _) ⟨λ_=>aX _,λ_ _=>rfl⟩ (λi hi=>⟨?_,rfl,rfl,λk hk=>⟨?_,rfl⟩⟩) (λi hi=>?_) (λk i hk=>?_) (λ_=>id) (λt=>.inl ⟨rfl,rfl,rfl⟩) (λ_ _=>rfl) (λ_ _ _=>rfl) (λk i hk=>by
        split at hk
        .cases hk
        .exact .inl ⟨i,hk⟩) (λi hi=>by subst hi;simp[St.setO,aN])⟩
  .refine⟨λk o v hc=>?_,λk es hc=>?_,λk o v hc=>?_⟩
   all_goals simp only[V'] at hc
   all_goals split at hc
   .rename_i hn;have cS:(hv j).ownBlock=some k:=by simpa [nb] using hn
    have:=h2.cells cS o v hc;rw[ud] at this;simpa using this
   .exact h.ok.c k o v hc
   .rename_i hn;cases hc;obtain⟨cs,T,fz,e⟩:=aho h2 (g:=k) (by simpa [nb] using hn);exact .inr (.inr ⟨rfl,cs,T,fz,e⟩)
   .exact h.ok.m k es hc
   .rename_i hn;exact .inr (ahp h2 (by simpa [nb] using hn) o)
   .exact h.ok.f k o v hc
  .simp only[V'] at hx;split at hx
   .rename_i hn;exact .inr ⟨(h.owns k j (dS k hn)).1,.inl ⟨j,dS k hn⟩⟩
   .exact .inl hx
  .simp only[V'] at hx;split at hx
   .rename_i hn;exact .inr ⟨(h.owns k j (dS k hn)).1,.inl ⟨j,dS k hn⟩⟩
   .exact .inl hx
  .simp[St.setO,bA _ _ hi]
  .have:nb k=false:=by
        cases hn:nb k with
        |false=>rfl
        |true=>rw[dS k hn] at hk;simp at hk;exact absurd hk.symm hi
   simp[this,hk]
  .subst hi;simp only[St.setO,aN];refine⟨rfl,?_⟩;rw[h1];rcases h2.2 with⟨e1,e2⟩|⟨g,cap,cur,e1,e2,e3,e4,e5,e6,e7⟩
   .rw[e1];have:xs=[]:=O6 e2;subst this;exact .nil _
   .rw[e1];refine .slice e.rol g 0 xs.length cap xs vs rfl e4 e5 (λi x hx=>((h3 i x hx).mono hle).unf_rol) (λi m u hi hu=>?_) (λ_=>by simp[V',nb,e1,Value.ownBlock]);rw[Ty.rol_size];have hn:nb g=true:=by simp[nb,e1,Value.ownBlock]
    simp only[V',hn,if_true,fQ];exact h4 i m u hi hu
  .split at hk
   .cases hk
   .rename_i hn;obtain⟨g1,g2,g3,g4⟩:=h.owns k i hk;exact⟨g1,g2,λo=>by simp[V',hn,g3 o],by simp[V',hn,g4]⟩
 .rename_i kt et eo;rw[eo] at bj;obtain⟨k0,arr,clock,fT,h1,h2,h3,h4,h5,⟨hx,_⟩,h6⟩:=bj;have aJ:w0.heap.size<=w.heap.size:=h.below.size
  let V':Im:={c:=V.c,m:=λk=>if k=k0 then some (entriesOf arr) else V.m k}
  have hle:V.le V':=by
   refine⟨λk o v hc=>hc,λk es hc=>?_⟩;have:k≠k0:=λe=>by subst e;rw[(h.owns k j h2).2.2.2] at hc;cases hc
   simp[V',this,hc]
  refine⟨V',λk=>if k=k0 then none else own k,hle,h.step (λi=>i=j) rfl hle ?_ (λk o x hx=>.inl hx) (λk x hx=>?_) (.refl _ _) ⟨λ_=>aX _,λ_ _=>rfl⟩ (λi hi=>⟨?_,rfl,rfl,λk hk=>⟨?_,rfl⟩⟩) (λi hi=>?_) (λk i hk=>?_) (λ_=>id) (λt=>.inl ⟨rfl,rfl,rfl⟩) (λ_ _=>rfl) (λ_ _ _=>rfl) (λk i hk=>by
        split at hk
        .cases hk
        .exact .inl ⟨i,hk⟩) (λi hi=>by subst hi;simp[St.setO,aN])⟩
  .refine⟨h.ok.c,λk es hc=>?_,h.ok.f⟩;simp only[V'] at hc;split at hc
   .rename_i e;subst e;cases hc;refine .inl ⟨λe=>?_,arr,clock,h3,rfl⟩;refine GA (cap:=C.cap) (V:=V) (kt:=kt) (es:=fT) (by simp[entriesOf,h5]) (λi p q hp hq=>?_) e;simp only[entriesOf,cj,aB] at hp;obtain⟨x,cZ,rfl⟩:=hp;exact(h6 i x q (by simpa using cZ) hq).1
   .exact h.ok.m k es hc
  .simp only[V'] at hx;split at hx
   .rename_i e;subst e;exact .inr ⟨(h.owns k j h2).1,.inl ⟨j,h2⟩⟩
   .exact .inl hx
  .simp[St.setO,bA _ _ hi]
  .have:k≠k0:=λe=>by subst e;rw[h2] at hk;simp at hk;exact hi hk.symm
   simp[this,hk]
  .subst hi;simp only[St.setO,aN];refine⟨rfl,?_⟩;rw[h1,h4];refine .map kt et k0 (entriesOf arr) fT (by simp[V']) (by simp[entriesOf,h5]) hx (λi p q hp hq=>?_) (λi p q hp hq=>?_)
   .simp only[entriesOf,cj,aB] at hp;obtain⟨e,he,rfl⟩:=hp;exact((h6 i e q (by simpa using he) hq).1).mono hle
   .simp only[entriesOf,cj,aB] at hp;obtain⟨e,he,rfl⟩:=hp;exact((h6 i e q (by simpa using he) hq).2).mono hle
  .split at hk
   .cases hk
   .rename_i hn;obtain⟨g1,g2,g3,g4⟩:=h.owns k i hk;exact⟨g1,g2,g3,by simp[V',hn,g4]⟩
 .exact⟨V,own,.refl V,h⟩
def tD {j:Nat}{e:PE}{O':Env}(h:PI.runs Z [.setO j e] O=some O'):O'=O.setO j (e.ev O):=by
 simp[PI.runs,PI.run] at h;exact h.symm
def qn {O':Env}(h:PI.runs Z [] O=some O'):O'=O:=by
 simp[PI.runs] at h;exact h.symm
def DH (C:Ctx)(w0:World)(σ0:Base)(Z:aT)(S:St)(O:Env)(A:Nat->Prop)(a:Act)(w:World)(r:St×List PI):Prop:=
 ∀O',PI.runs Z r.2 O=some O'->Good C w0 σ0 r.1 O' A a w
def aoX (h:Inv C S O V own hv w0 σ0 A a w){b:Nat}{r:St×List PI}(hr:E9 S b=some r):DH C w0 σ0 Z S O A a w r:=by
 unfold E9 at hr;split at hr
 case h_2=>cases hr
 rename_i ag shs eo;simp only[az] at hr;obtain⟨x,hx,hr⟩:=hr;have bj:=h.objs b;rw[eo] at bj;obtain⟨k,cs,T,ds,h1,h2,h3,h4,h5,h6,h7⟩:=bj;obtain⟨l1,es,⟨he,uE⟩,l2,bJ⟩:=Qx (b:=.o b) h (cs:=cs.toList) h5 shs 0 x (λm s hm=>by rw[BL,fQ];exact(h7 m s hm).2) hx
 let V':Im:={c:=λk' o=>if k'=k then cs[o]? else V.c k' o,m:=V.m}
 have hle:V.le V':=by
  refine⟨λk' o v hc=>?_,λk es hc=>hc⟩;have:k'≠k:=λe=>by subst e;rw[(h.owns k' b h2).2.2.1 o] at hc;cases hc
  simp[V',this,hc]
 have key:∀(t:Ty) (v:Value) (d:D),Rep C.cap V' t v d->(∀(i:Nat) (u:Value),v.cells[i]?=some u->cs[i]?=some u)->
  Inv C (S.setO b (.fbox t)) (O.setO b d) V' (λk'=>if k'=k then none else own k') hv w0 σ0 A a w:=by
  intro t v d hrv aY
  refine h.step (λi=>i=b) rfl hle ?_ (λk' o x hx=>?_) (λ_ _ hx=>.inl hx) (.refl _ _) ⟨λ_=>aX _,λ_ _=>rfl⟩ (λi hi=>⟨?_,?_,rfl,λk' hk=>⟨?_,rfl⟩⟩) (λi hi=>?_) (λk' i hk=>?_) (λ_=>id) (λt=>.inl ⟨rfl,rfl,rfl⟩) (λ_ _=>rfl) (λ_ _ _=>rfl) (λk' i hk=>by
        split at hk
        .cases hk
        .exact .inl ⟨i,hk⟩) (λi hi=>by subst hi;simp[St.setO,aN])
  .refine⟨λk' o v hc=>?_,h.ok.m,λk' o v hc=>?_⟩
   all_goals simp only[V'] at hc
   all_goals split at hc
   .rename_i e;subst e;simp[World.cell?,h3,hc]
   .exact h.ok.c k' o v hc
   .rename_i e;subst e;exact .inr (ajs h3 o)
   .exact h.ok.f k' o v hc
  .simp only[V'] at hx;split at hx
   .rename_i e;subst e;exact .inr ⟨(h.owns k' b h2).1,.inl ⟨b,h2⟩⟩
   .exact .inl hx
  .simp[St.setO,bA _ _ hi]
  .simp[Env.setO,bA _ _ hi]
  .have:k'≠k:=λe=>by subst e;rw[h2] at hk;simp at hk;exact hi hk.symm
   simp[this,hk]
  .subst hi;simp only[St.setO,aN];exact⟨k,v,h1,by simp only[Env.setO,aN];exact hrv,λi u hu=>by simp[V',aY i u hu]⟩
  .split at hk
   .cases hk
   .rename_i hn;obtain⟨g1,g2,g3,g4⟩:=h.owns k' i hk;exact⟨g1,g2,λo=>by simp[V',hn,g3 o],g4⟩
 have jt:∀(m:Nat) (t:Ty),x.1[m]?=some t->t.one=true/\Rep C.cap V' t (cs.toList.getD m undef) (es.getD m .none):=λm t hm=>by
  obtain⟨g1,g2⟩:=bJ m t hm;rw[fQ] at g2;exact⟨g1,g2.mono hle⟩
 intro O' ak;cases ag with
 |true=>
  simp only[zyy] at hr;cases hr;have:=tD ak;subst this;refine⟨_,_,_,key (.agg x.1) (.agg cs.toList.toArray) _ ?_ (λi u hu=>by simpa [Value.cells] using hu)⟩;simp only[PE.ev,he];exact .agg _ _ _ (by simp;omega) (by omega) (λm t hm=>(jt m t hm).2) (λm t hm=>(jt m t hm).1)
 |false=>
  simp only[zyx] at hr;split at hr
  .rename_i t e et ee;cases hr;have:=tD ak;subst this;obtain⟨g1,g2⟩:=jt 0 t (by rw[et];rfl);have ju:es=[e.ev O]:=by rw[<-uE,ee];rfl
   subst ju;refine⟨_,_,_,key t (cs.toList.getD 0 undef) _ (by simpa using g2) (λi u hu=>?_)⟩;rw[(g2.oneCell g1).1] at hu;have hi:i=0:=by
        have:=(ei.1 hu).1;simpa using this
   subst hi;simp at hu;subst hu;have:0<cs.size:=by rw[h4];rw[et] at l1;simp at l1;omega
   rw[iM this];simp[aE,iM this]
  .cases hr
def Inv.mv (h:Inv C S O V own hv w0 σ0 A a w){j j':Nat}(au:j≠j')(hk:lH (S.o j)=true):
 Inv C (S.mv j j') (O.setO j' (O.o j)) V (λk=>if own k=some j then some j' else if own k=some j' then none else own k) (bY hv j' (hv j)) w0 σ0 A a w:=by
 have bj:=h.objs j
 refine h.step (λi=>i=j\/i=j') rfl (.refl V) h.ok (λ_ _ _ hx=>.inl hx) (λ_ _ hx=>.inl hx) (.refl _ _) ⟨λi=>?_,λi e=>?_⟩ (λi hi=>?_) (λi hi=>?_) (λk i hk=>?_) (λ_=>id) (λt=>.inl ⟨rfl,rfl,rfl⟩) (λ_ _=>rfl) (λ_ _ _=>rfl) (λk i hk=>by
        split at hk
        .rename_i e;exact .inl ⟨j,e⟩
        .split at hk
         .cases hk
         .exact .inl ⟨i,hk⟩) (λi hi=>by
        rcases hi with rfl|rfl
        .simp[St.mv,aN]
        .simp only[St.mv,bA _ _ (vm au),aN];intro e;rw[e] at hk;cases hk)
 .simp only[St.mv,fj];split
  .rename_i e;subst e;omega
  .split
   .rename_i e;subst e;omega
   .omega
 .simp only[St.mv,fj] at e;split at e
  .rename_i e';subst e';omega
  .split at e
   .rename_i e';subst e';omega
   .rename_i Sk;exact bA _ _ Sk
 .simp only[not_or] at hi;refine⟨by simp[St.mv,bA _ _ hi.1,bA _ _ hi.2],by simp[Env.setO,bA _ _ hi.2],bA _ _ hi.2,λk hk=>⟨?_,rfl⟩⟩;have e1:i≠j:=hi.1;have e2:i≠j':=hi.2;simp[hk,e1,e2]
 .rcases hi with rfl|rfl
  .simp only[St.mv,aN];trivial
  .simp only[St.mv,bA _ _ (vm au),aN];cases cS:S.o j with
   |row T e=>
    rw[cS] at bj;obtain⟨cells,xs,h1,h2,h3,h4⟩:=bj;refine⟨cells,xs,by simp only[Env.setO,aN];exact h1,by rw[aN];exact h2,h3,λk hk=>?_⟩;rw[aN] at hk;simp[h4 k hk]
   |mp kt et=>
    rw[cS] at bj;obtain⟨k0,arr,clock,es,h1,h2,h3,h4,h5,h6⟩:=bj;exact⟨k0,arr,clock,es,by rw[aN];exact h1,by simp[h2],h3,by simp only[Env.setO,aN];exact h4,h5,h6⟩
   |_=>rw[cS] at hk;simp[lH] at hk
 .split at hk
  .rename_i e;exact h.owns k j e
  .split at hk
   .cases hk
   .exact h.owns k i hk
def awE (h:Inv C S O V own hv w0 σ0 A a w){t j':Nat}{r:St×List PI}(hr:Ia S t j'=some r):DH C w0 σ0 Z S O A a w r:=by
 intro O' ak;unfold Ia at hr;split at hr
 .rename_i j ver es;cases hb:(Nat.beq ver (S.ver j)&&lH (S.o j)&& !Nat.beq j j')<;>simp only[hb,zyy,zyx] at hr
  .cases hr;rw[qn ak];exact⟨_,_,_,h⟩
  .cases hr;simp only[ao,kD] at hb;have dA:=ay hb.1.1;have au:j≠j':=λe=>by subst e;simp at hb
   have l0:=h.mv au hb.1.2;have gx:=h.regs t;rw[es] at gx;have cv:=gx.2 dA;rw[tD ak];refine⟨_,_,_,l0.step (S':=(S.mv j j').setR t (.obj j' (S.ver j'+1))) (λ_=>False) rfl (.refl V) l0.ok (λ_ _ _ hx=>.inl hx) (λ_ _ hx=>.inl hx) (.refl _ _) ⟨λ_=>aX _,λ_ _=>rfl⟩ (λi _=>⟨rfl,rfl,rfl,λk hk=>⟨hk,rfl⟩⟩) (λ_ hf=>hf.elim) l0.owns (λ_=>id) (λu=>?_) (λ_ _=>rfl) (λ_ _ _=>rfl) (λk i hk=>.inl ⟨i,hk⟩) (λ_ hf=>hf.elim)⟩;by_cases hu:u=t
   .subst hu;refine .inr ⟨?_,λgs s e=>by simp[St.setR,aN] at e⟩;simp only[St.setR,aN];refine⟨?_,λ_=>?_⟩
    .simp[St.mv,bA _ _ (vm au),aN]
    .rw[aN];exact cv
   .exact .inl ⟨by simp[St.setR,bA _ _ hu],rfl,rfl⟩
 .cases hr;rw[qn ak];exact⟨_,_,_,h⟩
def awD (h:Inv C S O V own hv w0 σ0 A a w){b i j':Nat}{r:St×List PI}(hr:H9 S b i j'=some r):DH C w0 σ0 Z S O A a w r:=by
 intro O' ak;unfold H9 at hr;split at hr
 .rename_i ag shs eo;split at hr
  .rename_i j ver es;cases hb:(Nat.beq ver (S.ver j)&&lH (S.o j)&& !Nat.beq j j'&& !Nat.beq b j'&& !Nat.beq b j)<;>simp only[hb,zyy,zyx] at hr
   .cases hr;rw[qn ak];exact⟨_,_,_,h⟩
   .cases hr;simp only[ao,kD] at hb;have dA:=ay hb.1.1.1.1;have au:j≠j':=λe=>by subst e;simp at hb
    have gq:b≠j':=λe=>by subst e;simp at hb
    have db:b≠j:=λe=>by subst e;simp at hb
    have bj:=h.objs b;rw[eo] at bj;obtain⟨k,cs,T,ds,h1,h2,h3,h4,h5,h6,h7⟩:=bj;have cv:=(h7 i _ es).2.2 dA;have l0:=h.mv au hb.1.1.1.2;rw[tD ak];have Q5:(S.mv j j').o b=.box ag shs:=by simp[St.mv,bA _ _ gq,bA _ _ db,eo]
    have FQ:=l0.objs b;rw[Q5] at FQ;refine⟨_,_,_,l0.step (S':=(S.mv j j').setO b (.box ag (shs.set i (.obj j' (S.ver j'+1))))) (λm=>m=b) rfl (.refl V) l0.ok (λ_ _ _ hx=>.inl hx) (λ_ _ hx=>.inl hx) (.refl _ _) ⟨λ_=>aX _,λ_ _=>rfl⟩ (λm hm=>⟨by simp[St.setO,bA _ _ hm],rfl,rfl,λk hk=>⟨hk,rfl⟩⟩) (λm hm=>?_) l0.owns (λ_=>id) (λt=>.inl ⟨rfl,rfl,rfl⟩) (λ_ _=>rfl) (λ_ _ _=>rfl) (λk i hk=>.inl ⟨i,hk⟩) (λm hm=>by subst hm;simp[St.setO,aN])⟩;subst hm;rw[St.setO_o];obtain⟨k1,ED,T1,EF,g1,g2,g3,g4,g5,g6,g7⟩:=FQ;have e1:ED=cs:=by
     rw[bA _ _ gq,h1] at g1;cases g1;rw[h3] at g3;cases g3;rfl
    refine⟨k1,ED,T1,EF,g1,g2,g3,by simpa using g4,g5,by simpa using g6,λq x hq=>?_⟩;rw[DM] at hq;split at hq
    .rename_i e;subst e;split at hq
     .cases hq;refine⟨(λ_ _ e=>by cases e),?_,λ_=>?_⟩
      .simp[St.setO,St.mv,bA _ _ (vm au),aN]
      .rw[aN,e1];exact cv
     .cases hq
    .obtain⟨f1,f2⟩:=g7 q x hq;exact⟨f1,f2.mono' (.refl V) (Compat.setO _ _ _ _) f1⟩
  .cases hr;rw[qn ak];exact⟨_,_,_,h⟩
 .cases hr;rw[qn ak];exact⟨_,_,_,h⟩
def aq6 (h:Inv C S O V own hv w0 σ0 A a w){b i j:Nat}{T:TypeId}{r:St×List PI}(hr:FU C S b i j T=some r):DH C w0 σ0 Z S O A a w r:=by
 intro O' ak;unfold FU at hr;split at hr
 .rename_i ag shs eo;split at hr
  .rename_i e0 e es et;cases hb:(!Nat.beq b j)<;>simp only[hb,zyy,zyx] at hr
   .cases hr;rw[qn ak];exact⟨_,_,_,h⟩
   .cases hr;have au:b≠j:=λe=>by subst e;simp at hb
    have bj:=h.objs b;rw[eo] at bj;obtain⟨k,cs,T0,ds,h1,h2,h3,h4,h5,h6,h7⟩:=bj;have cv:cs.getD i undef=.slice none 0 0:=by
     have:=(h7 i _ es).2;generalize cs.getD i undef=v at this;generalize ds.getD i .none=d at this;cases this;rfl
    have l5:=h.newO j (.row T e) (.list []) (.slice none 0 0) (λ_=>false) (.refl _ _) (by simp) ⟨[],[],by simp[Env.setO,aN],by rw[aN];exact World.ownsRow_nil _ _ _ _,⟨λ_=>undef,by simp,by simp⟩,by rw[aN];simp[Value.ownBlock]⟩;rw[tD ak];have Q5:(S.newO j (.row T e)).o b=.box ag shs:=by simp[St.newO,bA _ _ au,eo]
    have FQ:=l5.objs b;rw[Q5] at FQ;refine⟨_,_,_,l5.step (S':=(S.newO j (.row T e)).setO b (.box ag (shs.set i (.obj j (S.ver j+1))))) (λm=>m=b) rfl (.refl V) l5.ok (λ_ _ _ hx=>.inl hx) (λ_ _ hx=>.inl hx) (.refl _ _) ⟨λ_=>aX _,λ_ _=>rfl⟩ (λm hm=>⟨by simp[St.setO,bA _ _ hm],rfl,rfl,λk hk=>⟨hk,rfl⟩⟩) (λm hm=>?_) l5.owns (λ_=>id) (λt=>.inl ⟨rfl,rfl,rfl⟩) (λ_ _=>rfl) (λ_ _ _=>rfl) (λk i hk=>.inl ⟨i,hk⟩) (λm hm=>by subst hm;simp[St.setO,aN])⟩;subst hm;rw[St.setO_o];obtain⟨k1,ED,T1,EF,g1,g2,g3,g4,g5,g6,g7⟩:=FQ;have e1:ED=cs:=by
     rw[bA _ _ au,h1] at g1;cases g1;rw[h3] at g3;cases g3;rfl
    refine⟨k1,ED,T1,EF,g1,g2,g3,by simpa using g4,g5,by simpa using g6,λq x hq=>?_⟩;rw[DM] at hq;split at hq
    .rename_i e';subst e';split at hq
     .cases hq;refine⟨(λ_ _ e=>by cases e),?_,λ_=>?_⟩
      .simp[St.setO,St.newO,aN]
      .rw[aN,e1];exact cv
     .cases hq
    .obtain⟨f1,f2⟩:=g7 q x hq;exact⟨f1,f2.mono' (.refl V) (Compat.setO _ _ _ _) f1⟩
  .cases hr;rw[qn ak];exact⟨_,_,_,h⟩
 .cases hr;rw[qn ak];exact⟨_,_,_,h⟩
end
def mkObj (S:St)(dst:Nat)(ob:Ob):St:=(S.newO dst ob).setR dst (.obj dst (S.ver dst+1))
def mkPtr (S:St)(dst:Nat)(ob:Ob):St:=(S.newO dst ob).setR dst (.ptr dst (S.ver dst+1) 0)
abbrev lj:=Option (St×List PI)
def ES (C:Ctx)(S:St)(dst:Nat)(T:TypeId)(x:Operand):lj:=
 match use C S [] x,C.P.underlying T with
 |some (.nils _,_),some (.slice E)=>(qs C.P E).map λe=>(mkObj S dst (.row E e),[.setO dst (.con (.list [])),.setR dst (.con .none)])
 |_,_=>Option.none
def EH (C:Ctx)(S:St)(dst:Nat)(T:TypeId):lj:=
 match qs C.P T,C.P.info? T,rA C.P T with
 |some t,some inf,some ag=>
  bif ve inf t&&(t.rowT||t.one) then
   (qu t).map λz=>(mkPtr S dst (.box ag (z.1.flat.map .dat)),[.setO dst (.con (.agg z.2.cells)),.setR dst (.con .none)])
  else Option.none
 |_,_,_=>Option.none
def EJ (C:Ctx)(S:St)(dst:Nat)(T:TypeId)(x:Operand):lj:=
 match use C S [] x,rA C.P T with
 |some (t,e),some ag=>
  bif t.rowT||t.one then some (mkPtr S dst (.box ag (t.flat.map .dat)),[.setO dst (.mk [e]),.setR dst (.con .none)]) else Option.none
 |Option.none,some true=>
  match gI S [] x with
  |.agg l=>some (mkPtr S dst (.box true (l.map AgC.sh)),[.setO dst (rY x),.setR dst (.con .none)])
  |_=>Option.none
 |_,_=>Option.none
def EO (C:Ctx)(S:St)(dst:Nat)(T:TypeId)(r:Option Operand):lj:=
 match C.P.underlying T,r with
 |some (.map K E),Option.none=>
  (qs C.P K).bind λkt=>(qs C.P E).map λet=>(mkObj S dst (.mp kt et),[.setO dst (.con (.map [])),.setR dst (.con .none)])
 |_,_=>Option.none
def EP (C:Ctx)(S:St)(dst:Nat)(T:TypeId)(l c:Operand):lj:=
 match C.P.underlying T,use C S [] l,use C S [] c with
 |some (.slice E),some (.int _,n),some (.int _,m)=>
  (qs C.P E).bind λe=>
    bif sH C.P E e then
     (qu e).bind λz=>
        bif Ty.sub z.1 e then some (mkObj S dst (.row E e),[.chk (Tu n),.chk (.ci .eql n m),.setO dst (.rep n (.con z.2)),.setR dst (.con .none)]) else Option.none
    else Option.none
 |_,_,_=>Option.none
def ET (C:Ctx)(S:St)(dst:Nat)(T:TypeId)(x:Operand):lj:=
 match C.P.underlying T,gI S [] x with
 |some (.map _ _),.obj j ver=>
  bif Nat.beq ver (S.ver j)&& !Nat.beq j dst then
   match S.o j with
   |.mp kt et=>some (mkObj (S.mv j dst) dst (.it kt et),[.setO dst (.tup [.lst [],.o j]),.setR dst (.con .none)])
   |_=>Option.none
  else Option.none
 |_,_=>Option.none
def EK (C:Ctx)(S:St)(dst:Nat)(s d:TypeId)(x:Operand):lj:=
 match use C S [] x,C.P.underlying s,C.P.underlying d with
 |some (.str,e),some .string,some (.slice E)=>
  (match C.P.underlying E with
   |some (.int .u8)=>some (S.setR dst (.dat (.slice (.int .u8))),[.chk (.ci .leq (.slen e) (.con (.int oJ))),.setR dst (.bytes e)])
   |_=>Option.none)
 |_,_,_=>Option.none
section
variable {C:Ctx} {S:St} {O:Env} {V:Im} {own:Nat->Option Nat} {hv:Nat->Value} {w0:World} {σ0:Base} {A:Nat->Prop} {a:Act} {w:World} {gs:List (Nat×Bool)} {Z:aT} {dst:Nat}
def bU (C:Ctx)(w0:World)(σ0:Base)(Z:aT)(S:St)(O:Env)(A:Nat->Prop)(a:Act)(w:World)(o:Oper)(r:St×List PI):Prop:=
 ∀O',PI.runs Z r.2 O=some O'->∀(K:Act->World->Prop) (Q:Exit->Act->World->Prop),(∀a' w',Good C w0 σ0 r.1 O' (λu=>A u\/o.dst=some u) a' w'->a'.tmps.size=a.tmps.size->K a' w')->o.wp C.P a w K Q
def size_put (a:Act)(d:Option Tmp)(v:Value):(a.put d v).tmps.size=a.tmps.size:=by
 cases d<;>simp[Act.put]
def bU.value {o:Oper}{r:St×List PI}(hd:o.dst=some dst)(hx:∀O',PI.runs Z r.2 O=some O'->∃v w',(execOp a.eval o).run C.P w=.ok (.value v) w'/\Good C w0 σ0 r.1 O' (λu=>A u\/u=dst) (a.put (some dst) v) w'):bU C w0 σ0 Z S O A a w o r:=by
 intro O' ak K Q hK;obtain⟨v,w',h1,h2⟩:=hx O' ak;simp only[Oper.wp,h1,Oper.upon,hd];refine hK _ _ ?_ (size_put _ _ _)
 have:(λu=>A u\/o.dst=some u)=(λu=>A u\/u=dst):=by
  funext u;rw[hd];simp[eq_comm]
 rw[this];exact h2
def bU.skip {o:Oper}{r:St×List PI}(hd:o.dst=none)(hx:∀O',PI.runs Z r.2 O=some O'->∃w',(execOp a.eval o).run C.P w=.ok .skip w'/\Good C w0 σ0 r.1 O' A a w'):bU C w0 σ0 Z S O A a w o r:=by
 intro O' ak K Q hK;obtain⟨w',h1,h2⟩:=hx O' ak;simp only[Oper.wp,h1,Oper.upon,hd]
 have:(λu=>A u\/o.dst=some u)=A:=by
  funext u;rw[hd];simp
 rw[this] at hK;exact hK _ _ h2 (size_put _ _ _)
def eI.eff (h:Inv C S O V own hv w0 σ0 A a w)(ht:¬A dst)(af:dst<a.tmps.size){o:Oper}(hd:o.dst=some dst){s:Sh}{GK:List PI}(hq:eI C S O V hv Z dst a w o (s,GK)):bU C w0 σ0 Z S O A a w o (S.setR dst s,GK):=by
 refine bU.value hd λO' ak=>?_;obtain⟨v,d,rfl,h1,h2,h3⟩:=hq O' ak;exact⟨v,w,h1,V,own,hv,h.setReg ht (aG.mono' (.refl V) (.refl S hv) h3 h2) af (λgs s' e=>absurd e (h3 gs s'))⟩
def eI.effG (h:Inv C S O V own hv w0 σ0 A a w)(ht:¬A dst)(af:dst<a.tmps.size)(ew:∀g,g∈gs->A g.1)(hg:holds gs O=true){o:Oper}(hd:o.dst=some dst){s:Sh}{GK:List PI}(hq:eI C S O V hv Z dst a w o (s,GK)):bU C w0 σ0 Z S O A a w o (S.setR dst (.opt gs s),GK):=by
 refine bU.value hd λO' ak=>?_;obtain⟨v,d,rfl,h1,h2,h3⟩:=hq O' ak;have hh:holds gs (O.setR dst d)=true:=by rw[FT (t:=dst) (d:=d) λg hm e=>ht (by rw[<-e];exact ew g hm)];exact hg
 refine⟨v,w,h1,V,own,hv,h.setReg ht ⟨λ_=>aG.mono' (.refl V) (.refl S hv) h3 h2,λe=>absurd (hh.symm.trans e) (by decide)⟩ af (λbM s' e=>?_)⟩;cases e;exact⟨ew,h3⟩
def Inv.passed (h:Inv C S O V own hv w0 σ0 A a w)(ht:¬A dst)(af:dst<a.tmps.size)(ew:∀g,g∈gs->A g.1)(hg:holds gs O=false){s:Sh}(hs:∀bM s',s≠.opt bM s')(d:D):Inv C (S.setR dst (.opt gs s)) (O.setR dst d) V own hv w0 σ0 (λu=>A u\/u=dst) (a.put (some dst) undef) w:=by
 have hh:holds gs (O.setR dst d)=false:=by rw[FT (t:=dst) (d:=d) λg hm e=>ht (by rw[<-e];exact ew g hm)];exact hg
 refine h.setReg ht (s:=.opt gs s) (v:=undef) (d:=d) ⟨λe=>absurd (hh.symm.trans e) (by decide),λ_=>rfl⟩ af (λbM s' e=>?_);cases e;exact⟨ew,hs⟩
def Inv.mkObj (h:Inv C S O V own hv w0 σ0 A a w)(ht:¬A dst)(af:dst<a.tmps.size)(ob:Ob)(d:D)(v:Value)(nb:Nat->Bool){w':World}(hw:Below w.heap.size w w')(dS:∀k,nb k=true->w.heap.size<=k/\k<w'.heap.size)
 (cS:bZ C (S.newO dst ob) (O.setO dst d) V (fJ own dst nb) (bY hv dst v) w' w0.heap.size dst ob) (oA:ob≠.tr:=by intro h;cases h):
 Good C w0 σ0 (Cx.mkObj S dst ob) ((O.setO dst d).setR dst .none) (λu=>A u\/u=dst) (a.put (some dst) v) w':=by
 have h1:=h.newO dst ob d v nb hw dS cS oA;have h2:=h1.setObj ht (j:=dst) (v:=v) (aN _ _ _) af;have e:(S.newO dst ob).ver dst=S.ver dst+1:=aN _ _ _;rw[e] at h2;exact⟨_,_,_,h2⟩
def Inv.mkPtr (h:Inv C S O V own hv w0 σ0 A a w)(ht:¬A dst)(af:dst<a.tmps.size)(ob:Ob)(d:D)(k:Nat)(nb:Nat->Bool){w':World}(hw:Below w.heap.size w w')(dS:∀k,nb k=true->w.heap.size<=k/\k<w'.heap.size)
 (cS:bZ C (S.newO dst ob) (O.setO dst d) V (fJ own dst nb) (bY hv dst (.pointer (some ⟨k,0,none⟩))) w' w0.heap.size dst ob) (oA:ob≠.tr:=by intro h;cases h):
 Good C w0 σ0 (Cx.mkPtr S dst ob) ((O.setO dst d).setR dst .none) (λu=>A u\/u=dst) (a.put (some dst) (.pointer (some ⟨k,0,none⟩))) w':=by
 have h1:=h.newO dst ob d _ nb hw dS cS oA;have e:(S.newO dst ob).ver dst=S.ver dst+1:=aN _ _ _;have h2:=h1.setReg ht (s:=.ptr dst (S.ver dst+1) 0) (v:=.pointer (some ⟨k,0,none⟩)) (d:=.none) ⟨Nat.le_of_eq e.symm,λ_=>⟨k,aN _ _ _,rfl⟩⟩ af (λ_ _ e=>by cases e);exact⟨_,_,_,h2⟩
def Di {e:PE}{O':Env}(h:PI.runs Z [.setO dst e,.setR dst (.con .none)] O=some O'):O'=(O.setO dst (e.ev O)).setR dst .none:=by
 simp[PI.runs,PI.run,PE.ev] at h;exact h.symm
def aa6 (h:Inv C S O V own hv w0 σ0 A a w){t:Ty}{v:Value}{d:D}(hr:Rep C.cap V t v d)(ho:t.rowT=true\/t.one=true)(ag:Bool)(T:TypeId):
 bZ C (S.newO dst (.box ag (t.flat.map .dat))) (O.setO dst (.agg d.cells)) V (fJ own dst (λk=>Nat.beq k w.heap.size)) (bY hv dst (.pointer (some ⟨w.heap.size,0,none⟩))) (w.alloc (.cells v.cells T)) w0.heap.size dst (.box ag (t.flat.map .dat)):=by
 obtain⟨f1,f2,f3⟩:=hr.flat ho;refine⟨w.heap.size,v.cells,T,d.cells,aN _ _ _,by simp[fJ],heap_alloc_new w _,by rw[hr.size];simp[f1],by simp[Env.setO,aN],by simp[f1,f2],λi s hi=>?_⟩;simp only[cj,aB] at hi;obtain⟨ti,SQ,rfl⟩:=hi;exact⟨λ_ _ e=>(by cases e),(f3 i ti SQ).2⟩
def am3 (h:Inv C S O V own hv w0 σ0 A a w)(hC:CtxOK C σ0)(ht:¬A dst)(af:dst<a.tmps.size){T:TypeId}{x:Operand}{r:St×List PI}(hr:ES C S dst T x=some r){o:Oper}(hd:o.dst=some dst)(ho:o.op=.assign x):bU C w0 σ0 Z S O A a w o r:=by
 unfold ES at hr;split at hr
 case h_2=>cases hr
 rename_i e0 e1 E hu hT;simp only[aB] at hr;obtain⟨e,he,rfl⟩:=hr;have hx:=cw h hC rfl hu;have cv:a.eval x=.slice none 0 0:=by
  generalize a.eval x=v at hx;generalize e1.ev O=d at hx;cases hx;rfl
 refine bU.value hd λO' ak=>⟨.slice none 0 0,w,by simp[execOp,ho,cv],?_⟩
 rw[Di ak];exact h.mkObj ht af (.row E e) _ _ (λ_=>false) (.refl _ _) (by simp) ⟨[],[],by simp[Env.setO,aN,PE.ev],by rw[aN];exact World.ownsRow_nil _ _ _ _,⟨λ_=>undef,by simp,by simp⟩,by rw[aN];simp[Value.ownBlock]⟩
def amB (h:Inv C S O V own hv w0 σ0 A a w)(ht:¬A dst)(af:dst<a.tmps.size){T:TypeId}{r:St×List PI}(hr:EH C S dst T=some r){o:Oper}(hd:o.dst=some dst)(ho:o.op=.alloc T):bU C w0 σ0 Z S O A a w o r:=by
 unfold EH at hr;split at hr
 case h_2=>cases hr
 rename_i t inf ag SU hi ha;cases hc:(ve inf t&&(t.rowT||t.one))<;>simp only[hc,zyy,zyx] at hr
 .cases hr
 simp only[ao,kE] at hc;simp only[aB] at hr;obtain⟨z,hz,rfl⟩:=hr;obtain⟨v0,eC,Cj⟩:∃v0,inf.zero=some v0/\j4 t v0=true:=by
  have:=hc.1;unfold ve at this;split at this
  .exact⟨_,by assumption,this⟩
  .cases this
 obtain⟨k1,k2,k3⟩:=zZ (cap:=C.cap) (V:=V) hz Cj;have cW:z.1.rowT=true\/z.1.one=true:=by
  rcases hc.2 with e|e
  .left;cases t<;>simp[Ty.rowT] at e;simp[qu] at hz;obtain⟨_,_,rfl⟩:=hz;rfl
  .right;rw[k3];exact e
 refine bU.value hd λO' ak=>⟨.pointer (some ⟨w.heap.size,0,none⟩),w.alloc (.cells v0.cells T),?_,?_⟩
 .simp[execOp,ho,Instr.alloc,zeroValue,run_typeInfo w hi,eC,newVar,newRow]
 .rw[Di ak];exact h.mkPtr ht af _ _ _ (λk=>Nat.beq k w.heap.size) ((Below.refl _ _).alloc (aX _) _) (λk hk=>by simp at hk;simp;omega) (aa6 h k1 cW ag T)
def Compat.newO (S:St)(hv:Nat->Value)(j:Nat)(ob:Ob)(v:Value):Compat S hv (S.newO j ob) (bY hv j v):=by
 refine⟨λi=>?_,λi e=>?_⟩
 .simp only[St.newO,fj];split<;>rename_i e
  .subst e;omega
  .omega
 .simp only[St.newO,fj] at e;split at e
  .rename_i e';subst e';omega
  .rename_i au;exact bA _ _ au
def amF (h:Inv C S O V own hv w0 σ0 A a w)(hC:CtxOK C σ0)(ht:¬A dst)(af:dst<a.tmps.size){T:TypeId}{x:Operand}{r:St×List PI}(hr:EJ C S dst T x=some r){o:Oper}(hd:o.dst=some dst)(ho:o.op=.box T x):bU C w0 σ0 Z S O A a w o r:=by
 unfold EJ at hr;split at hr
 case h_3=>cases hr
 case h_2=>
  rename_i hu ha;split at hr
  case h_2=>cases hr
  rename_i l jO;cases hr;have gx:=(tJ h (gs:=[]) rfl x).1;rw[jO] at gx;obtain⟨vs,ds,e1,e2,e3,e4,e5⟩:=gx;refine bU.value hd λO' ak=>⟨.pointer (some ⟨w.heap.size,0,none⟩),w.alloc (.cells (a.eval x).cells T),?_,?_⟩
  .simp[execOp,ho,Instr.box,newVar,newRow]
  .rw[Di ak,e2];refine h.mkPtr ht af _ _ _ (λk=>Nat.beq k w.heap.size) ((Below.refl _ _).alloc (aX _) _) (λk hk=>by simp at hk;simp;omega) ⟨w.heap.size,(a.eval x).cells,T,ds,aN _ _ _,by simp[fJ],heap_alloc_new w _,by rw[e1];simp[Value.cells,e3],by simp[Env.setO,aN],by simp[e4],λi s hi=>?_⟩;simp only[cj,aB] at hi;obtain⟨c,hc,rfl⟩:=hi;have bL:(a.eval x).cells.getD i undef=vs.getD i undef:=by rw[e1];simp[Value.cells,aE,fM]
   have h6:=(e5 i c hc).monoR (Im.le.leR (.refl V)) (Compat.newO S hv dst (.box true (l.map AgC.sh)) (.pointer (some ⟨w.heap.size,0,none⟩)));rw[bL];cases c with
   |dat t=>exact⟨λ_ _ e=>(by cases e),h6.2⟩
   |obj j ver=>exact⟨λ_ _ e=>(by cases e),h6⟩
 rename_i t e ag hu ha;cases hc:(t.rowT||t.one)<;>simp only[hc,zyy,zyx] at hr
 .cases hr
 cases hr;simp only[kE] at hc;have hx:=cw h hC rfl hu;refine bU.value hd λO' ak=>⟨.pointer (some ⟨w.heap.size,0,none⟩),w.alloc (.cells (a.eval x).cells T),?_,?_⟩
 .simp[execOp,ho,Instr.box,newVar,newRow]
 .rw[Di ak];have:(PE.mk [e]).ev O=.agg (e.ev O).cells:=by simp[PE.ev,PE.evc]
  rw[this];exact h.mkPtr ht af _ _ _ (λk=>Nat.beq k w.heap.size) ((Below.refl _ _).alloc (aX _) _) (λk hk=>by simp at hk;simp;omega) (aa6 h hx hc ag T)
def amX (h:Inv C S O V own hv w0 σ0 A a w)(ht:¬A dst)(af:dst<a.tmps.size){T:TypeId}{m:Option Operand}{r:St×List PI}(hr:EO C S dst T m=some r){o:Oper}(hd:o.dst=some dst)(ho:o.op=.makeMap T m):bU C w0 σ0 Z S O A a w o r:=by
 unfold EO at hr;split at hr
 case h_2=>cases hr
 rename_i K E hT;simp only[az,aB] at hr;obtain⟨kt,hk,et,he,rfl⟩:=hr;refine bU.value hd λO' ak=>⟨.map (some w.heap.size),w.alloc (.map #[] 0),?_,?_⟩
 .simp[execOp,ho,Instr.makeMap]
 .rw[Di ak]
  exact h.mkObj ht af (.mp kt et) _ _ (λk=>Nat.beq k w.heap.size) ((Below.refl _ _).alloc (aX _) _) (λk hk=>by simp at hk;simp;omega)
   ⟨w.heap.size,#[],0,[],aN _ _ _,by simp[fJ],heap_alloc_new w _,by simp[Env.setO,aN,PE.ev],rfl,⟨by simp,by simp[nC]⟩,by simp⟩
def am5 (h:Inv C S O V own hv w0 σ0 A a w)(ht:¬A dst)(af:dst<a.tmps.size){T:TypeId}{x:Operand}{r:St×List PI}(hr:ET C S dst T x=some r){o:Oper}(hd:o.dst=some dst)(ho:o.op=.range T x):bU C w0 σ0 Z S O A a w o r:=by
 unfold ET at hr;split at hr
 case h_2=>cases hr
 rename_i K E j ver hT es;obtain⟨dU,_⟩:=tJ h (gs:=[]) rfl x;rw[es] at dU;cases hb:(Nat.beq ver (S.ver j)&& !Nat.beq j dst)<;>simp only[hb,zyy,zyx] at hr
 .cases hr
 simp only[ao,kD] at hb;have cv:=dU.2 (ay hb.1);have au:j≠dst:=λe=>by subst e;simp at hb
 have bj:=h.objs j;split at hr
 case h_2=>cases hr
 rename_i kt et eo;cases hr;rw[eo] at bj;obtain⟨m,arr,clock,ds,h1,h2,h3,h4,h5,⟨h6,sO⟩,h7⟩:=bj;have l0:=h.mv au (by rw[eo];rfl);have rq:m<w.heap.size:=(ei.1 h3).1;have Sa:w0.heap.size<=m:=(h.owns m j h2).1;refine bU.value hd λO' ak=>⟨.pointer (some ⟨w.heap.size,0,none⟩),w.alloc (.mapIter (some m) clock #[] clock),?_,?_⟩
 .simp[execOp,ho,Instr.range,cv,h1,run_underlying hT,getObj,Sem.run,h3]
 have hρ:O'=((O.setO dst (.tup [.list [],.map ds])).setR dst .none):=by
  simp[PI.runs,PI.run,PE.ev,PE.evs,h4] at ak;exact ak.symm
 subst hρ;have fy:Below w.heap.size w (w.alloc (.mapIter (some m) clock #[] clock)):=(Below.refl _ _).alloc (aX _) _;have yR:=l0.step (S':=(S.mv j dst).newO dst (.it kt et)) (O':=(O.setO dst (.tup [.list [],.map ds]))) (V':=V) (hv':=bY (bY hv dst (hv j)) dst (.pointer (some ⟨w.heap.size,0,none⟩)))
  (own':=λk=>if k=w.heap.size then some dst else(if own k=some j then some dst else if own k=some dst then none else own k)) (a':=a) (A':=A) (w':=w.alloc (.mapIter (some m) clock #[] clock)) (λi=>i=dst)
  rfl (.refl V) (h.ok.below fy) (λ_ _ _ hx=>.inl hx) (λ_ _ hx=>.inl hx) (fy.mono h.below.size) ⟨λi=>?_,λi e=>?_⟩ (λi hi=>⟨?_,?_,?_,λk hk=>⟨?_,?_⟩⟩) (λi hi=>?_) (λk i hk=>?_) (λ_=>id) (λt=>.inl ⟨rfl,rfl,rfl⟩) (λ_ _=>rfl) (λk hk _=>fy.block k hk) (λk i hk=>?_) (λi hi=>by subst hi;simp[St.newO,aN])
 .have fa:=yR.setObj ht (j:=dst) (v:=.pointer (some ⟨w.heap.size,0,none⟩)) (aN _ _ _) af;have e:((S.mv j dst).newO dst (.it kt et)).ver dst=(S.mv j dst).ver dst+1:=aN _ _ _;rw[e] at fa;exact⟨_,_,_,fa⟩
 .simp only[St.newO,fj];split<;>rename_i e
  .subst e;omega
  .omega
 .simp only[St.newO,fj] at e;split at e
  .rename_i e';subst e';omega
  .rename_i Sk;exact bA _ _ Sk
 .simp[St.newO,bA _ _ hi]
 .simp[Env.setO,bA _ _ hi]
 .exact bA _ _ hi
 .have aF2:=(l0.owns k i hk).2.1;have bf:k≠w.heap.size:=by omega
  simp only[if_neg bf];exact hk
 .exact fy.block k (l0.owns k i hk).2.1
 .subst hi;simp only[St.newO,aN];have fB:m≠w.heap.size:=by omega
  refine⟨w.heap.size,m,arr,clock,ds,[],aN _ _ _,by simp,by simp[fB,h2],by omega,?_,heap_alloc_new w _,by simp[Env.setO,aN,gZ],List.nodup_nil,by simp,h5,sO,h7⟩;rw[fy.block m rq];exact h3
 .split at hk
  .rename_i e;subst e;refine⟨h.below.size,by simp,λo=>?_,?_⟩
   .cases hc:V.c w.heap.size o with
    |none=>rfl
    |some u=>have:=h.lt hc;omega
   .cases hc:V.m w.heap.size with
    |none=>rfl
    |some u=>have:=h.ltm hc;omega
  .obtain⟨g1,g2,g3,g4⟩:=l0.owns k i hk;exact⟨g1,by simp;omega,g3,g4⟩
 .split at hk
  .rename_i e;subst e;exact .inr (aX _)
  .exact .inl ⟨i,hk⟩
def amJ (h:Inv C S O V own hv w0 σ0 A a w)(hC:CtxOK C σ0)(ht:¬A dst)(af:dst<a.tmps.size){T U:TypeId}{x:Operand}{r:St×List PI}(hr:EK C S dst T U x=some r){o:Oper}(hd:o.dst=some dst)(ho:o.op=.convert T U x):bU C w0 σ0 Z S O A a w o r:=by
 unfold EK at hr;split at hr
 case h_2=>cases hr
 rename_i e E hu hT hU;split at hr
 case h_2=>cases hr
 rename_i hE;cases hr;have hx:=cw h hC rfl hu;obtain⟨s,aP,bt,hs⟩:=hx.str_inv;have pO:=Lib.run_convert_string_bytes (P:=C.P) w T U E s hT hU hE;refine bU.value hd λO' ak=>⟨.slice (some ⟨w.heap.size,0,none⟩) s.size (grownCap w s.size 0 E),Lib.bytesWorld w E s,by simp[execOp,ho,aP,pO],?_⟩
 simp only[PI.runs,PI.run,az] at ak;obtain⟨ρ1,g1,ρ2,g2,g3⟩:=ak;cases c1:((PE.ci BinOp.leq (.slen e) (.con (.int oJ))).ev O).b<;>simp only[c1,zyy,zyx] at g1
 .cases g1
 cases g1;cases g2;cases g3;have aqF:s.size<=4294967296:=by
  simp[PE.ev,bt,D.s,D.i,D.b,jL,D.int,oJ] at c1;omega
 have fy:Below w.heap.size w (Lib.bytesWorld w E s):=⟨rfl,rfl,rfl,by rw[Lib.bytesWorld_size];omega,λk hk=>Lib.bytesWorld_at_old w E s k hk⟩
 have aJ:(Lib.bytesWorld w E s).heap.size=w.heap.size+1:=Lib.bytesWorld_size w E s
 let V':Im:={c:=λk i=>if k=w.heap.size then(if i<s.size then some (.int .u8 (s.data.toList.getD i 0).toNat) else none) else V.c k i,m:=V.m}
 have hle:V.le V':=by
  refine⟨λk o v hc=>?_,λk es hc=>hc⟩;have:k≠w.heap.size:=by have:=h.lt hc;omega
  simp[V',this,hc]
 have ar:V'.ok (Lib.bytesWorld w E s):=by
  refine⟨λk i v hc=>?_,(h.ok.below fy).m,λk i v hc=>?_⟩
  all_goals simp only[V'] at hc
  all_goals split at hc
  .rename_i ek;subst ek;split at hc
   .rename_i hi;cases hc;exact Lib.bytesWorld_cell w E s i hi
   .cases hc
  .exact(h.ok.below fy).c k i v hc
  .split at hc<;>cases hc
  .exact(h.ok.below fy).f k i v hc
 have h1:=h.step (S':=S) (O':=O) (V':=V') (own':=own) (hv':=hv) (A':=A) (a':=a) (w':=Lib.bytesWorld w E s) (λ_=>False) rfl hle ar (λk i v hc=>?_) (λk es hc=>.inl hc) (fy.mono h.below.size) ⟨λ_=>aX _,λ_ _=>rfl⟩
  (λj _=>⟨rfl,rfl,rfl,λk hk=>⟨hk,fy.block k (h.owns k j hk).2.1⟩⟩) (λj hj=>hj.elim) (λk j hk=>?_) (λ_=>id) (λt=>.inl ⟨rfl,rfl,rfl⟩) (λ_ _=>rfl) (λk hk _=>fy.block k hk) (λk i hk=>.inl ⟨i,hk⟩) (λ_ hf=>hf.elim)
 .refine⟨_,_,_,h1.setReg ht (s:=.dat (.slice (.int .u8))) ?_ af (λ_ _ e=>by cases e)⟩;show Rep C.cap V' _ _ _;simp only[PE.ev,bt,D.s];refine .slice (.int .u8) w.heap.size 0 s.size _ _ (λi=>.int .u8 (s.data.toList.getD i 0).toNat) (by simp) (grownCap_ge w s.size 0 E) (grownCap_le_maxLen w s.size 0 E (by unfold maxLen;omega)) (λi x hx=>?_) (λi j u hi hu=>?_) (λe=>by cases e)
  .simp only[cj,aB] at hx;obtain⟨b,hb,rfl⟩:=hx;have:s.data.toList.getD i 0=b:=by simp[aE,hb]
   rw[this];have:=b.toNat_lt;exact .int .u8 _ (by show(0:Int)<=_;omega) (by show _<=(255:Int);omega)
  .have hj:j=0:=by
        have:=(ei.1 hu).1;simp[Value.cells] at this;exact this
   subst hj;simp[Value.cells] at hu;subst hu;simp[V',Ty.size,hi]
 .simp only[V'] at hc;split at hc
  .rename_i ek;exact .inr ⟨by have:=h.below.size;omega,.inr (by omega)⟩
  .exact .inl hc
 .obtain⟨g1,g2,g3,g4⟩:=h.owns k j hk;refine⟨g1,by omega,λi=>?_,g4⟩;have:k≠w.heap.size:=by omega
  simp[V',this,g3 i]
end
def KL (C:Ctx)(S:St)(gs:List (Nat×Bool))(e:Ty)(z:D)(parts:List (Nat×Operand))(i:Nat):Option PE:=
 match parts.find? (λp=>Nat.beq p.1 i) with
 |some p=>(use C S gs p.2).bind λa=>bif Ty.sub a.1 e then some a.2 else Option.none
 |Option.none=>some (PE.con z)
def ya (C:Ctx)(S:St)(gs:List (Nat×Bool))(dst:Nat)(T:TypeId)(len:Nat)(parts:List (Nat×Operand)):lj:=
 match C.P.underlying T with
 |some (.slice E)=>
  (qs C.P E).bind λe=>(qu e).bind λz=>
    bif sH C.P E e&&Ty.sub z.1 e&&gX (parts.map (·.1))&&parts.all (λp=>Nat.blt p.1 len)&&Nat.ble (len*e.size) 16777216 then
     ((List.range len).mapM (KL C S gs e z.2 parts)).map λes=>(mkObj S dst (.row E e),[.setO dst (.lst es),.setR dst (.con .none)])
    else Option.none
 |_=>Option.none
def BA (C:Ctx)(S:St)(gs:List (Nat×Bool))(dst:Nat)(T:TypeId)(len:Nat)(parts:List (Nat×Operand)):lj:=
 match C.P.underlying T,ya C S gs dst T len parts with
 |some (.slice E),some r=>
  (qs C.P E).bind λe=>
    match r.2 with
    |.setO _ x::_=>some ((S.newO dst .dead).setR dst (match gs with|[]=>.dat (.slice e.rol)|_=>.opt gs (.dat (.slice e.rol))),[.setR dst x])
    |_=>Option.none
 |_,_=>Option.none
def Rl (S:St):AgC->Bool
 |.dat _=>true
 |.obj j ver=>Nat.beq ver (S.ver j)&&lH (S.o j)
def EV (C:Ctx)(S:St)(T:TypeId)(x v:Operand):lj:=
 match C.P.info? T with
 |some inf=>
  match gI S [] x with
  |.ptr j ver off=>
   bif Nat.beq ver (S.ver j) then
    match S.o j with
    |.box ag shs=>
     match use C S [] v with
     |some (t,e)=>
      bif Nat.beq inf.size t.size&&(t.rowT||t.one)&&Nat.ble (off+t.size) shs.length then
             some (S.setO j (.box ag (shs.take off++t.flat.map .dat++shs.drop (off+t.size))),[.setO j (.setc (.o j) off e)])
      else Option.none
     |Option.none=>
      match gI S [] v with
      |.obj j' ny=>
       bif Nat.beq ny (S.ver j')&&lH (S.o j')&&Nat.beq inf.size 1&&Nat.blt off shs.length then
              some (S.setO j (.box ag (shs.set off (.obj j' ny))),[.setO j (.setc (.o j) off (.con .none))])
       else Option.none
      |.agg l=>
       bif Nat.beq inf.size l.length&&Nat.ble (off+l.length) shs.length&&l.all (Rl S) then
              some (S.setO j (.box ag (shs.take off++l.map AgC.sh++shs.drop (off+l.length))),[.setO j (.setc (.o j) off (rY v))])
       else Option.none
      |_=>Option.none
    |_=>Option.none
   else Option.none
  |.eptr j ver size off=>
   bif Nat.beq ver (S.ver j) then
    match S.o j,use C S [] v with
    |.row _ (.agg ts),some (t,e)=>
     bif Nat.beq inf.size t.size&&(t.rowT||t.one)&&Nat.beq size ts.length&&Nat.ble (off+t.size) ts.length&&Ty.subs t.flat ((ts.drop off).take t.size) then
         some (S,[.setO j (.setn (.o j) (rY x) off e)])
     else Option.none
    |.row _ e0,some (t,e)=>
     bif Nat.beq inf.size 1&&Nat.beq size 1&&Nat.beq off 0&&e0.one&&Ty.sub t e0 then some (S,[.setO j (.setn (.o j) (rY x) 0 e)]) else Option.none
    |_,_=>Option.none
   else Option.none
  |_=>Option.none
 |Option.none=>Option.none
def BB (C:Ctx)(S:St)(T:TypeId)(m k v:Operand):lj:=
 match C.P.underlying T,gI S [] m with
 |some (.map K _),.obj j ver=>
  bif Nat.beq ver (S.ver j) then
   match S.o j,use C S [] k,use C S [] v with
   |.mp kt et,some (tk,ek),some (tv,ev)=>
    bif Ty.beq tk kt&&wg C.P K kt&&Ty.sub tv et then some (S,[.chk (.ci .lss (.mlen (.o j)) (.con (.int oJ))),.setO j (.put (.o j) ek ev)]) else Option.none
   |_,_,_=>Option.none
  else Option.none
 |_,_=>Option.none
def Ma (x y:PE):PE:=.ci .leq (.llen (.app x y)) (.con (.int oJ))
def Om:Ty->Ty->Bool
 |.slice e',e=>Ty.beq e'.unf e
 |.nils _,_=>true
 |_,_=>false
def EI (C:Ctx)(S:St)(dst:Nat)(T:TypeId)(s x:Operand):lj:=
 match C.P.underlying T with
 |some (.slice E)=>
  (qs C.P E).bind λe=>
    match view C S [] x with
    |some (tx,ex)=>
     bif sH C.P E e&&Om tx e then
        match use C S [] s with
        |some (.nils _,_)=>some (mkObj S dst (.row E e),[.chk (Ma (.con (.list [])) ex),.setO dst (.app (.con (.list [])) ex),.setR dst (.con .none)])
        |some _=>Option.none
        |Option.none=>
         match gI S [] s with
         |.obj j ver=>
          bif Nat.beq ver (S.ver j) then
             match S.o j with
             |.row E' e'=>
              bif Nat.beq E' E&&Ty.beq e' e then
                some ((S.newO j (.row E e)).setR dst (.obj j (S.ver j+1)),[.chk (Ma (.o j) ex),.setO j (.app (.o j) ex),.setR dst (.con .none)])
              else Option.none
             |_=>Option.none
          else Option.none
         |_=>Option.none
     else Option.none
    |Option.none=>Option.none
 |_=>Option.none
def QZ {P:Program}{T:TypeId}{e:Ty}(h:sH P T e=true):∃inf z,P.info? T=some inf/\inf.size=e.size/\inf.bytes<=y7/\1<=e.size/\inf.zero=some z/\j4 e z=true:=by
 unfold sH at h;split at h
 .rename_i i hi;simp only[ao] at h;have h4:=h.2;unfold ve at h4;split at h4
  .rename_i z hz;exact⟨i,z,hi,ay h.1.1.1,jH h.1.1.2,jH h.1.2,hz,h4⟩
  .cases h4
 .cases h
def Z4 {e:Ty}{z:Value}(h:j4 e z=true):z.cells.size=e.size:=by
 cases e with
 |agg ts=>
  cases z with
  |agg vs=>simp only[j4] at h;have:=(Z5 ts vs.toList h).1;simpa [Value.cells,Ty.size] using this
  |_=>simp[j4] at h
 |_=>cases z<;>simp_all [j4,zY,Value.cells,Ty.size]
def alI {O:Env}{x y:PE}(h:((PE.ci .lss x y).ev O).b=true):(x.ev O).i<(y.ev O).i:=by
 simpa [PE.ev,D.b_bool,jL] using h
def abo {O:Env}{x y:PE}(h:((PE.ci .leq x y).ev O).b=true):(x.ev O).i<=(y.ev O).i:=by
 simpa [PE.ev,D.b_bool,jL] using h
def asE {n:Nat}(h:(n:Int)<oJ):n<4294967296:=by unfold oJ at h;omega
def aeR {n:Nat}(h:(n:Int)<=oJ):n<=4294967296:=by unfold oJ at h;omega
def St.setO_self {S:St}{j:Nat}{ob:Ob}(h:S.o j=ob):S.setO j ob=S:=by
 have:bY S.o j ob=S.o:=by
  funext i;rw[fj];split
  .rename_i e;subst e;exact h.symm
  .rfl
 cases S;simp only[St.setO] at this ⊢;rw[this]
section
variable {C:Ctx} {S:St} {O:Env} {V:Im} {own:Nat->Option Nat} {hv:Nat->Value} {w0:World} {σ0:Base} {A:Nat->Prop} {a:Act} {w:World} {gs:List (Nat×Bool)} {Z:aT} {dst:Nat}
def Inv.updO (h:Inv C S O V own hv w0 σ0 A a w)(j:Nat)(ob:Ob)(d:D)(v:Value)(nb:Nat->Bool){w':World}(hw:Below w0.heap.size w w')
 (rj:∀k,k<w.heap.size->own k≠some j->w'.heap[k]?=w.heap[k]?) (dS:∀k,nb k=true->(own k=some j\/w.heap.size<=k)/\k<w'.heap.size)
 (cS:bZ C (S.newO j ob) (O.setO j d) V (fJ own j nb) (bY hv j v) w' w0.heap.size j ob) (oA:ob≠.tr:=by intro h;cases h):Inv C (S.newO j ob) (O.setO j d) V (fJ own j nb) (bY hv j v) w0 σ0 A a w':=by
 have aJ:w0.heap.size<=w.heap.size:=h.below.size;have bu:∀k i,i≠j->own k=some i->fJ own j nb k=some i:=by
  intro k i hi hk;have h1:=h.owns k i hk;have h2:nb k=false:=by
   cases hn:nb k with
   |false=>rfl
   |true=>
    rcases(dS k hn).1 with e|e
    .rw[hk] at e;simp at e;exact absurd e hi
    .omega
  simp[fJ,h2,hk,hi]
 have ar:V.ok w':=by
  refine⟨λk o u hc=>?_,λk es hc=>?_,h.ok.fz λk o v hc=>rj k (h.lt hc) λe=>by rw[(h.owns k j e).2.2.1 o] at hc;cases hc⟩
  .have au:own k≠some j:=λe=>by rw[(h.owns k j e).2.2.1 o] at hc;cases hc
   rw[World.cell?_of_block (rj k (h.lt hc) au)];exact h.ok.c k o u hc
  .have au:own k≠some j:=λe=>by rw[(h.owns k j e).2.2.2] at hc;cases hc
   exact(h.ok.m k es hc).keep (rj k (h.ltm hc) au)
 refine h.step (λi=>i=j) rfl (.refl V) ar (λ_ _ _ hx=>.inl hx) (λ_ _ hx=>.inl hx) hw ⟨λi=>?_,λi e=>?_⟩ (λi hi=>⟨?_,?_,?_,λk hk=>⟨bu k i hi hk,?_⟩⟩) (λi hi=>?_) (λk i hk=>?_) (λ_=>id) (λt=>.inl ⟨rfl,rfl,rfl⟩) (λ_ _=>rfl) (λk hk e=>rj k hk (by rw[e];simp)) (λk i hk=>by
  unfold fJ at hk;split at hk
  .rename_i hn;rcases(dS k hn).1 with e|e
   .exact .inl ⟨j,e⟩
   .exact .inr e
  .split at hk
   .cases hk
   .exact .inl ⟨i,hk⟩) (λi hi=>by subst hi;simpa only[St.newO,aN] using oA)
 .simp only[St.newO,fj];split<;>rename_i e
  .subst e;omega
  .omega
 .simp only[St.newO,fj] at e;split at e
  .rename_i e';subst e';omega
  .rename_i au;exact bA _ _ au
 .simp[St.newO,bA _ _ hi]
 .simp[Env.setO,bA _ _ hi]
 .exact bA _ _ hi
 .exact rj k (h.owns k i hk).2.1 (by rw[hk];simpa using hi)
 .subst hi;simp only[St.newO,aN];exact cS
 .unfold fJ at hk;split at hk
  .rename_i hn;obtain⟨g1,g2⟩:=dS k hn;rcases g1 with e|e
   .obtain⟨f1,f2,f3,f4⟩:=h.owns k j e;exact⟨f1,g2,f3,f4⟩
   .refine⟨by omega,g2,λo=>?_,?_⟩
    .cases hc:V.c k o with
     |none=>rfl
     |some u=>have:=h.lt hc;omega
    .cases hc:V.m k with
     |none=>rfl
     |some u=>have:=h.ltm hc;omega
  .split at hk
   .cases hk
   .obtain⟨g1,g2,g3,g4⟩:=h.owns k i hk;exact⟨g1,by have:=hw.size;omega,g3,g4⟩
def Inv.updB (h:Inv C S O V own hv w0 σ0 A a w)(j:Nat)(ob:Ob)(d:D){w':World}(hw:Below w0.heap.size w w')
 (rj:∀k,k<w.heap.size->own k≠some j->w'.heap[k]?=w.heap[k]?)
 (cS:bZ C (S.setO j ob) (O.setO j d) V own hv w' w0.heap.size j ob) (oA:ob≠.tr:=by intro h;cases h):Inv C (S.setO j ob) (O.setO j d) V own hv w0 σ0 A a w':=by
 have ar:V.ok w':=by
  refine⟨λk o u hc=>?_,λk es hc=>?_,h.ok.fz λk o v hc=>rj k (h.lt hc) λe=>by rw[(h.owns k j e).2.2.1 o] at hc;cases hc⟩
  .have au:own k≠some j:=λe=>by rw[(h.owns k j e).2.2.1 o] at hc;cases hc
   rw[World.cell?_of_block (rj k (h.lt hc) au)];exact h.ok.c k o u hc
  .have au:own k≠some j:=λe=>by rw[(h.owns k j e).2.2.2] at hc;cases hc
   exact(h.ok.m k es hc).keep (rj k (h.ltm hc) au)
 refine h.step (λi=>i=j) rfl (.refl V) ar (λ_ _ _ hx=>.inl hx) (λ_ _ hx=>.inl hx) hw (Compat.setO _ _ _ _) (λi hi=>⟨by simp[St.setO,bA _ _ hi],by simp[Env.setO,bA _ _ hi],rfl,λk hk=>⟨hk,rj k (h.owns k i hk).2.1 (by rw[hk];simpa using hi)⟩⟩) (λi hi=>?_) (λk i hk=>?_) (λ_=>id) (λt=>.inl ⟨rfl,rfl,rfl⟩) (λ_ _=>rfl) (λk hk e=>rj k hk (by rw[e];simp)) (λk i hk=>.inl ⟨i,hk⟩) (λi hi=>by subst hi;rw[St.setO_o];exact oA)
 .subst hi;rw[St.setO_o];exact cS
 .obtain⟨g1,g2,g3,g4⟩:=h.owns k i hk;exact⟨g1,by have:=hw.size;omega,g3,g4⟩
def acn {B:Nat}{w w':World}{row:Option Nat}(hg:w.grownBy w' row)(hB:B<=w.heap.size)(hr:∀k,row=some k->B<=k):Below B w w':=(Below.refl B w).grown hg hB hr
def ae7 {z:Array Value}{n i q:Nat}(hz:0<z.size)(hi:i<n)(hq:q<z.size):(madeCells z (n*z.size))[i*z.size+q]?=z[q]?:=by
 have af:i*z.size+q<n*z.size:=by
  have:(i+1)*z.size<=n*z.size:=ka _ hi;rw[j7] at this;omega
 have hm:(i*z.size+q)%z.size=q:=by rw[DQ,akm,Pl hq]
 simp[madeCells,Array.getElem?_range,af,hm,hq]
def amZ (h:Inv C S O V own hv w0 σ0 A a w)(hC:CtxOK C σ0)(ht:¬A dst)(af:dst<a.tmps.size){T:TypeId}{l c:Operand}{r:St×List PI}(hr:EP C S dst T l c=some r){o:Oper}(hd:o.dst=some dst)(ho:o.op=.makeSlice T l c):bU C w0 σ0 Z S O A a w o r:=by
 unfold EP at hr;split at hr
 case h_2=>cases hr
 rename_i E k1 n k2 m hT hl hc;simp only[az] at hr;obtain⟨e,he,hr⟩:=hr;cases hf:sH C.P E e<;>simp only[hf,zyy,zyx] at hr
 .cases hr
 obtain⟨inf,z0,hi,hs,hb,h1,hz,mW⟩:=QZ hf;simp only[az] at hr;obtain⟨z,hzt,hr⟩:=hr;cases cg:Ty.sub z.1 e<;>simp only[cg,zyy,zyx] at hr
 .cases hr
 cases hr;obtain⟨n1,aP,bt,b1,b2⟩:=(cw h hC rfl hl).int_inv;obtain⟨n2,iy,dQ,b3,b4⟩:=(cw h hC rfl hc).int_inv;simp only at bt dQ;have Gi:=((zZ (cap:=C.cap) (V:=V) hzt mW).1).sub cg;refine bU.value hd λO' ak=>?_;simp only[PI.runs,PI.run,az] at ak;obtain⟨ρ1,g1,ρ2,g2,ak⟩:=ak;cases c1:((Tu n).ev O).b<;>simp only[c1,zyy,zyx] at g1
 .cases g1
 cases g1;cases c2:((PE.ci BinOp.eql n m).ev O).b<;>simp only[c2,zyy,zyx] at g2
 .cases g2
 cases g2;have aqQ:n1=n2:=by simpa [PE.ev,bt,dQ,D.i_int,D.b_bool,jL] using c2
 subst aqQ;have hb:0<=n1/\n1<=oJ:=by simpa [Tu,PE.ev,bt,D.i_int,D.b_bool,jL,D.int] using c1
 obtain⟨nn,rfl⟩:=qz hb.1;have FN:nn<=4294967296:=by have:=hb.2;unfold oJ at this;omega
 have mX:z0.cells.size=e.size:=Z4 mW;obtain⟨w',r1,r2,r3⟩:=run_make_full (P:=C.P) w w0.heap.size T E inf z0 e.size hT hi hz hs k1 k2 nn (by
  have:inf.bytes*nn<=y7*4294967296:=DS (by assumption) FN;unfold y7 at this;omega) (by unfold maxLen;omega) h.below.size
 refine⟨.slice (some ⟨w.heap.size,0,none⟩) nn nn,w',by simp[execOp,ho,aP,iy,r1],?_⟩;obtain⟨ρ3,g3,ρ4,g4,g5⟩:=ak;cases g3;cases g4;cases g5;simp only[PE.ev,bt,D.i_int,xt];have hlen:(List.replicate nn z.2).length=nn:=by simp
 refine h.mkObj ht af (.row E e) _ _ (λk=>Nat.beq k w.heap.size) (acn r3 (aX _) (by simp)) (λk hk=>?_) ⟨_,List.replicate nn z.2,by simp[Env.setO,aN],by rw[aN,hlen];exact r2,⟨λ_=>z0,λi x hx=>?_,λi j u hi hj=>?_⟩,λk hk=>?_⟩
 .have bf:k=w.heap.size:=ay hk;have:=(r2.lt _ rfl).2;subst bf;exact⟨aX _,this⟩
 .have:=(eG.1 hx)
  obtain⟨q1,q2⟩:=this;simp at q2;subst q2;exact Gi
 .rw[hlen] at hi;have bB:j<z0.cells.size:=(ei.1 hj).1;rw[oY,<-mX];rw[ae7 (by omega) hi bB];exact hj
 .rw[aN] at hk;simp[Value.ownBlock] at hk;simp[fJ,hk]
def nC.push {arr:Array MapEntry}{clock:Nat}(h:nC arr clock)(k v:Value):nC (arr.push {key:=k,val:=v,born:=clock}) (clock+1):=by
 have key:∀(i:Nat) (e:MapEntry),(arr.push {key:=k,val:=v,born:=clock})[i]?=some e->(arr[i]?=some e/\e.born<clock)\/(i=arr.size/\e.born=clock):=by
  intro i e he;rw[Array.getElem?_push] at he;split at he
  .rename_i hi;cases he;exact .inr ⟨hi,rfl⟩
  .exact .inl ⟨he,h.1 i e he⟩
 refine⟨λi e he=>?_,λi j e f he hf hb=>?_⟩
 .rcases key i e he with⟨_,h1⟩|⟨_,h1⟩<;>omega
 .rcases key i e he with⟨h1,h2⟩|⟨h1,h2⟩<;>rcases key j f hf with⟨h3,h4⟩|⟨h3,h4⟩
  .exact h.2 i j e f h1 h3 hb
  .omega
  .omega
  .omega
def nC.modify {arr:Array MapEntry}{clock:Nat}(h:nC arr clock)(i0:Nat)(k v:Value):nC (arr.modify i0 λe=>{e with key:=k,val:=v}) clock:=by
 have key:∀(i:Nat) (e:MapEntry),(arr.modify i0 λe=>{e with key:=k,val:=v})[i]?=some e->∃e',arr[i]?=some e'/\e'.born=e.born:=by
  intro i e he;rw[OW] at he;split at he
  .simp only[aB] at he;obtain⟨e',h1,rfl⟩:=he;exact⟨e',h1,rfl⟩
  .exact⟨e,he,rfl⟩
 refine⟨λi e he=>?_,λi j e f he hf hb=>?_⟩
 .obtain⟨e',h1,h2⟩:=key i e he;rw[<-h2];exact h.1 i e' h1
 .obtain⟨e',h1,h2⟩:=key i e he;obtain⟨f',h3,h4⟩:=key j f hf;exact h.2 i j e' f' h1 h3 (by rw[h2,h4,hb])
def abP (h:Inv C S O V own hv w0 σ0 A a w)(hC:CtxOK C σ0){T:TypeId}{m k v:Operand}{r:St×List PI}(hr:BB C S T m k v=some r){o:Oper}(hd:o.dst=none)(ho:o.op=.mapUpdate T m k v\/o.op=.insert T m k v):bU C w0 σ0 Z S O A a w o r:=by
 unfold BB at hr;split at hr
 case h_2=>cases hr
 rename_i K E j ver hT es;obtain⟨dU,_⟩:=tJ h (gs:=[]) rfl m;rw[es] at dU;cases hb:Nat.beq ver (S.ver j)<;>simp only[hb,zyy,zyx] at hr
 .cases hr
 have cv:=dU.2 (ay hb);have bj:=h.objs j;split at hr
 case h_2=>cases hr
 rename_i kt et tk ek tv ev eo hk yU;rw[eo] at bj;cases hc:(Ty.beq tk kt&&wg C.P K kt&&Ty.sub tv et)<;>simp only[hc,zyy,zyx] at hr
 .cases hr
 cases hr;simp only[ao] at hc;obtain⟨⟨Ly,FF⟩,cg⟩:=hc;obtain⟨g,arr,clock,ds,h1,h2,h3,h4,h5,⟨h6,sO⟩,h7⟩:=bj;have bf:=cw h hC rfl hk;rw[Ty.beq_eq _ _ Ly] at bf;have hv':=(cw h hC rfl yU).sub cg;refine bU.skip hd λO' ak=>?_;simp only[PI.runs,PI.run,az] at ak;obtain⟨ρ1,g1,ρ2,g2,g3⟩:=ak;cases c1:((PE.ci BinOp.lss (.mlen (.o j)) (.con (.int oJ))).ev O).b<;>simp only[c1,zyy,zyx] at g1
 .cases g1
 cases g1;cases g2;cases g3;have aqF:ds.length<4294967296:=by
  have h8:=alI c1;simp only[PE.ev,h4,D.m,D.i_int,D.int] at h8;exact asE h8
 have ki:(Instr.checkKey false 10000 K (a.eval k)).run C.P w=.ok () w:=abn (cap:=C.cap) (V:=V) FF bf;have fX:∃vu Bt ds',(Instr.mapUpdate T (a.eval m) (a.eval k) (a.eval v)).run C.P w=.ok () {w with heap:=w.heap.setIfInBounds g (.map vu Bt)}/\fc (ek.ev O) (ev.ev O) ds=ds'/\ds'.length=vu.size/\(ds'.length<=maxLen/\nC vu Bt)/\
  ∀(i:Nat) (e:MapEntry) (p:D×D),vu[i]?=some e->ds'[i]?=some p->Rep C.cap V kt e.key p.1/\Rep C.cap V et e.val p.2:=by
  rcases run_findKey FF bf arr ds h5 h7 w with⟨f1,f2,f3⟩|⟨i,e,p,f1,f2,f3,f4,f5,f6⟩
  .refine⟨arr.push {key:=a.eval k,val:=a.eval v,born:=clock},clock+1,ds++[(ek.ev O,ev.ev O)],?_,f3 _,by simp[h5],⟨by simp;unfold maxLen;omega,sO.push _ _⟩,λq e p he hp=>?_⟩
   .rw[cv,h1];simp[Instr.mapUpdate,run_underlying hT,getObj,Sem.run,h3,ki,f1,setObj]
   .rw[Array.getElem?_push] at he;rw[mD] at hp;by_cases hq:q=arr.size
    .subst hq;simp at he;rw[if_neg (by omega)] at hp;simp[h5] at hp;subst he;subst hp;exact⟨bf,hv'⟩
    .rw[if_neg hq] at he;have uL:q<arr.size:=(ei.1 he).1;rw[if_pos (by omega)] at hp;exact h7 q e p he hp
  .refine⟨arr.modify i λe=>{e with key:=a.eval k,val:=a.eval v},clock,ds.set i (ek.ev O,ev.ev O),?_,f5 _,by simp[h5],⟨by simp;exact h6,sO.modify _ _ _⟩,λq e' p' he hp=>?_⟩
   .rw[cv,h1];have cI:(Instr.keyThatStays e.key (a.eval k)).run C.P w=.ok (a.eval k) w:=by simp[Instr.keyThatStays,f6]
    simp[Instr.mapUpdate,run_underlying hT,getObj,Sem.run,h3,ki,f3,f1,cI,setObj]
   .rw[OW] at he;rw[DM] at hp;by_cases hq:i=q
    .subst hq;simp only[if_true] at he hp;rw[f1] at he;simp at he;split at hp
     .cases hp;subst he;exact⟨bf,hv'⟩
     .cases hp
    .rw[if_neg hq] at he hp;exact h7 q e' p' he hp
 obtain⟨vu,Bt,ds',r1,r2,r3,r4,r5⟩:=fX;refine⟨{w with heap:=w.heap.setIfInBounds g (.map vu Bt)},by rcases ho with ho|ho<;>simp[execOp,ho,r1],?_⟩;have FA:g<w.heap.size:=(ei.1 h3).1;have hgB:w0.heap.size<=g:=(h.owns g j h2).1;have bL:(PE.put (.o j) ek ev).ev O=.map ds':=by simp only[PE.ev,h4,D.m,r2]
 rw[bL]
 have:=h.updB j (.mp kt et) (.map ds') (w':={w with heap:=w.heap.setIfInBounds g (.map vu Bt)}) ⟨rfl,rfl,rfl,by simp,λk hk=>by simp;rw[Z7 (by omega)]⟩
  (λk hk au=>by simp;rw[Z7 (λe=>au (by rw[<-e];exact h2))])
  ⟨g,vu,Bt,ds',h1,h2,by simp[FA],by simp[Env.setO,aN],r3,r4,r5⟩
 have eS:S.setO j (.mp kt et)=S:=St.setO_self eo;rw[eS] at this;exact⟨_,_,_,this⟩
end
def aAV {e:Ty}{z:Value}(h:j4 e z=true):e.rowT=true\/e.one=true:=by
 cases e<;>first|exact .inl rfl|exact .inr rfl|(cases z<;>simp[j4,zY] at h)
def Rep.cellsOne {cap:Nat->Option CSig}{V:Im}{t:Ty}{v:Value}{d:D}(h:Rep cap V t v d)(ht:t.rowT=true\/t.one=true){m:Nat}{u:Value}(hu:v.cells[m]?=some u):u.oneCell'=true:=by
 obtain⟨f1,f2,f3⟩:=h.flat ht;have af:m<v.cells.size:=(ei.1 hu).1;rw[h.size] at af;obtain⟨g1,g2⟩:=f3 m _ (aW (by omega:m<t.flat.length));have:=(g2.oneCell g1).2;rw[fM,hu] at this;exact this
def ano {cap:Nat->Option CSig}{V:Im}{e:Ty}{cells:List Value}{xs:List D}(h:dy cap V e cells xs)(hl:cells.length=xs.length*e.size)(iZ:e.rowT=true\/e.one=true):∀u∈cells,u.oneCell'=true:=by
 obtain⟨vs,h1,h2⟩:=h;intro u hu;obtain⟨p,hp,rfl⟩:=fm hu;rw[hl] at hp;have hs:0<e.size:=Nat.pos_of_ne_zero λe0=>by rw[e0] at hp;simp at hp
 have hi:p/e.size<xs.length:=(xE hs).2 hp;have hq:p%e.size<e.size:=qB _ hs;have bJ:=h1 _ _ (aW hi);have aJ:=bJ.size;have mO:(vs (p/e.size)).cells[p%e.size]?=some (vs (p/e.size)).cells[p%e.size]:=iM (by omega);have:=h2 _ _ _ hi mO;rw[xF,Al] at this;have h3:cells[p]=(vs (p/e.size)).cells[p%e.size]:=by
  have h4:=aW (show p<cells.length by omega);rw[h4] at this;exact tX this
 rw[h3];exact bJ.cellsOne iZ mO
def ann {cap:Nat->Option CSig}{V:Im}{e:Ty}{c1 c2:List Value}{xs ys:List D}(h:dy cap V e c1 xs)(k:dy cap V e c2 ys)(hl:c1.length=xs.length*e.size):dy cap V e (c1++c2) (xs++ys):=by
 obtain⟨vs,h1,h2⟩:=h;obtain⟨us,k1,k2⟩:=k;refine⟨λi=>if i<xs.length then vs i else us (i-xs.length),λi x hx=>?_,λi j u hi hj=>?_⟩
 .rw[mD] at hx;split at hx
  .rename_i af;simp only[af,if_true];exact h1 i x hx
  .rename_i af;simp only[af,if_false];exact k1 _ x hx
 .by_cases af:i<xs.length
  .simp only[af,if_true] at hj;have:=h2 i j u af hj;rw[nD (eG.1 this).1];exact this
  .simp only[af,if_false] at hj;have dc:i-xs.length<ys.length:=by simp at hi;omega
   have:=k2 _ j u dc hj;have e1:i*e.size=c1.length+(i-xs.length)*e.size:=by rw[hl,<-j7];congr 1;omega
   rw[nE (by omega)];rw[show i*e.size+j-c1.length=(i-xs.length)*e.size+j by omega];exact this
section
variable {C:Ctx} {S:St} {O:Env} {V:Im} {own:Nat->Option Nat} {hv:Nat->Value} {w0:World} {σ0:Base} {A:Nat->Prop} {a:Act} {w:World} {gs:List (Nat×Bool)} {Z:aT} {dst:Nat}
def aAt (h:Inv C S O V own hv w0 σ0 A a w){B:Nat}{e f:Ty}{v:Value}{d:D}(hs:0<e.size)(iZ:e.rowT=true\/e.one=true)(hf:f.unf=e)(S5:Ps C V w B (.slice f) v d):
 ∃ys,d=.list ys/\ys.length<=maxLen/\((v=.slice none 0 0/\ys=[])\/∃(ad:Addr) (c:Nat) (news:List Value),v=.slice (some ad) ys.length c/\news.length=ys.length*e.size/\
  (∀j u,news[j]?=some u->w.cell? (ad.add j)=some u)/\dy C.cap V e news ys):=by
 rcases S5 with hr|⟨T,e',cells,xs,ht,hd,bu,dt⟩|⟨k,arr,clock,es,kt,et,ht,_⟩
 .obtain⟨xs,hd,sP⟩:=hr.slice_inv;rw[<-f.unf_size,hf] at sP;rcases sP with⟨⟨p0,aP⟩,rfl⟩|⟨k,o,c,aP,h1,h2,vs,h3,h4⟩
  .cases p0 with
   |none=>exact⟨[],hd,by simp,.inl ⟨aP,rfl⟩⟩
   |some a0=>exact⟨[],hd,by simp,.inr ⟨a0,0,[],aP,by simp,λj u hu=>by simp at hu,λ_=>undef,λi x hx=>by simp at hx,λi j u hi=>by simp at hi⟩⟩
  .refine⟨xs,hd,by omega,.inr ⟨⟨k,o,none⟩,c,(List.range (xs.length*e.size)).map λp=>(vs (p/e.size)).cells.getD (p%e.size) undef,aP,by simp,λj u hu=>?_,vs,h3,λi j u hi hj=>?_⟩⟩
   .simp only[cj,aB] at hu;obtain⟨p,hp,rfl⟩:=hu;have gS:j<xs.length*e.size:=by have:=(eG.1 hp).1;simpa using this
    rw[sv gS] at hp;cases hp;have hi:j/e.size<xs.length:=(xE hs).2 gS;have hq:j%e.size<e.size:=qB _ hs;have bJ:=h3 _ _ (aW hi);have aJ:=bJ.size;have mO:(vs (j/e.size)).cells[j%e.size]?=some ((vs (j/e.size)).cells.getD (j%e.size) undef):=by
     rw[fM,iM (by omega)];rfl
    have:=h.cell (h4 _ _ _ hi mO);rw[ud]
    rwa [show o+j/e.size*e.size+j%e.size=o+j by rw[sw,xF,Al]] at this
   .have bJ:=h3 _ _ (aW hi);have bB:j<e.size:=by rw[<-bJ.size];exact(ei.1 hj).1
    have af:i*e.size+j<xs.length*e.size:=by
     have:(i+1)*e.size<=xs.length*e.size:=ka _ hi;rw[j7] at this;omega
    have e1:(i*e.size+j)/e.size=i:=by rw[xF,Nat.mul_add_div hs,Nat.div_eq_of_lt bB];omega
    have e2:(i*e.size+j)%e.size=j:=by rw[DQ,akm,Pl bB]
    simp only[cj,sv af,kG,e1,e2];rw[fM,hj];rfl
 .cases ht;rw[Ty.unf_rol] at hf;obtain⟨b,c,aP,hm,_⟩:=zp bu;have dt:dy C.cap V e cells xs:=by
   obtain⟨us,u1,u2⟩:=dt;refine⟨us,λi x hx=>hf▸(u1 i x hx).unf,λi j u hi hu=>?_⟩;rw[<-hf,Ty.unf_size];exact u2 i j u hi hu
  have bu:w.ownsRow B T e.size v xs.length cells:=by rw[<-hf,Ty.unf_size];exact bu
  rcases bu.2 with⟨e1,e2⟩|⟨g,cap,cur,e1,e2⟩
  .have:xs=[]:=O6 e2;subst this;exact⟨[],hd,by simp,.inl ⟨e1,rfl⟩⟩
  .exact⟨xs,hd,hm,.inr ⟨⟨g,0,none⟩,cap,cells,e1,bu.1,bu.cells (by rw[e1];rfl),dt⟩⟩
 .cases ht
def awS {P:Program}{B:Nat}{T E ty:TypeId}{inf:TypeInfo}{z:Value}{size:Nat}{v x:Value}{n m:Nat}{xs news:List Value}(hT:P.underlying T=some (.slice E))(hi:P.info? E=some inf)(hz:inf.zero=some z)
 (hs:inf.size=size) (mX:z.cells.size=size) (aJ:0<size) (ri:inf.bytes<=y7) (bu:w.ownsRow B E size v n xs) (hB:B<=w.heap.size) (cR:n+m<=4294967296)
 (hx:(x=.slice none 0 0/\m=0/\news=[])\/∃(ad:Addr) (c:Nat),x=.slice (some ad) m c/\news.length=m*size/\(∀j u,news[j]?=some u->w.cell? (ad.add j)=some u)/\∀u∈news,u.oneCell'=true):
 ∃v' w',(Builtin.append_ #[T,T] ty #[v,x]).run P w=.ok v' w'/\w'.ownsRow B E size v' (n+m) (xs++news)/\w.grownBy w' v.ownBlock/\∀k,v'.ownBlock=some k->v.ownBlock=some k\/(w.heap.size<=k/\k<w'.heap.size):=by
 rcases hx with⟨rfl,rfl,rfl⟩|⟨ad,c,rfl,hl,LG,h1⟩
 .refine⟨v,w,run_append_owned_none w B T ty E inf size hT hi v n xs bu,by simpa using bu,⟨rfl,rfl,rfl,aX _,λ_ _ _=>rfl⟩,λk hk=>.inl hk⟩
 .have RM:(n+m)*inf.bytes<=140737488355328:=by
   have:(n+m)*inf.bytes<=4294967296*y7:=DS cR ri;unfold y7 at this;omega
  obtain⟨v',w',r1,r2,r3,r4⟩:=run_append_own (P:=P) w B T ty E inf z size inf.bytes hT hi hz hs rfl mX aJ v n xs bu ad m c news hl LG h1 (by unfold maxLen;omega) RM hB;refine⟨v',w',r1,r2,r3,λk hk=>?_⟩;have af:=(r2.lt k hk).2;subst hs;rcases bu.2 with⟨rfl,rfl⟩|⟨g,cap,cur,rfl,BS,hg,dg,oq,cH,F9⟩
  .by_cases hm:m=0
   .subst hm;have:=r4.2 ⟨rfl,rfl⟩;subst this;simp[Value.ownBlock] at hk
   .have hr:=run_append_nil (P:=P) w T ty E inf z hT hi hz ad m c news hl LG (by omega) (by omega) (by have hb:=RM;simp only[fQ] at hb;omega);rw[hr] at r1;cases r1;simp[Value.ownBlock] at hk;subst hk;exact .inr ⟨aX _,af⟩
  .by_cases adS:n+m<=cap
   .have Lr:n*inf.size+news.length<=cur.size:=by rw[hl,cH,<-j7];exact ka _ adS
    have hr:=run_append_room (P:=P) w T ty E inf hT hi g n cap cur hg ad m c news hl LG h1 adS Lr;rw[hr] at r1;cases r1;exact .inl hk
   .have hr:=run_append_grow (P:=P) w T ty E inf z hT hi hz ⟨g,0,none⟩ n cap xs bu.1 (bu.cells (g:=g) rfl) ad m c news hl LG (by omega) (by omega) (growslice_fits (by omega) RM);rw[hr] at r1;cases r1;simp[Value.ownBlock] at hk;subst hk;exact .inr ⟨aX _,af⟩
def amD (h:Inv C S O V own hv w0 σ0 A a w)(hC:CtxOK C σ0)(ht:¬A dst)(af:dst<a.tmps.size){T:TypeId}{s x:Operand}{r:St×List PI}(hr:EI C S dst T s x=some r){o:Oper}(hd:o.dst=some dst)
 (ho:o.op=.call {callee:=.builtin .append,args:=#[s,x],argTypes:=#[T,T]}):bU C w0 σ0 Z S O A a w o r:=by
 unfold EI at hr;split at hr
 case h_2=>cases hr
 rename_i E hT;simp only[az] at hr;obtain⟨e,he,hr⟩:=hr;split at hr
 case h_2=>cases hr
 rename_i tx ex S5;have hv':=ZP h hC (gs:=[]) rfl S5;obtain⟨cs,ak⟩:=WG (C:=C) (w:=w) (a:=a) ho;cases hc:(sH C.P E e&&Om tx e)<;>simp only[hc,zyy,zyx] at hr
 .cases hr
 simp only[ao] at hc;obtain⟨inf,z,hi,hs,ri,h1,hz,mW⟩:=QZ hc.1;have mX:=Z4 mW;have iZ:=aAV mW;have S6:∃f:Ty,f.unf=e/\Ps C V w w0.heap.size (.slice f) (a.eval x) (ex.ev O):=by
  have cI:=hc.2;unfold Om at cI;split at cI
  .exact⟨_,Ty.beq_eq _ _ cI,hv'⟩
  .refine⟨e,Ty.unf_ro iZ,?_⟩;rcases hv' with hr|⟨_,_,_,_,ht,_⟩|⟨_,_,_,_,_,_,ht,_⟩
   .exact .inl (hr.sub (by simp[Ty.sub]))
   .cases ht
   .cases ht
  .cases cI
 obtain⟨fv,eQ,S6⟩:=S6;obtain⟨ys,Lp,l9,arE⟩:=aAt h h1 iZ eQ S6;have hx:∃news,dy C.cap V e news ys/\news.length=ys.length*e.size/\((a.eval x=.slice none 0 0/\ys.length=0/\news=[])\/∃(ad:Addr) (c:Nat),a.eval x=.slice (some ad) ys.length c/\news.length=ys.length*e.size/\(∀j u,news[j]?=some u->w.cell? (ad.add j)=some u)/\∀u∈news,u.oneCell'=true):=by
  rcases arE with⟨e1,rfl⟩|⟨ad,c,news,e1,e2,e3,e4⟩
  .exact⟨[],⟨λ_=>undef,by simp,by simp⟩,by simp,.inl ⟨e1,rfl,rfl⟩⟩
  .exact⟨news,e4,e2,.inr ⟨ad,c,e1,e2,e3,ano e4 e2 iZ⟩⟩
 obtain⟨news,au,hnl,hx⟩:=hx;have main:∀(j:Nat) (v:Value) (xs:List D) (cells:List Value),a.eval s=v->w.ownsRow w0.heap.size E e.size v xs.length cells->dy C.cap V e cells xs->xs.length+ys.length<=4294967296->
  (∀k,v.ownBlock=some k->own k=some j)->
  ∃v' w',(execOp a.eval o).run C.P w=.ok (.value v') w'/\Good C w0 σ0 ((S.newO j (.row E e)).setR dst (.obj j (S.ver j+1))) ((O.setO j (.list (xs++ys))).setR dst .none) (λu=>A u\/u=dst) (a.put (some dst) v') w':=by
  intro j v xs cells SO bu dt hlen cS;obtain⟨v',w',r1,r2,r3,r4⟩:=awS (P:=C.P) (ty:=o.type) hT hi hz hs mX h1 ri bu h.below.size hlen hx;refine⟨v',w',by rw[ak];simp[builtin,SO,r1],?_⟩
  have SY:=h.updO j (.row E e) (.list (xs++ys)) v' (λk=>decide (v'.ownBlock=some k)) (w':=w') (acn r3 h.below.size (λk hk=>(h.owns k j (cS k hk)).1)) (λk hk au=>r3.block k hk (λe=>au (cS k e.symm))) (λk hk=>by
        have bf:v'.ownBlock=some k:=by simpa using hk
        rcases r4 k bf with e|e
        .exact⟨.inl (cS k e),(r2.lt k bf).2⟩
        .exact⟨.inr e.1,e.2⟩)
   ⟨cells++news,xs++ys,by simp[Env.setO,aN],by rw[aN,mE];exact r2,ann dt au bu.1,λk hk=>by rw[aN] at hk;simp[fJ,hk]⟩
  have h2:=SY.setObj ht (j:=j) (v:=v') (aN _ _ _) af;have e:(S.newO j (.row E e)).ver j=S.ver j+1:=aN _ _ _;rw[e] at h2;exact⟨_,_,_,h2⟩
 split at hr
 .rename_i e0 pe0 hu;cases hr;refine bU.value hd λO' pM=>?_;have vS:=cw h hC rfl hu;have SO:a.eval s=.slice none 0 0:=by
   generalize a.eval s=v at vS;generalize pe0.ev O=d at vS;cases vS;rfl
  simp only[PI.runs,PI.run,az] at pM;obtain⟨ρ1,g1,ρ2,g2,ρ3,g3,g4⟩:=pM;cases c1:((Ma (.con (.list [])) ex).ev O).b<;>simp only[c1,zyy,zyx] at g1
  .cases g1
  cases g1;cases g2;cases g3;cases g4;have hlen:=abo c1;simp only[PE.ev,D.l_list,Lp,xB,D.i_int,D.int] at hlen;have:=main dst (.slice none 0 0) [] [] SO (World.ownsRow_nil _ _ _ _) ⟨λ_=>undef,by simp,by simp⟩ (by simpa using aeR hlen) (by simp[Value.ownBlock]);simpa [PE.ev,D.l_list,Lp,mkObj] using this
 .cases hr
 .obtain⟨dU,_⟩:=tJ h (gs:=[]) rfl s;split at hr
  case h_2=>cases hr
  rename_i j ver es;rw[es] at dU;cases hb:Nat.beq ver (S.ver j)<;>simp only[hb,zyy,zyx] at hr
  .cases hr
  have cv:=dU.2 (ay hb);have bj:=h.objs j;split at hr
  case h_2=>cases hr
  rename_i E' e' eo;rw[eo] at bj;cases kj:(Nat.beq E' E&&Ty.beq e' e)<;>simp only[kj,zyy,zyx] at hr
  .cases hr
  cases hr;simp only[ao] at kj;have e1:=ay kj.1;have e2:=Ty.beq_eq _ _ kj.2;subst e1;subst e2;obtain⟨cells,xs,k1,k2,k3,k4⟩:=bj;refine bU.value hd λO' pM=>?_;simp only[PI.runs,PI.run,az] at pM;obtain⟨ρ1,g1,ρ2,g2,ρ3,g3,g4⟩:=pM;cases c1:((Ma (.o j) ex).ev O).b<;>simp only[c1,zyy,zyx] at g1
  .cases g1
  cases g1;cases g2;cases g3;cases g4;have hlen:=abo c1;simp only[PE.ev,D.l_list,Lp,k1,D.i_int,D.int] at hlen;have:=main j (hv j) xs cells cv k2 k3 (by have:=aeR hlen;simpa using this) k4;simpa [PE.ev,D.l_list,Lp,k1] using this
end
def Ig {P:Program}{a:Act}{w:World}{o:Oper}{T:TypeId}{x v:Operand}{inf:TypeInfo}{k off:Nat}{cs:Array Value}{E:TypeId}(ho:o.op=.store T x v)(hi:P.info? T=some inf)(hx:a.eval x=.pointer (some ⟨k,off,none⟩))
 (hs:(a.eval v).cells.size=inf.size) (dz:∀u∈(a.eval v).cells.toList,u.oneCell'=true) (hb:w.heap[k]?=some (.cells cs E (0,0))) (hle:off+inf.size<=cs.size):
 (execOp a.eval o).run P w=.ok .skip (w.setRow k (cs.toList.take off++(a.eval v).cells.toList++cs.toList.drop (off+inf.size)).toArray):=by
 have:=run_storeCells_at P k off E (a.eval v).cells.toList 0 cs w hb (by simp[hs];exact hle) dz;simp only[iQ,z7,hs] at this;simp[execOp,ho,Instr.storeAt,hx,Instr.sureAddr,storeVar,Go.sizeOf,run_typeInfo w hi,hs,this]
def ajb {w:World}{B k:Nat}{cs:Array Value}(hB:B<=k):Below B w (w.setRow k cs)/\∀i,i≠k->(w.setRow k cs).heap[i]?=w.heap[i]?:=
 ⟨⟨rfl,rfl,rfl,by simp[World.setRow],λi hi=>setRow_other w k i cs (by omega)⟩,λi hi=>setRow_other w k i cs hi⟩
def KV {α:Type}(xs ys:List α)(off:Nat)(d:α)(hle:off+ys.length<=xs.length)(i:Nat):(xs.take off++ys++xs.drop (off+ys.length)).getD i d=if off<=i/\i<off+ys.length then ys.getD (i-off) d else xs.getD i d:=by
 simp only[aE,sr];rw[mD,dL,mF (by omega)];split
 .rename_i h;rw[if_neg (by omega),fN,if_pos h]
 .rename_i h;rw[mD];split
  .rename_i h2;rw[if_pos (by omega)]
  .rename_i h2;rw[if_neg (by omega),gk];congr 2;omega
section
variable {C:Ctx} {S:St} {O:Env} {V:Im} {own:Nat->Option Nat} {hv:Nat->Value} {w0:World} {σ0:Base} {A:Nat->Prop} {a:Act} {w:World} {gs:List (Nat×Bool)} {Z:aT} {dst:Nat}
def Inv.storeBox (h:Inv C S O V own hv w0 σ0 A a w){j k off:Nat}{ag:Bool}{shs news:List Sh}{cs:Array Value}{E:TypeId}{ds dn:List D}{vs:List Value}(eo:S.o j=.box ag shs)
 (h1:hv j=.pointer (some ⟨k,0,none⟩)) (h2:own k=some j) (h3:w.heap[k]?=some (.cells cs E (0,0))) (h4:cs.size=shs.length) (h5:O.o j=.agg ds) (h6:ds.length=shs.length)
 (h7:∀i s,shs[i]?=some s->(∀gs s',s≠.opt gs s')/\aG C S O V hv s (cs.getD i undef) (ds.getD i .none))
 (l1:news.length=vs.length) (l2:dn.length=vs.length) (hle:off+vs.length<=shs.length)
 (l5:∀i s,news[i]?=some s->(∀gs s',s≠.opt gs s')/\aG C S O V hv s (vs.getD i undef) (dn.getD i .none)):
 Inv C (S.setO j (.box ag (shs.take off++news++shs.drop (off+vs.length)))) (O.setO j (.agg (dJ ds off dn))) V own hv w0 σ0 A a (w.setRow k (cs.toList.take off++vs++cs.toList.drop (off+vs.length)).toArray):=by
 have hkB:w0.heap.size<=k:=(h.owns k j h2).1;obtain⟨b1,b2⟩:=ajb (w:=w) (B:=w0.heap.size) (k:=k) (cs:=(cs.toList.take off++vs++cs.toList.drop (off+vs.length)).toArray) hkB;refine h.updB j _ _ b1 (λi hi au=>b2 i λe=>au (e▸h2)) ⟨k,_,E,dJ ds off dn,h1,h2,setRow_heap w k cs _ E _ h3,?_,by simp[Env.setO,aN],?_,λi s hi=>?_⟩
 .simp[l1];omega
 .simp[dJ,l2,l1];omega
 .have cH:(cs.toList.take off++vs++cs.toList.drop (off+vs.length)).toArray.getD i undef=if off<=i/\i<off+vs.length then vs.getD (i-off) undef else cs.getD i undef:=by
   have e0:∀l:List Value,l.toArray.getD i undef=l.getD i undef:=λl=>by simp[fM,aE]
   rw[e0,KV cs.toList vs off undef (by simp;omega),BL cs i]
  have jN:(dJ ds off dn).getD i .none=if off<=i/\i<off+vs.length then dn.getD (i-off) .none else ds.getD i .none:=by
   rw[dJ,KV ds dn off .none (by omega),l2]
  rw[cH,jN];have adx:∀s v d,(∀gs s',s≠.opt gs s')->aG C S O V hv s v d->aG C (S.setO j (.box ag (shs.take off++news++shs.drop (off+vs.length)))) (O.setO j (.agg (dJ ds off dn))) V hv s v d:=
   λs v d hn hk=>aG.mono' (.refl V) (Compat.setO _ _ _ _) hn hk
  have jO:(shs.take off++news++shs.drop (off+vs.length))[i]?=if off<=i/\i<off+vs.length then news[i-off]? else shs[i]?:=by
   rw[sr,mD,dL,mF (by omega)];split
   .rename_i h;rw[if_neg (by omega),fN,if_pos h]
   .rename_i h;rw[mD,l1];split
    .rename_i h2;rw[if_pos (by omega)]
    .rename_i h2;rw[if_neg (by omega),gk];congr 1;omega
  rw[jO] at hi;split
  .rename_i hc;rw[if_pos hc] at hi;obtain⟨g1,g2⟩:=l5 _ s hi;exact⟨g1,adx _ _ _ g1 g2⟩
  .rename_i hc;rw[if_neg hc] at hi;obtain⟨g1,g2⟩:=h7 _ s hi;exact⟨g1,adx _ _ _ g1 g2⟩
def ai1 (h:Inv C S O V own hv w0 σ0 A a w){j:Nat}(hr:lH (S.o j)=true):(hv j).cells=#[hv j]/\(hv j).oneCell'=true:=by
 have bj:=h.objs j;cases cS:S.o j with
 |row T e=>
  rw[cS] at bj;obtain⟨cells,xs,h1,h2,h3,h4⟩:=bj;obtain⟨b,c,e1,_⟩:=zp h2;rw[e1];exact⟨rfl,rfl⟩
 |mp kt et=>
  rw[cS] at bj;obtain⟨k0,arr,clock,es,h1,_⟩:=bj;rw[h1];exact⟨rfl,rfl⟩
 |_=>rw[cS] at hr;simp[lH] at hr
def Inv.storeRow (h:Inv C S O V own hv w0 σ0 A a w){j k n c i p:Nat}{T:TypeId}{e:Ty}{cells vs:List Value}{xs:List D}{v':Value}{d':D}(eo:S.o j=.row T e)(eR:hv j=.slice (some ⟨k,0,none⟩) n c)
 (h1:O.o j=.list xs) (h2:w.ownsRow w0.heap.size T e.size (hv j) xs.length cells) (h3:dy C.cap V e cells xs) (h4:∀k,(hv j).ownBlock=some k->own k=some j) (hi:i<xs.length)
 (FW:i*e.size<=p) (fE:p+vs.length<=i*e.size+e.size) (hr:Rep C.cap V e v' d')
 (hv':∀q u,v'.cells[q]?=some u->(cells.take p++vs++cells.drop (p+vs.length))[i*e.size+q]?=some u):
 ∃cur,w.heap[k]?=some (.cells cur T (0,0))/\p+vs.length<=cur.size/\Inv C S (O.setO j (.list (xs.set i d'))) V own hv w0 σ0 A a (w.setRow k (cur.toList.take p++vs++cur.toList.drop (p+vs.length)).toArray):=by
 have aY:=h2.1;rcases h2.2 with⟨e0,e1⟩|⟨g,cap,cur,e1,e2,e3,e4,e5,e6,e7⟩
 .omega
 rw[eR] at e1;cases e1;have aqw:i*e.size+e.size<=xs.length*e.size:=by
  have:(i+1)*e.size<=xs.length*e.size:=ka _ hi;rw[j7] at this;omega
 have aFL:xs.length*e.size<=c*e.size:=ka _ e4;have arc:p+vs.length<=cur.size:=by omega
 refine⟨cur,e3,arc,?_⟩;have bu:own k=some j:=h4 k (by rw[eR];rfl);obtain⟨b1,b2⟩:=ajb (w:=w) (B:=w0.heap.size) (k:=k) (cs:=(cur.toList.take p++vs++cur.toList.drop (p+vs.length)).toArray) e2;have F9:(cur.toList.take p++vs++cur.toList.drop (p+vs.length)).take (xs.length*e.size)=cells.take p++vs++cells.drop (p+vs.length):=by
  rw[<-e7];apply vj;intro q;simp only[sr,fN,mD,dL,gk,z7];by_cases hq:q<xs.length*e.size
  .rw[if_pos hq];by_cases F3:q<p
   .simp[F3,Nat.lt_min,show q<cur.size by omega,hq]
   .by_cases gV:q-p<vs.length
    .rw[if_neg (by omega),mF (by omega),if_pos gV,if_neg (by omega),mF (by omega),if_pos gV]
    .rw[if_neg (by omega),mF (by omega),if_neg gV,if_neg (by omega),mF (by omega),if_neg gV,if_pos (by omega)]
  .rw[if_neg hq];have:¬q<p:=by omega
   rw[if_neg (by omega),mF (by omega),if_neg (by omega),if_neg (by omega)]
 have:=h.updB j (.row T e) (.list (xs.set i d')) b1 (λq hq au=>b2 q λe=>au (e▸bu))
  ⟨cells.take p++vs++cells.drop (p+vs.length),xs.set i d',by simp[Env.setO,aN],⟨by simp;omega,.inr ⟨k,c,_,by rw[eR];simp,e2,setRow_heap w k cur _ T _ e3,by simpa using e4,e5,by simp;omega,by simpa using F9⟩⟩,?_,h4⟩
 .rw[St.setO_self eo] at this;exact this
 .obtain⟨us,u1,u2⟩:=h3;refine⟨λq=>if q=i then v' else us q,λq x hx=>?_,λq m u hq hm=>?_⟩
  .rw[DM] at hx;by_cases B8:i=q
   .subst B8;simp only[if_true] at hx ⊢;rw[if_pos hi] at hx;cases hx;exact hr
   .rw[if_neg B8] at hx;simp only[show ¬q=i from λe=>B8 e.symm,if_false];exact u1 q x hx
  .by_cases B8:q=i
   .subst B8;simp only[if_true] at hm;exact hv' m u hm
   .simp only[B8,if_false] at hm;simp only[List.length_set] at hq;have h9:=u2 q m u hq hm;have aF7:m<e.size:=by rw[<-(u1 q _ (aW hq)).size];exact(ei.1 hm).1
    have kP:q*e.size+m<p\/p+vs.length<=q*e.size+m:=by
     rcases IU q i with af|gR
     .left;have:(q+1)*e.size<=i*e.size:=ka _ af;rw[j7] at this;omega
     .right;have:(i+1)*e.size<=q*e.size:=ka _ (by omega);rw[j7] at this;omega
    rw[sr,mD,dL,mF (by omega)];rcases kP with ho|ho
    .rw[if_pos ho,fN,if_pos ho];exact h9
    .rw[if_neg (by omega),nE (by omega),gk];rw[show p+vs.length+(q*e.size+m-p-vs.length)=q*e.size+m by omega];exact h9
def am7 (h:Inv C S O V own hv w0 σ0 A a w)(hC:CtxOK C σ0){T:TypeId}{x v:Operand}{r:St×List PI}(hr:EV C S T x v=some r){o:Oper}(hd:o.dst=none)(ho:o.op=.store T x v):bU C w0 σ0 Z S O A a w o r:=by
 unfold EV at hr;split at hr
 case h_2=>cases hr
 rename_i inf hi;obtain⟨dU,_⟩:=tJ h (gs:=[]) rfl x;split at hr
 case h_3=>cases hr
 .rename_i j ver off es;rw[es] at dU;cases hb:Nat.beq ver (S.ver j)<;>simp only[hb,zyy,zyx] at hr
  .cases hr
  obtain⟨k,eR,fV⟩:=dU.2 (ay hb);have bj:=h.objs j;split at hr
  case h_2=>cases hr
  rename_i ag shs eo;rw[eo] at bj;obtain⟨k',cs,E,ds,h1,h2,h3,h4,h5,h6,h7⟩:=bj;have cB:=h1;rw[eR] at h1;cases h1;split at hr
  .rename_i t e hu;have hv':=cw h hC rfl hu;cases hc:(Nat.beq inf.size t.size&&(t.rowT||t.one)&&Nat.ble (off+t.size) shs.length)<;>simp only[hc,zyy,zyx] at hr
   .cases hr
   cases hr;simp only[ao,kE] at hc;obtain⟨⟨aJ,iZ⟩,hle⟩:=hc;have aJ:=ay aJ;have hle:=jH hle;obtain⟨f1,f2,f3⟩:=hv'.flat iZ;have ja:=hv'.size;refine bU.skip hd λO' ak=>?_;rw[tD ak]
   refine⟨_,Ig ho hi fV (by rw[ja,aJ]) (λu hu=>by
        obtain⟨m,hm,rfl⟩:=fm hu;exact hv'.cellsOne iZ (m:=m) (by simp at hm ⊢)) h3 (by omega),?_⟩
   have cI:=h.storeBox (off:=off) (news:=t.flat.map .dat) (vs:=(a.eval v).cells.toList) (dn:=(e.ev O).cells) eo cB h2 h3 h4 h5 h6 h7 (by simp[f1,ja]) (by simp[f2,ja]) (by simp[ja];omega) (λi s hi=>by
        simp only[cj,aB] at hi;obtain⟨ti,SQ,rfl⟩:=hi;refine⟨λ_ _ e=>(by cases e),?_⟩;rw[BL];exact(f3 i ti SQ).2)
   have e1:(a.eval v).cells.toList.length=t.size:=by simp[ja]
   rw[e1] at cI;rw[aJ];refine⟨V,own,hv,?_⟩;simpa [PE.ev,h5,D.cells] using cI
  .split at hr
   case h_3=>cases hr
   case h_2=>
        rename_i l fT;obtain⟨Cc,_⟩:=tJ h (gs:=[]) rfl v;rw[fT] at Cc;obtain⟨vs,ds',q1,q2,q3,q4,q5⟩:=Cc;cases hc:(Nat.beq inf.size l.length&&Nat.ble (off+l.length) shs.length&&l.all (Rl S))<;>simp only[hc,zyy,zyx] at hr
        .cases hr
        cases hr;simp only[ao] at hc;obtain⟨⟨aJ,hle⟩,dR⟩:=hc;have aJ:=ay aJ;have hle:=jH hle;have jt:(a.eval v).cells.toList=vs:=by rw[q1];simp[Value.cells]
        have cH:(a.eval v).cells.size=vs.length:=by rw[<-jt];simp
        have dz:∀u∈(a.eval v).cells.toList,u.oneCell'=true:=λu hu=>by
         rw[jt] at hu;obtain⟨i,hi,rfl⟩:=fm hu;have yz:i<l.length:=by omega
         have g:=q5 i l[i] (aW yz);have hf:=cN.1 dR l[i] (bS yz);have RZ:vs.getD i undef=vs[i]:=by simp[aE,hi]
         rw[RZ] at g;generalize l[i]=c at g hf;cases c with
         |dat t=>exact(g.2.oneCell g.1).2
         |obj j' ny=>
          simp only[Rl,ao] at hf;rw[g.2 (ay hf.1)];exact(ai1 h hf.2).2
        refine bU.skip hd λO' ak=>?_;rw[tD ak];refine⟨_,Ig ho hi fV (by omega) dz h3 (by omega),?_⟩
        have cI:=h.storeBox (off:=off) (news:=l.map AgC.sh) (vs:=vs) (dn:=ds') eo cB h2 h3 h4 h5 h6 h7 (by simp[q3]) (by omega) (by omega) (λi s hi=>by
         simp only[cj,aB] at hi;obtain⟨c,hc,rfl⟩:=hi;have g:=q5 i c hc;cases c with
         |dat t=>exact⟨λ_ _ e=>(by cases e),g.2⟩
         |obj j' ny=>exact⟨λ_ _ e=>(by cases e),g⟩)
        rw[jt,aJ];have e1:vs.length=l.length:=q3;rw[e1] at cI;refine⟨V,own,hv,?_⟩;simpa [PE.ev,h5,q2,D.cells] using cI
   rename_i j' ny fT;obtain⟨Cc,_⟩:=tJ h (gs:=[]) rfl v;rw[fT] at Cc;cases hc:(Nat.beq ny (S.ver j')&&lH (S.o j')&&Nat.beq inf.size 1&&Nat.blt off shs.length)<;>simp only[hc,zyy,zyx] at hr
   .cases hr
   cases hr;simp only[ao] at hc;obtain⟨⟨⟨ar0,gy⟩,aJ⟩,af⟩:=hc;have aJ:=ay aJ;have af:off<shs.length:=by simpa [ph] using af
   have cv:=Cc.2 (ay ar0);obtain⟨c1,c2⟩:=ai1 h gy;have jt:(a.eval v).cells=#[a.eval v]:=by rw[cv];exact c1
   refine bU.skip hd λO' ak=>?_;rw[tD ak];refine⟨_,Ig ho hi fV (by rw[jt,aJ];rfl) (λu hu=>by rw[jt] at hu;simp at hu;subst hu;rw[cv];exact c2) h3 (by omega),?_⟩
   have cI:=h.storeBox (off:=off) (news:=[.obj j' ny]) (vs:=[a.eval v]) (dn:=[.none]) eo cB h2 h3 h4 h5 h6 h7 rfl rfl (by simp;omega) (λi s hi=>by
        match i,hi with
        |0,hi=>simp at hi;subst hi;exact⟨λ_ _ e=>(by cases e),Cc.1,λ_=>by simpa using cv⟩
        |i+1,hi=>simp at hi)
   rw[jt,aJ];have e2:shs.take off++[Sh.obj j' ny]++shs.drop (off+[a.eval v].length)=shs.set off (.obj j' ny):=by
        rw[List.set_eq_take_append_cons_drop,if_pos af];simp
   rw[e2] at cI;refine⟨V,own,hv,?_⟩;simpa [PE.ev,h5,D.cells] using cI
 .rename_i j ver size off es;rw[es] at dU;cases hb:Nat.beq ver (S.ver j)<;>simp only[hb,zyy,zyx] at hr
  .cases hr
  obtain⟨k,n,c,ik,i,eR,vH,bP,fV⟩:=dU.2 (ay hb);have bj:=h.objs j;split at hr
  .rename_i T' ts t e eo hu;rw[eo] at bj;have hv':=cw h hC rfl hu;cases hc:(Nat.beq inf.size t.size&&(t.rowT||t.one)&&Nat.beq size ts.length&&Nat.ble (off+t.size) ts.length&&Ty.subs t.flat ((ts.drop off).take t.size))<;>simp only[hc,zyy,zyx] at hr
   .cases hr
   cases hr;simp only[ao,kE] at hc;obtain⟨⟨⟨⟨aJ,iZ⟩,yQ⟩,hle⟩,cg⟩:=hc;have aJ:=ay aJ;have yQ:=ay yQ;have hle:=jH hle;obtain⟨f1,f2,f3⟩:=hv'.flat iZ;have ja:=hv'.size;have f1:t.flat.length=t.size:=f1;have f2:(e.ev O).cells.length=t.size:=f2;have ja:(a.eval v).cells.size=t.size:=ja;obtain⟨cells,xs,k1,k2,k3,k4⟩:=bj;obtain⟨b,c',e1,FI,FJ⟩:=zp k2;rw[eR] at e1;cases e1;obtain⟨us,u1,u2⟩:=k3;obtain⟨y,hy⟩:∃y,xs[i]?=some y:=⟨_,aW bP⟩
   obtain⟨os,ds,vW,hd0,l1,l2,aK,dz⟩:=(u1 i y hy).agg_inv;have Gb:(a.eval v).cells.toList.length=t.size:=by simp[ja]
   have l5:Rep C.cap V (.agg ts) (.agg (os.take off++(a.eval v).cells.toList++os.drop (off+(a.eval v).cells.toList.length)).toArray) (.agg (dJ ds off (e.ev O).cells)):=by
        refine .agg _ _ _ (by simp[ja];omega) (by simp[dJ,f2];omega) (λm tm hm=>?_) dz;rw[KV os _ off undef (by rw[Gb];omega),dJ,KV ds _ off .none (by rw[f2];omega),Gb,f2];split
        .rename_i hc;have arJ:=Ty.subs_get _ _ cg (m-off) tm (by
          rw[fN,if_pos (by omega),gk,show off+(m-off)=m by omega];exact hm)
         obtain⟨tf,htf,cI⟩:=arJ;rw[BL];exact((f3 _ tf htf).2).sub cI
        .exact aK m tm hm
   have aY:=k2.1;have aqw:i*(Ty.agg ts).size+(Ty.agg ts).size<=xs.length*(Ty.agg ts).size:=by
        have:(i+1)*(Ty.agg ts).size<=xs.length*(Ty.agg ts).size:=ka _ bP;rw[j7] at this;omega
   have adY:(Ty.agg ts).size=ts.length:=rfl
   obtain⟨cur,q1,q2,q3⟩:=h.storeRow (i:=i) (p:=i*(Ty.agg ts).size+off) (vs:=(a.eval v).cells.toList) eo eR k1 k2 ⟨us,u1,u2⟩ k4 bP (by omega) (by rw[Gb];omega) l5 (λq u hq=>by
        have dH:(os.take off++(a.eval v).cells.toList++os.drop (off+(a.eval v).cells.toList.length))[q]?=some u:=by simpa [Value.cells] using hq
        have aGi:q<ts.length:=by have:=(eG.1 dH).1;simp[ja] at this;omega
        rw[sr,mD,dL,mF (by omega)] at dH;rw[sr,mD,dL,mF (by omega)];by_cases sZ:q<off
        .rw[if_pos sZ,fN,if_pos sZ] at dH;rw[if_pos (by omega),fN,if_pos (by omega)];exact u2 i q u bP (by rw[vW];simpa [Value.cells] using dH)
        .rw[if_neg sZ,mD] at dH;rw[if_neg (by omega),mD];rw[show i*(Ty.agg ts).size+q-(i*(Ty.agg ts).size+off)=q-off by omega];by_cases LM:q-off<(a.eval v).cells.toList.length
         .rw[if_pos LM] at dH ⊢;exact dH
         .rw[if_neg LM,gk] at dH;rw[if_neg LM,gk];rw[show off+(a.eval v).cells.toList.length+(q-off-(a.eval v).cells.toList.length)=q by omega] at dH;rw[show i*(Ty.agg ts).size+off+(a.eval v).cells.toList.length+(q-off-(a.eval v).cells.toList.length)=i*(Ty.agg ts).size+q by omega];exact u2 i q u bP (by rw[vW];simpa [Value.cells] using dH))
   refine bU.skip hd λO' ak=>?_;rw[tD ak]
   refine⟨_,Ig ho hi (cs:=cur) (by rw[fV,yQ]) (by rw[ja,aJ]) (λu hu=>by
        obtain⟨m,hm,rfl⟩:=fm hu;exact hv'.cellsOne iZ (m:=m) (by simp at hm ⊢)) q1 (by rw[Gb] at q2;rw[aJ,<-adY];exact q2),V,own,hv,?_⟩
   rw[Gb] at q3;simp only[PE.ev,k1,D.l_list,vH,D.i_int,xt,uv hy,hd0,wW];rw[aJ,<-adY];exact q3
  .rename_i T' e0 t e au eo hu;rw[eo] at bj;have hv':=cw h hC rfl hu;cases hc:(Nat.beq inf.size 1&&Nat.beq size 1&&Nat.beq off 0&&e0.one&&Ty.sub t e0)<;>simp only[hc,zyy,zyx] at hr
   .cases hr
   cases hr;simp only[ao] at hc;obtain⟨⟨⟨⟨aJ,yQ⟩,iY⟩,dz⟩,cg⟩:=hc;have aJ:=ay aJ;have yQ:=ay yQ;have iY:=ay iY;subst iY;subst yQ;have hve:=hv'.sub cg;obtain⟨c1,c2⟩:=hve.oneCell dz;have Fw:e0.size=1:=by cases e0<;>simp_all [Ty.size,Ty.one]
   obtain⟨cells,xs,k1,k2,k3,k4⟩:=bj;obtain⟨b,c',e1,FI,FJ⟩:=zp k2;rw[eR] at e1;cases e1;obtain⟨y,hy⟩:∃y,xs[i]?=some y:=⟨_,aW bP⟩
   have aY:=k2.1
   obtain⟨cur,q1,q2,q3⟩:=h.storeRow (i:=i) (p:=i*e0.size) (vs:=[a.eval v]) eo eR k1 k2 k3 k4 bP (aX _) (by rw[Fw];simp) hve (λq u hq=>by
        rw[c1] at hq;have sY:q=0:=by have:=(ei.1 hq).1;simpa using this
        subst sY;simp at hq;subst hq;have:i*e0.size<=cells.length:=by rw[aY];exact ka _ (by omega)
        rw[sr,nE (by simp;omega)];simp[mF this])
   refine bU.skip hd λO' ak=>?_;rw[tD ak];refine⟨_,Ig ho hi (cs:=cur) (by rw[fV]) (by rw[c1,aJ];rfl) (λu hu=>by rw[c1] at hu;simp at hu;subst hu;exact c2) q1 (by rw[Fw] at q2;rw[aJ];simpa using q2),V,own,hv,?_⟩;rw[c1,aJ];have Gg:wW y 0 (e.ev O)=e.ev O:=by
        obtain⟨us,u1,u2⟩:=k3;have:=(u1 i y hy).dcells dz;cases y with
        |agg ds=>have h8:=u1 i _ hy;generalize us i=vv at h8;cases h8;simp[Ty.one] at dz
        |_=>rfl
   simp only[PE.ev,k1,D.l_list,vH,D.i_int,xt,uv hy,Gg];rw[Fw] at q3;simpa using q3
  .cases hr
def anz {O:Env}{es:List PE}{i:Nat}{e:PE}(h:es[i]?=some e):(PE.evs O es)[i]?=some (e.ev O):=by
 rw[PE.evs_eq,cj,h];rfl
def abJ (h:Inv C S O V own hv w0 σ0 A a w)(hC:CtxOK C σ0)(hg:holds gs O=true){T:TypeId}{len:Nat}{ps:Array (Nat×Operand)}{r:St×List PI}(hr:ya C S gs dst T len ps.toList=some r){o:Oper}
 (ho:o.op=.buildSlice T len ps):∃(E:TypeId) (e:Ty) (es:List PE) (v:Value) (w':World),C.P.underlying T=some (.slice E)/\qs C.P E=some e/\r=(mkObj S dst (.row E e),[.setO dst (.lst es),.setR dst (.con .none)])/\
   (execOp a.eval o).run C.P w=.ok (.value v) w'/\Below w.heap.size w w'/\(∀k,Nat.beq k w.heap.size=true->w.heap.size<=k/\k<w'.heap.size)/\
   bZ C (S.newO dst (.row E e)) (O.setO dst (.list (PE.evs O es))) V (fJ own dst (λk=>Nat.beq k w.heap.size)) (bY hv dst v) w' w0.heap.size dst (.row E e):=by
 unfold ya at hr;split at hr
 case h_2=>cases hr
 rename_i E hT;simp only[az] at hr;obtain⟨e,he,z,hz,hr⟩:=hr;cases hc:(sH C.P E e&&Ty.sub z.1 e&&gX (ps.toList.map (·.1))&&ps.toList.all (λp=>Nat.blt p.1 len)&&Nat.ble (len*e.size) 16777216)<;>simp only[hc,zyy,zyx] at hr
 .cases hr
 simp only[ao] at hc;obtain⟨⟨⟨⟨hef,cg⟩,bo⟩,fF⟩,hle⟩:=hc;have hle:=jH hle;obtain⟨inf,zv,hi,hs,ri,h1,hzv,mW⟩:=QZ hef;have mX:=Z4 mW;have mS:=pY bo;have Gi:=((zZ (cap:=C.cap) (V:=V) hz mW).1).sub cg;simp only[aB] at hr;obtain⟨es,ju,rfl⟩:=hr;obtain⟨el1,el2⟩:=mapM_some _ _ _ ju;simp only[aar] at el1;have ac1:∀i,i<len->∃pe,es[i]?=some pe/\KL C S gs e z.2 ps.toList i=some pe:=by
  intro i hi;obtain⟨y,hy1,vX⟩:=el2 i i (by rw[sv hi]);exact⟨y,hy1,vX⟩
 have pK:∀x,x∈ps.toList->x.1<len/\∃t pe,use C S gs x.2=some (t,pe)/\Ty.sub t e=true/\es[x.1]?=some pe:=by
  intro x hx;have yY:x.1<len:=by
   have:=cN.1 fF x hx;simpa [ph] using this
  refine⟨yY,?_⟩;obtain⟨pe,FW,fE⟩:=ac1 x.1 yY;have Fy:=ab6 mS (i:=x.1) (x:=x.2) hx;simp only[KL,Fy,az] at fE;obtain⟨y,hy,fE⟩:=fE;cases hs:Ty.sub y.1 e<;>simp only[hs,zyy,zyx] at fE
  .cases fE
  cases fE;exact⟨y.1,y.2,hy,hs,FW⟩
 let c0:Array Value:=madeCells zv.cells (len*e.size)
 have Fp:c0.size=len*e.size:=size_madeCells _ _
 have kr:∀p,p∈(ps.toList.map λ(x:Nat×Operand)=>(x.1,a.eval x.2))->∃o,(λi=>some (i*e.size,e.size)) p.1=some (o,p.2.cells.size)/\o+p.2.cells.size<=c0.size:=by
  intro p hp;obtain⟨x,hx,rfl⟩:=cr.1 hp;obtain⟨yY,t,pe,hu,cI,_⟩:=pK x hx;have vQ:=((cw h hC hg hu).sub cI).size;simp only;refine⟨x.1*e.size,by rw[vQ],?_⟩;rw[vQ,Fp];have:(x.1+1)*e.size<=len*e.size:=ka _ yY;rw[j7] at this;omega
 have BV:∀(i j oi si oj sj:Nat),i≠j->(λi=>some (i*e.size,e.size)) i=some (oi,si)->(λi=>some (i*e.size,e.size)) j=some (oj,sj)->oi+si<=oj\/oj+sj<=oi:=by
  intro i j oi si oj sj au hi hj;simp only[ba,pk] at hi hj;obtain⟨rfl,rfl⟩:=hi;obtain⟨rfl,rfl⟩:=hj;rcases IU i j with af|gR
  .left;have:(i+1)*e.size<=j*e.size:=ka _ af;rw[j7] at this;omega
  .right;have:(j+1)*e.size<=i*e.size:=ka _ (by omega);rw[j7] at this;omega
 obtain⟨df,f1,f2,f3,f4⟩:=Q8 (λi=>some (i*e.size,e.size)) (ps.toList.map λ(x:Nat×Operand)=>(x.1,a.eval x.2)) c0 kr BV (by simpa [IL] using mS);have ak:(execOp a.eval o).run C.P w=.ok (.value (.slice (some ⟨w.heap.size,0,none⟩) len len)) (w.alloc (.cells df E)):=by
  have n1:¬(len*inf.size>2^24):=by rw[hs];omega
  have KP:Instr.fill (λi=>some (i*inf.size,inf.size)) c0 (ps.toList.map λ(x:Nat×Operand)=>(x.1,a.eval x.2))=some df:=by rw[hs];exact f1
  by_cases h0:len*inf.size=0
  .have BT:c0=#[]:=by
        apply OV;rw[Fp,<-hs];exact h0
   rw[BT] at KP
   have anB:Instr.fill (λi=>some (i*inf.size,inf.size)) (Array.map (λ_=>default) (Array.range 0)) (ps.toList.map λ(x:Nat×Operand)=>(x.1,a.eval x.2))=some df:=by
        have:(Array.map (λ_=>(default:Value)) (Array.range 0))=#[]:=by simp
        rw[this];exact KP
   simp[execOp,ho,Instr.buildSlice,run_underlying hT,Go.sizeOf,run_typeInfo w hi,n1,h0,anB,newRow]
  .have BT:c0=(Array.range (len*inf.size)).map (λx=>zv.cells[x%zv.cells.size]!):=by simp only[c0,madeCells,hs]
   rw[BT] at KP;have h00:¬(len=0\/inf.size=0):=by rw[<-Nat.mul_eq_zero];exact h0
   simp[execOp,ho,Instr.buildSlice,run_underlying hT,Go.sizeOf,run_typeInfo w hi,n1,h0,h00,zeroValue,hzv,KP,newRow]
 refine⟨E,e,es,_,_,hT,he,rfl,ak,(Below.refl _ _).alloc (aX _) _,λk hk=>by simp at hk;simp;omega,?_⟩;have dt:(PE.evs O es).length=len:=by rw[PE.evs_eq,dY,el1]
 have aqi:∀(i:Nat) (x:D),(PE.evs O es)[i]?=some x->∃v,Rep C.cap V e v x/\∀q u,v.cells[q]?=some u->df.toList[i*e.size+q]?=some u:=by
  intro i x hx;have yz:i<len:=by have:=(eG.1 hx).1;omega
  obtain⟨pe,FW,fE⟩:=ac1 i yz;rw[anz FW] at hx;cases hx;unfold KL at fE;split at fE
  .rename_i p hp;have hpm:=DO hp;have LL:p.1=i:=by have:=O8 hp;simpa using this
   obtain⟨_,t,pe',hu,cI,oB⟩:=pK p hpm;rw[LL,FW] at oB;cases oB;have bJ:=(cw h hC hg hu).sub cI;refine⟨_,bJ,λq u hq=>?_⟩;have uL:q<(a.eval p.2).cells.size:=(ei.1 hq).1;have:=f3 p.1 (a.eval p.2) (p.1*e.size) (cr.2 ⟨p,hpm,rfl⟩) (by simp[bJ.size]) q uL;rw[LL] at this;simp[this,hq]
  .rename_i hp;cases fE;refine⟨zv,Gi,λq u hq=>?_⟩;have uL:q<zv.cells.size:=(ei.1 hq).1
   have pH:i∉(ps.toList.map λ(x:Nat×Operand)=>(x.1,a.eval x.2)).map (·.1):=by
        intro cQ;simp only[nF,cr,IL] at cQ;obtain⟨x,Ci,e⟩:=cQ;have:=Af.1 hp x Ci;simp[e] at this
   have:=f4 i (i*e.size) e.size pH rfl q (by omega);have h9:c0[i*e.size+q]?=zv.cells[q]?:=by
        simp only[c0];rw[<-mX];exact ae7 (by omega) yz uL
   simp[this,h9,hq]
 have ja:∃vs:Nat->Value,∀(i:Nat) (x:D),(PE.evs O es)[i]?=some x->Rep C.cap V e (vs i) x/\∀q u,(vs i).cells[q]?=some u->df.toList[i*e.size+q]?=some u:=by
  have kN:∀i,∃v,∀x,(PE.evs O es)[i]?=some x->Rep C.cap V e v x/\∀q u,v.cells[q]?=some u->df.toList[i*e.size+q]?=some u:=by
   intro i;cases hx:(PE.evs O es)[i]? with
   |none=>exact⟨undef,λx cZ=>by cases cZ⟩
   |some x=>
    obtain⟨v,hv⟩:=aqi i x hx;exact⟨v,λy hy=>by cases hy;exact hv⟩
  exact⟨λi=>Classical.choose (kN i),λi x hx=>aad (kN i) x hx⟩
 obtain⟨vs,ja⟩:=ja;have cH:df.size=len*e.size:=by rw[f2,Fp]
 refine⟨df.toList,PE.evs O es,by simp[Env.setO,aN],?_,⟨vs,λi x hx=>(ja i x hx).1,λi j u hi hj=>(ja i _ (aW hi)).2 j u hj⟩,λk hk=>by rw[aN] at hk;simp[Value.ownBlock] at hk;simp[fJ,hk]⟩;rw[aN,dt];have R6:len<=maxLen:=by
  have:len*1<=len*e.size:=Nat.mul_le_mul_left _ h1;unfold maxLen;omega
 exact⟨by simp[cH],.inr ⟨w.heap.size,len,df,rfl,h.below.size,heap_alloc_new w _,aX _,R6,cH,by rw[xD (by simp[cH])]⟩⟩
def amH (h:Inv C S O V own hv w0 σ0 A a w)(hC:CtxOK C σ0)(ht:¬A dst)(af:dst<a.tmps.size){T:TypeId}{len:Nat}{ps:Array (Nat×Operand)}{r:St×List PI}(hr:ya C S [] dst T len ps.toList=some r){o:Oper}(hd:o.dst=some dst)
 (ho:o.op=.buildSlice T len ps):bU C w0 σ0 Z S O A a w o r:=by
 obtain⟨E,e,es,v,w',_,_,rfl,ak,hb,dS,cS⟩:=abJ h hC rfl hr ho;refine bU.value hd λO' pM=>⟨_,_,ak,?_⟩
 rw[Di pM];exact h.mkObj ht af (.row E e) _ _ (λk=>Nat.beq k w.heap.size) hb dS cS
def Inv.kill (h:Inv C S O V own hv w0 σ0 A a w)(j:Nat):Inv C (S.newO j .dead) O V own hv w0 σ0 A a w:=by
 have dA:∀i,S.ver i<=(S.newO j .dead).ver i:=by
  intro i;show S.ver i<=bY S.ver j (S.ver j+1) i;rw[fj];by_cases e:i=j
  .subst e;simp
  .simp[e]
 have hc:Compat S hv (S.newO j .dead) hv:=⟨dA,λ_ _=>rfl⟩
 refine h.step (·=j) rfl (.refl V) h.ok (λ_ _ _ hx=>.inl hx) (λ_ _ hx=>.inl hx) (.refl _ _) hc (λi hi=>⟨by simp[St.newO,bA _ _ hi],rfl,rfl,λk hk=>⟨hk,rfl⟩⟩) (λi hi=>?_) h.owns (λ_=>id) (λt=>.inl ⟨rfl,rfl,rfl⟩) (λ_ _=>rfl) (λ_ _ _=>rfl) (λk i hk=>.inl ⟨i,hk⟩) (λi hi=>by subst hi;simp[St.newO,aN]);subst hi;simp only[St.newO,aN];trivial
def amV (h:Inv C S O V own hv w0 σ0 A a w)(hC:CtxOK C σ0)(ht:¬A dst)(af:dst<a.tmps.size)(ew:∀g,g∈gs->A g.1)(hg:holds gs O=true){T:TypeId}{len:Nat}{ps:Array (Nat×Operand)}{r:St×List PI}(hr:BA C S gs dst T len ps.toList=some r){o:Oper}(hd:o.dst=some dst)
 (ho:o.op=.buildSlice T len ps):bU C w0 σ0 Z S O A a w o r:=by
 unfold BA at hr;split at hr
 case h_2=>cases hr
 rename_i E q hT hq;simp only[az] at hr;obtain⟨e,he,hr⟩:=hr;obtain⟨E',e',es,v,w',BP,uE,rfl,ak,hb,dS,cS⟩:=abJ h hC hg hq ho;rw[hT] at BP;cases BP;rw[he] at uE;cases uE;cases hr;refine bU.value hd λO' pM=>⟨_,_,ak,?_⟩
 have hρ:O'=O.setR dst (.list (PE.evs O es)):=by simp[PI.runs,PI.run,PE.ev] at pM;exact pM.symm
 subst hρ;have h1:=h.newO dst (.row E e) (.list (PE.evs O es)) v (λk=>Nat.beq k w.heap.size) hb dS cS;obtain⟨σ2,jB,_,h2⟩:=h1.fz dst;have BY:(S.newO dst (.row E e)).fz dst=(S.newO dst (.row E e)).setO dst (.fz (.slice e.rol)):=by
  have:(S.newO dst (.row E e)).o dst=.row E e:=aN _ _ _;unfold St.fz;rw[this]
 rw[BY] at h2;have bj:=h2.objs dst;have e1:((S.newO dst (.row E e)).setO dst (.fz (.slice e.rol))).o dst=.fz (.slice e.rol):=aN _ _ _;rw[e1] at bj;have bJ:Rep C.cap σ2 (.slice e.rol) v (.list (PE.evs O es)):=by
  have:=bj.2
  rwa [aN,show(O.setO dst (.list (PE.evs O es))).o dst=.list (PE.evs O es) from aN _ _ _] at this
 have h3:Inv C (S.newO dst .dead) O σ2 jB (bY hv dst v) w0 σ0 A a w':=by
  refine h2.step (·=dst) rfl (.refl σ2) h2.ok (λ_ _ _ hx=>.inl hx) (λ_ _ hx=>.inl hx) (.refl _ _) ⟨λi=>aX _,λ_ _=>rfl⟩ (λi hi=>⟨?_,?_,rfl,λk hk=>⟨hk,rfl⟩⟩) (λi hi=>?_) h2.owns (λ_=>id) (λt=>.inl ⟨rfl,rfl,rfl⟩) (λ_ _=>rfl) (λ_ _ _=>rfl) (λk i hk=>.inl ⟨i,hk⟩) (λi hi=>by subst hi;simp[St.newO,aN])
  .simp[St.newO,St.setO,bA _ _ hi]
  .simp[Env.setO,bA _ _ hi]
  .subst hi;simp only[St.newO,aN];trivial
 have hh:holds gs (O.setR dst (.list (PE.evs O es)))=true:=by rw[FT (t:=dst) λg hm e=>ht (by rw[<-e];exact ew g hm)];exact hg
 cases gs with
 |nil=>exact⟨_,_,_,h3.setReg ht (s:=.dat (.slice e.rol)) bJ af (λ_ _ e=>by cases e)⟩
 |cons g bM=>
  refine⟨_,_,_,h3.setReg ht (s:=.opt (g::bM) (.dat (.slice e.rol))) ⟨λ_=>bJ,λe=>absurd (hh.symm.trans e) (by decide)⟩ af (λgs s e=>?_)⟩;cases e;exact⟨ew,λ_ _ e=>by cases e⟩
end
end Cx
