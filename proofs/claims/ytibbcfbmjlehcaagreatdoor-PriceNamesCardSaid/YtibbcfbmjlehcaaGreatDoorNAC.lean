/-
  Shared texts of this claim.
-/
import Derived.Test.YtibbcfbmjlehcaaGreatDoorNAB
import Derived.Laws.OwnMore
import Derived.Lib.ConvBytes
set_option linter.defProp false
set_option linter.unusedSimpArgs false
set_option linter.unusedVariables false
namespace Cx
open Go Go.RowKit
def gW (b i:Nat):Nat:=4096*(i+1)+b
def St.fz (S:St)(j:Nat):St:=
 match S.o j with
 |.row _ e=>S.setO j (.fz (.slice e.rol))
 |.mp k e=>S.setO j (.fz (.map k e))
 |_=>S
def E5 (S:St)(b:Nat):Option (St×List PI):=
 match S.o b with
 |.box ag shs=>
  (xV S (.o b) shs 0).bind λx=>
    bif ag then some (S.setO b (.fbox (.agg x.1)),[.setO b (.mk x.2)])
    else match x.1,x.2 with
     |[t],[e]=>some (S.setO b (.fbox t),[.setO b e])
     |_,_=>Option.none
 |_=>Option.none
def St.mv (S:St)(j j':Nat):St:=
 {S with o:=bX (bX S.o j' (S.o j)) j .dead,ver:=bX (bX S.ver j' (S.ver j'+1)) j (S.ver j+1)}
def lL:Ob->Bool
 |.row ..=>true
 |.mp ..=>true
 |_=>false
def H9 (S:St)(t j':Nat):Option (St×List PI):=
 match S.r t with
 |.obj j ver=>
  bif Nat.beq ver (S.ver j)&&lL (S.o j)&& !Nat.beq j j' then some ((S.mv j j').setR t (.obj j' (S.ver j'+1)),[.setO j' (.o j)])
  else some (S,[])
 |_=>some (S,[])
def H8 (S:St)(b i j':Nat):Option (St×List PI):=
 match S.o b with
 |.box ag shs=>
  match shs[i]? with
  |some (.obj j ver)=>
   bif Nat.beq ver (S.ver j)&&lL (S.o j)&& !Nat.beq j j'&& !Nat.beq b j'&& !Nat.beq b j then
    some ((S.mv j j').setO b (.box ag (shs.set i (.obj j' (S.ver j'+1)))),[.setO j' (.o j)])
   else some (S,[])
  |_=>some (S,[])
 |_=>some (S,[])
def FP (C:Ctx)(S:St)(b i j:Nat)(T:TypeId):Option (St×List PI):=
 match S.o b with
 |.box ag shs=>
  match shs[i]?,qy C.P T with
  |some (.dat (.nils _)),some e=>
   bif !Nat.beq b j then some ((S.newO j (.row T e)).setO b (.box ag (shs.set i (.obj j (S.ver j+1)))),[.setO j (.con (.list []))])
   else some (S,[])
  |_,_=>some (S,[])
 |_=>some (S,[])
section
variable {C:Ctx} {S:St} {O:Env} {V:Im} {own:Nat->Option Nat} {hv:Nat->Value} {w0:World} {σ0:Base} {A:Nat->Prop} {a:Act} {w:World} {gs:List (Nat×Bool)} {Z:aS} {dst:Nat}
def Inv.lt (h:Inv C S O V own hv w0 σ0 A a w){k o:Nat}{u:Value}(hc:V.c k o=some u):k<w.heap.size:=World.block_lt_of_cell? w (a:=⟨k,o,none⟩) (h.ok.c _ _ _ hc)
def Inv.ltm (h:Inv C S O V own hv w0 σ0 A a w){k:Nat}{es:List (Value×Value)}(hc:V.m k=some es):k<w.heap.size:=by
 exact(h.ok.m _ _ hc).lt
def ajr {w:World}{k:Nat}{c:Array Value}{T:TypeId}(h:w.heap[k]?=some (.cells c T (0,0)))(o:Nat):w.frozen? ⟨k,o,none⟩=false:=by simp[World.frozen?,h]
def ahk {w:World}{base:Nat}{e:TypeId}{size:Nat}{v:Value}{n:Nat}{xs:List Value}(h:w.ownsRow base e size v n xs){g:Nat}(hg:v.ownBlock=some g)(o:Nat):w.frozen? ⟨g,o,none⟩=false:=by
 rcases h.2 with⟨rfl,_⟩|⟨g',cap,cur,rfl,_,h3,_⟩
 .cases hg
 .cases hg;exact ajr h3 o
def ahj {w:World}{base:Nat}{e:TypeId}{size:Nat}{v:Value}{n:Nat}{xs:List Value}(h:w.ownsRow base e size v n xs){g:Nat}(hg:v.ownBlock=some g):∃cs T fz,w.heap[g]?=some (.cells cs T fz):=by
 rcases h.2 with⟨rfl,_⟩|⟨g',cap,cur,rfl,_,h3,_⟩
 .cases hg
 .cases hg;exact⟨_,_,_,h3⟩
def Im.ok.fz {V:Im}{w w':World}(h:V.ok w)(hk:∀k o v,V.c k o=some v->w'.heap[k]?=w.heap[k]?):∀k o n,V.c k o=some (.int .i64 n)->k<=2\/w'.frozen? ⟨k,o,none⟩=false:=λk o n hc=>by
 rw[World.frozen?_of_block (w:=w) (hk k o _ hc)];exact h.f k o n hc
def Im.ok.below {V:Im}{w w':World}(h:V.ok w)(hb:Below w.heap.size w w'):V.ok w':=by
 refine⟨λk o v hc=>?_,λk es hc=>?_,h.fz λk o v hc=>hb.block k (World.block_lt_of_cell? w (a:=⟨k,o,none⟩) (h.c k o v hc))⟩
 .have h1:=h.c k o v hc;rw[hb.cell (World.block_lt_of_cell? w (a:=⟨k,o,none⟩) h1)];exact h1
 .exact(h.m k es hc).keep (hb.block k (h.m k es hc).lt)
def fM (own:Nat->Option Nat)(j:Nat)(nb:Nat->Bool):Nat->Option Nat:=λk=>if nb k then some j else if own k=some j then none else own k
def Inv.newOσ (h:Inv C S O V own hv w0 σ0 A a w)(j:Nat)(ob:Ob)(d:D)(v:Value)(nb:Nat->Bool){V':Im}{w':World}(hle:V.le V')(ar:V'.ok w')(dp:∀k o x,V'.c k o=some x->V.c k o=some x\/w.heap.size<=k)(cS:∀k x,V'.m k=some x->V.m k=some x\/w.heap.size<=k)
 (hw:Below w.heap.size w w') (dW:∀k,nb k=true->w.heap.size<=k/\k<w'.heap.size) (dV:∀k,nb k=true->(∀o,V'.c k o=none)/\V'.m k=none)
 (cT:bY C (S.newO j ob) (O.setO j d) V' (fM own j nb) (bX hv j v) w' w0.heap.size j ob) (oz:ob≠.tr:=by intro h;cases h):Inv C (S.newO j ob) (O.setO j d) V' (fM own j nb) (bX hv j v) w0 σ0 A a w':=by
 have aI:w0.heap.size<=w.heap.size:=h.below.size;have bu:∀k i,i≠j->own k=some i->fM own j nb k=some i:=by
  intro k i hi hk;have h1:=h.owns k i hk;have h2:nb k=false:=by
   cases hn:nb k with
   |false=>rfl
   |true=>have:=dW k hn;omega
  simp[fM,h2,hk,hi]
 refine h.step (λi=>i=j) rfl hle ar (λk o x hx=>(dp k o x hx).imp id λe=>⟨by omega,.inr e⟩) (λk x hx=>(cS k x hx).imp id λe=>⟨by omega,.inr e⟩) (hw.mono aI) ⟨λi=>?_,λi e=>?_⟩ (λi hi=>⟨?_,?_,?_,λk hk=>⟨bu k i hi hk,?_⟩⟩) (λi hi=>?_) (λk i hk=>?_) (λ_=>id) (λt=>.inl ⟨rfl,rfl,rfl⟩) (λ_ _=>rfl) (λk hk _=>hw.block k hk) (λk i hk=>by
  unfold fM at hk;split at hk
  .rename_i hn;exact .inr (dW k hn).1
  .split at hk
   .cases hk
   .exact .inl ⟨i,hk⟩) (λi hi=>by subst hi;simpa only[St.newO,aN] using oz)
 .simp only[St.newO,fp];split<;>rename_i e
  .subst e;omega
  .omega
 .simp only[St.newO,fp] at e;split at e
  .rename_i e';subst e';omega
  .rename_i au;exact bA _ _ au
 .simp[St.newO,bA _ _ hi]
 .simp[Env.setO,bA _ _ hi]
 .exact bA _ _ hi
 .exact hw.block k (h.owns k i hk).2.1
 .subst hi;simp only[St.newO,aN];exact cT
 .unfold fM at hk;split at hk
  .rename_i hn;obtain⟨g1,g2⟩:=dW k hn;exact⟨by omega,g2,(dV k hn).1,(dV k hn).2⟩
  .split at hk
   .cases hk
   .obtain⟨g1,g2,g3,g4⟩:=h.owns k i hk;refine⟨g1,by have:=hw.size;omega,λo=>?_,?_⟩
    .cases hc:V'.c k o with
     |none=>rfl
     |some u=>
      rcases dp k o u hc with e|e
      .rw[g3 o] at e;cases e
      .omega
    .cases hc:V'.m k with
     |none=>rfl
     |some u=>
      rcases cS k u hc with e|e
      .rw[g4] at e;cases e
      .omega
def Inv.newO (h:Inv C S O V own hv w0 σ0 A a w)(j:Nat)(ob:Ob)(d:D)(v:Value)(nb:Nat->Bool){w':World}(hw:Below w.heap.size w w')(dW:∀k,nb k=true->w.heap.size<=k/\k<w'.heap.size)
 (cT:bY C (S.newO j ob) (O.setO j d) V (fM own j nb) (bX hv j v) w' w0.heap.size j ob) (oz:ob≠.tr:=by intro h;cases h):Inv C (S.newO j ob) (O.setO j d) V (fM own j nb) (bX hv j v) w0 σ0 A a w':=by
 refine h.newOσ j ob d v nb (.refl V) (h.ok.below hw) (λ_ _ _ hx=>.inl hx) (λ_ _ hx=>.inl hx) hw dW (λk hn=>⟨λo=>?_,?_⟩) cT oz
 .cases hc:V.c k o with
  |none=>rfl
  |some u=>have:=h.lt hc;have:=(dW k hn).1;omega
 .cases hc:V.m k with
  |none=>rfl
  |some u=>have:=h.ltm hc;have:=(dW k hn).1;omega
def Inv.setObj (h:Inv C S O V own hv w0 σ0 A a w){t j:Nat}(ht:¬A t){v:Value}(eZ:hv j=v)(af:t<a.tmps.size):
 Inv C (S.setR t (.obj j (S.ver j))) (O.setR t .none) V own hv w0 σ0 (λu=>A u\/u=t) (a.put (some t) v) w:=
 h.setReg ht (s:=.obj j (S.ver j)) (v:=v) (d:=.none) ⟨ba _,λ_=>eZ.symm⟩ af (λ_ _ e=>by cases e)
def KR (S:St)(j:Nat):(S.fz j).ver=S.ver/\(S.fz j).r=S.r:=by
 unfold St.fz;split<;>exact⟨rfl,rfl⟩
def Inv.fz (h:Inv C S O V own hv w0 σ0 A a w)(j:Nat):∃V' own',V.le V'/\Inv C (S.fz j) O V' own' hv w0 σ0 A a w:=by
 have bj:=h.objs j;unfold St.fz;split
 .rename_i T e eo;rw[eo] at bj;obtain⟨cells,xs,h1,h2,⟨vs,h3,h4⟩,h5⟩:=bj;have aI:w0.heap.size<=w.heap.size:=h.below.size
  let nb:Nat->Bool:=λk=>decide ((hv j).ownBlock=some k)
  let V':Im:={c:=λk o=>if nb k then cells[o]? else V.c k o,m:=λk=>if nb k then some mz else V.m k}
  have dW:∀k,nb k=true->own k=some j:=λk hk=>h5 k (by simpa [nb] using hk);have hle:V.le V':=by
   refine⟨λk o v hc=>?_,λk es hc=>?_⟩
   .have:nb k=false:=by
     cases hn:nb k with
     |false=>rfl
     |true=>have:=(h.owns k j (dW k hn)).2.2.1 o;rw[this] at hc;cases hc
    simp[V',this,hc]
   .have:nb k=false:=by
     cases hn:nb k with
     |false=>rfl
     |true=>have:=(h.owns k j (dW k hn)).2.2.2;rw[this] at hc;cases hc
    simp[V',this,hc]
  refine⟨V',λk=>if nb k then none else own k,hle,h.step (λi=>i=j) rfl hle ?_ (λk o x hx=>?_) (λk x hx=>?_) (.refl _ _) ⟨λ_=>ba _,λ_ _=>rfl⟩ (λi hi=>⟨?_,rfl,rfl,λk hk=>⟨?_,rfl⟩⟩) (λi hi=>?_) (λk i hk=>?_) (λ_=>id) (λt=>.inl ⟨rfl,rfl,rfl⟩) (λ_ _=>rfl) (λ_ _ _=>rfl) (λk i hk=>by
        split at hk
        .cases hk
        .exact .inl ⟨i,hk⟩) (λi hi=>by subst hi;simp[St.setO,aN])⟩
  .refine⟨λk o v hc=>?_,λk es hc=>?_,λk o v hc=>?_⟩
   all_goals simp only[V'] at hc
   all_goals split at hc
   .rename_i hn;have cT:(hv j).ownBlock=some k:=by simpa [nb] using hn
    have:=h2.cells cT o v hc;rw[ug] at this;simpa using this
   .exact h.ok.c k o v hc
   .rename_i hn;cases hc;obtain⟨cs,T,fz,e⟩:=ahj h2 (g:=k) (by simpa [nb] using hn);exact .inr (.inr ⟨rfl,cs,T,fz,e⟩)
   .exact h.ok.m k es hc
   .rename_i hn;exact .inr (ahk h2 (by simpa [nb] using hn) o)
   .exact h.ok.f k o v hc
  .simp only[V'] at hx;split at hx
   .rename_i hn;exact .inr ⟨(h.owns k j (dW k hn)).1,.inl ⟨j,dW k hn⟩⟩
   .exact .inl hx
  .simp only[V'] at hx;split at hx
   .rename_i hn;exact .inr ⟨(h.owns k j (dW k hn)).1,.inl ⟨j,dW k hn⟩⟩
   .exact .inl hx
  .simp[St.setO,bA _ _ hi]
  .have:nb k=false:=by
        cases hn:nb k with
        |false=>rfl
        |true=>rw[dW k hn] at hk;simp at hk;exact absurd hk.symm hi
   simp[this,hk]
  .subst hi;simp only[St.setO,aN];refine⟨rfl,?_⟩;rw[h1];rcases h2.2 with⟨e1,e2⟩|⟨g,cap,cur,e1,e2,e3,e4,e5,e6,e7⟩
   .rw[e1];have:xs=[]:=OV e2;subst this;exact .nil _
   .rw[e1];refine .slice e.rol g 0 xs.length cap xs vs rfl e4 e5 (λi x hx=>((h3 i x hx).mono hle).unf_rol) (λi m u hi hu=>?_) (λ_=>by simp[V',nb,e1,Value.ownBlock]);rw[Ty.rol_size];have hn:nb g=true:=by simp[nb,e1,Value.ownBlock]
    simp only[V',hn,if_true,gl];exact h4 i m u hi hu
  .split at hk
   .cases hk
   .rename_i hn;obtain⟨g1,g2,g3,g4⟩:=h.owns k i hk;exact⟨g1,g2,λo=>by simp[V',hn,g3 o],by simp[V',hn,g4]⟩
 .rename_i kt et eo;rw[eo] at bj;obtain⟨k0,arr,clock,fU,h1,h2,h3,h4,h5,⟨hx,_⟩,h6⟩:=bj;have aI:w0.heap.size<=w.heap.size:=h.below.size
  let V':Im:={c:=V.c,m:=λk=>if k=k0 then some (entriesOf arr) else V.m k}
  have hle:V.le V':=by
   refine⟨λk o v hc=>hc,λk es hc=>?_⟩;have:k≠k0:=λe=>by subst e;rw[(h.owns k j h2).2.2.2] at hc;cases hc
   simp[V',this,hc]
  refine⟨V',λk=>if k=k0 then none else own k,hle,h.step (λi=>i=j) rfl hle ?_ (λk o x hx=>.inl hx) (λk x hx=>?_) (.refl _ _) ⟨λ_=>ba _,λ_ _=>rfl⟩ (λi hi=>⟨?_,rfl,rfl,λk hk=>⟨?_,rfl⟩⟩) (λi hi=>?_) (λk i hk=>?_) (λ_=>id) (λt=>.inl ⟨rfl,rfl,rfl⟩) (λ_ _=>rfl) (λ_ _ _=>rfl) (λk i hk=>by
        split at hk
        .cases hk
        .exact .inl ⟨i,hk⟩) (λi hi=>by subst hi;simp[St.setO,aN])⟩
  .refine⟨h.ok.c,λk es hc=>?_,h.ok.f⟩;simp only[V'] at hc;split at hc
   .rename_i e;subst e;cases hc;refine .inl ⟨λe=>?_,arr,clock,h3,rfl⟩;refine Gy (cap:=C.cap) (V:=V) (kt:=kt) (es:=fU) (by simp[entriesOf,h5]) (λi p q hp hq=>?_) e;simp only[entriesOf,cf,aA] at hp;obtain⟨x,db,rfl⟩:=hp;exact(h6 i x q (by simpa using db) hq).1
   .exact h.ok.m k es hc
  .simp only[V'] at hx;split at hx
   .rename_i e;subst e;exact .inr ⟨(h.owns k j h2).1,.inl ⟨j,h2⟩⟩
   .exact .inl hx
  .simp[St.setO,bA _ _ hi]
  .have:k≠k0:=λe=>by subst e;rw[h2] at hk;simp at hk;exact hi hk.symm
   simp[this,hk]
  .subst hi;simp only[St.setO,aN];refine⟨rfl,?_⟩;rw[h1,h4];refine .map kt et k0 (entriesOf arr) fU (by simp[V']) (by simp[entriesOf,h5]) hx (λi p q hp hq=>?_) (λi p q hp hq=>?_)
   .simp only[entriesOf,cf,aA] at hp;obtain⟨e,he,rfl⟩:=hp;exact((h6 i e q (by simpa using he) hq).1).mono hle
   .simp only[entriesOf,cf,aA] at hp;obtain⟨e,he,rfl⟩:=hp;exact((h6 i e q (by simpa using he) hq).2).mono hle
  .split at hk
   .cases hk
   .rename_i hn;obtain⟨g1,g2,g3,g4⟩:=h.owns k i hk;exact⟨g1,g2,g3,by simp[V',hn,g4]⟩
 .exact⟨V,own,.refl V,h⟩
def tJ {j:Nat}{e:PE}{O':Env}(h:PI.runs Z [.setO j e] O=some O'):O'=O.setO j (e.ev O):=by
 simp[PI.runs,PI.run] at h;exact h.symm
def qv {O':Env}(h:PI.runs Z [] O=some O'):O'=O:=by
 simp[PI.runs] at h;exact h.symm
def DD (C:Ctx)(w0:World)(σ0:Base)(Z:aS)(S:St)(O:Env)(A:Nat->Prop)(a:Act)(w:World)(r:St×List PI):Prop:=
 ∀O',PI.runs Z r.2 O=some O'->Good C w0 σ0 r.1 O' A a w
def aoY (h:Inv C S O V own hv w0 σ0 A a w){b:Nat}{r:St×List PI}(hr:E5 S b=some r):DD C w0 σ0 Z S O A a w r:=by
 unfold E5 at hr;split at hr
 case h_2=>cases hr
 rename_i ag shs eo;simp only[az] at hr;obtain⟨x,hx,hr⟩:=hr;have bj:=h.objs b;rw[eo] at bj;obtain⟨k,cs,T,ds,h1,h2,h3,h4,h5,h6,h7⟩:=bj;obtain⟨l1,es,⟨he,uH⟩,l2,bJ⟩:=Qn (b:=.o b) h (cs:=cs.toList) h5 shs 0 x (λm s hm=>by rw[BH,gl];exact(h7 m s hm).2) hx
 let V':Im:={c:=λk' o=>if k'=k then cs[o]? else V.c k' o,m:=V.m}
 have hle:V.le V':=by
  refine⟨λk' o v hc=>?_,λk es hc=>hc⟩;have:k'≠k:=λe=>by subst e;rw[(h.owns k' b h2).2.2.1 o] at hc;cases hc
  simp[V',this,hc]
 have key:∀(t:Ty) (v:Value) (d:D),Rep C.cap V' t v d->(∀(i:Nat) (u:Value),v.cells[i]?=some u->cs[i]?=some u)->
  Inv C (S.setO b (.fbox t)) (O.setO b d) V' (λk'=>if k'=k then none else own k') hv w0 σ0 A a w:=by
  intro t v d hrv aX
  refine h.step (λi=>i=b) rfl hle ?_ (λk' o x hx=>?_) (λ_ _ hx=>.inl hx) (.refl _ _) ⟨λ_=>ba _,λ_ _=>rfl⟩ (λi hi=>⟨?_,?_,rfl,λk' hk=>⟨?_,rfl⟩⟩) (λi hi=>?_) (λk' i hk=>?_) (λ_=>id) (λt=>.inl ⟨rfl,rfl,rfl⟩) (λ_ _=>rfl) (λ_ _ _=>rfl) (λk' i hk=>by
        split at hk
        .cases hk
        .exact .inl ⟨i,hk⟩) (λi hi=>by subst hi;simp[St.setO,aN])
  .refine⟨λk' o v hc=>?_,h.ok.m,λk' o v hc=>?_⟩
   all_goals simp only[V'] at hc
   all_goals split at hc
   .rename_i e;subst e;simp[World.cell?,h3,hc]
   .exact h.ok.c k' o v hc
   .rename_i e;subst e;exact .inr (ajr h3 o)
   .exact h.ok.f k' o v hc
  .simp only[V'] at hx;split at hx
   .rename_i e;subst e;exact .inr ⟨(h.owns k' b h2).1,.inl ⟨b,h2⟩⟩
   .exact .inl hx
  .simp[St.setO,bA _ _ hi]
  .simp[Env.setO,bA _ _ hi]
  .have:k'≠k:=λe=>by subst e;rw[h2] at hk;simp at hk;exact hi hk.symm
   simp[this,hk]
  .subst hi;simp only[St.setO,aN];exact⟨k,v,h1,by simp only[Env.setO,aN];exact hrv,λi u hu=>by simp[V',aX i u hu]⟩
  .split at hk
   .cases hk
   .rename_i hn;obtain⟨g1,g2,g3,g4⟩:=h.owns k' i hk;exact⟨g1,g2,λo=>by simp[V',hn,g3 o],g4⟩
 have jv:∀(m:Nat) (t:Ty),x.1[m]?=some t->t.one=true/\Rep C.cap V' t (cs.toList.getD m undef) (es.getD m .none):=λm t hm=>by
  obtain⟨g1,g2⟩:=bJ m t hm;rw[gl] at g2;exact⟨g1,g2.mono hle⟩
 intro O' ak;cases ag with
 |true=>
  simp only[zyy] at hr;cases hr;have:=tJ ak;subst this;refine⟨_,_,_,key (.agg x.1) (.agg cs.toList.toArray) _ ?_ (λi u hu=>by simpa [Value.cells] using hu)⟩;simp only[PE.ev,he];exact .agg _ _ _ (by simp;omega) (by omega) (λm t hm=>(jv m t hm).2) (λm t hm=>(jv m t hm).1)
 |false=>
  simp only[zyx] at hr;split at hr
  .rename_i t e et ee;cases hr;have:=tJ ak;subst this;obtain⟨g1,g2⟩:=jv 0 t (by rw[et];rfl);have jP:es=[e.ev O]:=by rw[<-uH,ee];rfl
   subst jP;refine⟨_,_,_,key t (cs.toList.getD 0 undef) _ (by simpa using g2) (λi u hu=>?_)⟩;rw[(g2.oneCell g1).1] at hu;have hi:i=0:=by
        have:=(eB.1 hu).1;simpa using this
   subst hi;simp at hu;subst hu;have:0<cs.size:=by rw[h4];rw[et] at l1;simp at l1;omega
   rw[iN this];simp[aF,iN this]
  .cases hr
def Inv.mv (h:Inv C S O V own hv w0 σ0 A a w){j j':Nat}(au:j≠j')(hk:lL (S.o j)=true):
 Inv C (S.mv j j') (O.setO j' (O.o j)) V (λk=>if own k=some j then some j' else if own k=some j' then none else own k) (bX hv j' (hv j)) w0 σ0 A a w:=by
 have bj:=h.objs j
 refine h.step (λi=>i=j\/i=j') rfl (.refl V) h.ok (λ_ _ _ hx=>.inl hx) (λ_ _ hx=>.inl hx) (.refl _ _) ⟨λi=>?_,λi e=>?_⟩ (λi hi=>?_) (λi hi=>?_) (λk i hk=>?_) (λ_=>id) (λt=>.inl ⟨rfl,rfl,rfl⟩) (λ_ _=>rfl) (λ_ _ _=>rfl) (λk i hk=>by
        split at hk
        .rename_i e;exact .inl ⟨j,e⟩
        .split at hk
         .cases hk
         .exact .inl ⟨i,hk⟩) (λi hi=>by
        rcases hi with rfl|rfl
        .simp[St.mv,aN]
        .simp only[St.mv,bA _ _ (vq au),aN];intro e;rw[e] at hk;cases hk)
 .simp only[St.mv,fp];split
  .rename_i e;subst e;omega
  .split
   .rename_i e;subst e;omega
   .omega
 .simp only[St.mv,fp] at e;split at e
  .rename_i e';subst e';omega
  .split at e
   .rename_i e';subst e';omega
   .rename_i R7;exact bA _ _ R7
 .simp only[not_or] at hi;refine⟨by simp[St.mv,bA _ _ hi.1,bA _ _ hi.2],by simp[Env.setO,bA _ _ hi.2],bA _ _ hi.2,λk hk=>⟨?_,rfl⟩⟩;have e1:i≠j:=hi.1;have e2:i≠j':=hi.2;simp[hk,e1,e2]
 .rcases hi with rfl|rfl
  .simp only[St.mv,aN];trivial
  .simp only[St.mv,bA _ _ (vq au),aN];cases cT:S.o j with
   |row T e=>
    rw[cT] at bj;obtain⟨cells,xs,h1,h2,h3,h4⟩:=bj;refine⟨cells,xs,by simp only[Env.setO,aN];exact h1,by rw[aN];exact h2,h3,λk hk=>?_⟩;rw[aN] at hk;simp[h4 k hk]
   |mp kt et=>
    rw[cT] at bj;obtain⟨k0,arr,clock,es,h1,h2,h3,h4,h5,h6⟩:=bj;exact⟨k0,arr,clock,es,by rw[aN];exact h1,by simp[h2],h3,by simp only[Env.setO,aN];exact h4,h5,h6⟩
   |_=>rw[cT] at hk;simp[lL] at hk
 .split at hk
  .rename_i e;exact h.owns k j e
  .split at hk
   .cases hk
   .exact h.owns k i hk
def awH (h:Inv C S O V own hv w0 σ0 A a w){t j':Nat}{r:St×List PI}(hr:H9 S t j'=some r):DD C w0 σ0 Z S O A a w r:=by
 intro O' ak;unfold H9 at hr;split at hr
 .rename_i j ver es;cases hb:(Nat.beq ver (S.ver j)&&lL (S.o j)&& !Nat.beq j j')<;>simp only[hb,zyy,zyx] at hr
  .cases hr;rw[qv ak];exact⟨_,_,_,h⟩
  .cases hr;simp only[ao,kJ] at hb;have dE:=ay hb.1.1;have au:j≠j':=λe=>by subst e;simp at hb
   have l6:=h.mv au hb.1.2;have gw:=h.regs t;rw[es] at gw;have cu:=gw.2 dE;rw[tJ ak];refine⟨_,_,_,l6.step (S':=(S.mv j j').setR t (.obj j' (S.ver j'+1))) (λ_=>False) rfl (.refl V) l6.ok (λ_ _ _ hx=>.inl hx) (λ_ _ hx=>.inl hx) (.refl _ _) ⟨λ_=>ba _,λ_ _=>rfl⟩ (λi _=>⟨rfl,rfl,rfl,λk hk=>⟨hk,rfl⟩⟩) (λ_ hf=>hf.elim) l6.owns (λ_=>id) (λu=>?_) (λ_ _=>rfl) (λ_ _ _=>rfl) (λk i hk=>.inl ⟨i,hk⟩) (λ_ hf=>hf.elim)⟩;by_cases hu:u=t
   .subst hu;refine .inr ⟨?_,λgs s e=>by simp[St.setR,aN] at e⟩;simp only[St.setR,aN];refine⟨?_,λ_=>?_⟩
    .simp[St.mv,bA _ _ (vq au),aN]
    .rw[aN];exact cu
   .exact .inl ⟨by simp[St.setR,bA _ _ hu],rfl,rfl⟩
 .cases hr;rw[qv ak];exact⟨_,_,_,h⟩
def awG (h:Inv C S O V own hv w0 σ0 A a w){b i j':Nat}{r:St×List PI}(hr:H8 S b i j'=some r):DD C w0 σ0 Z S O A a w r:=by
 intro O' ak;unfold H8 at hr;split at hr
 .rename_i ag shs eo;split at hr
  .rename_i j ver es;cases hb:(Nat.beq ver (S.ver j)&&lL (S.o j)&& !Nat.beq j j'&& !Nat.beq b j'&& !Nat.beq b j)<;>simp only[hb,zyy,zyx] at hr
   .cases hr;rw[qv ak];exact⟨_,_,_,h⟩
   .cases hr;simp only[ao,kJ] at hb;have dE:=ay hb.1.1.1.1;have au:j≠j':=λe=>by subst e;simp at hb
    have gp:b≠j':=λe=>by subst e;simp at hb
    have de:b≠j:=λe=>by subst e;simp at hb
    have bj:=h.objs b;rw[eo] at bj;obtain⟨k,cs,T,ds,h1,h2,h3,h4,h5,h6,h7⟩:=bj;have cu:=(h7 i _ es).2.2 dE;have l6:=h.mv au hb.1.1.1.2;rw[tJ ak];have QT:(S.mv j j').o b=.box ag shs:=by simp[St.mv,bA _ _ gp,bA _ _ de,eo]
    have FN:=l6.objs b;rw[QT] at FN;refine⟨_,_,_,l6.step (S':=(S.mv j j').setO b (.box ag (shs.set i (.obj j' (S.ver j'+1))))) (λm=>m=b) rfl (.refl V) l6.ok (λ_ _ _ hx=>.inl hx) (λ_ _ hx=>.inl hx) (.refl _ _) ⟨λ_=>ba _,λ_ _=>rfl⟩ (λm hm=>⟨by simp[St.setO,bA _ _ hm],rfl,rfl,λk hk=>⟨hk,rfl⟩⟩) (λm hm=>?_) l6.owns (λ_=>id) (λt=>.inl ⟨rfl,rfl,rfl⟩) (λ_ _=>rfl) (λ_ _ _=>rfl) (λk i hk=>.inl ⟨i,hk⟩) (λm hm=>by subst hm;simp[St.setO,aN])⟩;subst hm;rw[St.setO_o];obtain⟨k1,Ez,T1,EB,g1,g2,g3,g4,g5,g6,g7⟩:=FN;have e1:Ez=cs:=by
     rw[bA _ _ gp,h1] at g1;cases g1;rw[h3] at g3;cases g3;rfl
    refine⟨k1,Ez,T1,EB,g1,g2,g3,by simpa using g4,g5,by simpa using g6,λq x hq=>?_⟩;rw[DI] at hq;split at hq
    .rename_i e;subst e;split at hq
     .cases hq;refine⟨(λ_ _ e=>by cases e),?_,λ_=>?_⟩
      .simp[St.setO,St.mv,bA _ _ (vq au),aN]
      .rw[aN,e1];exact cu
     .cases hq
    .obtain⟨f1,f2⟩:=g7 q x hq;exact⟨f1,f2.mono' (.refl V) (Compat.setO _ _ _ _) f1⟩
  .cases hr;rw[qv ak];exact⟨_,_,_,h⟩
 .cases hr;rw[qv ak];exact⟨_,_,_,h⟩
def aq7 (h:Inv C S O V own hv w0 σ0 A a w){b i j:Nat}{T:TypeId}{r:St×List PI}(hr:FP C S b i j T=some r):DD C w0 σ0 Z S O A a w r:=by
 intro O' ak;unfold FP at hr;split at hr
 .rename_i ag shs eo;split at hr
  .rename_i e0 e es et;cases hb:(!Nat.beq b j)<;>simp only[hb,zyy,zyx] at hr
   .cases hr;rw[qv ak];exact⟨_,_,_,h⟩
   .cases hr;have au:b≠j:=λe=>by subst e;simp at hb
    have bj:=h.objs b;rw[eo] at bj;obtain⟨k,cs,T0,ds,h1,h2,h3,h4,h5,h6,h7⟩:=bj;have cu:cs.getD i undef=.slice none 0 0:=by
     have:=(h7 i _ es).2;generalize cs.getD i undef=v at this;generalize ds.getD i .none=d at this;cases this;rfl
    have l7:=h.newO j (.row T e) (.list []) (.slice none 0 0) (λ_=>false) (.refl _ _) (by simp) ⟨[],[],by simp[Env.setO,aN],by rw[aN];exact World.ownsRow_nil _ _ _ _,⟨λ_=>undef,by simp,by simp⟩,by rw[aN];simp[Value.ownBlock]⟩;rw[tJ ak];have QT:(S.newO j (.row T e)).o b=.box ag shs:=by simp[St.newO,bA _ _ au,eo]
    have FN:=l7.objs b;rw[QT] at FN;refine⟨_,_,_,l7.step (S':=(S.newO j (.row T e)).setO b (.box ag (shs.set i (.obj j (S.ver j+1))))) (λm=>m=b) rfl (.refl V) l7.ok (λ_ _ _ hx=>.inl hx) (λ_ _ hx=>.inl hx) (.refl _ _) ⟨λ_=>ba _,λ_ _=>rfl⟩ (λm hm=>⟨by simp[St.setO,bA _ _ hm],rfl,rfl,λk hk=>⟨hk,rfl⟩⟩) (λm hm=>?_) l7.owns (λ_=>id) (λt=>.inl ⟨rfl,rfl,rfl⟩) (λ_ _=>rfl) (λ_ _ _=>rfl) (λk i hk=>.inl ⟨i,hk⟩) (λm hm=>by subst hm;simp[St.setO,aN])⟩;subst hm;rw[St.setO_o];obtain⟨k1,Ez,T1,EB,g1,g2,g3,g4,g5,g6,g7⟩:=FN;have e1:Ez=cs:=by
     rw[bA _ _ au,h1] at g1;cases g1;rw[h3] at g3;cases g3;rfl
    refine⟨k1,Ez,T1,EB,g1,g2,g3,by simpa using g4,g5,by simpa using g6,λq x hq=>?_⟩;rw[DI] at hq;split at hq
    .rename_i e';subst e';split at hq
     .cases hq;refine⟨(λ_ _ e=>by cases e),?_,λ_=>?_⟩
      .simp[St.setO,St.newO,aN]
      .rw[aN,e1];exact cu
     .cases hq
    .obtain⟨f1,f2⟩:=g7 q x hq;exact⟨f1,f2.mono' (.refl V) (Compat.setO _ _ _ _) f1⟩
  .cases hr;rw[qv ak];exact⟨_,_,_,h⟩
 .cases hr;rw[qv ak];exact⟨_,_,_,h⟩
end
def mkObj (S:St)(dst:Nat)(ob:Ob):St:=(S.newO dst ob).setR dst (.obj dst (S.ver dst+1))
def mkPtr (S:St)(dst:Nat)(ob:Ob):St:=(S.newO dst ob).setR dst (.ptr dst (S.ver dst+1) 0)
abbrev lj:=Option (St×List PI)
def EN (C:Ctx)(S:St)(dst:Nat)(T:TypeId)(x:Operand):lj:=
 match use C S [] x,C.P.underlying T with
 |some (.nils _,_),some (.slice E)=>(qy C.P E).map λe=>(mkObj S dst (.row E e),[.setO dst (.con (.list [])),.setR dst (.con .none)])
 |_,_=>Option.none
def ED (C:Ctx)(S:St)(dst:Nat)(T:TypeId):lj:=
 match qy C.P T,C.P.info? T,rG C.P T with
 |some t,some inf,some ag=>
  bif vi inf t&&(t.rowT||t.one) then
   (qA t).map λz=>(mkPtr S dst (.box ag (z.1.flat.map .dat)),[.setO dst (.con (.agg z.2.cells)),.setR dst (.con .none)])
  else Option.none
 |_,_,_=>Option.none
def EF (C:Ctx)(S:St)(dst:Nat)(T:TypeId)(x:Operand):lj:=
 match use C S [] x,rG C.P T with
 |some (t,e),some ag=>
  bif t.rowT||t.one then some (mkPtr S dst (.box ag (t.flat.map .dat)),[.setO dst (.mk [e]),.setR dst (.con .none)]) else Option.none
 |Option.none,some true=>
  match gJ S [] x with
  |.agg l=>some (mkPtr S dst (.box true (l.map AgC.sh)),[.setO dst (se x),.setR dst (.con .none)])
  |_=>Option.none
 |_,_=>Option.none
def EK (C:Ctx)(S:St)(dst:Nat)(T:TypeId)(r:Option Operand):lj:=
 match C.P.underlying T,r with
 |some (.map K E),Option.none=>
  (qy C.P K).bind λkt=>(qy C.P E).map λet=>(mkObj S dst (.mp kt et),[.setO dst (.con (.map [])),.setR dst (.con .none)])
 |_,_=>Option.none
def EL (C:Ctx)(S:St)(dst:Nat)(T:TypeId)(l c:Operand):lj:=
 match C.P.underlying T,use C S [] l,use C S [] c with
 |some (.slice E),some (.int _,n),some (.int _,m)=>
  (qy C.P E).bind λe=>
    bif sK C.P E e then
     (qA e).bind λz=>
        bif Ty.sub z.1 e then some (mkObj S dst (.row E e),[.chk (Th n),.chk (.ci .eql n m),.setO dst (.rep n (.con z.2)),.setR dst (.con .none)]) else Option.none
    else Option.none
 |_,_,_=>Option.none
def EO (C:Ctx)(S:St)(dst:Nat)(T:TypeId)(x:Operand):lj:=
 match C.P.underlying T,gJ S [] x with
 |some (.map _ _),.obj j ver=>
  bif Nat.beq ver (S.ver j)&& !Nat.beq j dst then
   match S.o j with
   |.mp kt et=>some (mkObj (S.mv j dst) dst (.it kt et),[.setO dst (.tup [.lst [],.o j]),.setR dst (.con .none)])
   |_=>Option.none
  else Option.none
 |_,_=>Option.none
def EG (C:Ctx)(S:St)(dst:Nat)(s d:TypeId)(x:Operand):lj:=
 match use C S [] x,C.P.underlying s,C.P.underlying d with
 |some (.str,e),some .string,some (.slice E)=>
  (match C.P.underlying E with
   |some (.int .u8)=>some (S.setR dst (.dat (.slice (.int .u8))),[.chk (.ci .leq (.slen e) (.con (.int oI))),.setR dst (.bytes e)])
   |_=>Option.none)
 |_,_,_=>Option.none
section
variable {C:Ctx} {S:St} {O:Env} {V:Im} {own:Nat->Option Nat} {hv:Nat->Value} {w0:World} {σ0:Base} {A:Nat->Prop} {a:Act} {w:World} {gs:List (Nat×Bool)} {Z:aS} {dst:Nat}
def bT (C:Ctx)(w0:World)(σ0:Base)(Z:aS)(S:St)(O:Env)(A:Nat->Prop)(a:Act)(w:World)(o:Oper)(r:St×List PI):Prop:=
 ∀O',PI.runs Z r.2 O=some O'->∀(K:Act->World->Prop) (Q:Exit->Act->World->Prop),(∀a' w',Good C w0 σ0 r.1 O' (λu=>A u\/o.dst=some u) a' w'->a'.tmps.size=a.tmps.size->K a' w')->o.wp C.P a w K Q
def size_put (a:Act)(d:Option Tmp)(v:Value):(a.put d v).tmps.size=a.tmps.size:=by
 cases d<;>simp[Act.put]
def bT.value {o:Oper}{r:St×List PI}(hd:o.dst=some dst)(hx:∀O',PI.runs Z r.2 O=some O'->∃v w',(execOp a.eval o).run C.P w=.ok (.value v) w'/\Good C w0 σ0 r.1 O' (λu=>A u\/u=dst) (a.put (some dst) v) w'):bT C w0 σ0 Z S O A a w o r:=by
 intro O' ak K Q hK;obtain⟨v,w',h1,h2⟩:=hx O' ak;simp only[Oper.wp,h1,Oper.upon,hd];refine hK _ _ ?_ (size_put _ _ _)
 have:(λu=>A u\/o.dst=some u)=(λu=>A u\/u=dst):=by
  funext u;rw[hd];simp[eq_comm]
 rw[this];exact h2
def bT.skip {o:Oper}{r:St×List PI}(hd:o.dst=none)(hx:∀O',PI.runs Z r.2 O=some O'->∃w',(execOp a.eval o).run C.P w=.ok .skip w'/\Good C w0 σ0 r.1 O' A a w'):bT C w0 σ0 Z S O A a w o r:=by
 intro O' ak K Q hK;obtain⟨w',h1,h2⟩:=hx O' ak;simp only[Oper.wp,h1,Oper.upon,hd]
 have:(λu=>A u\/o.dst=some u)=A:=by
  funext u;rw[hd];simp
 rw[this] at hK;exact hK _ _ h2 (size_put _ _ _)
def eN.eff (h:Inv C S O V own hv w0 σ0 A a w)(ht:¬A dst)(af:dst<a.tmps.size){o:Oper}(hd:o.dst=some dst){s:Sh}{GI:List PI}(hq:eN C S O V hv Z dst a w o (s,GI)):bT C w0 σ0 Z S O A a w o (S.setR dst s,GI):=by
 refine bT.value hd λO' ak=>?_;obtain⟨v,d,rfl,h1,h2,h3⟩:=hq O' ak;exact⟨v,w,h1,V,own,hv,h.setReg ht (aG.mono' (.refl V) (.refl S hv) h3 h2) af (λgs s' e=>absurd e (h3 gs s'))⟩
def eN.effG (h:Inv C S O V own hv w0 σ0 A a w)(ht:¬A dst)(af:dst<a.tmps.size)(eE:∀g,g∈gs->A g.1)(hg:holds gs O=true){o:Oper}(hd:o.dst=some dst){s:Sh}{GI:List PI}(hq:eN C S O V hv Z dst a w o (s,GI)):bT C w0 σ0 Z S O A a w o (S.setR dst (.opt gs s),GI):=by
 refine bT.value hd λO' ak=>?_;obtain⟨v,d,rfl,h1,h2,h3⟩:=hq O' ak;have hh:holds gs (O.setR dst d)=true:=by rw[FO (t:=dst) (d:=d) λg hm e=>ht (by rw[<-e];exact eE g hm)];exact hg
 refine⟨v,w,h1,V,own,hv,h.setReg ht ⟨λ_=>aG.mono' (.refl V) (.refl S hv) h3 h2,λe=>absurd (hh.symm.trans e) (by decide)⟩ af (λbM s' e=>?_)⟩;cases e;exact⟨eE,h3⟩
def Inv.passed (h:Inv C S O V own hv w0 σ0 A a w)(ht:¬A dst)(af:dst<a.tmps.size)(eE:∀g,g∈gs->A g.1)(hg:holds gs O=false){s:Sh}(hs:∀bM s',s≠.opt bM s')(d:D):Inv C (S.setR dst (.opt gs s)) (O.setR dst d) V own hv w0 σ0 (λu=>A u\/u=dst) (a.put (some dst) undef) w:=by
 have hh:holds gs (O.setR dst d)=false:=by rw[FO (t:=dst) (d:=d) λg hm e=>ht (by rw[<-e];exact eE g hm)];exact hg
 refine h.setReg ht (s:=.opt gs s) (v:=undef) (d:=d) ⟨λe=>absurd (hh.symm.trans e) (by decide),λ_=>rfl⟩ af (λbM s' e=>?_);cases e;exact⟨eE,hs⟩
def Inv.mkObj (h:Inv C S O V own hv w0 σ0 A a w)(ht:¬A dst)(af:dst<a.tmps.size)(ob:Ob)(d:D)(v:Value)(nb:Nat->Bool){w':World}(hw:Below w.heap.size w w')(dW:∀k,nb k=true->w.heap.size<=k/\k<w'.heap.size)
 (cT:bY C (S.newO dst ob) (O.setO dst d) V (fM own dst nb) (bX hv dst v) w' w0.heap.size dst ob) (oz:ob≠.tr:=by intro h;cases h):
 Good C w0 σ0 (Cx.mkObj S dst ob) ((O.setO dst d).setR dst .none) (λu=>A u\/u=dst) (a.put (some dst) v) w':=by
 have h1:=h.newO dst ob d v nb hw dW cT oz;have h2:=h1.setObj ht (j:=dst) (v:=v) (aN _ _ _) af;have e:(S.newO dst ob).ver dst=S.ver dst+1:=aN _ _ _;rw[e] at h2;exact⟨_,_,_,h2⟩
def Inv.mkPtr (h:Inv C S O V own hv w0 σ0 A a w)(ht:¬A dst)(af:dst<a.tmps.size)(ob:Ob)(d:D)(k:Nat)(nb:Nat->Bool){w':World}(hw:Below w.heap.size w w')(dW:∀k,nb k=true->w.heap.size<=k/\k<w'.heap.size)
 (cT:bY C (S.newO dst ob) (O.setO dst d) V (fM own dst nb) (bX hv dst (.pointer (some ⟨k,0,none⟩))) w' w0.heap.size dst ob) (oz:ob≠.tr:=by intro h;cases h):
 Good C w0 σ0 (Cx.mkPtr S dst ob) ((O.setO dst d).setR dst .none) (λu=>A u\/u=dst) (a.put (some dst) (.pointer (some ⟨k,0,none⟩))) w':=by
 have h1:=h.newO dst ob d _ nb hw dW cT oz;have e:(S.newO dst ob).ver dst=S.ver dst+1:=aN _ _ _;have h2:=h1.setReg ht (s:=.ptr dst (S.ver dst+1) 0) (v:=.pointer (some ⟨k,0,none⟩)) (d:=.none) ⟨Nat.le_of_eq e.symm,λ_=>⟨k,aN _ _ _,rfl⟩⟩ af (λ_ _ e=>by cases e);exact⟨_,_,_,h2⟩
def Df {e:PE}{O':Env}(h:PI.runs Z [.setO dst e,.setR dst (.con .none)] O=some O'):O'=(O.setO dst (e.ev O)).setR dst .none:=by
 simp[PI.runs,PI.run,PE.ev] at h;exact h.symm
def aa2 (h:Inv C S O V own hv w0 σ0 A a w){t:Ty}{v:Value}{d:D}(hr:Rep C.cap V t v d)(ho:t.rowT=true\/t.one=true)(ag:Bool)(T:TypeId):
 bY C (S.newO dst (.box ag (t.flat.map .dat))) (O.setO dst (.agg d.cells)) V (fM own dst (λk=>Nat.beq k w.heap.size)) (bX hv dst (.pointer (some ⟨w.heap.size,0,none⟩))) (w.alloc (.cells v.cells T)) w0.heap.size dst (.box ag (t.flat.map .dat)):=by
 obtain⟨f1,f2,f3⟩:=hr.flat ho;refine⟨w.heap.size,v.cells,T,d.cells,aN _ _ _,by simp[fM],heap_alloc_new w _,by rw[hr.size];simp[f1],by simp[Env.setO,aN],by simp[f1,f2],λi s hi=>?_⟩;simp only[cf,aA] at hi;obtain⟨ti,SD,rfl⟩:=hi;exact⟨λ_ _ e=>(by cases e),(f3 i ti SD).2⟩
def am3 (h:Inv C S O V own hv w0 σ0 A a w)(hC:CtxOK C σ0)(ht:¬A dst)(af:dst<a.tmps.size){T:TypeId}{x:Operand}{r:St×List PI}(hr:EN C S dst T x=some r){o:Oper}(hd:o.dst=some dst)(ho:o.op=.assign x):bT C w0 σ0 Z S O A a w o r:=by
 unfold EN at hr;split at hr
 case h_2=>cases hr
 rename_i e0 e1 E hu hT;simp only[aA] at hr;obtain⟨e,he,rfl⟩:=hr;have hx:=cw h hC rfl hu;have cu:a.eval x=.slice none 0 0:=by
  generalize a.eval x=v at hx;generalize e1.ev O=d at hx;cases hx;rfl
 refine bT.value hd λO' ak=>⟨.slice none 0 0,w,by simp[execOp,ho,cu],?_⟩
 rw[Df ak];exact h.mkObj ht af (.row E e) _ _ (λ_=>false) (.refl _ _) (by simp) ⟨[],[],by simp[Env.setO,aN,PE.ev],by rw[aN];exact World.ownsRow_nil _ _ _ _,⟨λ_=>undef,by simp,by simp⟩,by rw[aN];simp[Value.ownBlock]⟩
def amB (h:Inv C S O V own hv w0 σ0 A a w)(ht:¬A dst)(af:dst<a.tmps.size){T:TypeId}{r:St×List PI}(hr:ED C S dst T=some r){o:Oper}(hd:o.dst=some dst)(ho:o.op=.alloc T):bT C w0 σ0 Z S O A a w o r:=by
 unfold ED at hr;split at hr
 case h_2=>cases hr
 rename_i t inf ag SG hi ha;cases hc:(vi inf t&&(t.rowT||t.one))<;>simp only[hc,zyy,zyx] at hr
 .cases hr
 simp only[ao,kK] at hc;simp only[aA] at hr;obtain⟨z,hz,rfl⟩:=hr;obtain⟨v0,eH,Cj⟩:∃v0,inf.zero=some v0/\j7 t v0=true:=by
  have:=hc.1;unfold vi at this;split at this
  .exact⟨_,by assumption,this⟩
  .cases this
 obtain⟨k1,k2,k3⟩:=zV (cap:=C.cap) (V:=V) hz Cj;have cX:z.1.rowT=true\/z.1.one=true:=by
  rcases hc.2 with e|e
  .left;cases t<;>simp[Ty.rowT] at e;simp[qA] at hz;obtain⟨_,_,rfl⟩:=hz;rfl
  .right;rw[k3];exact e
 refine bT.value hd λO' ak=>⟨.pointer (some ⟨w.heap.size,0,none⟩),w.alloc (.cells v0.cells T),?_,?_⟩
 .simp[execOp,ho,Instr.alloc,zeroValue,run_typeInfo w hi,eH,newVar,newRow]
 .rw[Df ak];exact h.mkPtr ht af _ _ _ (λk=>Nat.beq k w.heap.size) ((Below.refl _ _).alloc (ba _) _) (λk hk=>by simp at hk;simp;omega) (aa2 h k1 cX ag T)
def Compat.newO (S:St)(hv:Nat->Value)(j:Nat)(ob:Ob)(v:Value):Compat S hv (S.newO j ob) (bX hv j v):=by
 refine⟨λi=>?_,λi e=>?_⟩
 .simp only[St.newO,fp];split<;>rename_i e
  .subst e;omega
  .omega
 .simp only[St.newO,fp] at e;split at e
  .rename_i e';subst e';omega
  .rename_i au;exact bA _ _ au
def amF (h:Inv C S O V own hv w0 σ0 A a w)(hC:CtxOK C σ0)(ht:¬A dst)(af:dst<a.tmps.size){T:TypeId}{x:Operand}{r:St×List PI}(hr:EF C S dst T x=some r){o:Oper}(hd:o.dst=some dst)(ho:o.op=.box T x):bT C w0 σ0 Z S O A a w o r:=by
 unfold EF at hr;split at hr
 case h_3=>cases hr
 case h_2=>
  rename_i hu ha;split at hr
  case h_2=>cases hr
  rename_i l jS;cases hr;have gw:=(tN h (gs:=[]) rfl x).1;rw[jS] at gw;obtain⟨vs,ds,e1,e2,e3,e4,e5⟩:=gw;refine bT.value hd λO' ak=>⟨.pointer (some ⟨w.heap.size,0,none⟩),w.alloc (.cells (a.eval x).cells T),?_,?_⟩
  .simp[execOp,ho,Instr.box,newVar,newRow]
  .rw[Df ak,e2];refine h.mkPtr ht af _ _ _ (λk=>Nat.beq k w.heap.size) ((Below.refl _ _).alloc (ba _) _) (λk hk=>by simp at hk;simp;omega) ⟨w.heap.size,(a.eval x).cells,T,ds,aN _ _ _,by simp[fM],heap_alloc_new w _,by rw[e1];simp[Value.cells,e3],by simp[Env.setO,aN],by simp[e4],λi s hi=>?_⟩;simp only[cf,aA] at hi;obtain⟨c,hc,rfl⟩:=hi;have bK:(a.eval x).cells.getD i undef=vs.getD i undef:=by rw[e1];simp[Value.cells,aF,fP]
   have h6:=(e5 i c hc).monoR (Im.le.leR (.refl V)) (Compat.newO S hv dst (.box true (l.map AgC.sh)) (.pointer (some ⟨w.heap.size,0,none⟩)));rw[bK];cases c with
   |dat t=>exact⟨λ_ _ e=>(by cases e),h6.2⟩
   |obj j ver=>exact⟨λ_ _ e=>(by cases e),h6⟩
 rename_i t e ag hu ha;cases hc:(t.rowT||t.one)<;>simp only[hc,zyy,zyx] at hr
 .cases hr
 cases hr;simp only[kK] at hc;have hx:=cw h hC rfl hu;refine bT.value hd λO' ak=>⟨.pointer (some ⟨w.heap.size,0,none⟩),w.alloc (.cells (a.eval x).cells T),?_,?_⟩
 .simp[execOp,ho,Instr.box,newVar,newRow]
 .rw[Df ak];have:(PE.mk [e]).ev O=.agg (e.ev O).cells:=by simp[PE.ev,PE.evc]
  rw[this];exact h.mkPtr ht af _ _ _ (λk=>Nat.beq k w.heap.size) ((Below.refl _ _).alloc (ba _) _) (λk hk=>by simp at hk;simp;omega) (aa2 h hx hc ag T)
def amX (h:Inv C S O V own hv w0 σ0 A a w)(ht:¬A dst)(af:dst<a.tmps.size){T:TypeId}{m:Option Operand}{r:St×List PI}(hr:EK C S dst T m=some r){o:Oper}(hd:o.dst=some dst)(ho:o.op=.makeMap T m):bT C w0 σ0 Z S O A a w o r:=by
 unfold EK at hr;split at hr
 case h_2=>cases hr
 rename_i K E hT;simp only[az,aA] at hr;obtain⟨kt,hk,et,he,rfl⟩:=hr;refine bT.value hd λO' ak=>⟨.map (some w.heap.size),w.alloc (.map #[] 0),?_,?_⟩
 .simp[execOp,ho,Instr.makeMap]
 .rw[Df ak]
  exact h.mkObj ht af (.mp kt et) _ _ (λk=>Nat.beq k w.heap.size) ((Below.refl _ _).alloc (ba _) _) (λk hk=>by simp at hk;simp;omega)
   ⟨w.heap.size,#[],0,[],aN _ _ _,by simp[fM],heap_alloc_new w _,by simp[Env.setO,aN,PE.ev],rfl,⟨by simp,by simp[nE]⟩,by simp⟩
def am5 (h:Inv C S O V own hv w0 σ0 A a w)(ht:¬A dst)(af:dst<a.tmps.size){T:TypeId}{x:Operand}{r:St×List PI}(hr:EO C S dst T x=some r){o:Oper}(hd:o.dst=some dst)(ho:o.op=.range T x):bT C w0 σ0 Z S O A a w o r:=by
 unfold EO at hr;split at hr
 case h_2=>cases hr
 rename_i K E j ver hT es;obtain⟨dY,_⟩:=tN h (gs:=[]) rfl x;rw[es] at dY;cases hb:(Nat.beq ver (S.ver j)&& !Nat.beq j dst)<;>simp only[hb,zyy,zyx] at hr
 .cases hr
 simp only[ao,kJ] at hb;have cu:=dY.2 (ay hb.1);have au:j≠dst:=λe=>by subst e;simp at hb
 have bj:=h.objs j;split at hr
 case h_2=>cases hr
 rename_i kt et eo;cases hr;rw[eo] at bj;obtain⟨m,arr,clock,ds,h1,h2,h3,h4,h5,⟨h6,sQ⟩,h7⟩:=bj;have l6:=h.mv au (by rw[eo];rfl);have rz:m<w.heap.size:=(eB.1 h3).1;have RX:w0.heap.size<=m:=(h.owns m j h2).1;refine bT.value hd λO' ak=>⟨.pointer (some ⟨w.heap.size,0,none⟩),w.alloc (.mapIter (some m) clock #[] clock),?_,?_⟩
 .simp[execOp,ho,Instr.range,cu,h1,run_underlying hT,getObj,Sem.run,h3]
 have hρ:O'=((O.setO dst (.tup [.list [],.map ds])).setR dst .none):=by
  simp[PI.runs,PI.run,PE.ev,PE.evs,h4] at ak;exact ak.symm
 subst hρ;have fF:Below w.heap.size w (w.alloc (.mapIter (some m) clock #[] clock)):=(Below.refl _ _).alloc (ba _) _;have F5:=l6.step (S':=(S.mv j dst).newO dst (.it kt et)) (O':=(O.setO dst (.tup [.list [],.map ds]))) (V':=V) (hv':=bX (bX hv dst (hv j)) dst (.pointer (some ⟨w.heap.size,0,none⟩)))
  (own':=λk=>if k=w.heap.size then some dst else(if own k=some j then some dst else if own k=some dst then none else own k)) (a':=a) (A':=A) (w':=w.alloc (.mapIter (some m) clock #[] clock)) (λi=>i=dst)
  rfl (.refl V) (h.ok.below fF) (λ_ _ _ hx=>.inl hx) (λ_ _ hx=>.inl hx) (fF.mono h.below.size) ⟨λi=>?_,λi e=>?_⟩ (λi hi=>⟨?_,?_,?_,λk hk=>⟨?_,?_⟩⟩) (λi hi=>?_) (λk i hk=>?_) (λ_=>id) (λt=>.inl ⟨rfl,rfl,rfl⟩) (λ_ _=>rfl) (λk hk _=>fF.block k hk) (λk i hk=>?_) (λi hi=>by subst hi;simp[St.newO,aN])
 .have gS:=F5.setObj ht (j:=dst) (v:=.pointer (some ⟨w.heap.size,0,none⟩)) (aN _ _ _) af;have e:((S.mv j dst).newO dst (.it kt et)).ver dst=(S.mv j dst).ver dst+1:=aN _ _ _;rw[e] at gS;exact⟨_,_,_,gS⟩
 .simp only[St.newO,fp];split<;>rename_i e
  .subst e;omega
  .omega
 .simp only[St.newO,fp] at e;split at e
  .rename_i e';subst e';omega
  .rename_i R7;exact bA _ _ R7
 .simp[St.newO,bA _ _ hi]
 .simp[Env.setO,bA _ _ hi]
 .exact bA _ _ hi
 .have aF3:=(l6.owns k i hk).2.1;have bf:k≠w.heap.size:=by omega
  simp only[if_neg bf];exact hk
 .exact fF.block k (l6.owns k i hk).2.1
 .subst hi;simp only[St.newO,aN];have fH:m≠w.heap.size:=by omega
  refine⟨w.heap.size,m,arr,clock,ds,[],aN _ _ _,by simp,by simp[fH,h2],by omega,?_,heap_alloc_new w _,by simp[Env.setO,aN,hZ],List.nodup_nil,by simp,h5,sQ,h7⟩;rw[fF.block m rz];exact h3
 .split at hk
  .rename_i e;subst e;refine⟨h.below.size,by simp,λo=>?_,?_⟩
   .cases hc:V.c w.heap.size o with
    |none=>rfl
    |some u=>have:=h.lt hc;omega
   .cases hc:V.m w.heap.size with
    |none=>rfl
    |some u=>have:=h.ltm hc;omega
  .obtain⟨g1,g2,g3,g4⟩:=l6.owns k i hk;exact⟨g1,by simp;omega,g3,g4⟩
 .split at hk
  .rename_i e;subst e;exact .inr (ba _)
  .exact .inl ⟨i,hk⟩
def amJ (h:Inv C S O V own hv w0 σ0 A a w)(hC:CtxOK C σ0)(ht:¬A dst)(af:dst<a.tmps.size){T U:TypeId}{x:Operand}{r:St×List PI}(hr:EG C S dst T U x=some r){o:Oper}(hd:o.dst=some dst)(ho:o.op=.convert T U x):bT C w0 σ0 Z S O A a w o r:=by
 unfold EG at hr;split at hr
 case h_2=>cases hr
 rename_i e E hu hT hU;split at hr
 case h_2=>cases hr
 rename_i hE;cases hr;have hx:=cw h hC rfl hu;obtain⟨s,aO,br,hs⟩:=hx.str_inv;have pW:=Lib.run_convert_string_bytes (P:=C.P) w T U E s hT hU hE;refine bT.value hd λO' ak=>⟨.slice (some ⟨w.heap.size,0,none⟩) s.size (grownCap w s.size 0 E),Lib.bytesWorld w E s,by simp[execOp,ho,aO,pW],?_⟩
 simp only[PI.runs,PI.run,az] at ak;obtain⟨ρ1,g1,ρ2,g2,g3⟩:=ak;cases c1:((PE.ci BinOp.leq (.slen e) (.con (.int oI))).ev O).b<;>simp only[c1,zyy,zyx] at g1
 .cases g1
 cases g1;cases g2;cases g3;have aqF:s.size<=4294967296:=by
  simp[PE.ev,br,D.s,D.i,D.b,jK,D.int,oI] at c1;omega
 have fF:Below w.heap.size w (Lib.bytesWorld w E s):=⟨rfl,rfl,rfl,by rw[Lib.bytesWorld_size];omega,λk hk=>Lib.bytesWorld_at_old w E s k hk⟩
 have aI:(Lib.bytesWorld w E s).heap.size=w.heap.size+1:=Lib.bytesWorld_size w E s
 let V':Im:={c:=λk i=>if k=w.heap.size then(if i<s.size then some (.int .u8 (s.data.toList.getD i 0).toNat) else none) else V.c k i,m:=V.m}
 have hle:V.le V':=by
  refine⟨λk o v hc=>?_,λk es hc=>hc⟩;have:k≠w.heap.size:=by have:=h.lt hc;omega
  simp[V',this,hc]
 have ar:V'.ok (Lib.bytesWorld w E s):=by
  refine⟨λk i v hc=>?_,(h.ok.below fF).m,λk i v hc=>?_⟩
  all_goals simp only[V'] at hc
  all_goals split at hc
  .rename_i ek;subst ek;split at hc
   .rename_i hi;cases hc;exact Lib.bytesWorld_cell w E s i hi
   .cases hc
  .exact(h.ok.below fF).c k i v hc
  .split at hc<;>cases hc
  .exact(h.ok.below fF).f k i v hc
 have h1:=h.step (S':=S) (O':=O) (V':=V') (own':=own) (hv':=hv) (A':=A) (a':=a) (w':=Lib.bytesWorld w E s) (λ_=>False) rfl hle ar (λk i v hc=>?_) (λk es hc=>.inl hc) (fF.mono h.below.size) ⟨λ_=>ba _,λ_ _=>rfl⟩
  (λj _=>⟨rfl,rfl,rfl,λk hk=>⟨hk,fF.block k (h.owns k j hk).2.1⟩⟩) (λj hj=>hj.elim) (λk j hk=>?_) (λ_=>id) (λt=>.inl ⟨rfl,rfl,rfl⟩) (λ_ _=>rfl) (λk hk _=>fF.block k hk) (λk i hk=>.inl ⟨i,hk⟩) (λ_ hf=>hf.elim)
 .refine⟨_,_,_,h1.setReg ht (s:=.dat (.slice (.int .u8))) ?_ af (λ_ _ e=>by cases e)⟩;show Rep C.cap V' _ _ _;simp only[PE.ev,br,D.s];refine .slice (.int .u8) w.heap.size 0 s.size _ _ (λi=>.int .u8 (s.data.toList.getD i 0).toNat) (by simp) (grownCap_ge w s.size 0 E) (grownCap_le_maxLen w s.size 0 E (by unfold maxLen;omega)) (λi x hx=>?_) (λi j u hi hu=>?_) (λe=>by cases e)
  .simp only[cf,aA] at hx;obtain⟨b,hb,rfl⟩:=hx;have:s.data.toList.getD i 0=b:=by simp[aF,hb]
   rw[this];have:=b.toNat_lt;exact .int .u8 _ (by show(0:Int)<=_;omega) (by show _<=(255:Int);omega)
  .have hj:j=0:=by
        have:=(eB.1 hu).1;simp[Value.cells] at this;exact this
   subst hj;simp[Value.cells] at hu;subst hu;simp[V',Ty.size,hi]
 .simp only[V'] at hc;split at hc
  .rename_i ek;exact .inr ⟨by have:=h.below.size;omega,.inr (by omega)⟩
  .exact .inl hc
 .obtain⟨g1,g2,g3,g4⟩:=h.owns k j hk;refine⟨g1,by omega,λi=>?_,g4⟩;have:k≠w.heap.size:=by omega
  simp[V',this,g3 i]
end
def KI (C:Ctx)(S:St)(gs:List (Nat×Bool))(e:Ty)(z:D)(parts:List (Nat×Operand))(i:Nat):Option PE:=
 match parts.find? (λp=>Nat.beq p.1 i) with
 |some p=>(use C S gs p.2).bind λa=>bif Ty.sub a.1 e then some a.2 else Option.none
 |Option.none=>some (PE.con z)
def ya (C:Ctx)(S:St)(gs:List (Nat×Bool))(dst:Nat)(T:TypeId)(len:Nat)(parts:List (Nat×Operand)):lj:=
 match C.P.underlying T with
 |some (.slice E)=>
  (qy C.P E).bind λe=>(qA e).bind λz=>
    bif sK C.P E e&&Ty.sub z.1 e&&gZ (parts.map (·.1))&&parts.all (λp=>Nat.blt p.1 len)&&Nat.ble (len*e.size) 16777216 then
     ((List.range len).mapM (KI C S gs e z.2 parts)).map λes=>(mkObj S dst (.row E e),[.setO dst (.lst es),.setR dst (.con .none)])
    else Option.none
 |_=>Option.none
def Bw (C:Ctx)(S:St)(gs:List (Nat×Bool))(dst:Nat)(T:TypeId)(len:Nat)(parts:List (Nat×Operand)):lj:=
 match C.P.underlying T,ya C S gs dst T len parts with
 |some (.slice E),some r=>
  (qy C.P E).bind λe=>
    match r.2 with
    |.setO _ x::_=>some ((S.newO dst .dead).setR dst (match gs with|[]=>.dat (.slice e.rol)|_=>.opt gs (.dat (.slice e.rol))),[.setR dst x])
    |_=>Option.none
 |_,_=>Option.none
def Ra (S:St):AgC->Bool
 |.dat _=>true
 |.obj j ver=>Nat.beq ver (S.ver j)&&lL (S.o j)
def EP (C:Ctx)(S:St)(T:TypeId)(x v:Operand):lj:=
 match C.P.info? T with
 |some inf=>
  match gJ S [] x with
  |.ptr j ver off=>
   bif Nat.beq ver (S.ver j) then
    match S.o j with
    |.box ag shs=>
     match use C S [] v with
     |some (t,e)=>
      bif Nat.beq inf.size t.size&&(t.rowT||t.one)&&Nat.ble (off+t.size) shs.length then
             some (S.setO j (.box ag (shs.take off++t.flat.map .dat++shs.drop (off+t.size))),[.setO j (.setc (.o j) off e)])
      else Option.none
     |Option.none=>
      match gJ S [] v with
      |.obj j' nA=>
       bif Nat.beq nA (S.ver j')&&lL (S.o j')&&Nat.beq inf.size 1&&Nat.blt off shs.length then
              some (S.setO j (.box ag (shs.set off (.obj j' nA))),[.setO j (.setc (.o j) off (.con .none))])
       else Option.none
      |.agg l=>
       bif Nat.beq inf.size l.length&&Nat.ble (off+l.length) shs.length&&l.all (Ra S) then
              some (S.setO j (.box ag (shs.take off++l.map AgC.sh++shs.drop (off+l.length))),[.setO j (.setc (.o j) off (se v))])
       else Option.none
      |_=>Option.none
    |_=>Option.none
   else Option.none
  |.eptr j ver size off=>
   bif Nat.beq ver (S.ver j) then
    match S.o j,use C S [] v with
    |.row _ (.agg ts),some (t,e)=>
     bif Nat.beq inf.size t.size&&(t.rowT||t.one)&&Nat.beq size ts.length&&Nat.ble (off+t.size) ts.length&&Ty.subs t.flat ((ts.drop off).take t.size) then
         some (S,[.setO j (.setn (.o j) (se x) off e)])
     else Option.none
    |.row _ e0,some (t,e)=>
     bif Nat.beq inf.size 1&&Nat.beq size 1&&Nat.beq off 0&&e0.one&&Ty.sub t e0 then some (S,[.setO j (.setn (.o j) (se x) 0 e)]) else Option.none
    |_,_=>Option.none
   else Option.none
  |_=>Option.none
 |Option.none=>Option.none
def Bx (C:Ctx)(S:St)(T:TypeId)(m k v:Operand):lj:=
 match C.P.underlying T,gJ S [] m with
 |some (.map K _),.obj j ver=>
  bif Nat.beq ver (S.ver j) then
   match S.o j,use C S [] k,use C S [] v with
   |.mp kt et,some (tk,ek),some (tv,ev)=>
    bif Ty.beq tk kt&&wq C.P K kt&&Ty.sub tv et then some (S,[.chk (.ci .lss (.mlen (.o j)) (.con (.int oI))),.setO j (.put (.o j) ek ev)]) else Option.none
   |_,_,_=>Option.none
  else Option.none
 |_,_=>Option.none
def L7 (x y:PE):PE:=.ci .leq (.llen (.app x y)) (.con (.int oI))
def Od:Ty->Ty->Bool
 |.slice e',e=>Ty.beq e'.unf e
 |.nils _,_=>true
 |_,_=>false
def EE (C:Ctx)(S:St)(dst:Nat)(T:TypeId)(s x:Operand):lj:=
 match C.P.underlying T with
 |some (.slice E)=>
  (qy C.P E).bind λe=>
    match view C S [] x with
    |some (tx,ex)=>
     bif sK C.P E e&&Od tx e then
        match use C S [] s with
        |some (.nils _,_)=>some (mkObj S dst (.row E e),[.chk (L7 (.con (.list [])) ex),.setO dst (.app (.con (.list [])) ex),.setR dst (.con .none)])
        |some _=>Option.none
        |Option.none=>
         match gJ S [] s with
         |.obj j ver=>
          bif Nat.beq ver (S.ver j) then
             match S.o j with
             |.row E' e'=>
              bif Nat.beq E' E&&Ty.beq e' e then
                some ((S.newO j (.row E e)).setR dst (.obj j (S.ver j+1)),[.chk (L7 (.o j) ex),.setO j (.app (.o j) ex),.setR dst (.con .none)])
              else Option.none
             |_=>Option.none
          else Option.none
         |_=>Option.none
     else Option.none
    |Option.none=>Option.none
 |_=>Option.none
def QO {P:Program}{T:TypeId}{e:Ty}(h:sK P T e=true):∃inf z,P.info? T=some inf/\inf.size=e.size/\inf.bytes<=y2/\1<=e.size/\inf.zero=some z/\j7 e z=true:=by
 unfold sK at h;split at h
 .rename_i i hi;simp only[ao] at h;have h4:=h.2;unfold vi at h4;split at h4
  .rename_i z hz;exact⟨i,z,hi,ay h.1.1.1,jH h.1.1.2,jH h.1.2,hz,h4⟩
  .cases h4
 .cases h
def ZY {e:Ty}{z:Value}(h:j7 e z=true):z.cells.size=e.size:=by
 cases e with
 |agg ts=>
  cases z with
  |agg vs=>simp only[j7] at h;have:=(ZZ ts vs.toList h).1;simpa [Value.cells,Ty.size] using this
  |_=>simp[j7] at h
 |_=>cases z<;>simp_all [j7,zU,Value.cells,Ty.size]
def alI {O:Env}{x y:PE}(h:((PE.ci .lss x y).ev O).b=true):(x.ev O).i<(y.ev O).i:=by
 simpa [PE.ev,D.b_bool,jK] using h
def abi {O:Env}{x y:PE}(h:((PE.ci .leq x y).ev O).b=true):(x.ev O).i<=(y.ev O).i:=by
 simpa [PE.ev,D.b_bool,jK] using h
def asH {n:Nat}(h:(n:Int)<oI):n<4294967296:=by unfold oI at h;omega
def aeP {n:Nat}(h:(n:Int)<=oI):n<=4294967296:=by unfold oI at h;omega
def St.setO_self {S:St}{j:Nat}{ob:Ob}(h:S.o j=ob):S.setO j ob=S:=by
 have:bX S.o j ob=S.o:=by
  funext i;rw[fp];split
  .rename_i e;subst e;exact h.symm
  .rfl
 cases S;simp only[St.setO] at this ⊢;rw[this]
section
variable {C:Ctx} {S:St} {O:Env} {V:Im} {own:Nat->Option Nat} {hv:Nat->Value} {w0:World} {σ0:Base} {A:Nat->Prop} {a:Act} {w:World} {gs:List (Nat×Bool)} {Z:aS} {dst:Nat}
def Inv.updO (h:Inv C S O V own hv w0 σ0 A a w)(j:Nat)(ob:Ob)(d:D)(v:Value)(nb:Nat->Bool){w':World}(hw:Below w0.heap.size w w')
 (rq:∀k,k<w.heap.size->own k≠some j->w'.heap[k]?=w.heap[k]?) (dW:∀k,nb k=true->(own k=some j\/w.heap.size<=k)/\k<w'.heap.size)
 (cT:bY C (S.newO j ob) (O.setO j d) V (fM own j nb) (bX hv j v) w' w0.heap.size j ob) (oz:ob≠.tr:=by intro h;cases h):Inv C (S.newO j ob) (O.setO j d) V (fM own j nb) (bX hv j v) w0 σ0 A a w':=by
 have aI:w0.heap.size<=w.heap.size:=h.below.size;have bu:∀k i,i≠j->own k=some i->fM own j nb k=some i:=by
  intro k i hi hk;have h1:=h.owns k i hk;have h2:nb k=false:=by
   cases hn:nb k with
   |false=>rfl
   |true=>
    rcases(dW k hn).1 with e|e
    .rw[hk] at e;simp at e;exact absurd e hi
    .omega
  simp[fM,h2,hk,hi]
 have ar:V.ok w':=by
  refine⟨λk o u hc=>?_,λk es hc=>?_,h.ok.fz λk o v hc=>rq k (h.lt hc) λe=>by rw[(h.owns k j e).2.2.1 o] at hc;cases hc⟩
  .have au:own k≠some j:=λe=>by rw[(h.owns k j e).2.2.1 o] at hc;cases hc
   rw[World.cell?_of_block (rq k (h.lt hc) au)];exact h.ok.c k o u hc
  .have au:own k≠some j:=λe=>by rw[(h.owns k j e).2.2.2] at hc;cases hc
   exact(h.ok.m k es hc).keep (rq k (h.ltm hc) au)
 refine h.step (λi=>i=j) rfl (.refl V) ar (λ_ _ _ hx=>.inl hx) (λ_ _ hx=>.inl hx) hw ⟨λi=>?_,λi e=>?_⟩ (λi hi=>⟨?_,?_,?_,λk hk=>⟨bu k i hi hk,?_⟩⟩) (λi hi=>?_) (λk i hk=>?_) (λ_=>id) (λt=>.inl ⟨rfl,rfl,rfl⟩) (λ_ _=>rfl) (λk hk e=>rq k hk (by rw[e];simp)) (λk i hk=>by
  unfold fM at hk;split at hk
  .rename_i hn;rcases(dW k hn).1 with e|e
   .exact .inl ⟨j,e⟩
   .exact .inr e
  .split at hk
   .cases hk
   .exact .inl ⟨i,hk⟩) (λi hi=>by subst hi;simpa only[St.newO,aN] using oz)
 .simp only[St.newO,fp];split<;>rename_i e
  .subst e;omega
  .omega
 .simp only[St.newO,fp] at e;split at e
  .rename_i e';subst e';omega
  .rename_i au;exact bA _ _ au
 .simp[St.newO,bA _ _ hi]
 .simp[Env.setO,bA _ _ hi]
 .exact bA _ _ hi
 .exact rq k (h.owns k i hk).2.1 (by rw[hk];simpa using hi)
 .subst hi;simp only[St.newO,aN];exact cT
 .unfold fM at hk;split at hk
  .rename_i hn;obtain⟨g1,g2⟩:=dW k hn;rcases g1 with e|e
   .obtain⟨f1,f2,f3,f4⟩:=h.owns k j e;exact⟨f1,g2,f3,f4⟩
   .refine⟨by omega,g2,λo=>?_,?_⟩
    .cases hc:V.c k o with
     |none=>rfl
     |some u=>have:=h.lt hc;omega
    .cases hc:V.m k with
     |none=>rfl
     |some u=>have:=h.ltm hc;omega
  .split at hk
   .cases hk
   .obtain⟨g1,g2,g3,g4⟩:=h.owns k i hk;exact⟨g1,by have:=hw.size;omega,g3,g4⟩
def Inv.updB (h:Inv C S O V own hv w0 σ0 A a w)(j:Nat)(ob:Ob)(d:D){w':World}(hw:Below w0.heap.size w w')
 (rq:∀k,k<w.heap.size->own k≠some j->w'.heap[k]?=w.heap[k]?)
 (cT:bY C (S.setO j ob) (O.setO j d) V own hv w' w0.heap.size j ob) (oz:ob≠.tr:=by intro h;cases h):Inv C (S.setO j ob) (O.setO j d) V own hv w0 σ0 A a w':=by
 have ar:V.ok w':=by
  refine⟨λk o u hc=>?_,λk es hc=>?_,h.ok.fz λk o v hc=>rq k (h.lt hc) λe=>by rw[(h.owns k j e).2.2.1 o] at hc;cases hc⟩
  .have au:own k≠some j:=λe=>by rw[(h.owns k j e).2.2.1 o] at hc;cases hc
   rw[World.cell?_of_block (rq k (h.lt hc) au)];exact h.ok.c k o u hc
  .have au:own k≠some j:=λe=>by rw[(h.owns k j e).2.2.2] at hc;cases hc
   exact(h.ok.m k es hc).keep (rq k (h.ltm hc) au)
 refine h.step (λi=>i=j) rfl (.refl V) ar (λ_ _ _ hx=>.inl hx) (λ_ _ hx=>.inl hx) hw (Compat.setO _ _ _ _) (λi hi=>⟨by simp[St.setO,bA _ _ hi],by simp[Env.setO,bA _ _ hi],rfl,λk hk=>⟨hk,rq k (h.owns k i hk).2.1 (by rw[hk];simpa using hi)⟩⟩) (λi hi=>?_) (λk i hk=>?_) (λ_=>id) (λt=>.inl ⟨rfl,rfl,rfl⟩) (λ_ _=>rfl) (λk hk e=>rq k hk (by rw[e];simp)) (λk i hk=>.inl ⟨i,hk⟩) (λi hi=>by subst hi;rw[St.setO_o];exact oz)
 .subst hi;rw[St.setO_o];exact cT
 .obtain⟨g1,g2,g3,g4⟩:=h.owns k i hk;exact⟨g1,by have:=hw.size;omega,g3,g4⟩
def ach {B:Nat}{w w':World}{row:Option Nat}(hg:w.grownBy w' row)(hB:B<=w.heap.size)(hr:∀k,row=some k->B<=k):Below B w w':=(Below.refl B w).grown hg hB hr
def ae5 {z:Array Value}{n i q:Nat}(hz:0<z.size)(hi:i<n)(hq:q<z.size):(madeCells z (n*z.size))[i*z.size+q]?=z[q]?:=by
 have af:i*z.size+q<n*z.size:=by
  have:(i+1)*z.size<=n*z.size:=kf _ hi;rw[kc] at this;omega
 have hm:(i*z.size+q)%z.size=q:=by rw[DO,akk,O8 hq]
 simp[madeCells,Array.getElem?_range,af,hm,hq]
def amZ (h:Inv C S O V own hv w0 σ0 A a w)(hC:CtxOK C σ0)(ht:¬A dst)(af:dst<a.tmps.size){T:TypeId}{l c:Operand}{r:St×List PI}(hr:EL C S dst T l c=some r){o:Oper}(hd:o.dst=some dst)(ho:o.op=.makeSlice T l c):bT C w0 σ0 Z S O A a w o r:=by
 unfold EL at hr;split at hr
 case h_2=>cases hr
 rename_i E k1 n k2 m hT hl hc;simp only[az] at hr;obtain⟨e,he,hr⟩:=hr;cases hf:sK C.P E e<;>simp only[hf,zyy,zyx] at hr
 .cases hr
 obtain⟨inf,z0,hi,hs,hb,h1,hz,mV⟩:=QO hf;simp only[az] at hr;obtain⟨z,hzt,hr⟩:=hr;cases cd:Ty.sub z.1 e<;>simp only[cd,zyy,zyx] at hr
 .cases hr
 cases hr;obtain⟨n1,aO,br,b1,b2⟩:=(cw h hC rfl hl).int_inv;obtain⟨n2,iy,dB,b3,b4⟩:=(cw h hC rfl hc).int_inv;simp only at br dB;have Gf:=((zV (cap:=C.cap) (V:=V) hzt mV).1).sub cd;refine bT.value hd λO' ak=>?_;simp only[PI.runs,PI.run,az] at ak;obtain⟨ρ1,g1,ρ2,g2,ak⟩:=ak;cases c1:((Th n).ev O).b<;>simp only[c1,zyy,zyx] at g1
 .cases g1
 cases g1;cases c2:((PE.ci BinOp.eql n m).ev O).b<;>simp only[c2,zyy,zyx] at g2
 .cases g2
 cases g2;have aqS:n1=n2:=by simpa [PE.ev,br,dB,D.i_int,D.b_bool,jK] using c2
 subst aqS;have hb:0<=n1/\n1<=oI:=by simpa [Th,PE.ev,br,D.i_int,D.b_bool,jK,D.int] using c1
 obtain⟨nn,rfl⟩:=qF hb.1;have FK:nn<=4294967296:=by have:=hb.2;unfold oI at this;omega
 have mW:z0.cells.size=e.size:=ZY mV;obtain⟨w',r1,r2,r3⟩:=run_make_full (P:=C.P) w w0.heap.size T E inf z0 e.size hT hi hz hs k1 k2 nn (by
  have:inf.bytes*nn<=y2*4294967296:=DR (by assumption) FK;unfold y2 at this;omega) (by unfold maxLen;omega) h.below.size
 refine⟨.slice (some ⟨w.heap.size,0,none⟩) nn nn,w',by simp[execOp,ho,aO,iy,r1],?_⟩;obtain⟨ρ3,g3,ρ4,g4,g5⟩:=ak;cases g3;cases g4;cases g5;simp only[PE.ev,br,D.i_int,xw];have hlen:(List.replicate nn z.2).length=nn:=by simp
 refine h.mkObj ht af (.row E e) _ _ (λk=>Nat.beq k w.heap.size) (ach r3 (ba _) (by simp)) (λk hk=>?_) ⟨_,List.replicate nn z.2,by simp[Env.setO,aN],by rw[aN,hlen];exact r2,⟨λ_=>z0,λi x hx=>?_,λi j u hi hj=>?_⟩,λk hk=>?_⟩
 .have bf:k=w.heap.size:=ay hk;have:=(r2.lt _ rfl).2;subst bf;exact⟨ba _,this⟩
 .have:=(eM.1 hx)
  obtain⟨q1,q2⟩:=this;simp at q2;subst q2;exact Gf
 .rw[hlen] at hi;have bB:j<z0.cells.size:=(eB.1 hj).1;rw[pf,<-mW];rw[ae5 (by omega) hi bB];exact hj
 .rw[aN] at hk;simp[Value.ownBlock] at hk;simp[fM,hk]
def nE.push {arr:Array MapEntry}{clock:Nat}(h:nE arr clock)(k v:Value):nE (arr.push {key:=k,val:=v,born:=clock}) (clock+1):=by
 have key:∀(i:Nat) (e:MapEntry),(arr.push {key:=k,val:=v,born:=clock})[i]?=some e->(arr[i]?=some e/\e.born<clock)\/(i=arr.size/\e.born=clock):=by
  intro i e he;rw[Array.getElem?_push] at he;split at he
  .rename_i hi;cases he;exact .inr ⟨hi,rfl⟩
  .exact .inl ⟨he,h.1 i e he⟩
 refine⟨λi e he=>?_,λi j e f he hf hb=>?_⟩
 .rcases key i e he with⟨_,h1⟩|⟨_,h1⟩<;>omega
 .rcases key i e he with⟨h1,h2⟩|⟨h1,h2⟩<;>rcases key j f hf with⟨h3,h4⟩|⟨h3,h4⟩
  .exact h.2 i j e f h1 h3 hb
  .omega
  .omega
  .omega
def nE.modify {arr:Array MapEntry}{clock:Nat}(h:nE arr clock)(i0:Nat)(k v:Value):nE (arr.modify i0 λe=>{e with key:=k,val:=v}) clock:=by
 have key:∀(i:Nat) (e:MapEntry),(arr.modify i0 λe=>{e with key:=k,val:=v})[i]?=some e->∃e',arr[i]?=some e'/\e'.born=e.born:=by
  intro i e he;rw[OM] at he;split at he
  .simp only[aA] at he;obtain⟨e',h1,rfl⟩:=he;exact⟨e',h1,rfl⟩
  .exact⟨e,he,rfl⟩
 refine⟨λi e he=>?_,λi j e f he hf hb=>?_⟩
 .obtain⟨e',h1,h2⟩:=key i e he;rw[<-h2];exact h.1 i e' h1
 .obtain⟨e',h1,h2⟩:=key i e he;obtain⟨f',h3,h4⟩:=key j f hf;exact h.2 i j e' f' h1 h3 (by rw[h2,h4,hb])
def abJ (h:Inv C S O V own hv w0 σ0 A a w)(hC:CtxOK C σ0){T:TypeId}{m k v:Operand}{r:St×List PI}(hr:Bx C S T m k v=some r){o:Oper}(hd:o.dst=none)(ho:o.op=.mapUpdate T m k v\/o.op=.insert T m k v):bT C w0 σ0 Z S O A a w o r:=by
 unfold Bx at hr;split at hr
 case h_2=>cases hr
 rename_i K E j ver hT es;obtain⟨dY,_⟩:=tN h (gs:=[]) rfl m;rw[es] at dY;cases hb:Nat.beq ver (S.ver j)<;>simp only[hb,zyy,zyx] at hr
 .cases hr
 have cu:=dY.2 (ay hb);have bj:=h.objs j;split at hr
 case h_2=>cases hr
 rename_i kt et tk ek tv ev eo hk yQ;rw[eo] at bj;cases hc:(Ty.beq tk kt&&wq C.P K kt&&Ty.sub tv et)<;>simp only[hc,zyy,zyx] at hr
 .cases hr
 cases hr;simp only[ao] at hc;obtain⟨⟨Lv,FC⟩,cd⟩:=hc;obtain⟨g,arr,clock,ds,h1,h2,h3,h4,h5,⟨h6,sQ⟩,h7⟩:=bj;have bf:=cw h hC rfl hk;rw[Ty.beq_eq _ _ Lv] at bf;have hv':=(cw h hC rfl yQ).sub cd;refine bT.skip hd λO' ak=>?_;simp only[PI.runs,PI.run,az] at ak;obtain⟨ρ1,g1,ρ2,g2,g3⟩:=ak;cases c1:((PE.ci BinOp.lss (.mlen (.o j)) (.con (.int oI))).ev O).b<;>simp only[c1,zyy,zyx] at g1
 .cases g1
 cases g1;cases g2;cases g3;have aqF:ds.length<4294967296:=by
  have h8:=alI c1;simp only[PE.ev,h4,D.m,D.i_int,D.int] at h8;exact asH h8
 have ko:(Instr.checkKey false 10000 K (a.eval k)).run C.P w=.ok () w:=abh (cap:=C.cap) (V:=V) FC bf;have fX:∃vy Bp ds',(Instr.mapUpdate T (a.eval m) (a.eval k) (a.eval v)).run C.P w=.ok () {w with heap:=w.heap.setIfInBounds g (.map vy Bp)}/\fl (ek.ev O) (ev.ev O) ds=ds'/\ds'.length=vy.size/\(ds'.length<=maxLen/\nE vy Bp)/\
  ∀(i:Nat) (e:MapEntry) (p:D×D),vy[i]?=some e->ds'[i]?=some p->Rep C.cap V kt e.key p.1/\Rep C.cap V et e.val p.2:=by
  rcases run_findKey FC bf arr ds h5 h7 w with⟨f1,f2,f3⟩|⟨i,e,p,f1,f2,f3,f4,f5,f6⟩
  .refine⟨arr.push {key:=a.eval k,val:=a.eval v,born:=clock},clock+1,ds++[(ek.ev O,ev.ev O)],?_,f3 _,by simp[h5],⟨by simp;unfold maxLen;omega,sQ.push _ _⟩,λq e p he hp=>?_⟩
   .rw[cu,h1];simp[Instr.mapUpdate,run_underlying hT,getObj,Sem.run,h3,ko,f1,setObj]
   .rw[Array.getElem?_push] at he;rw[mE] at hp;by_cases hq:q=arr.size
    .subst hq;simp at he;rw[if_neg (by omega)] at hp;simp[h5] at hp;subst he;subst hp;exact⟨bf,hv'⟩
    .rw[if_neg hq] at he;have uO:q<arr.size:=(eB.1 he).1;rw[if_pos (by omega)] at hp;exact h7 q e p he hp
  .refine⟨arr.modify i λe=>{e with key:=a.eval k,val:=a.eval v},clock,ds.set i (ek.ev O,ev.ev O),?_,f5 _,by simp[h5],⟨by simp;exact h6,sQ.modify _ _ _⟩,λq e' p' he hp=>?_⟩
   .rw[cu,h1];have cJ:(Instr.keyThatStays e.key (a.eval k)).run C.P w=.ok (a.eval k) w:=by simp[Instr.keyThatStays,f6]
    simp[Instr.mapUpdate,run_underlying hT,getObj,Sem.run,h3,ko,f3,f1,cJ,setObj]
   .rw[OM] at he;rw[DI] at hp;by_cases hq:i=q
    .subst hq;simp only[if_true] at he hp;rw[f1] at he;simp at he;split at hp
     .cases hp;subst he;exact⟨bf,hv'⟩
     .cases hp
    .rw[if_neg hq] at he hp;exact h7 q e' p' he hp
 obtain⟨vy,Bp,ds',r1,r2,r3,r4,r5⟩:=fX;refine⟨{w with heap:=w.heap.setIfInBounds g (.map vy Bp)},by rcases ho with ho|ho<;>simp[execOp,ho,r1],?_⟩;have Fx:g<w.heap.size:=(eB.1 h3).1;have hgB:w0.heap.size<=g:=(h.owns g j h2).1;have bK:(PE.put (.o j) ek ev).ev O=.map ds':=by simp only[PE.ev,h4,D.m,r2]
 rw[bK]
 have:=h.updB j (.mp kt et) (.map ds') (w':={w with heap:=w.heap.setIfInBounds g (.map vy Bp)}) ⟨rfl,rfl,rfl,by simp,λk hk=>by simp;rw[Z1 (by omega)]⟩
  (λk hk au=>by simp;rw[Z1 (λe=>au (by rw[<-e];exact h2))])
  ⟨g,vy,Bp,ds',h1,h2,by simp[Fx],by simp[Env.setO,aN],r3,r4,r5⟩
 have eS:S.setO j (.mp kt et)=S:=St.setO_self eo;rw[eS] at this;exact⟨_,_,_,this⟩
end
def aA0 {e:Ty}{z:Value}(h:j7 e z=true):e.rowT=true\/e.one=true:=by
 cases e<;>first|exact .inl rfl|exact .inr rfl|(cases z<;>simp[j7,zU] at h)
def Rep.cellsOne {cap:Nat->Option CSig}{V:Im}{t:Ty}{v:Value}{d:D}(h:Rep cap V t v d)(ht:t.rowT=true\/t.one=true){m:Nat}{u:Value}(hu:v.cells[m]?=some u):u.oneCell'=true:=by
 obtain⟨f1,f2,f3⟩:=h.flat ht;have af:m<v.cells.size:=(eB.1 hu).1;rw[h.size] at af;obtain⟨g1,g2⟩:=f3 m _ (aW (by omega:m<t.flat.length));have:=(g2.oneCell g1).2;rw[fP,hu] at this;exact this
def ano {cap:Nat->Option CSig}{V:Im}{e:Ty}{cells:List Value}{xs:List D}(h:dA cap V e cells xs)(hl:cells.length=xs.length*e.size)(ja:e.rowT=true\/e.one=true):∀u∈cells,u.oneCell'=true:=by
 obtain⟨vs,h1,h2⟩:=h;intro u hu;obtain⟨p,hp,rfl⟩:=fu hu;rw[hl] at hp;have hs:0<e.size:=Nat.pos_of_ne_zero λe0=>by rw[e0] at hp;simp at hp
 have hi:p/e.size<xs.length:=(xF hs).2 hp;have hq:p%e.size<e.size:=qI _ hs;have bJ:=h1 _ _ (aW hi);have aI:=bJ.size;have mN:(vs (p/e.size)).cells[p%e.size]?=some (vs (p/e.size)).cells[p%e.size]:=iN (by omega);have:=h2 _ _ _ hi mN;rw[xG,Ai] at this;have h3:cells[p]=(vs (p/e.size)).cells[p%e.size]:=by
  have h4:=aW (show p<cells.length by omega);rw[h4] at this;exact tZ this
 rw[h3];exact bJ.cellsOne ja mN
def ann {cap:Nat->Option CSig}{V:Im}{e:Ty}{c1 c2:List Value}{xs ys:List D}(h:dA cap V e c1 xs)(k:dA cap V e c2 ys)(hl:c1.length=xs.length*e.size):dA cap V e (c1++c2) (xs++ys):=by
 obtain⟨vs,h1,h2⟩:=h;obtain⟨us,k1,k2⟩:=k;refine⟨λi=>if i<xs.length then vs i else us (i-xs.length),λi x hx=>?_,λi j u hi hj=>?_⟩
 .rw[mE] at hx;split at hx
  .rename_i af;simp only[af,if_true];exact h1 i x hx
  .rename_i af;simp only[af,if_false];exact k1 _ x hx
 .by_cases af:i<xs.length
  .simp only[af,if_true] at hj;have:=h2 i j u af hj;rw[nF (eM.1 this).1];exact this
  .simp only[af,if_false] at hj;have df:i-xs.length<ys.length:=by simp at hi;omega
   have:=k2 _ j u df hj;have e1:i*e.size=c1.length+(i-xs.length)*e.size:=by rw[hl,<-kc];congr 1;omega
   rw[nG (by omega)];rw[show i*e.size+j-c1.length=(i-xs.length)*e.size+j by omega];exact this
section
variable {C:Ctx} {S:St} {O:Env} {V:Im} {own:Nat->Option Nat} {hv:Nat->Value} {w0:World} {σ0:Base} {A:Nat->Prop} {a:Act} {w:World} {gs:List (Nat×Bool)} {Z:aS} {dst:Nat}
def aAx (h:Inv C S O V own hv w0 σ0 A a w){B:Nat}{e f:Ty}{v:Value}{d:D}(hs:0<e.size)(ja:e.rowT=true\/e.one=true)(hf:f.unf=e)(SM:Pg C V w B (.slice f) v d):
 ∃ys,d=.list ys/\ys.length<=maxLen/\((v=.slice none 0 0/\ys=[])\/∃(ad:Addr) (c:Nat) (news:List Value),v=.slice (some ad) ys.length c/\news.length=ys.length*e.size/\
  (∀j u,news[j]?=some u->w.cell? (ad.add j)=some u)/\dA C.cap V e news ys):=by
 rcases SM with hr|⟨T,e',cells,xs,ht,hd,bu,dC⟩|⟨k,arr,clock,es,kt,et,ht,_⟩
 .obtain⟨xs,hd,sR⟩:=hr.slice_inv;rw[<-f.unf_size,hf] at sR;rcases sR with⟨⟨p0,aO⟩,rfl⟩|⟨k,o,c,aO,h1,h2,vs,h3,h4⟩
  .cases p0 with
   |none=>exact⟨[],hd,by simp,.inl ⟨aO,rfl⟩⟩
   |some a0=>exact⟨[],hd,by simp,.inr ⟨a0,0,[],aO,by simp,λj u hu=>by simp at hu,λ_=>undef,λi x hx=>by simp at hx,λi j u hi=>by simp at hi⟩⟩
  .refine⟨xs,hd,by omega,.inr ⟨⟨k,o,none⟩,c,(List.range (xs.length*e.size)).map λp=>(vs (p/e.size)).cells.getD (p%e.size) undef,aO,by simp,λj u hu=>?_,vs,h3,λi j u hi hj=>?_⟩⟩
   .simp only[cf,aA] at hu;obtain⟨p,hp,rfl⟩:=hu;have gU:j<xs.length*e.size:=by have:=(eM.1 hp).1;simpa using this
    rw[sB gU] at hp;cases hp;have hi:j/e.size<xs.length:=(xF hs).2 gU;have hq:j%e.size<e.size:=qI _ hs;have bJ:=h3 _ _ (aW hi);have aI:=bJ.size;have mN:(vs (j/e.size)).cells[j%e.size]?=some ((vs (j/e.size)).cells.getD (j%e.size) undef):=by
     rw[fP,iN (by omega)];rfl
    have:=h.cell (h4 _ _ _ hi mN);rw[ug]
    rwa [show o+j/e.size*e.size+j%e.size=o+j by rw[sC,xG,Ai]] at this
   .have bJ:=h3 _ _ (aW hi);have bB:j<e.size:=by rw[<-bJ.size];exact(eB.1 hj).1
    have af:i*e.size+j<xs.length*e.size:=by
     have:(i+1)*e.size<=xs.length*e.size:=kf _ hi;rw[kc] at this;omega
    have e1:(i*e.size+j)/e.size=i:=by rw[xG,Nat.mul_add_div hs,Nat.div_eq_of_lt bB];omega
    have e2:(i*e.size+j)%e.size=j:=by rw[DO,akk,O8 bB]
    simp only[cf,sB af,kM,e1,e2];rw[fP,hj];rfl
 .cases ht;rw[Ty.unf_rol] at hf;obtain⟨b,c,aO,hm,_⟩:=zl bu;have dC:dA C.cap V e cells xs:=by
   obtain⟨us,u1,u2⟩:=dC;refine⟨us,λi x hx=>hf▸(u1 i x hx).unf,λi j u hi hu=>?_⟩;rw[<-hf,Ty.unf_size];exact u2 i j u hi hu
  have bu:w.ownsRow B T e.size v xs.length cells:=by rw[<-hf,Ty.unf_size];exact bu
  rcases bu.2 with⟨e1,e2⟩|⟨g,cap,cur,e1,e2⟩
  .have:xs=[]:=OV e2;subst this;exact⟨[],hd,by simp,.inl ⟨e1,rfl⟩⟩
  .exact⟨xs,hd,hm,.inr ⟨⟨g,0,none⟩,cap,cells,e1,bu.1,bu.cells (by rw[e1];rfl),dC⟩⟩
 .cases ht
def awV {P:Program}{B:Nat}{T E ty:TypeId}{inf:TypeInfo}{z:Value}{size:Nat}{v x:Value}{n m:Nat}{xs news:List Value}(hT:P.underlying T=some (.slice E))(hi:P.info? E=some inf)(hz:inf.zero=some z)
 (hs:inf.size=size) (mW:z.cells.size=size) (aI:0<size) (rp:inf.bytes<=y2) (bu:w.ownsRow B E size v n xs) (hB:B<=w.heap.size) (cS:n+m<=4294967296)
 (hx:(x=.slice none 0 0/\m=0/\news=[])\/∃(ad:Addr) (c:Nat),x=.slice (some ad) m c/\news.length=m*size/\(∀j u,news[j]?=some u->w.cell? (ad.add j)=some u)/\∀u∈news,u.oneCell'=true):
 ∃v' w',(Builtin.append_ #[T,T] ty #[v,x]).run P w=.ok v' w'/\w'.ownsRow B E size v' (n+m) (xs++news)/\w.grownBy w' v.ownBlock/\∀k,v'.ownBlock=some k->v.ownBlock=some k\/(w.heap.size<=k/\k<w'.heap.size):=by
 rcases hx with⟨rfl,rfl,rfl⟩|⟨ad,c,rfl,hl,LA,h1⟩
 .refine⟨v,w,run_append_owned_none w B T ty E inf size hT hi v n xs bu,by simpa using bu,⟨rfl,rfl,rfl,ba _,λ_ _ _=>rfl⟩,λk hk=>.inl hk⟩
 .have RA:(n+m)*inf.bytes<=140737488355328:=by
   have:(n+m)*inf.bytes<=4294967296*y2:=DR cS rp;unfold y2 at this;omega
  obtain⟨v',w',r1,r2,r3,r4⟩:=run_append_own (P:=P) w B T ty E inf z size inf.bytes hT hi hz hs rfl mW aI v n xs bu ad m c news hl LA h1 (by unfold maxLen;omega) RA hB;refine⟨v',w',r1,r2,r3,λk hk=>?_⟩;have af:=(r2.lt k hk).2;subst hs;rcases bu.2 with⟨rfl,rfl⟩|⟨g,cap,cur,rfl,BR,hg,dp,oq,cI,F6⟩
  .by_cases hm:m=0
   .subst hm;have:=r4.2 ⟨rfl,rfl⟩;subst this;simp[Value.ownBlock] at hk
   .have hr:=run_append_nil (P:=P) w T ty E inf z hT hi hz ad m c news hl LA (by omega) (by omega) (by have hb:=RA;simp only[gl] at hb;omega);rw[hr] at r1;cases r1;simp[Value.ownBlock] at hk;subst hk;exact .inr ⟨ba _,af⟩
  .by_cases adN:n+m<=cap
   .have Lo:n*inf.size+news.length<=cur.size:=by rw[hl,cI,<-kc];exact kf _ adN
    have hr:=run_append_room (P:=P) w T ty E inf hT hi g n cap cur hg ad m c news hl LA h1 adN Lo;rw[hr] at r1;cases r1;exact .inl hk
   .have hr:=run_append_grow (P:=P) w T ty E inf z hT hi hz ⟨g,0,none⟩ n cap xs bu.1 (bu.cells (g:=g) rfl) ad m c news hl LA (by omega) (by omega) (growslice_fits (by omega) RA);rw[hr] at r1;cases r1;simp[Value.ownBlock] at hk;subst hk;exact .inr ⟨ba _,af⟩
def amD (h:Inv C S O V own hv w0 σ0 A a w)(hC:CtxOK C σ0)(ht:¬A dst)(af:dst<a.tmps.size){T:TypeId}{s x:Operand}{r:St×List PI}(hr:EE C S dst T s x=some r){o:Oper}(hd:o.dst=some dst)
 (ho:o.op=.call {callee:=.builtin .append,args:=#[s,x],argTypes:=#[T,T]}):bT C w0 σ0 Z S O A a w o r:=by
 unfold EE at hr;split at hr
 case h_2=>cases hr
 rename_i E hT;simp only[az] at hr;obtain⟨e,he,hr⟩:=hr;split at hr
 case h_2=>cases hr
 rename_i tx ex SM;have hv':=ZJ h hC (gs:=[]) rfl SM;obtain⟨cs,ak⟩:=Ww (C:=C) (w:=w) (a:=a) ho;cases hc:(sK C.P E e&&Od tx e)<;>simp only[hc,zyy,zyx] at hr
 .cases hr
 simp only[ao] at hc;obtain⟨inf,z,hi,hs,rp,h1,hz,mV⟩:=QO hc.1;have mW:=ZY mV;have ja:=aA0 mV;have SN:∃f:Ty,f.unf=e/\Pg C V w w0.heap.size (.slice f) (a.eval x) (ex.ev O):=by
  have cJ:=hc.2;unfold Od at cJ;split at cJ
  .exact⟨_,Ty.beq_eq _ _ cJ,hv'⟩
  .refine⟨e,Ty.unf_ro ja,?_⟩;rcases hv' with hr|⟨_,_,_,_,ht,_⟩|⟨_,_,_,_,_,_,ht,_⟩
   .exact .inl (hr.sub (by simp[Ty.sub]))
   .cases ht
   .cases ht
  .cases cJ
 obtain⟨fv,eY,SN⟩:=SN;obtain⟨ys,Lm,me,arF⟩:=aAx h h1 ja eY SN;have hx:∃news,dA C.cap V e news ys/\news.length=ys.length*e.size/\((a.eval x=.slice none 0 0/\ys.length=0/\news=[])\/∃(ad:Addr) (c:Nat),a.eval x=.slice (some ad) ys.length c/\news.length=ys.length*e.size/\(∀j u,news[j]?=some u->w.cell? (ad.add j)=some u)/\∀u∈news,u.oneCell'=true):=by
  rcases arF with⟨e1,rfl⟩|⟨ad,c,news,e1,e2,e3,e4⟩
  .exact⟨[],⟨λ_=>undef,by simp,by simp⟩,by simp,.inl ⟨e1,rfl,rfl⟩⟩
  .exact⟨news,e4,e2,.inr ⟨ad,c,e1,e2,e3,ano e4 e2 ja⟩⟩
 obtain⟨news,au,hnl,hx⟩:=hx;have main:∀(j:Nat) (v:Value) (xs:List D) (cells:List Value),a.eval s=v->w.ownsRow w0.heap.size E e.size v xs.length cells->dA C.cap V e cells xs->xs.length+ys.length<=4294967296->
  (∀k,v.ownBlock=some k->own k=some j)->
  ∃v' w',(execOp a.eval o).run C.P w=.ok (.value v') w'/\Good C w0 σ0 ((S.newO j (.row E e)).setR dst (.obj j (S.ver j+1))) ((O.setO j (.list (xs++ys))).setR dst .none) (λu=>A u\/u=dst) (a.put (some dst) v') w':=by
  intro j v xs cells SB bu dC hlen cT;obtain⟨v',w',r1,r2,r3,r4⟩:=awV (P:=C.P) (ty:=o.type) hT hi hz hs mW h1 rp bu h.below.size hlen hx;refine⟨v',w',by rw[ak];simp[builtin,SB,r1],?_⟩
  have SJ:=h.updO j (.row E e) (.list (xs++ys)) v' (λk=>decide (v'.ownBlock=some k)) (w':=w') (ach r3 h.below.size (λk hk=>(h.owns k j (cT k hk)).1)) (λk hk au=>r3.block k hk (λe=>au (cT k e.symm))) (λk hk=>by
        have bf:v'.ownBlock=some k:=by simpa using hk
        rcases r4 k bf with e|e
        .exact⟨.inl (cT k e),(r2.lt k bf).2⟩
        .exact⟨.inr e.1,e.2⟩)
   ⟨cells++news,xs++ys,by simp[Env.setO,aN],by rw[aN,mF];exact r2,ann dC au bu.1,λk hk=>by rw[aN] at hk;simp[fM,hk]⟩
  have h2:=SJ.setObj ht (j:=j) (v:=v') (aN _ _ _) af;have e:(S.newO j (.row E e)).ver j=S.ver j+1:=aN _ _ _;rw[e] at h2;exact⟨_,_,_,h2⟩
 split at hr
 .rename_i e0 pe0 hu;cases hr;refine bT.value hd λO' pV=>?_;have vW:=cw h hC rfl hu;have SB:a.eval s=.slice none 0 0:=by
   generalize a.eval s=v at vW;generalize pe0.ev O=d at vW;cases vW;rfl
  simp only[PI.runs,PI.run,az] at pV;obtain⟨ρ1,g1,ρ2,g2,ρ3,g3,g4⟩:=pV;cases c1:((L7 (.con (.list [])) ex).ev O).b<;>simp only[c1,zyy,zyx] at g1
  .cases g1
  cases g1;cases g2;cases g3;cases g4;have hlen:=abi c1;simp only[PE.ev,D.l_list,Lm,xC,D.i_int,D.int] at hlen;have:=main dst (.slice none 0 0) [] [] SB (World.ownsRow_nil _ _ _ _) ⟨λ_=>undef,by simp,by simp⟩ (by simpa using aeP hlen) (by simp[Value.ownBlock]);simpa [PE.ev,D.l_list,Lm,mkObj] using this
 .cases hr
 .obtain⟨dY,_⟩:=tN h (gs:=[]) rfl s;split at hr
  case h_2=>cases hr
  rename_i j ver es;rw[es] at dY;cases hb:Nat.beq ver (S.ver j)<;>simp only[hb,zyy,zyx] at hr
  .cases hr
  have cu:=dY.2 (ay hb);have bj:=h.objs j;split at hr
  case h_2=>cases hr
  rename_i E' e' eo;rw[eo] at bj;cases kq:(Nat.beq E' E&&Ty.beq e' e)<;>simp only[kq,zyy,zyx] at hr
  .cases hr
  cases hr;simp only[ao] at kq;have e1:=ay kq.1;have e2:=Ty.beq_eq _ _ kq.2;subst e1;subst e2;obtain⟨cells,xs,k1,k2,k3,k4⟩:=bj;refine bT.value hd λO' pV=>?_;simp only[PI.runs,PI.run,az] at pV;obtain⟨ρ1,g1,ρ2,g2,ρ3,g3,g4⟩:=pV;cases c1:((L7 (.o j) ex).ev O).b<;>simp only[c1,zyy,zyx] at g1
  .cases g1
  cases g1;cases g2;cases g3;cases g4;have hlen:=abi c1;simp only[PE.ev,D.l_list,Lm,k1,D.i_int,D.int] at hlen;have:=main j (hv j) xs cells cu k2 k3 (by have:=aeP hlen;simpa using this) k4;simpa [PE.ev,D.l_list,Lm,k1] using this
end
def If {P:Program}{a:Act}{w:World}{o:Oper}{T:TypeId}{x v:Operand}{inf:TypeInfo}{k off:Nat}{cs:Array Value}{E:TypeId}(ho:o.op=.store T x v)(hi:P.info? T=some inf)(hx:a.eval x=.pointer (some ⟨k,off,none⟩))
 (hs:(a.eval v).cells.size=inf.size) (dD:∀u∈(a.eval v).cells.toList,u.oneCell'=true) (hb:w.heap[k]?=some (.cells cs E (0,0))) (hle:off+inf.size<=cs.size):
 (execOp a.eval o).run P w=.ok .skip (w.setRow k (cs.toList.take off++(a.eval v).cells.toList++cs.toList.drop (off+inf.size)).toArray):=by
 have:=run_storeCells_at P k off E (a.eval v).cells.toList 0 cs w hb (by simp[hs];exact hle) dD;simp only[iS,zW,hs] at this;simp[execOp,ho,Instr.storeAt,hx,Instr.sureAddr,storeVar,Go.sizeOf,run_typeInfo w hi,hs,this]
def ai8 {w:World}{B k:Nat}{cs:Array Value}(hB:B<=k):Below B w (w.setRow k cs)/\∀i,i≠k->(w.setRow k cs).heap[i]?=w.heap[i]?:=
 ⟨⟨rfl,rfl,rfl,by simp[World.setRow],λi hi=>setRow_other w k i cs (by omega)⟩,λi hi=>setRow_other w k i cs hi⟩
def KS {α:Type}(xs ys:List α)(off:Nat)(d:α)(hle:off+ys.length<=xs.length)(i:Nat):(xs.take off++ys++xs.drop (off+ys.length)).getD i d=if off<=i/\i<off+ys.length then ys.getD (i-off) d else xs.getD i d:=by
 simp only[aF,sy];rw[mE,dQ,lq (by omega)];split
 .rename_i h;rw[if_neg (by omega),fQ,if_pos h]
 .rename_i h;rw[mE];split
  .rename_i h2;rw[if_pos (by omega)]
  .rename_i h2;rw[if_neg (by omega),gh];congr 2;omega
section
variable {C:Ctx} {S:St} {O:Env} {V:Im} {own:Nat->Option Nat} {hv:Nat->Value} {w0:World} {σ0:Base} {A:Nat->Prop} {a:Act} {w:World} {gs:List (Nat×Bool)} {Z:aS} {dst:Nat}
def Inv.storeBox (h:Inv C S O V own hv w0 σ0 A a w){j k off:Nat}{ag:Bool}{shs news:List Sh}{cs:Array Value}{E:TypeId}{ds dn:List D}{vs:List Value}(eo:S.o j=.box ag shs)
 (h1:hv j=.pointer (some ⟨k,0,none⟩)) (h2:own k=some j) (h3:w.heap[k]?=some (.cells cs E (0,0))) (h4:cs.size=shs.length) (h5:O.o j=.agg ds) (h6:ds.length=shs.length)
 (h7:∀i s,shs[i]?=some s->(∀gs s',s≠.opt gs s')/\aG C S O V hv s (cs.getD i undef) (ds.getD i .none))
 (l1:news.length=vs.length) (l2:dn.length=vs.length) (hle:off+vs.length<=shs.length)
 (l7:∀i s,news[i]?=some s->(∀gs s',s≠.opt gs s')/\aG C S O V hv s (vs.getD i undef) (dn.getD i .none)):
 Inv C (S.setO j (.box ag (shs.take off++news++shs.drop (off+vs.length)))) (O.setO j (.agg (dO ds off dn))) V own hv w0 σ0 A a (w.setRow k (cs.toList.take off++vs++cs.toList.drop (off+vs.length)).toArray):=by
 have hkB:w0.heap.size<=k:=(h.owns k j h2).1;obtain⟨b1,b2⟩:=ai8 (w:=w) (B:=w0.heap.size) (k:=k) (cs:=(cs.toList.take off++vs++cs.toList.drop (off+vs.length)).toArray) hkB;refine h.updB j _ _ b1 (λi hi au=>b2 i λe=>au (e▸h2)) ⟨k,_,E,dO ds off dn,h1,h2,setRow_heap w k cs _ E _ h3,?_,by simp[Env.setO,aN],?_,λi s hi=>?_⟩
 .simp[l1];omega
 .simp[dO,l2,l1];omega
 .have cI:(cs.toList.take off++vs++cs.toList.drop (off+vs.length)).toArray.getD i undef=if off<=i/\i<off+vs.length then vs.getD (i-off) undef else cs.getD i undef:=by
   have e0:∀l:List Value,l.toArray.getD i undef=l.getD i undef:=λl=>by simp[fP,aF]
   rw[e0,KS cs.toList vs off undef (by simp;omega),BH cs i]
  have jO:(dO ds off dn).getD i .none=if off<=i/\i<off+vs.length then dn.getD (i-off) .none else ds.getD i .none:=by
   rw[dO,KS ds dn off .none (by omega),l2]
  rw[cI,jO];have adt:∀s v d,(∀gs s',s≠.opt gs s')->aG C S O V hv s v d->aG C (S.setO j (.box ag (shs.take off++news++shs.drop (off+vs.length)))) (O.setO j (.agg (dO ds off dn))) V hv s v d:=
   λs v d hn hk=>aG.mono' (.refl V) (Compat.setO _ _ _ _) hn hk
  have jS:(shs.take off++news++shs.drop (off+vs.length))[i]?=if off<=i/\i<off+vs.length then news[i-off]? else shs[i]?:=by
   rw[sy,mE,dQ,lq (by omega)];split
   .rename_i h;rw[if_neg (by omega),fQ,if_pos h]
   .rename_i h;rw[mE,l1];split
    .rename_i h2;rw[if_pos (by omega)]
    .rename_i h2;rw[if_neg (by omega),gh];congr 1;omega
  rw[jS] at hi;split
  .rename_i hc;rw[if_pos hc] at hi;obtain⟨g1,g2⟩:=l7 _ s hi;exact⟨g1,adt _ _ _ g1 g2⟩
  .rename_i hc;rw[if_neg hc] at hi;obtain⟨g1,g2⟩:=h7 _ s hi;exact⟨g1,adt _ _ _ g1 g2⟩
def aiY (h:Inv C S O V own hv w0 σ0 A a w){j:Nat}(hr:lL (S.o j)=true):(hv j).cells=#[hv j]/\(hv j).oneCell'=true:=by
 have bj:=h.objs j;cases cT:S.o j with
 |row T e=>
  rw[cT] at bj;obtain⟨cells,xs,h1,h2,h3,h4⟩:=bj;obtain⟨b,c,e1,_⟩:=zl h2;rw[e1];exact⟨rfl,rfl⟩
 |mp kt et=>
  rw[cT] at bj;obtain⟨k0,arr,clock,es,h1,_⟩:=bj;rw[h1];exact⟨rfl,rfl⟩
 |_=>rw[cT] at hr;simp[lL] at hr
def Inv.storeRow (h:Inv C S O V own hv w0 σ0 A a w){j k n c i p:Nat}{T:TypeId}{e:Ty}{cells vs:List Value}{xs:List D}{v':Value}{d':D}(eo:S.o j=.row T e)(eZ:hv j=.slice (some ⟨k,0,none⟩) n c)
 (h1:O.o j=.list xs) (h2:w.ownsRow w0.heap.size T e.size (hv j) xs.length cells) (h3:dA C.cap V e cells xs) (h4:∀k,(hv j).ownBlock=some k->own k=some j) (hi:i<xs.length)
 (rD:i*e.size<=p) (eP:p+vs.length<=i*e.size+e.size) (hr:Rep C.cap V e v' d')
 (hv':∀q u,v'.cells[q]?=some u->(cells.take p++vs++cells.drop (p+vs.length))[i*e.size+q]?=some u):
 ∃cur,w.heap[k]?=some (.cells cur T (0,0))/\p+vs.length<=cur.size/\Inv C S (O.setO j (.list (xs.set i d'))) V own hv w0 σ0 A a (w.setRow k (cur.toList.take p++vs++cur.toList.drop (p+vs.length)).toArray):=by
 have aX:=h2.1;rcases h2.2 with⟨e0,e1⟩|⟨g,cap,cur,e1,e2,e3,e4,e5,e6,e7⟩
 .omega
 rw[eZ] at e1;cases e1;have aqw:i*e.size+e.size<=xs.length*e.size:=by
  have:(i+1)*e.size<=xs.length*e.size:=kf _ hi;rw[kc] at this;omega
 have aFN:xs.length*e.size<=c*e.size:=kf _ e4;have ard:p+vs.length<=cur.size:=by omega
 refine⟨cur,e3,ard,?_⟩;have bu:own k=some j:=h4 k (by rw[eZ];rfl);obtain⟨b1,b2⟩:=ai8 (w:=w) (B:=w0.heap.size) (k:=k) (cs:=(cur.toList.take p++vs++cur.toList.drop (p+vs.length)).toArray) e2;have F6:(cur.toList.take p++vs++cur.toList.drop (p+vs.length)).take (xs.length*e.size)=cells.take p++vs++cells.drop (p+vs.length):=by
  rw[<-e7];apply vm;intro q;simp only[sy,fQ,mE,dQ,gh,zW];by_cases hq:q<xs.length*e.size
  .rw[if_pos hq];by_cases FZ:q<p
   .simp[FZ,Nat.lt_min,show q<cur.size by omega,hq]
   .by_cases gX:q-p<vs.length
    .rw[if_neg (by omega),lq (by omega),if_pos gX,if_neg (by omega),lq (by omega),if_pos gX]
    .rw[if_neg (by omega),lq (by omega),if_neg gX,if_neg (by omega),lq (by omega),if_neg gX,if_pos (by omega)]
  .rw[if_neg hq];have:¬q<p:=by omega
   rw[if_neg (by omega),lq (by omega),if_neg (by omega),if_neg (by omega)]
 have:=h.updB j (.row T e) (.list (xs.set i d')) b1 (λq hq au=>b2 q λe=>au (e▸bu))
  ⟨cells.take p++vs++cells.drop (p+vs.length),xs.set i d',by simp[Env.setO,aN],⟨by simp;omega,.inr ⟨k,c,_,by rw[eZ];simp,e2,setRow_heap w k cur _ T _ e3,by simpa using e4,e5,by simp;omega,by simpa using F6⟩⟩,?_,h4⟩
 .rw[St.setO_self eo] at this;exact this
 .obtain⟨us,u1,u2⟩:=h3;refine⟨λq=>if q=i then v' else us q,λq x hx=>?_,λq m u hq hm=>?_⟩
  .rw[DI] at hx;by_cases B8:i=q
   .subst B8;simp only[if_true] at hx ⊢;rw[if_pos hi] at hx;cases hx;exact hr
   .rw[if_neg B8] at hx;simp only[show ¬q=i from λe=>B8 e.symm,if_false];exact u1 q x hx
  .by_cases B8:q=i
   .subst B8;simp only[if_true] at hm;exact hv' m u hm
   .simp only[B8,if_false] at hm;simp only[List.length_set] at hq;have h9:=u2 q m u hq hm;have aF8:m<e.size:=by rw[<-(u1 q _ (aW hq)).size];exact(eB.1 hm).1
    have kR:q*e.size+m<p\/p+vs.length<=q*e.size+m:=by
     rcases IQ q i with af|gT
     .left;have:(q+1)*e.size<=i*e.size:=kf _ af;rw[kc] at this;omega
     .right;have:(i+1)*e.size<=q*e.size:=kf _ (by omega);rw[kc] at this;omega
    rw[sy,mE,dQ,lq (by omega)];rcases kR with ho|ho
    .rw[if_pos ho,fQ,if_pos ho];exact h9
    .rw[if_neg (by omega),nG (by omega),gh];rw[show p+vs.length+(q*e.size+m-p-vs.length)=q*e.size+m by omega];exact h9
def am7 (h:Inv C S O V own hv w0 σ0 A a w)(hC:CtxOK C σ0){T:TypeId}{x v:Operand}{r:St×List PI}(hr:EP C S T x v=some r){o:Oper}(hd:o.dst=none)(ho:o.op=.store T x v):bT C w0 σ0 Z S O A a w o r:=by
 unfold EP at hr;split at hr
 case h_2=>cases hr
 rename_i inf hi;obtain⟨dY,_⟩:=tN h (gs:=[]) rfl x;split at hr
 case h_3=>cases hr
 .rename_i j ver off es;rw[es] at dY;cases hb:Nat.beq ver (S.ver j)<;>simp only[hb,zyy,zyx] at hr
  .cases hr
  obtain⟨k,eZ,fV⟩:=dY.2 (ay hb);have bj:=h.objs j;split at hr
  case h_2=>cases hr
  rename_i ag shs eo;rw[eo] at bj;obtain⟨k',cs,E,ds,h1,h2,h3,h4,h5,h6,h7⟩:=bj;have cA:=h1;rw[eZ] at h1;cases h1;split at hr
  .rename_i t e hu;have hv':=cw h hC rfl hu;cases hc:(Nat.beq inf.size t.size&&(t.rowT||t.one)&&Nat.ble (off+t.size) shs.length)<;>simp only[hc,zyy,zyx] at hr
   .cases hr
   cases hr;simp only[ao,kK] at hc;obtain⟨⟨aI,ja⟩,hle⟩:=hc;have aI:=ay aI;have hle:=jH hle;obtain⟨f1,f2,f3⟩:=hv'.flat ja;have jb:=hv'.size;refine bT.skip hd λO' ak=>?_;rw[tJ ak]
   refine⟨_,If ho hi fV (by rw[jb,aI]) (λu hu=>by
        obtain⟨m,hm,rfl⟩:=fu hu;exact hv'.cellsOne ja (m:=m) (by simp at hm ⊢)) h3 (by omega),?_⟩
   have cJ:=h.storeBox (off:=off) (news:=t.flat.map .dat) (vs:=(a.eval v).cells.toList) (dn:=(e.ev O).cells) eo cA h2 h3 h4 h5 h6 h7 (by simp[f1,jb]) (by simp[f2,jb]) (by simp[jb];omega) (λi s hi=>by
        simp only[cf,aA] at hi;obtain⟨ti,SD,rfl⟩:=hi;refine⟨λ_ _ e=>(by cases e),?_⟩;rw[BH];exact(f3 i ti SD).2)
   have e1:(a.eval v).cells.toList.length=t.size:=by simp[jb]
   rw[e1] at cJ;rw[aI];refine⟨V,own,hv,?_⟩;simpa [PE.ev,h5,D.cells] using cJ
  .split at hr
   case h_3=>cases hr
   case h_2=>
        rename_i l fU;obtain⟨Cc,_⟩:=tN h (gs:=[]) rfl v;rw[fU] at Cc;obtain⟨vs,ds',q1,q2,q3,q4,q5⟩:=Cc;cases hc:(Nat.beq inf.size l.length&&Nat.ble (off+l.length) shs.length&&l.all (Ra S))<;>simp only[hc,zyy,zyx] at hr
        .cases hr
        cases hr;simp only[ao] at hc;obtain⟨⟨aI,hle⟩,dV⟩:=hc;have aI:=ay aI;have hle:=jH hle;have jv:(a.eval v).cells.toList=vs:=by rw[q1];simp[Value.cells]
        have cI:(a.eval v).cells.size=vs.length:=by rw[<-jv];simp
        have dD:∀u∈(a.eval v).cells.toList,u.oneCell'=true:=λu hu=>by
         rw[jv] at hu;obtain⟨i,hi,rfl⟩:=fu hu;have yy:i<l.length:=by omega
         have g:=q5 i l[i] (aW yy);have hf:=cP.1 dV l[i] (bV yy);have RO:vs.getD i undef=vs[i]:=by simp[aF,hi]
         rw[RO] at g;generalize l[i]=c at g hf;cases c with
         |dat t=>exact(g.2.oneCell g.1).2
         |obj j' nA=>
          simp only[Ra,ao] at hf;rw[g.2 (ay hf.1)];exact(aiY h hf.2).2
        refine bT.skip hd λO' ak=>?_;rw[tJ ak];refine⟨_,If ho hi fV (by omega) dD h3 (by omega),?_⟩
        have cJ:=h.storeBox (off:=off) (news:=l.map AgC.sh) (vs:=vs) (dn:=ds') eo cA h2 h3 h4 h5 h6 h7 (by simp[q3]) (by omega) (by omega) (λi s hi=>by
         simp only[cf,aA] at hi;obtain⟨c,hc,rfl⟩:=hi;have g:=q5 i c hc;cases c with
         |dat t=>exact⟨λ_ _ e=>(by cases e),g.2⟩
         |obj j' nA=>exact⟨λ_ _ e=>(by cases e),g⟩)
        rw[jv,aI];have e1:vs.length=l.length:=q3;rw[e1] at cJ;refine⟨V,own,hv,?_⟩;simpa [PE.ev,h5,q2,D.cells] using cJ
   rename_i j' nA fU;obtain⟨Cc,_⟩:=tN h (gs:=[]) rfl v;rw[fU] at Cc;cases hc:(Nat.beq nA (S.ver j')&&lL (S.o j')&&Nat.beq inf.size 1&&Nat.blt off shs.length)<;>simp only[hc,zyy,zyx] at hr
   .cases hr
   cases hr;simp only[ao] at hc;obtain⟨⟨⟨ar2,gx⟩,aI⟩,af⟩:=hc;have aI:=ay aI;have af:off<shs.length:=by simpa [pj] using af
   have cu:=Cc.2 (ay ar2);obtain⟨c1,c2⟩:=aiY h gx;have jv:(a.eval v).cells=#[a.eval v]:=by rw[cu];exact c1
   refine bT.skip hd λO' ak=>?_;rw[tJ ak];refine⟨_,If ho hi fV (by rw[jv,aI];rfl) (λu hu=>by rw[jv] at hu;simp at hu;subst hu;rw[cu];exact c2) h3 (by omega),?_⟩
   have cJ:=h.storeBox (off:=off) (news:=[.obj j' nA]) (vs:=[a.eval v]) (dn:=[.none]) eo cA h2 h3 h4 h5 h6 h7 rfl rfl (by simp;omega) (λi s hi=>by
        match i,hi with
        |0,hi=>simp at hi;subst hi;exact⟨λ_ _ e=>(by cases e),Cc.1,λ_=>by simpa using cu⟩
        |i+1,hi=>simp at hi)
   rw[jv,aI];have e2:shs.take off++[Sh.obj j' nA]++shs.drop (off+[a.eval v].length)=shs.set off (.obj j' nA):=by
        rw[List.set_eq_take_append_cons_drop,if_pos af];simp
   rw[e2] at cJ;refine⟨V,own,hv,?_⟩;simpa [PE.ev,h5,D.cells] using cJ
 .rename_i j ver size off es;rw[es] at dY;cases hb:Nat.beq ver (S.ver j)<;>simp only[hb,zyy,zyx] at hr
  .cases hr
  obtain⟨k,n,c,ik,i,eZ,vM,bO,fV⟩:=dY.2 (ay hb);have bj:=h.objs j;split at hr
  .rename_i T' ts t e eo hu;rw[eo] at bj;have hv':=cw h hC rfl hu;cases hc:(Nat.beq inf.size t.size&&(t.rowT||t.one)&&Nat.beq size ts.length&&Nat.ble (off+t.size) ts.length&&Ty.subs t.flat ((ts.drop off).take t.size))<;>simp only[hc,zyy,zyx] at hr
   .cases hr
   cases hr;simp only[ao,kK] at hc;obtain⟨⟨⟨⟨aI,ja⟩,yN⟩,hle⟩,cd⟩:=hc;have aI:=ay aI;have yN:=ay yN;have hle:=jH hle;obtain⟨f1,f2,f3⟩:=hv'.flat ja;have jb:=hv'.size;have f1:t.flat.length=t.size:=f1;have f2:(e.ev O).cells.length=t.size:=f2;have jb:(a.eval v).cells.size=t.size:=jb;obtain⟨cells,xs,k1,k2,k3,k4⟩:=bj;obtain⟨b,c',e1,FF,FG⟩:=zl k2;rw[eZ] at e1;cases e1;obtain⟨us,u1,u2⟩:=k3;obtain⟨y,hy⟩:∃y,xs[i]?=some y:=⟨_,aW bO⟩
   obtain⟨os,ds,v7,hd0,l1,l2,aK,dD⟩:=(u1 i y hy).agg_inv;have F8:(a.eval v).cells.toList.length=t.size:=by simp[jb]
   have l7:Rep C.cap V (.agg ts) (.agg (os.take off++(a.eval v).cells.toList++os.drop (off+(a.eval v).cells.toList.length)).toArray) (.agg (dO ds off (e.ev O).cells)):=by
        refine .agg _ _ _ (by simp[jb];omega) (by simp[dO,f2];omega) (λm tm hm=>?_) dD;rw[KS os _ off undef (by rw[F8];omega),dO,KS ds _ off .none (by rw[f2];omega),F8,f2];split
        .rename_i hc;have arK:=Ty.subs_get _ _ cd (m-off) tm (by
          rw[fQ,if_pos (by omega),gh,show off+(m-off)=m by omega];exact hm)
         obtain⟨tf,htf,cJ⟩:=arK;rw[BH];exact((f3 _ tf htf).2).sub cJ
        .exact aK m tm hm
   have aX:=k2.1;have aqw:i*(Ty.agg ts).size+(Ty.agg ts).size<=xs.length*(Ty.agg ts).size:=by
        have:(i+1)*(Ty.agg ts).size<=xs.length*(Ty.agg ts).size:=kf _ bO;rw[kc] at this;omega
   have adV:(Ty.agg ts).size=ts.length:=rfl
   obtain⟨cur,q1,q2,q3⟩:=h.storeRow (i:=i) (p:=i*(Ty.agg ts).size+off) (vs:=(a.eval v).cells.toList) eo eZ k1 k2 ⟨us,u1,u2⟩ k4 bO (by omega) (by rw[F8];omega) l7 (λq u hq=>by
        have dL:(os.take off++(a.eval v).cells.toList++os.drop (off+(a.eval v).cells.toList.length))[q]?=some u:=by simpa [Value.cells] using hq
        have aGj:q<ts.length:=by have:=(eM.1 dL).1;simp[jb] at this;omega
        rw[sy,mE,dQ,lq (by omega)] at dL;rw[sy,mE,dQ,lq (by omega)];by_cases tc:q<off
        .rw[if_pos tc,fQ,if_pos tc] at dL;rw[if_pos (by omega),fQ,if_pos (by omega)];exact u2 i q u bO (by rw[v7];simpa [Value.cells] using dL)
        .rw[if_neg tc,mE] at dL;rw[if_neg (by omega),mE];rw[show i*(Ty.agg ts).size+q-(i*(Ty.agg ts).size+off)=q-off by omega];by_cases LJ:q-off<(a.eval v).cells.toList.length
         .rw[if_pos LJ] at dL ⊢;exact dL
         .rw[if_neg LJ,gh] at dL;rw[if_neg LJ,gh];rw[show off+(a.eval v).cells.toList.length+(q-off-(a.eval v).cells.toList.length)=q by omega] at dL;rw[show i*(Ty.agg ts).size+off+(a.eval v).cells.toList.length+(q-off-(a.eval v).cells.toList.length)=i*(Ty.agg ts).size+q by omega];exact u2 i q u bO (by rw[v7];simpa [Value.cells] using dL))
   refine bT.skip hd λO' ak=>?_;rw[tJ ak]
   refine⟨_,If ho hi (cs:=cur) (by rw[fV,yN]) (by rw[jb,aI]) (λu hu=>by
        obtain⟨m,hm,rfl⟩:=fu hu;exact hv'.cellsOne ja (m:=m) (by simp at hm ⊢)) q1 (by rw[F8] at q2;rw[aI,<-adV];exact q2),V,own,hv,?_⟩
   rw[F8] at q3;simp only[PE.ev,k1,D.l_list,vM,D.i_int,xw,uy hy,hd0,wZ];rw[aI,<-adV];exact q3
  .rename_i T' e0 t e au eo hu;rw[eo] at bj;have hv':=cw h hC rfl hu;cases hc:(Nat.beq inf.size 1&&Nat.beq size 1&&Nat.beq off 0&&e0.one&&Ty.sub t e0)<;>simp only[hc,zyy,zyx] at hr
   .cases hr
   cases hr;simp only[ao] at hc;obtain⟨⟨⟨⟨aI,yN⟩,iZ⟩,dD⟩,cd⟩:=hc;have aI:=ay aI;have yN:=ay yN;have iZ:=ay iZ;subst iZ;subst yN;have hve:=hv'.sub cd;obtain⟨c1,c2⟩:=hve.oneCell dD;have Fs:e0.size=1:=by cases e0<;>simp_all [Ty.size,Ty.one]
   obtain⟨cells,xs,k1,k2,k3,k4⟩:=bj;obtain⟨b,c',e1,FF,FG⟩:=zl k2;rw[eZ] at e1;cases e1;obtain⟨y,hy⟩:∃y,xs[i]?=some y:=⟨_,aW bO⟩
   have aX:=k2.1
   obtain⟨cur,q1,q2,q3⟩:=h.storeRow (i:=i) (p:=i*e0.size) (vs:=[a.eval v]) eo eZ k1 k2 k3 k4 bO (ba _) (by rw[Fs];simp) hve (λq u hq=>by
        rw[c1] at hq;have s9:q=0:=by have:=(eB.1 hq).1;simpa using this
        subst s9;simp at hq;subst hq;have:i*e0.size<=cells.length:=by rw[aX];exact kf _ (by omega)
        rw[sy,nG (by simp;omega)];simp[lq this])
   refine bT.skip hd λO' ak=>?_;rw[tJ ak];refine⟨_,If ho hi (cs:=cur) (by rw[fV]) (by rw[c1,aI];rfl) (λu hu=>by rw[c1] at hu;simp at hu;subst hu;exact c2) q1 (by rw[Fs] at q2;rw[aI];simpa using q2),V,own,hv,?_⟩;rw[c1,aI];have Ge:wZ y 0 (e.ev O)=e.ev O:=by
        obtain⟨us,u1,u2⟩:=k3;have:=(u1 i y hy).dcells dD;cases y with
        |agg ds=>have h8:=u1 i _ hy;generalize us i=vv at h8;cases h8;simp[Ty.one] at dD
        |_=>rfl
   simp only[PE.ev,k1,D.l_list,vM,D.i_int,xw,uy hy,Ge];rw[Fs] at q3;simpa using q3
  .cases hr
def anz {O:Env}{es:List PE}{i:Nat}{e:PE}(h:es[i]?=some e):(PE.evs O es)[i]?=some (e.ev O):=by
 rw[PE.evs_eq,cf,h];rfl
def abD (h:Inv C S O V own hv w0 σ0 A a w)(hC:CtxOK C σ0)(hg:holds gs O=true){T:TypeId}{len:Nat}{ps:Array (Nat×Operand)}{r:St×List PI}(hr:ya C S gs dst T len ps.toList=some r){o:Oper}
 (ho:o.op=.buildSlice T len ps):∃(E:TypeId) (e:Ty) (es:List PE) (v:Value) (w':World),C.P.underlying T=some (.slice E)/\qy C.P E=some e/\r=(mkObj S dst (.row E e),[.setO dst (.lst es),.setR dst (.con .none)])/\
   (execOp a.eval o).run C.P w=.ok (.value v) w'/\Below w.heap.size w w'/\(∀k,Nat.beq k w.heap.size=true->w.heap.size<=k/\k<w'.heap.size)/\
   bY C (S.newO dst (.row E e)) (O.setO dst (.list (PE.evs O es))) V (fM own dst (λk=>Nat.beq k w.heap.size)) (bX hv dst v) w' w0.heap.size dst (.row E e):=by
 unfold ya at hr;split at hr
 case h_2=>cases hr
 rename_i E hT;simp only[az] at hr;obtain⟨e,he,z,hz,hr⟩:=hr;cases hc:(sK C.P E e&&Ty.sub z.1 e&&gZ (ps.toList.map (·.1))&&ps.toList.all (λp=>Nat.blt p.1 len)&&Nat.ble (len*e.size) 16777216)<;>simp only[hc,zyy,zyx] at hr
 .cases hr
 simp only[ao] at hc;obtain⟨⟨⟨⟨hef,cd⟩,bn⟩,fK⟩,hle⟩:=hc;have hle:=jH hle;obtain⟨inf,zv,hi,hs,rp,h1,hzv,mV⟩:=QO hef;have mW:=ZY mV;have mR:=qd bn;have Gf:=((zV (cap:=C.cap) (V:=V) hz mV).1).sub cd;simp only[aA] at hr;obtain⟨es,jP,rfl⟩:=hr;obtain⟨el1,el2⟩:=mapM_some _ _ _ jP;simp only[aal] at el1;have acW:∀i,i<len->∃pe,es[i]?=some pe/\KI C S gs e z.2 ps.toList i=some pe:=by
  intro i hi;obtain⟨y,LU,v8⟩:=el2 i i (by rw[sB hi]);exact⟨y,LU,v8⟩
 have pU:∀x,x∈ps.toList->x.1<len/\∃t pe,use C S gs x.2=some (t,pe)/\Ty.sub t e=true/\es[x.1]?=some pe:=by
  intro x hx;have yU:x.1<len:=by
   have:=cP.1 fK x hx;simpa [pj] using this
  refine⟨yU,?_⟩;obtain⟨pe,rD,eP⟩:=acW x.1 yU;have Fv:=ab1 mR (i:=x.1) (x:=x.2) hx;simp only[KI,Fv,az] at eP;obtain⟨y,hy,eP⟩:=eP;cases hs:Ty.sub y.1 e<;>simp only[hs,zyy,zyx] at eP
  .cases eP
  cases eP;exact⟨y.1,y.2,hy,hs,rD⟩
 let c0:Array Value:=madeCells zv.cells (len*e.size)
 have Fk:c0.size=len*e.size:=size_madeCells _ _
 have kB:∀p,p∈(ps.toList.map λ(x:Nat×Operand)=>(x.1,a.eval x.2))->∃o,(λi=>some (i*e.size,e.size)) p.1=some (o,p.2.cells.size)/\o+p.2.cells.size<=c0.size:=by
  intro p hp;obtain⟨x,hx,rfl⟩:=bZ.1 hp;obtain⟨yU,t,pe,hu,cJ,_⟩:=pU x hx;have vU:=((cw h hC hg hu).sub cJ).size;simp only;refine⟨x.1*e.size,by rw[vU],?_⟩;rw[vU,Fk];have:(x.1+1)*e.size<=len*e.size:=kf _ yU;rw[kc] at this;omega
 have BU:∀(i j oi si oj sj:Nat),i≠j->(λi=>some (i*e.size,e.size)) i=some (oi,si)->(λi=>some (i*e.size,e.size)) j=some (oj,sj)->oi+si<=oj\/oj+sj<=oi:=by
  intro i j oi si oj sj au hi hj;simp only[aY,po] at hi hj;obtain⟨rfl,rfl⟩:=hi;obtain⟨rfl,rfl⟩:=hj;rcases IQ i j with af|gT
  .left;have:(i+1)*e.size<=j*e.size:=kf _ af;rw[kc] at this;omega
  .right;have:(j+1)*e.size<=i*e.size:=kf _ (by omega);rw[kc] at this;omega
 obtain⟨dh,f1,f2,f3,f4⟩:=QW (λi=>some (i*e.size,e.size)) (ps.toList.map λ(x:Nat×Operand)=>(x.1,a.eval x.2)) c0 kB BU (by simpa [IJ] using mR);have ak:(execOp a.eval o).run C.P w=.ok (.value (.slice (some ⟨w.heap.size,0,none⟩) len len)) (w.alloc (.cells dh E)):=by
  have n1:¬(len*inf.size>2^24):=by rw[hs];omega
  have KM:Instr.fill (λi=>some (i*inf.size,inf.size)) c0 (ps.toList.map λ(x:Nat×Operand)=>(x.1,a.eval x.2))=some dh:=by rw[hs];exact f1
  by_cases h0:len*inf.size=0
  .have BS:c0=#[]:=by
        apply OL;rw[Fk,<-hs];exact h0
   rw[BS] at KM
   have anB:Instr.fill (λi=>some (i*inf.size,inf.size)) (Array.map (λ_=>default) (Array.range 0)) (ps.toList.map λ(x:Nat×Operand)=>(x.1,a.eval x.2))=some dh:=by
        have:(Array.map (λ_=>(default:Value)) (Array.range 0))=#[]:=by simp
        rw[this];exact KM
   simp[execOp,ho,Instr.buildSlice,run_underlying hT,Go.sizeOf,run_typeInfo w hi,n1,h0,anB,newRow]
  .have BS:c0=(Array.range (len*inf.size)).map (λx=>zv.cells[x%zv.cells.size]!):=by simp only[c0,madeCells,hs]
   rw[BS] at KM;have h00:¬(len=0\/inf.size=0):=by rw[<-Nat.mul_eq_zero];exact h0
   simp[execOp,ho,Instr.buildSlice,run_underlying hT,Go.sizeOf,run_typeInfo w hi,n1,h0,h00,zeroValue,hzv,KM,newRow]
 refine⟨E,e,es,_,_,hT,he,rfl,ak,(Below.refl _ _).alloc (ba _) _,λk hk=>by simp at hk;simp;omega,?_⟩;have dC:(PE.evs O es).length=len:=by rw[PE.evs_eq,ei,el1]
 have aqi:∀(i:Nat) (x:D),(PE.evs O es)[i]?=some x->∃v,Rep C.cap V e v x/\∀q u,v.cells[q]?=some u->dh.toList[i*e.size+q]?=some u:=by
  intro i x hx;have yy:i<len:=by have:=(eM.1 hx).1;omega
  obtain⟨pe,rD,eP⟩:=acW i yy;rw[anz rD] at hx;cases hx;unfold KI at eP;split at eP
  .rename_i p hp;have hpm:=DL hp;have LH:p.1=i:=by have:=OY hp;simpa using this
   obtain⟨_,t,pe',hu,cJ,oA⟩:=pU p hpm;rw[LH,rD] at oA;cases oA;have bJ:=(cw h hC hg hu).sub cJ;refine⟨_,bJ,λq u hq=>?_⟩;have uO:q<(a.eval p.2).cells.size:=(eB.1 hq).1;have:=f3 p.1 (a.eval p.2) (p.1*e.size) (bZ.2 ⟨p,hpm,rfl⟩) (by simp[bJ.size]) q uO;rw[LH] at this;simp[this,hq]
  .rename_i hp;cases eP;refine⟨zv,Gf,λq u hq=>?_⟩;have uO:q<zv.cells.size:=(eB.1 hq).1
   have pQ:i∉(ps.toList.map λ(x:Nat×Operand)=>(x.1,a.eval x.2)).map (·.1):=by
        intro cW;simp only[lW,bZ,IJ] at cW;obtain⟨x,Ci,e⟩:=cW;have:=Ac.1 hp x Ci;simp[e] at this
   have:=f4 i (i*e.size) e.size pQ rfl q (by omega);have h9:c0[i*e.size+q]?=zv.cells[q]?:=by
        simp only[c0];rw[<-mW];exact ae5 (by omega) yy uO
   simp[this,h9,hq]
 have jb:∃vs:Nat->Value,∀(i:Nat) (x:D),(PE.evs O es)[i]?=some x->Rep C.cap V e (vs i) x/\∀q u,(vs i).cells[q]?=some u->dh.toList[i*e.size+q]?=some u:=by
  have kQ:∀i,∃v,∀x,(PE.evs O es)[i]?=some x->Rep C.cap V e v x/\∀q u,v.cells[q]?=some u->dh.toList[i*e.size+q]?=some u:=by
   intro i;cases hx:(PE.evs O es)[i]? with
   |none=>exact⟨undef,λx db=>by cases db⟩
   |some x=>
    obtain⟨v,hv⟩:=aqi i x hx;exact⟨v,λy hy=>by cases hy;exact hv⟩
  exact⟨λi=>Classical.choose (kQ i),λi x hx=>Z7 (kQ i) x hx⟩
 obtain⟨vs,jb⟩:=jb;have cI:dh.size=len*e.size:=by rw[f2,Fk]
 refine⟨dh.toList,PE.evs O es,by simp[Env.setO,aN],?_,⟨vs,λi x hx=>(jb i x hx).1,λi j u hi hj=>(jb i _ (aW hi)).2 j u hj⟩,λk hk=>by rw[aN] at hk;simp[Value.ownBlock] at hk;simp[fM,hk]⟩;rw[aN,dC];have RU:len<=maxLen:=by
  have:len*1<=len*e.size:=Nat.mul_le_mul_left _ h1;unfold maxLen;omega
 exact⟨by simp[cI],.inr ⟨w.heap.size,len,dh,rfl,h.below.size,heap_alloc_new w _,ba _,RU,cI,by rw[xE (by simp[cI])]⟩⟩
def amH (h:Inv C S O V own hv w0 σ0 A a w)(hC:CtxOK C σ0)(ht:¬A dst)(af:dst<a.tmps.size){T:TypeId}{len:Nat}{ps:Array (Nat×Operand)}{r:St×List PI}(hr:ya C S [] dst T len ps.toList=some r){o:Oper}(hd:o.dst=some dst)
 (ho:o.op=.buildSlice T len ps):bT C w0 σ0 Z S O A a w o r:=by
 obtain⟨E,e,es,v,w',_,_,rfl,ak,hb,dW,cT⟩:=abD h hC rfl hr ho;refine bT.value hd λO' pV=>⟨_,_,ak,?_⟩
 rw[Df pV];exact h.mkObj ht af (.row E e) _ _ (λk=>Nat.beq k w.heap.size) hb dW cT
def Inv.kill (h:Inv C S O V own hv w0 σ0 A a w)(j:Nat):Inv C (S.newO j .dead) O V own hv w0 σ0 A a w:=by
 have dE:∀i,S.ver i<=(S.newO j .dead).ver i:=by
  intro i;show S.ver i<=bX S.ver j (S.ver j+1) i;rw[fp];by_cases e:i=j
  .subst e;simp
  .simp[e]
 have hc:Compat S hv (S.newO j .dead) hv:=⟨dE,λ_ _=>rfl⟩
 refine h.step (·=j) rfl (.refl V) h.ok (λ_ _ _ hx=>.inl hx) (λ_ _ hx=>.inl hx) (.refl _ _) hc (λi hi=>⟨by simp[St.newO,bA _ _ hi],rfl,rfl,λk hk=>⟨hk,rfl⟩⟩) (λi hi=>?_) h.owns (λ_=>id) (λt=>.inl ⟨rfl,rfl,rfl⟩) (λ_ _=>rfl) (λ_ _ _=>rfl) (λk i hk=>.inl ⟨i,hk⟩) (λi hi=>by subst hi;simp[St.newO,aN]);subst hi;simp only[St.newO,aN];trivial
def amV (h:Inv C S O V own hv w0 σ0 A a w)(hC:CtxOK C σ0)(ht:¬A dst)(af:dst<a.tmps.size)(eE:∀g,g∈gs->A g.1)(hg:holds gs O=true){T:TypeId}{len:Nat}{ps:Array (Nat×Operand)}{r:St×List PI}(hr:Bw C S gs dst T len ps.toList=some r){o:Oper}(hd:o.dst=some dst)
 (ho:o.op=.buildSlice T len ps):bT C w0 σ0 Z S O A a w o r:=by
 unfold Bw at hr;split at hr
 case h_2=>cases hr
 rename_i E q hT hq;simp only[az] at hr;obtain⟨e,he,hr⟩:=hr;obtain⟨E',e',es,v,w',BO,uH,rfl,ak,hb,dW,cT⟩:=abD h hC hg hq ho;rw[hT] at BO;cases BO;rw[he] at uH;cases uH;cases hr;refine bT.value hd λO' pV=>⟨_,_,ak,?_⟩
 have hρ:O'=O.setR dst (.list (PE.evs O es)):=by simp[PI.runs,PI.run,PE.ev] at pV;exact pV.symm
 subst hρ;have h1:=h.newO dst (.row E e) (.list (PE.evs O es)) v (λk=>Nat.beq k w.heap.size) hb dW cT;obtain⟨σ2,jB,_,h2⟩:=h1.fz dst;have BY:(S.newO dst (.row E e)).fz dst=(S.newO dst (.row E e)).setO dst (.fz (.slice e.rol)):=by
  have:(S.newO dst (.row E e)).o dst=.row E e:=aN _ _ _;unfold St.fz;rw[this]
 rw[BY] at h2;have bj:=h2.objs dst;have e1:((S.newO dst (.row E e)).setO dst (.fz (.slice e.rol))).o dst=.fz (.slice e.rol):=aN _ _ _;rw[e1] at bj;have bJ:Rep C.cap σ2 (.slice e.rol) v (.list (PE.evs O es)):=by
  have:=bj.2
  rwa [aN,show(O.setO dst (.list (PE.evs O es))).o dst=.list (PE.evs O es) from aN _ _ _] at this
 have h3:Inv C (S.newO dst .dead) O σ2 jB (bX hv dst v) w0 σ0 A a w':=by
  refine h2.step (·=dst) rfl (.refl σ2) h2.ok (λ_ _ _ hx=>.inl hx) (λ_ _ hx=>.inl hx) (.refl _ _) ⟨λi=>ba _,λ_ _=>rfl⟩ (λi hi=>⟨?_,?_,rfl,λk hk=>⟨hk,rfl⟩⟩) (λi hi=>?_) h2.owns (λ_=>id) (λt=>.inl ⟨rfl,rfl,rfl⟩) (λ_ _=>rfl) (λ_ _ _=>rfl) (λk i hk=>.inl ⟨i,hk⟩) (λi hi=>by subst hi;simp[St.newO,aN])
  .simp[St.newO,St.setO,bA _ _ hi]
  .simp[Env.setO,bA _ _ hi]
  .subst hi;simp only[St.newO,aN];trivial
 have hh:holds gs (O.setR dst (.list (PE.evs O es)))=true:=by rw[FO (t:=dst) λg hm e=>ht (by rw[<-e];exact eE g hm)];exact hg
 cases gs with
 |nil=>exact⟨_,_,_,h3.setReg ht (s:=.dat (.slice e.rol)) bJ af (λ_ _ e=>by cases e)⟩
 |cons g bM=>
  refine⟨_,_,_,h3.setReg ht (s:=.opt (g::bM) (.dat (.slice e.rol))) ⟨λ_=>bJ,λe=>absurd (hh.symm.trans e) (by decide)⟩ af (λgs s e=>?_)⟩;cases e;exact⟨eE,λ_ _ e=>by cases e⟩
end
end Cx
