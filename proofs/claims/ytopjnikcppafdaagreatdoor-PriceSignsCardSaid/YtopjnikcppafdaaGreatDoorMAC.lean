/-
  Shared texts of this claim.
-/
import Derived.Test.YtopjnikcppafdaaGreatDoorMAB
import Derived.Laws.OwnMore
import Derived.Lib.ConvBytes
set_option linter.defProp false
set_option linter.unusedSimpArgs false
set_option linter.unusedVariables false
namespace Cx
open Go Go.RowKit
def gX (b i:Nat):Nat:=4096*(i+1)+b
def St.fz (S:St)(j:Nat):St:=
 match S.o j with
 |.row _ e=>S.setO j (.fz (.slice e.rol))
 |.mp k e=>S.setO j (.fz (.map k e))
 |_=>S
def Fe (S:St)(b:Nat):Option (St×List PI):=
 match S.o b with
 |.box ag shs=>
  (yh S (.o b) shs 0).bind λx=>
    bif ag then some (S.setO b (.fbox (.agg x.1)),[.setO b (.mk x.2)])
    else match x.1,x.2 with
     |[t],[e]=>some (S.setO b (.fbox t),[.setO b e])
     |_,_=>Option.none
 |_=>Option.none
def St.mv (S:St)(j j':Nat):St:=
 {S with o:=bW (bW S.o j' (S.o j)) j .dead,ver:=bW (bW S.ver j' (S.ver j'+1)) j (S.ver j+1)}
def lM:Ob->Bool
 |.row ..=>true
 |.mp ..=>true
 |_=>false
def Io (S:St)(t j':Nat):Option (St×List PI):=
 match S.r t with
 |.obj j ver=>
  bif Nat.beq ver (S.ver j)&&lM (S.o j)&& !Nat.beq j j' then some ((S.mv j j').setR t (.obj j' (S.ver j'+1)),[.setO j' (.o j)])
  else some (S,[])
 |_=>some (S,[])
def Il (S:St)(b i j':Nat):Option (St×List PI):=
 match S.o b with
 |.box ag shs=>
  match shs[i]? with
  |some (.obj j ver)=>
   bif Nat.beq ver (S.ver j)&&lM (S.o j)&& !Nat.beq j j'&& !Nat.beq b j'&& !Nat.beq b j then
    some ((S.mv j j').setO b (.box ag (shs.set i (.obj j' (S.ver j'+1)))),[.setO j' (.o j)])
   else some (S,[])
  |_=>some (S,[])
 |_=>some (S,[])
def F1 (C:Ctx)(S:St)(b i j:Nat)(T:TypeId):Option (St×List PI):=
 match S.o b with
 |.box ag shs=>
  match shs[i]?,qI C.P T with
  |some (.dat (.nils _)),some e=>
   bif !Nat.beq b j then some ((S.newO j (.row T e)).setO b (.box ag (shs.set i (.obj j (S.ver j+1)))),[.setO j (.con (.list []))])
   else some (S,[])
  |_,_=>some (S,[])
 |_=>some (S,[])
section
variable {C:Ctx} {S:St} {O:Env} {V:Im} {own:Nat->Option Nat} {hv:Nat->Value} {w0:World} {σ0:Base} {A:Nat->Prop} {a:Act} {w:World} {gs:List (Nat×Bool)} {Z:aS} {dst:Nat}
def Inv.lt (h:Inv C S O V own hv w0 σ0 A a w){k o:Nat}{u:Value}(hc:V.c k o=some u):k<w.heap.size:=World.block_lt_of_cell? w (a:=⟨k,o,none⟩) (h.ok.c _ _ _ hc)
def Inv.ltm (h:Inv C S O V own hv w0 σ0 A a w){k:Nat}{es:List (Value×Value)}(hc:V.m k=some es):k<w.heap.size:=by
 exact(h.ok.m _ _ hc).lt
def ajx {w:World}{k:Nat}{c:Array Value}{T:TypeId}(h:w.heap[k]?=some (.cells c T (0,0)))(o:Nat):w.frozen? ⟨k,o,none⟩=false:=by simp[World.frozen?,h]
def ahu {w:World}{base:Nat}{e:TypeId}{size:Nat}{v:Value}{n:Nat}{xs:List Value}(h:w.ownsRow base e size v n xs){g:Nat}(hg:v.ownBlock=some g)(o:Nat):w.frozen? ⟨g,o,none⟩=false:=by
 rcases h.2 with⟨rfl,_⟩|⟨g',cap,cur,rfl,_,h3,_⟩
 .cases hg
 .cases hg;exact ajx h3 o
def aht {w:World}{base:Nat}{e:TypeId}{size:Nat}{v:Value}{n:Nat}{xs:List Value}(h:w.ownsRow base e size v n xs){g:Nat}(hg:v.ownBlock=some g):∃cs T fz,w.heap[g]?=some (.cells cs T fz):=by
 rcases h.2 with⟨rfl,_⟩|⟨g',cap,cur,rfl,_,h3,_⟩
 .cases hg
 .cases hg;exact⟨_,_,_,h3⟩
def Im.ok.fz {V:Im}{w w':World}(h:V.ok w)(hk:∀k o v,V.c k o=some v->w'.heap[k]?=w.heap[k]?):∀k o n,V.c k o=some (.int .i64 n)->k<=2\/w'.frozen? ⟨k,o,none⟩=false:=λk o n hc=>by
 rw[World.frozen?_of_block (w:=w) (hk k o _ hc)];exact h.f k o n hc
def Im.ok.below {V:Im}{w w':World}(h:V.ok w)(hb:Below w.heap.size w w'):V.ok w':=by
 refine⟨λk o v hc=>?_,λk es hc=>?_,h.fz λk o v hc=>hb.block k (World.block_lt_of_cell? w (a:=⟨k,o,none⟩) (h.c k o v hc))⟩
 .have h1:=h.c k o v hc;rw[hb.cell (World.block_lt_of_cell? w (a:=⟨k,o,none⟩) h1)];exact h1
 .exact(h.m k es hc).keep (hb.block k (h.m k es hc).lt)
def fM (own:Nat->Option Nat)(j:Nat)(nb:Nat->Bool):Nat->Option Nat:=λk=>if nb k then some j else if own k=some j then none else own k
def Inv.newOσ (h:Inv C S O V own hv w0 σ0 A a w)(j:Nat)(ob:Ob)(d:D)(v:Value)(nb:Nat->Bool){V':Im}{w':World}(hle:V.le V')(ar:V'.ok w')(dp:∀k o x,V'.c k o=some x->V.c k o=some x\/w.heap.size<=k)(cQ:∀k x,V'.m k=some x->V.m k=some x\/w.heap.size<=k)
 (hw:Below w.heap.size w w') (dT:∀k,nb k=true->w.heap.size<=k/\k<w'.heap.size) (dS:∀k,nb k=true->(∀o,V'.c k o=none)/\V'.m k=none)
 (cR:bY C (S.newO j ob) (O.setO j d) V' (fM own j nb) (bW hv j v) w' w0.heap.size j ob) (oL:ob≠.tr:=by intro h;cases h):Inv C (S.newO j ob) (O.setO j d) V' (fM own j nb) (bW hv j v) w0 σ0 A a w':=by
 have aI:w0.heap.size<=w.heap.size:=h.below.size;have bp:∀k i,i≠j->own k=some i->fM own j nb k=some i:=by
  intro k i hi hk;have h1:=h.owns k i hk;have h2:nb k=false:=by
   cases hn:nb k with
   |false=>rfl
   |true=>have:=dT k hn;omega
  simp[fM,h2,hk,hi]
 refine h.step (λi=>i=j) rfl hle ar (λk o x hx=>(dp k o x hx).imp id λe=>⟨by omega,.inr e⟩) (λk x hx=>(cQ k x hx).imp id λe=>⟨by omega,.inr e⟩) (hw.mono aI) ⟨λi=>?_,λi e=>?_⟩ (λi hi=>⟨?_,?_,?_,λk hk=>⟨bp k i hi hk,?_⟩⟩) (λi hi=>?_) (λk i hk=>?_) (λ_=>id) (λt=>.inl ⟨rfl,rfl,rfl⟩) (λ_ _=>rfl) (λk hk _=>hw.block k hk) (λk i hk=>by
  unfold fM at hk;split at hk
  .rename_i hn;exact .inr (dT k hn).1
  .split at hk
   .cases hk
   .exact .inl ⟨i,hk⟩) (λi hi=>by subst hi;simpa only[St.newO,aN] using oL)
 .simp only[St.newO,fp];split<;>rename_i e
  .subst e;omega
  .omega
 .simp only[St.newO,fp] at e;split at e
  .rename_i e';subst e';omega
  .rename_i au;exact bB _ _ au
 .simp[St.newO,bB _ _ hi]
 .simp[Env.setO,bB _ _ hi]
 .exact bB _ _ hi
 .exact hw.block k (h.owns k i hk).2.1
 .subst hi;simp only[St.newO,aN];exact cR
 .unfold fM at hk;split at hk
  .rename_i hn;obtain⟨g1,g2⟩:=dT k hn;exact⟨by omega,g2,(dS k hn).1,(dS k hn).2⟩
  .split at hk
   .cases hk
   .obtain⟨g1,g2,g3,g4⟩:=h.owns k i hk;refine⟨g1,by have:=hw.size;omega,λo=>?_,?_⟩
    .cases hc:V'.c k o with
     |none=>rfl
     |some u=>
      rcases dp k o u hc with e|e
      .rw[g3 o] at e;cases e
      .omega
    .cases hc:V'.m k with
     |none=>rfl
     |some u=>
      rcases cQ k u hc with e|e
      .rw[g4] at e;cases e
      .omega
def Inv.newO (h:Inv C S O V own hv w0 σ0 A a w)(j:Nat)(ob:Ob)(d:D)(v:Value)(nb:Nat->Bool){w':World}(hw:Below w.heap.size w w')(dT:∀k,nb k=true->w.heap.size<=k/\k<w'.heap.size)
 (cR:bY C (S.newO j ob) (O.setO j d) V (fM own j nb) (bW hv j v) w' w0.heap.size j ob) (oL:ob≠.tr:=by intro h;cases h):Inv C (S.newO j ob) (O.setO j d) V (fM own j nb) (bW hv j v) w0 σ0 A a w':=by
 refine h.newOσ j ob d v nb (.refl V) (h.ok.below hw) (λ_ _ _ hx=>.inl hx) (λ_ _ hx=>.inl hx) hw dT (λk hn=>⟨λo=>?_,?_⟩) cR oL
 .cases hc:V.c k o with
  |none=>rfl
  |some u=>have:=h.lt hc;have:=(dT k hn).1;omega
 .cases hc:V.m k with
  |none=>rfl
  |some u=>have:=h.ltm hc;have:=(dT k hn).1;omega
def Inv.setObj (h:Inv C S O V own hv w0 σ0 A a w){t j:Nat}(ht:¬A t){v:Value}(eX:hv j=v)(af:t<a.tmps.size):
 Inv C (S.setR t (.obj j (S.ver j))) (O.setR t .none) V own hv w0 σ0 (λu=>A u\/u=t) (a.put (some t) v) w:=
 h.setReg ht (s:=.obj j (S.ver j)) (v:=v) (d:=.none) ⟨aX _,λ_=>eX.symm⟩ af (λ_ _ e=>by cases e)
def Ld (S:St)(j:Nat):(S.fz j).ver=S.ver/\(S.fz j).r=S.r:=by
 unfold St.fz;split<;>exact⟨rfl,rfl⟩
def Inv.fz (h:Inv C S O V own hv w0 σ0 A a w)(j:Nat):∃V' own',V.le V'/\Inv C (S.fz j) O V' own' hv w0 σ0 A a w:=by
 have bj:=h.objs j;unfold St.fz;split
 .rename_i T e eo;rw[eo] at bj;obtain⟨cells,xs,h1,h2,⟨vs,h3,h4⟩,h5⟩:=bj;have aI:w0.heap.size<=w.heap.size:=h.below.size
  let nb:Nat->Bool:=λk=>decide ((hv j).ownBlock=some k)
  let V':Im:={c:=λk o=>if nb k then cells[o]? else V.c k o,m:=λk=>if nb k then some mH else V.m k}
  have dT:∀k,nb k=true->own k=some j:=λk hk=>h5 k (by simpa [nb] using hk);have hle:V.le V':=by
   refine⟨λk o v hc=>?_,λk es hc=>?_⟩
   .have:nb k=false:=by
     cases hn:nb k with
     |false=>rfl
     |true=>have:=(h.owns k j (dT k hn)).2.2.1 o;rw[this] at hc;cases hc
    simp[V',this,hc]
   .have:nb k=false:=by
     cases hn:nb k with
     |false=>rfl
     |true=>have:=(h.owns k j (dT k hn)).2.2.2;rw[this] at hc;cases hc
    simp[V',this,hc]
  refine⟨V',λk=>if nb k then none else own k,hle,h.step (λi=>i=j) rfl hle ?_ (λk o x hx=>?_) (λk x hx=>?_) (.refl _ _) ⟨λ_=>aX _,λ_ _=>rfl⟩ (λi hi=>⟨?_,rfl,rfl,λk hk=>⟨?_,rfl⟩⟩) (λi hi=>?_) (λk i hk=>?_) (λ_=>id) (λt=>.inl ⟨rfl,rfl,rfl⟩) (λ_ _=>rfl) (λ_ _ _=>rfl) (λk i hk=>by
        split at hk
        .cases hk
        .exact .inl ⟨i,hk⟩) (λi hi=>by subst hi;simp[St.setO,aN])⟩
  .refine⟨λk o v hc=>?_,λk es hc=>?_,λk o v hc=>?_⟩
   all_goals simp only[V'] at hc
   all_goals split at hc
   .rename_i hn;have cR:(hv j).ownBlock=some k:=by simpa [nb] using hn
    have:=h2.cells cR o v hc;rw[sO] at this;simpa using this
   .exact h.ok.c k o v hc
   .rename_i hn;cases hc;obtain⟨cs,T,fz,e⟩:=aht h2 (g:=k) (by simpa [nb] using hn);exact .inr (.inr ⟨rfl,cs,T,fz,e⟩)
   .exact h.ok.m k es hc
   .rename_i hn;exact .inr (ahu h2 (by simpa [nb] using hn) o)
   .exact h.ok.f k o v hc
  .simp only[V'] at hx;split at hx
   .rename_i hn;exact .inr ⟨(h.owns k j (dT k hn)).1,.inl ⟨j,dT k hn⟩⟩
   .exact .inl hx
  .simp only[V'] at hx;split at hx
   .rename_i hn;exact .inr ⟨(h.owns k j (dT k hn)).1,.inl ⟨j,dT k hn⟩⟩
   .exact .inl hx
  .simp[St.setO,bB _ _ hi]
  .have:nb k=false:=by
        cases hn:nb k with
        |false=>rfl
        |true=>rw[dT k hn] at hk;simp at hk;exact absurd hk.symm hi
   simp[this,hk]
  .subst hi;simp only[St.setO,aN];refine⟨rfl,?_⟩;rw[h1];rcases h2.2 with⟨e1,e2⟩|⟨g,cap,cur,e1,e2,e3,e4,e5,e6,e7⟩
   .rw[e1];have:xs=[]:=Pl e2;subst this;exact .nil _
   .rw[e1];refine .slice e.rol g 0 xs.length cap xs vs rfl e4 e5 (λi x hx=>((h3 i x hx).mono hle).unf_rol) (λi m u hi hu=>?_) (λ_=>by simp[V',nb,e1,Value.ownBlock]);rw[Ty.rol_size];have hn:nb g=true:=by simp[nb,e1,Value.ownBlock]
    simp only[V',hn,if_true,fw];exact h4 i m u hi hu
  .split at hk
   .cases hk
   .rename_i hn;obtain⟨g1,g2,g3,g4⟩:=h.owns k i hk;exact⟨g1,g2,λo=>by simp[V',hn,g3 o],by simp[V',hn,g4]⟩
 .rename_i kt et eo;rw[eo] at bj;obtain⟨k0,arr,clock,fT,h1,h2,h3,h4,h5,⟨hx,_⟩,h6⟩:=bj;have aI:w0.heap.size<=w.heap.size:=h.below.size
  let V':Im:={c:=V.c,m:=λk=>if k=k0 then some (entriesOf arr) else V.m k}
  have hle:V.le V':=by
   refine⟨λk o v hc=>hc,λk es hc=>?_⟩;have:k≠k0:=λe=>by subst e;rw[(h.owns k j h2).2.2.2] at hc;cases hc
   simp[V',this,hc]
  refine⟨V',λk=>if k=k0 then none else own k,hle,h.step (λi=>i=j) rfl hle ?_ (λk o x hx=>.inl hx) (λk x hx=>?_) (.refl _ _) ⟨λ_=>aX _,λ_ _=>rfl⟩ (λi hi=>⟨?_,rfl,rfl,λk hk=>⟨?_,rfl⟩⟩) (λi hi=>?_) (λk i hk=>?_) (λ_=>id) (λt=>.inl ⟨rfl,rfl,rfl⟩) (λ_ _=>rfl) (λ_ _ _=>rfl) (λk i hk=>by
        split at hk
        .cases hk
        .exact .inl ⟨i,hk⟩) (λi hi=>by subst hi;simp[St.setO,aN])⟩
  .refine⟨h.ok.c,λk es hc=>?_,h.ok.f⟩;simp only[V'] at hc;split at hc
   .rename_i e;subst e;cases hc;refine .inl ⟨λe=>?_,arr,clock,h3,rfl⟩;refine GI (cap:=C.cap) (V:=V) (kt:=kt) (es:=fT) (by simp[entriesOf,h5]) (λi p q hp hq=>?_) e;simp only[entriesOf,bX,aB] at hp;obtain⟨x,da,rfl⟩:=hp;exact(h6 i x q (by simpa using da) hq).1
   .exact h.ok.m k es hc
  .simp only[V'] at hx;split at hx
   .rename_i e;subst e;exact .inr ⟨(h.owns k j h2).1,.inl ⟨j,h2⟩⟩
   .exact .inl hx
  .simp[St.setO,bB _ _ hi]
  .have:k≠k0:=λe=>by subst e;rw[h2] at hk;simp at hk;exact hi hk.symm
   simp[this,hk]
  .subst hi;simp only[St.setO,aN];refine⟨rfl,?_⟩;rw[h1,h4];refine .map kt et k0 (entriesOf arr) fT (by simp[V']) (by simp[entriesOf,h5]) hx (λi p q hp hq=>?_) (λi p q hp hq=>?_)
   .simp only[entriesOf,bX,aB] at hp;obtain⟨e,he,rfl⟩:=hp;exact((h6 i e q (by simpa using he) hq).1).mono hle
   .simp only[entriesOf,bX,aB] at hp;obtain⟨e,he,rfl⟩:=hp;exact((h6 i e q (by simpa using he) hq).2).mono hle
  .split at hk
   .cases hk
   .rename_i hn;obtain⟨g1,g2,g3,g4⟩:=h.owns k i hk;exact⟨g1,g2,g3,by simp[V',hn,g4]⟩
 .exact⟨V,own,.refl V,h⟩
def tW {j:Nat}{e:PE}{O':Env}(h:PI.runs Z [.setO j e] O=some O'):O'=O.setO j (e.ev O):=by
 simp[PI.runs,PI.run] at h;exact h.symm
def qF {O':Env}(h:PI.runs Z [] O=some O'):O'=O:=by
 simp[PI.runs] at h;exact h.symm
def DP (C:Ctx)(w0:World)(σ0:Base)(Z:aS)(S:St)(O:Env)(A:Nat->Prop)(a:Act)(w:World)(r:St×List PI):Prop:=
 ∀O',PI.runs Z r.2 O=some O'->Good C w0 σ0 r.1 O' A a w
def ao8 (h:Inv C S O V own hv w0 σ0 A a w){b:Nat}{r:St×List PI}(hr:Fe S b=some r):DP C w0 σ0 Z S O A a w r:=by
 unfold Fe at hr;split at hr
 case h_2=>cases hr
 rename_i ag shs eo;simp only[az] at hr;obtain⟨x,hx,hr⟩:=hr;have bj:=h.objs b;rw[eo] at bj;obtain⟨k,cs,T,ds,h1,h2,h3,h4,h5,h6,h7⟩:=bj;obtain⟨l1,es,⟨he,rG⟩,l2,bI⟩:=QH (b:=.o b) h (cs:=cs.toList) h5 shs 0 x (λm s hm=>by rw[BU,fw];exact(h7 m s hm).2) hx
 let V':Im:={c:=λk' o=>if k'=k then cs[o]? else V.c k' o,m:=V.m}
 have hle:V.le V':=by
  refine⟨λk' o v hc=>?_,λk es hc=>hc⟩;have:k'≠k:=λe=>by subst e;rw[(h.owns k' b h2).2.2.1 o] at hc;cases hc
  simp[V',this,hc]
 have key:∀(t:Ty) (v:Value) (d:D),Rep C.cap V' t v d->(∀(i:Nat) (u:Value),v.cells[i]?=some u->cs[i]?=some u)->
  Inv C (S.setO b (.fbox t)) (O.setO b d) V' (λk'=>if k'=k then none else own k') hv w0 σ0 A a w:=by
  intro t v d hrv aY
  refine h.step (λi=>i=b) rfl hle ?_ (λk' o x hx=>?_) (λ_ _ hx=>.inl hx) (.refl _ _) ⟨λ_=>aX _,λ_ _=>rfl⟩ (λi hi=>⟨?_,?_,rfl,λk' hk=>⟨?_,rfl⟩⟩) (λi hi=>?_) (λk' i hk=>?_) (λ_=>id) (λt=>.inl ⟨rfl,rfl,rfl⟩) (λ_ _=>rfl) (λ_ _ _=>rfl) (λk' i hk=>by
        split at hk
        .cases hk
        .exact .inl ⟨i,hk⟩) (λi hi=>by subst hi;simp[St.setO,aN])
  .refine⟨λk' o v hc=>?_,h.ok.m,λk' o v hc=>?_⟩
   all_goals simp only[V'] at hc
   all_goals split at hc
   .rename_i e;subst e;simp[World.cell?,h3,hc]
   .exact h.ok.c k' o v hc
   .rename_i e;subst e;exact .inr (ajx h3 o)
   .exact h.ok.f k' o v hc
  .simp only[V'] at hx;split at hx
   .rename_i e;subst e;exact .inr ⟨(h.owns k' b h2).1,.inl ⟨b,h2⟩⟩
   .exact .inl hx
  .simp[St.setO,bB _ _ hi]
  .simp[Env.setO,bB _ _ hi]
  .have:k'≠k:=λe=>by subst e;rw[h2] at hk;simp at hk;exact hi hk.symm
   simp[this,hk]
  .subst hi;simp only[St.setO,aN];exact⟨k,v,h1,by simp only[Env.setO,aN];exact hrv,λi u hu=>by simp[V',aY i u hu]⟩
  .split at hk
   .cases hk
   .rename_i hn;obtain⟨g1,g2,g3,g4⟩:=h.owns k' i hk;exact⟨g1,g2,λo=>by simp[V',hn,g3 o],g4⟩
 have jw:∀(m:Nat) (t:Ty),x.1[m]?=some t->t.one=true/\Rep C.cap V' t (cs.toList.getD m undef) (es.getD m .none):=λm t hm=>by
  obtain⟨g1,g2⟩:=bI m t hm;rw[fw] at g2;exact⟨g1,g2.mono hle⟩
 intro O' ak;cases ag with
 |true=>
  simp only[zyy] at hr;cases hr;have:=tW ak;subst this;refine⟨_,_,_,key (.agg x.1) (.agg cs.toList.toArray) _ ?_ (λi u hu=>by simpa [Value.cells] using hu)⟩;simp only[PE.ev,he];exact .agg _ _ _ (by simp;omega) (by omega) (λm t hm=>(jw m t hm).2) (λm t hm=>(jw m t hm).1)
 |false=>
  simp only[zyx] at hr;split at hr
  .rename_i t e et ee;cases hr;have:=tW ak;subst this;obtain⟨g1,g2⟩:=jw 0 t (by rw[et];rfl);have jT:es=[e.ev O]:=by rw[<-rG,ee];rfl
   subst jT;refine⟨_,_,_,key t (cs.toList.getD 0 undef) _ (by simpa using g2) (λi u hu=>?_)⟩;rw[(g2.oneCell g1).1] at hu;have hi:i=0:=by
        have:=(ed.1 hu).1;simpa using this
   subst hi;simp at hu;subst hu;have:0<cs.size:=by rw[h4];rw[et] at l1;simp at l1;omega
   rw[ir this];simp[aE,ir this]
  .cases hr
def Inv.mv (h:Inv C S O V own hv w0 σ0 A a w){j j':Nat}(au:j≠j')(hk:lM (S.o j)=true):
 Inv C (S.mv j j') (O.setO j' (O.o j)) V (λk=>if own k=some j then some j' else if own k=some j' then none else own k) (bW hv j' (hv j)) w0 σ0 A a w:=by
 have bj:=h.objs j
 refine h.step (λi=>i=j\/i=j') rfl (.refl V) h.ok (λ_ _ _ hx=>.inl hx) (λ_ _ hx=>.inl hx) (.refl _ _) ⟨λi=>?_,λi e=>?_⟩ (λi hi=>?_) (λi hi=>?_) (λk i hk=>?_) (λ_=>id) (λt=>.inl ⟨rfl,rfl,rfl⟩) (λ_ _=>rfl) (λ_ _ _=>rfl) (λk i hk=>by
        split at hk
        .rename_i e;exact .inl ⟨j,e⟩
        .split at hk
         .cases hk
         .exact .inl ⟨i,hk⟩) (λi hi=>by
        rcases hi with rfl|rfl
        .simp[St.mv,aN]
        .simp only[St.mv,bB _ _ (vC au),aN];intro e;rw[e] at hk;cases hk)
 .simp only[St.mv,fp];split
  .rename_i e;subst e;omega
  .split
   .rename_i e;subst e;omega
   .omega
 .simp only[St.mv,fp] at e;split at e
  .rename_i e';subst e';omega
  .split at e
   .rename_i e';subst e';omega
   .rename_i Ss;exact bB _ _ Ss
 .simp only[not_or] at hi;refine⟨by simp[St.mv,bB _ _ hi.1,bB _ _ hi.2],by simp[Env.setO,bB _ _ hi.2],bB _ _ hi.2,λk hk=>⟨?_,rfl⟩⟩;have e1:i≠j:=hi.1;have e2:i≠j':=hi.2;simp[hk,e1,e2]
 .rcases hi with rfl|rfl
  .simp only[St.mv,aN];trivial
  .simp only[St.mv,bB _ _ (vC au),aN];cases cR:S.o j with
   |row T e=>
    rw[cR] at bj;obtain⟨cells,xs,h1,h2,h3,h4⟩:=bj;refine⟨cells,xs,by simp only[Env.setO,aN];exact h1,by rw[aN];exact h2,h3,λk hk=>?_⟩;rw[aN] at hk;simp[h4 k hk]
   |mp kt et=>
    rw[cR] at bj;obtain⟨k0,arr,clock,es,h1,h2,h3,h4,h5,h6⟩:=bj;exact⟨k0,arr,clock,es,by rw[aN];exact h1,by simp[h2],h3,by simp only[Env.setO,aN];exact h4,h5,h6⟩
   |_=>rw[cR] at hk;simp[lM] at hk
 .split at hk
  .rename_i e;exact h.owns k j e
  .split at hk
   .cases hk
   .exact h.owns k i hk
def awI (h:Inv C S O V own hv w0 σ0 A a w){t j':Nat}{r:St×List PI}(hr:Io S t j'=some r):DP C w0 σ0 Z S O A a w r:=by
 intro O' ak;unfold Io at hr;split at hr
 .rename_i j ver es;cases hb:(Nat.beq ver (S.ver j)&&lM (S.o j)&& !Nat.beq j j')<;>simp only[hb,zyy,zyx] at hr
  .cases hr;rw[qF ak];exact⟨_,_,_,h⟩
  .cases hr;simp only[ao,kK] at hb;have dF:=ay hb.1.1;have au:j≠j':=λe=>by subst e;simp at hb
   have mh:=h.mv au hb.1.2;have gy:=h.regs t;rw[es] at gy;have ct:=gy.2 dF;rw[tW ak];refine⟨_,_,_,mh.step (S':=(S.mv j j').setR t (.obj j' (S.ver j'+1))) (λ_=>False) rfl (.refl V) mh.ok (λ_ _ _ hx=>.inl hx) (λ_ _ hx=>.inl hx) (.refl _ _) ⟨λ_=>aX _,λ_ _=>rfl⟩ (λi _=>⟨rfl,rfl,rfl,λk hk=>⟨hk,rfl⟩⟩) (λ_ hf=>hf.elim) mh.owns (λ_=>id) (λu=>?_) (λ_ _=>rfl) (λ_ _ _=>rfl) (λk i hk=>.inl ⟨i,hk⟩) (λ_ hf=>hf.elim)⟩;by_cases hu:u=t
   .subst hu;refine .inr ⟨?_,λgs s e=>by simp[St.setR,aN] at e⟩;simp only[St.setR,aN];refine⟨?_,λ_=>?_⟩
    .simp[St.mv,bB _ _ (vC au),aN]
    .rw[aN];exact ct
   .exact .inl ⟨by simp[St.setR,bB _ _ hu],rfl,rfl⟩
 .cases hr;rw[qF ak];exact⟨_,_,_,h⟩
def awH (h:Inv C S O V own hv w0 σ0 A a w){b i j':Nat}{r:St×List PI}(hr:Il S b i j'=some r):DP C w0 σ0 Z S O A a w r:=by
 intro O' ak;unfold Il at hr;split at hr
 .rename_i ag shs eo;split at hr
  .rename_i j ver es;cases hb:(Nat.beq ver (S.ver j)&&lM (S.o j)&& !Nat.beq j j'&& !Nat.beq b j'&& !Nat.beq b j)<;>simp only[hb,zyy,zyx] at hr
   .cases hr;rw[qF ak];exact⟨_,_,_,h⟩
   .cases hr;simp only[ao,kK] at hb;have dF:=ay hb.1.1.1.1;have au:j≠j':=λe=>by subst e;simp at hb
    have gu:b≠j':=λe=>by subst e;simp at hb
    have de:b≠j:=λe=>by subst e;simp at hb
    have bj:=h.objs b;rw[eo] at bj;obtain⟨k,cs,T,ds,h1,h2,h3,h4,h5,h6,h7⟩:=bj;have ct:=(h7 i _ es).2.2 dF;have mh:=h.mv au hb.1.1.1.2;rw[tW ak];have Re:(S.mv j j').o b=.box ag shs:=by simp[St.mv,bB _ _ gu,bB _ _ de,eo]
    have FZ:=mh.objs b;rw[Re] at FZ;refine⟨_,_,_,mh.step (S':=(S.mv j j').setO b (.box ag (shs.set i (.obj j' (S.ver j'+1))))) (λm=>m=b) rfl (.refl V) mh.ok (λ_ _ _ hx=>.inl hx) (λ_ _ hx=>.inl hx) (.refl _ _) ⟨λ_=>aX _,λ_ _=>rfl⟩ (λm hm=>⟨by simp[St.setO,bB _ _ hm],rfl,rfl,λk hk=>⟨hk,rfl⟩⟩) (λm hm=>?_) mh.owns (λ_=>id) (λt=>.inl ⟨rfl,rfl,rfl⟩) (λ_ _=>rfl) (λ_ _ _=>rfl) (λk i hk=>.inl ⟨i,hk⟩) (λm hm=>by subst hm;simp[St.setO,aN])⟩;subst hm;rw[St.setO_o];obtain⟨k1,EH,T1,EJ,g1,g2,g3,g4,g5,g6,g7⟩:=FZ;have e1:EH=cs:=by
     rw[bB _ _ gu,h1] at g1;cases g1;rw[h3] at g3;cases g3;rfl
    refine⟨k1,EH,T1,EJ,g1,g2,g3,by simpa using g4,g5,by simpa using g6,λq x hq=>?_⟩;rw[DU] at hq;split at hq
    .rename_i e;subst e;split at hq
     .cases hq;refine⟨(λ_ _ e=>by cases e),?_,λ_=>?_⟩
      .simp[St.setO,St.mv,bB _ _ (vC au),aN]
      .rw[aN,e1];exact ct
     .cases hq
    .obtain⟨f1,f2⟩:=g7 q x hq;exact⟨f1,f2.mono' (.refl V) (Compat.setO _ _ _ _) f1⟩
  .cases hr;rw[qF ak];exact⟨_,_,_,h⟩
 .cases hr;rw[qF ak];exact⟨_,_,_,h⟩
def ari (h:Inv C S O V own hv w0 σ0 A a w){b i j:Nat}{T:TypeId}{r:St×List PI}(hr:F1 C S b i j T=some r):DP C w0 σ0 Z S O A a w r:=by
 intro O' ak;unfold F1 at hr;split at hr
 .rename_i ag shs eo;split at hr
  .rename_i e0 e es et;cases hb:(!Nat.beq b j)<;>simp only[hb,zyy,zyx] at hr
   .cases hr;rw[qF ak];exact⟨_,_,_,h⟩
   .cases hr;have au:b≠j:=λe=>by subst e;simp at hb
    have bj:=h.objs b;rw[eo] at bj;obtain⟨k,cs,T0,ds,h1,h2,h3,h4,h5,h6,h7⟩:=bj;have ct:cs.getD i undef=.slice none 0 0:=by
     have:=(h7 i _ es).2;generalize cs.getD i undef=v at this;generalize ds.getD i .none=d at this;cases this;rfl
    have mi:=h.newO j (.row T e) (.list []) (.slice none 0 0) (λ_=>false) (.refl _ _) (by simp) ⟨[],[],by simp[Env.setO,aN],by rw[aN];exact World.ownsRow_nil _ _ _ _,⟨λ_=>undef,by simp,by simp⟩,by rw[aN];simp[Value.ownBlock]⟩;rw[tW ak];have Re:(S.newO j (.row T e)).o b=.box ag shs:=by simp[St.newO,bB _ _ au,eo]
    have FZ:=mi.objs b;rw[Re] at FZ;refine⟨_,_,_,mi.step (S':=(S.newO j (.row T e)).setO b (.box ag (shs.set i (.obj j (S.ver j+1))))) (λm=>m=b) rfl (.refl V) mi.ok (λ_ _ _ hx=>.inl hx) (λ_ _ hx=>.inl hx) (.refl _ _) ⟨λ_=>aX _,λ_ _=>rfl⟩ (λm hm=>⟨by simp[St.setO,bB _ _ hm],rfl,rfl,λk hk=>⟨hk,rfl⟩⟩) (λm hm=>?_) mi.owns (λ_=>id) (λt=>.inl ⟨rfl,rfl,rfl⟩) (λ_ _=>rfl) (λ_ _ _=>rfl) (λk i hk=>.inl ⟨i,hk⟩) (λm hm=>by subst hm;simp[St.setO,aN])⟩;subst hm;rw[St.setO_o];obtain⟨k1,EH,T1,EJ,g1,g2,g3,g4,g5,g6,g7⟩:=FZ;have e1:EH=cs:=by
     rw[bB _ _ au,h1] at g1;cases g1;rw[h3] at g3;cases g3;rfl
    refine⟨k1,EH,T1,EJ,g1,g2,g3,by simpa using g4,g5,by simpa using g6,λq x hq=>?_⟩;rw[DU] at hq;split at hq
    .rename_i e';subst e';split at hq
     .cases hq;refine⟨(λ_ _ e=>by cases e),?_,λ_=>?_⟩
      .simp[St.setO,St.newO,aN]
      .rw[aN,e1];exact ct
     .cases hq
    .obtain⟨f1,f2⟩:=g7 q x hq;exact⟨f1,f2.mono' (.refl V) (Compat.setO _ _ _ _) f1⟩
  .cases hr;rw[qF ak];exact⟨_,_,_,h⟩
 .cases hr;rw[qF ak];exact⟨_,_,_,h⟩
end
def mkObj (S:St)(dst:Nat)(ob:Ob):St:=(S.newO dst ob).setR dst (.obj dst (S.ver dst+1))
def mkPtr (S:St)(dst:Nat)(ob:Ob):St:=(S.newO dst ob).setR dst (.ptr dst (S.ver dst+1) 0)
abbrev ls:=Option (St×List PI)
def EX (C:Ctx)(S:St)(dst:Nat)(T:TypeId)(x:Operand):ls:=
 match use C S [] x,C.P.underlying T with
 |some (.nils _,_),some (.slice E)=>(qI C.P E).map λe=>(mkObj S dst (.row E e),[.setO dst (.con (.list [])),.setR dst (.con .none)])
 |_,_=>Option.none
def EL (C:Ctx)(S:St)(dst:Nat)(T:TypeId):ls:=
 match qI C.P T,C.P.info? T,rP C.P T with
 |some t,some inf,some ag=>
  bif vq inf t&&(t.rowT||t.one) then
   (qK t).map λz=>(mkPtr S dst (.box ag (z.1.flat.map .dat)),[.setO dst (.con (.agg z.2.cells)),.setR dst (.con .none)])
  else Option.none
 |_,_,_=>Option.none
def EN (C:Ctx)(S:St)(dst:Nat)(T:TypeId)(x:Operand):ls:=
 match use C S [] x,rP C.P T with
 |some (t,e),some ag=>
  bif t.rowT||t.one then some (mkPtr S dst (.box ag (t.flat.map .dat)),[.setO dst (.mk [e]),.setR dst (.con .none)]) else Option.none
 |Option.none,some true=>
  match gL S [] x with
  |.agg l=>some (mkPtr S dst (.box true (l.map AgC.sh)),[.setO dst (sB x),.setR dst (.con .none)])
  |_=>Option.none
 |_,_=>Option.none
def ET (C:Ctx)(S:St)(dst:Nat)(T:TypeId)(r:Option Operand):ls:=
 match C.P.underlying T,r with
 |some (.map K E),Option.none=>
  (qI C.P K).bind λkt=>(qI C.P E).map λet=>(mkObj S dst (.mp kt et),[.setO dst (.con (.map [])),.setR dst (.con .none)])
 |_,_=>Option.none
def EV (C:Ctx)(S:St)(dst:Nat)(T:TypeId)(l c:Operand):ls:=
 match C.P.underlying T,use C S [] l,use C S [] c with
 |some (.slice E),some (.int _,n),some (.int _,m)=>
  (qI C.P E).bind λe=>
    bif sU C.P E e then
     (qK e).bind λz=>
        bif Ty.sub z.1 e then some (mkObj S dst (.row E e),[.chk (TE n),.chk (.ci .eql n m),.setO dst (.rep n (.con z.2)),.setR dst (.con .none)]) else Option.none
    else Option.none
 |_,_,_=>Option.none
def EY (C:Ctx)(S:St)(dst:Nat)(T:TypeId)(x:Operand):ls:=
 match C.P.underlying T,gL S [] x with
 |some (.map _ _),.obj j ver=>
  bif Nat.beq ver (S.ver j)&& !Nat.beq j dst then
   match S.o j with
   |.mp kt et=>some (mkObj (S.mv j dst) dst (.it kt et),[.setO dst (.tup [.lst [],.o j]),.setR dst (.con .none)])
   |_=>Option.none
  else Option.none
 |_,_=>Option.none
def EO (C:Ctx)(S:St)(dst:Nat)(s d:TypeId)(x:Operand):ls:=
 match use C S [] x,C.P.underlying s,C.P.underlying d with
 |some (.str,e),some .string,some (.slice E)=>
  (match C.P.underlying E with
   |some (.int .u8)=>some (S.setR dst (.dat (.slice (.int .u8))),[.chk (.ci .leq (.slen e) (.con (.int oU))),.setR dst (.bytes e)])
   |_=>Option.none)
 |_,_,_=>Option.none
section
variable {C:Ctx} {S:St} {O:Env} {V:Im} {own:Nat->Option Nat} {hv:Nat->Value} {w0:World} {σ0:Base} {A:Nat->Prop} {a:Act} {w:World} {gs:List (Nat×Bool)} {Z:aS} {dst:Nat}
def bS (C:Ctx)(w0:World)(σ0:Base)(Z:aS)(S:St)(O:Env)(A:Nat->Prop)(a:Act)(w:World)(o:Oper)(r:St×List PI):Prop:=
 ∀O',PI.runs Z r.2 O=some O'->∀(K:Act->World->Prop) (Q:Exit->Act->World->Prop),(∀a' w',Good C w0 σ0 r.1 O' (λu=>A u\/o.dst=some u) a' w'->a'.tmps.size=a.tmps.size->K a' w')->o.wp C.P a w K Q
def size_put (a:Act)(d:Option Tmp)(v:Value):(a.put d v).tmps.size=a.tmps.size:=by
 cases d<;>simp[Act.put]
def bS.value {o:Oper}{r:St×List PI}(hd:o.dst=some dst)(hx:∀O',PI.runs Z r.2 O=some O'->∃v w',(execOp a.eval o).run C.P w=.ok (.value v) w'/\Good C w0 σ0 r.1 O' (λu=>A u\/u=dst) (a.put (some dst) v) w'):bS C w0 σ0 Z S O A a w o r:=by
 intro O' ak K Q hK;obtain⟨v,w',h1,h2⟩:=hx O' ak;simp only[Oper.wp,h1,Oper.upon,hd];refine hK _ _ ?_ (size_put _ _ _)
 have:(λu=>A u\/o.dst=some u)=(λu=>A u\/u=dst):=by
  funext u;rw[hd];simp[eq_comm]
 rw[this];exact h2
def bS.skip {o:Oper}{r:St×List PI}(hd:o.dst=none)(hx:∀O',PI.runs Z r.2 O=some O'->∃w',(execOp a.eval o).run C.P w=.ok .skip w'/\Good C w0 σ0 r.1 O' A a w'):bS C w0 σ0 Z S O A a w o r:=by
 intro O' ak K Q hK;obtain⟨w',h1,h2⟩:=hx O' ak;simp only[Oper.wp,h1,Oper.upon,hd]
 have:(λu=>A u\/o.dst=some u)=A:=by
  funext u;rw[hd];simp
 rw[this] at hK;exact hK _ _ h2 (size_put _ _ _)
def eL.eff (h:Inv C S O V own hv w0 σ0 A a w)(ht:¬A dst)(af:dst<a.tmps.size){o:Oper}(hd:o.dst=some dst){s:Sh}{GR:List PI}(hq:eL C S O V hv Z dst a w o (s,GR)):bS C w0 σ0 Z S O A a w o (S.setR dst s,GR):=by
 refine bS.value hd λO' ak=>?_;obtain⟨v,d,rfl,h1,h2,h3⟩:=hq O' ak;exact⟨v,w,h1,V,own,hv,h.setReg ht (aG.mono' (.refl V) (.refl S hv) h3 h2) af (λgs s' e=>absurd e (h3 gs s'))⟩
def eL.effG (h:Inv C S O V own hv w0 σ0 A a w)(ht:¬A dst)(af:dst<a.tmps.size)(eC:∀g,g∈gs->A g.1)(hg:holds gs O=true){o:Oper}(hd:o.dst=some dst){s:Sh}{GR:List PI}(hq:eL C S O V hv Z dst a w o (s,GR)):bS C w0 σ0 Z S O A a w o (S.setR dst (.opt gs s),GR):=by
 refine bS.value hd λO' ak=>?_;obtain⟨v,d,rfl,h1,h2,h3⟩:=hq O' ak;have hh:holds gs (O.setR dst d)=true:=by rw[F0 (t:=dst) (d:=d) λg hm e=>ht (by rw[<-e];exact eC g hm)];exact hg
 refine⟨v,w,h1,V,own,hv,h.setReg ht ⟨λ_=>aG.mono' (.refl V) (.refl S hv) h3 h2,λe=>absurd (hh.symm.trans e) (by decide)⟩ af (λbM s' e=>?_)⟩;cases e;exact⟨eC,h3⟩
def Inv.passed (h:Inv C S O V own hv w0 σ0 A a w)(ht:¬A dst)(af:dst<a.tmps.size)(eC:∀g,g∈gs->A g.1)(hg:holds gs O=false){s:Sh}(hs:∀bM s',s≠.opt bM s')(d:D):Inv C (S.setR dst (.opt gs s)) (O.setR dst d) V own hv w0 σ0 (λu=>A u\/u=dst) (a.put (some dst) undef) w:=by
 have hh:holds gs (O.setR dst d)=false:=by rw[F0 (t:=dst) (d:=d) λg hm e=>ht (by rw[<-e];exact eC g hm)];exact hg
 refine h.setReg ht (s:=.opt gs s) (v:=undef) (d:=d) ⟨λe=>absurd (hh.symm.trans e) (by decide),λ_=>rfl⟩ af (λbM s' e=>?_);cases e;exact⟨eC,hs⟩
def Inv.mkObj (h:Inv C S O V own hv w0 σ0 A a w)(ht:¬A dst)(af:dst<a.tmps.size)(ob:Ob)(d:D)(v:Value)(nb:Nat->Bool){w':World}(hw:Below w.heap.size w w')(dT:∀k,nb k=true->w.heap.size<=k/\k<w'.heap.size)
 (cR:bY C (S.newO dst ob) (O.setO dst d) V (fM own dst nb) (bW hv dst v) w' w0.heap.size dst ob) (oL:ob≠.tr:=by intro h;cases h):
 Good C w0 σ0 (Cx.mkObj S dst ob) ((O.setO dst d).setR dst .none) (λu=>A u\/u=dst) (a.put (some dst) v) w':=by
 have h1:=h.newO dst ob d v nb hw dT cR oL;have h2:=h1.setObj ht (j:=dst) (v:=v) (aN _ _ _) af;have e:(S.newO dst ob).ver dst=S.ver dst+1:=aN _ _ _;rw[e] at h2;exact⟨_,_,_,h2⟩
def Inv.mkPtr (h:Inv C S O V own hv w0 σ0 A a w)(ht:¬A dst)(af:dst<a.tmps.size)(ob:Ob)(d:D)(k:Nat)(nb:Nat->Bool){w':World}(hw:Below w.heap.size w w')(dT:∀k,nb k=true->w.heap.size<=k/\k<w'.heap.size)
 (cR:bY C (S.newO dst ob) (O.setO dst d) V (fM own dst nb) (bW hv dst (.pointer (some ⟨k,0,none⟩))) w' w0.heap.size dst ob) (oL:ob≠.tr:=by intro h;cases h):
 Good C w0 σ0 (Cx.mkPtr S dst ob) ((O.setO dst d).setR dst .none) (λu=>A u\/u=dst) (a.put (some dst) (.pointer (some ⟨k,0,none⟩))) w':=by
 have h1:=h.newO dst ob d _ nb hw dT cR oL;have e:(S.newO dst ob).ver dst=S.ver dst+1:=aN _ _ _;have h2:=h1.setReg ht (s:=.ptr dst (S.ver dst+1) 0) (v:=.pointer (some ⟨k,0,none⟩)) (d:=.none) ⟨Nat.le_of_eq e.symm,λ_=>⟨k,aN _ _ _,rfl⟩⟩ af (λ_ _ e=>by cases e);exact⟨_,_,_,h2⟩
def Dr {e:PE}{O':Env}(h:PI.runs Z [.setO dst e,.setR dst (.con .none)] O=some O'):O'=(O.setO dst (e.ev O)).setR dst .none:=by
 simp[PI.runs,PI.run,PE.ev] at h;exact h.symm
def abe (h:Inv C S O V own hv w0 σ0 A a w){t:Ty}{v:Value}{d:D}(hr:Rep C.cap V t v d)(ho:t.rowT=true\/t.one=true)(ag:Bool)(T:TypeId):
 bY C (S.newO dst (.box ag (t.flat.map .dat))) (O.setO dst (.agg d.cells)) V (fM own dst (λk=>Nat.beq k w.heap.size)) (bW hv dst (.pointer (some ⟨w.heap.size,0,none⟩))) (w.alloc (.cells v.cells T)) w0.heap.size dst (.box ag (t.flat.map .dat)):=by
 obtain⟨f1,f2,f3⟩:=hr.flat ho;refine⟨w.heap.size,v.cells,T,d.cells,aN _ _ _,by simp[fM],heap_alloc_new w _,by rw[hr.size];simp[f1],by simp[Env.setO,aN],by simp[f1,f2],λi s hi=>?_⟩;simp only[bX,aB] at hi;obtain⟨ti,S5,rfl⟩:=hi;exact⟨λ_ _ e=>(by cases e),(f3 i ti S5).2⟩
def anh (h:Inv C S O V own hv w0 σ0 A a w)(hC:CtxOK C σ0)(ht:¬A dst)(af:dst<a.tmps.size){T:TypeId}{x:Operand}{r:St×List PI}(hr:EX C S dst T x=some r){o:Oper}(hd:o.dst=some dst)(ho:o.op=.assign x):bS C w0 σ0 Z S O A a w o r:=by
 unfold EX at hr;split at hr
 case h_2=>cases hr
 rename_i e0 e1 E hu hT;simp only[aB] at hr;obtain⟨e,he,rfl⟩:=hr;have hx:=cv h hC rfl hu;have ct:a.eval x=.slice none 0 0:=by
  generalize a.eval x=v at hx;generalize e1.ev O=d at hx;cases hx;rfl
 refine bS.value hd λO' ak=>⟨.slice none 0 0,w,by simp[execOp,ho,ct],?_⟩
 rw[Dr ak];exact h.mkObj ht af (.row E e) _ _ (λ_=>false) (.refl _ _) (by simp) ⟨[],[],by simp[Env.setO,aN,PE.ev],by rw[aN];exact World.ownsRow_nil _ _ _ _,⟨λ_=>undef,by simp,by simp⟩,by rw[aN];simp[Value.ownBlock]⟩
def amO (h:Inv C S O V own hv w0 σ0 A a w)(ht:¬A dst)(af:dst<a.tmps.size){T:TypeId}{r:St×List PI}(hr:EL C S dst T=some r){o:Oper}(hd:o.dst=some dst)(ho:o.op=.alloc T):bS C w0 σ0 Z S O A a w o r:=by
 unfold EL at hr;split at hr
 case h_2=>cases hr
 rename_i t inf ag S7 hi ha;cases hc:(vq inf t&&(t.rowT||t.one))<;>simp only[hc,zyy,zyx] at hr
 .cases hr
 simp only[ao,kL] at hc;simp only[aB] at hr;obtain⟨z,hz,rfl⟩:=hr;obtain⟨v0,eF,tF⟩:∃v0,inf.zero=some v0/\kf t v0=true:=by
  have:=hc.1;unfold vq at this;split at this
  .exact⟨_,by assumption,this⟩
  .cases this
 obtain⟨k1,k2,k3⟩:=Af (cap:=C.cap) (V:=V) hz tF;have cW:z.1.rowT=true\/z.1.one=true:=by
  rcases hc.2 with e|e
  .left;cases t<;>simp[Ty.rowT] at e;simp[qK] at hz;obtain⟨_,_,rfl⟩:=hz;rfl
  .right;rw[k3];exact e
 refine bS.value hd λO' ak=>⟨.pointer (some ⟨w.heap.size,0,none⟩),w.alloc (.cells v0.cells T),?_,?_⟩
 .simp[execOp,ho,Instr.alloc,zeroValue,run_typeInfo w hi,eF,newVar,newRow]
 .rw[Dr ak];exact h.mkPtr ht af _ _ _ (λk=>Nat.beq k w.heap.size) ((Below.refl _ _).alloc (aX _) _) (λk hk=>by simp at hk;simp;omega) (abe h k1 cW ag T)
def Compat.newO (S:St)(hv:Nat->Value)(j:Nat)(ob:Ob)(v:Value):Compat S hv (S.newO j ob) (bW hv j v):=by
 refine⟨λi=>?_,λi e=>?_⟩
 .simp only[St.newO,fp];split<;>rename_i e
  .subst e;omega
  .omega
 .simp only[St.newO,fp] at e;split at e
  .rename_i e';subst e';omega
  .rename_i au;exact bB _ _ au
def amS (h:Inv C S O V own hv w0 σ0 A a w)(hC:CtxOK C σ0)(ht:¬A dst)(af:dst<a.tmps.size){T:TypeId}{x:Operand}{r:St×List PI}(hr:EN C S dst T x=some r){o:Oper}(hd:o.dst=some dst)(ho:o.op=.box T x):bS C w0 σ0 Z S O A a w o r:=by
 unfold EN at hr;split at hr
 case h_3=>cases hr
 case h_2=>
  rename_i hu ha;split at hr
  case h_2=>cases hr
  rename_i l jV;cases hr;have gy:=(ua h (gs:=[]) rfl x).1;rw[jV] at gy;obtain⟨vs,ds,e1,e2,e3,e4,e5⟩:=gy;refine bS.value hd λO' ak=>⟨.pointer (some ⟨w.heap.size,0,none⟩),w.alloc (.cells (a.eval x).cells T),?_,?_⟩
  .simp[execOp,ho,Instr.box,newVar,newRow]
  .rw[Dr ak,e2];refine h.mkPtr ht af _ _ _ (λk=>Nat.beq k w.heap.size) ((Below.refl _ _).alloc (aX _) _) (λk hk=>by simp at hk;simp;omega) ⟨w.heap.size,(a.eval x).cells,T,ds,aN _ _ _,by simp[fM],heap_alloc_new w _,by rw[e1];simp[Value.cells,e3],by simp[Env.setO,aN],by simp[e4],λi s hi=>?_⟩;simp only[bX,aB] at hi;obtain⟨c,hc,rfl⟩:=hi;have bL:(a.eval x).cells.getD i undef=vs.getD i undef:=by rw[e1];simp[Value.cells,aE,fe]
   have h6:=(e5 i c hc).monoR (Im.le.leR (.refl V)) (Compat.newO S hv dst (.box true (l.map AgC.sh)) (.pointer (some ⟨w.heap.size,0,none⟩)));rw[bL];cases c with
   |dat t=>exact⟨λ_ _ e=>(by cases e),h6.2⟩
   |obj j ver=>exact⟨λ_ _ e=>(by cases e),h6⟩
 rename_i t e ag hu ha;cases hc:(t.rowT||t.one)<;>simp only[hc,zyy,zyx] at hr
 .cases hr
 cases hr;simp only[kL] at hc;have hx:=cv h hC rfl hu;refine bS.value hd λO' ak=>⟨.pointer (some ⟨w.heap.size,0,none⟩),w.alloc (.cells (a.eval x).cells T),?_,?_⟩
 .simp[execOp,ho,Instr.box,newVar,newRow]
 .rw[Dr ak];have:(PE.mk [e]).ev O=.agg (e.ev O).cells:=by simp[PE.ev,PE.evc]
  rw[this];exact h.mkPtr ht af _ _ _ (λk=>Nat.beq k w.heap.size) ((Below.refl _ _).alloc (aX _) _) (λk hk=>by simp at hk;simp;omega) (abe h hx hc ag T)
def ana (h:Inv C S O V own hv w0 σ0 A a w)(ht:¬A dst)(af:dst<a.tmps.size){T:TypeId}{m:Option Operand}{r:St×List PI}(hr:ET C S dst T m=some r){o:Oper}(hd:o.dst=some dst)(ho:o.op=.makeMap T m):bS C w0 σ0 Z S O A a w o r:=by
 unfold ET at hr;split at hr
 case h_2=>cases hr
 rename_i K E hT;simp only[az,aB] at hr;obtain⟨kt,hk,et,he,rfl⟩:=hr;refine bS.value hd λO' ak=>⟨.map (some w.heap.size),w.alloc (.map #[] 0),?_,?_⟩
 .simp[execOp,ho,Instr.makeMap]
 .rw[Dr ak]
  exact h.mkObj ht af (.mp kt et) _ _ (λk=>Nat.beq k w.heap.size) ((Below.refl _ _).alloc (aX _) _) (λk hk=>by simp at hk;simp;omega)
   ⟨w.heap.size,#[],0,[],aN _ _ _,by simp[fM],heap_alloc_new w _,by simp[Env.setO,aN,PE.ev],rfl,⟨by simp,by simp[nN]⟩,by simp⟩
def anj (h:Inv C S O V own hv w0 σ0 A a w)(ht:¬A dst)(af:dst<a.tmps.size){T:TypeId}{x:Operand}{r:St×List PI}(hr:EY C S dst T x=some r){o:Oper}(hd:o.dst=some dst)(ho:o.op=.range T x):bS C w0 σ0 Z S O A a w o r:=by
 unfold EY at hr;split at hr
 case h_2=>cases hr
 rename_i K E j ver hT es;obtain⟨dV,_⟩:=ua h (gs:=[]) rfl x;rw[es] at dV;cases hb:(Nat.beq ver (S.ver j)&& !Nat.beq j dst)<;>simp only[hb,zyy,zyx] at hr
 .cases hr
 simp only[ao,kK] at hb;have ct:=dV.2 (ay hb.1);have au:j≠dst:=λe=>by subst e;simp at hb
 have bj:=h.objs j;split at hr
 case h_2=>cases hr
 rename_i kt et eo;cases hr;rw[eo] at bj;obtain⟨m,arr,clock,ds,h1,h2,h3,h4,h5,⟨h6,tg⟩,h7⟩:=bj;have mh:=h.mv au (by rw[eo];rfl);have rK:m<w.heap.size:=(ed.1 h3).1;have Si:w0.heap.size<=m:=(h.owns m j h2).1;refine bS.value hd λO' ak=>⟨.pointer (some ⟨w.heap.size,0,none⟩),w.alloc (.mapIter (some m) clock #[] clock),?_,?_⟩
 .simp[execOp,ho,Instr.range,ct,h1,run_underlying hT,getObj,Sem.run,h3]
 have hρ:O'=((O.setO dst (.tup [.list [],.map ds])).setR dst .none):=by
  simp[PI.runs,PI.run,PE.ev,PE.evs,h4] at ak;exact ak.symm
 subst hρ;have fE:Below w.heap.size w (w.alloc (.mapIter (some m) clock #[] clock)):=(Below.refl _ _).alloc (aX _) _;have Gf:=mh.step (S':=(S.mv j dst).newO dst (.it kt et)) (O':=(O.setO dst (.tup [.list [],.map ds]))) (V':=V) (hv':=bW (bW hv dst (hv j)) dst (.pointer (some ⟨w.heap.size,0,none⟩)))
  (own':=λk=>if k=w.heap.size then some dst else(if own k=some j then some dst else if own k=some dst then none else own k)) (a':=a) (A':=A) (w':=w.alloc (.mapIter (some m) clock #[] clock)) (λi=>i=dst)
  rfl (.refl V) (h.ok.below fE) (λ_ _ _ hx=>.inl hx) (λ_ _ hx=>.inl hx) (fE.mono h.below.size) ⟨λi=>?_,λi e=>?_⟩ (λi hi=>⟨?_,?_,?_,λk hk=>⟨?_,?_⟩⟩) (λi hi=>?_) (λk i hk=>?_) (λ_=>id) (λt=>.inl ⟨rfl,rfl,rfl⟩) (λ_ _=>rfl) (λk hk _=>fE.block k hk) (λk i hk=>?_) (λi hi=>by subst hi;simp[St.newO,aN])
 .have gU:=Gf.setObj ht (j:=dst) (v:=.pointer (some ⟨w.heap.size,0,none⟩)) (aN _ _ _) af;have e:((S.mv j dst).newO dst (.it kt et)).ver dst=(S.mv j dst).ver dst+1:=aN _ _ _;rw[e] at gU;exact⟨_,_,_,gU⟩
 .simp only[St.newO,fp];split<;>rename_i e
  .subst e;omega
  .omega
 .simp only[St.newO,fp] at e;split at e
  .rename_i e';subst e';omega
  .rename_i Ss;exact bB _ _ Ss
 .simp[St.newO,bB _ _ hi]
 .simp[Env.setO,bB _ _ hi]
 .exact bB _ _ hi
 .have aF1:=(mh.owns k i hk).2.1;have bf:k≠w.heap.size:=by omega
  simp only[if_neg bf];exact hk
 .exact fE.block k (mh.owns k i hk).2.1
 .subst hi;simp only[St.newO,aN];have fG:m≠w.heap.size:=by omega
  refine⟨w.heap.size,m,arr,clock,ds,[],aN _ _ _,by simp,by simp[fG,h2],by omega,?_,heap_alloc_new w _,by simp[Env.setO,aN,ib],List.nodup_nil,by simp,h5,tg,h7⟩;rw[fE.block m rK];exact h3
 .split at hk
  .rename_i e;subst e;refine⟨h.below.size,by simp,λo=>?_,?_⟩
   .cases hc:V.c w.heap.size o with
    |none=>rfl
    |some u=>have:=h.lt hc;omega
   .cases hc:V.m w.heap.size with
    |none=>rfl
    |some u=>have:=h.ltm hc;omega
  .obtain⟨g1,g2,g3,g4⟩:=mh.owns k i hk;exact⟨g1,by simp;omega,g3,g4⟩
 .split at hk
  .rename_i e;subst e;exact .inr (aX _)
  .exact .inl ⟨i,hk⟩
def amW (h:Inv C S O V own hv w0 σ0 A a w)(hC:CtxOK C σ0)(ht:¬A dst)(af:dst<a.tmps.size){T U:TypeId}{x:Operand}{r:St×List PI}(hr:EO C S dst T U x=some r){o:Oper}(hd:o.dst=some dst)(ho:o.op=.convert T U x):bS C w0 σ0 Z S O A a w o r:=by
 unfold EO at hr;split at hr
 case h_2=>cases hr
 rename_i e E hu hT hU;split at hr
 case h_2=>cases hr
 rename_i hE;cases hr;have hx:=cv h hC rfl hu;obtain⟨s,aL,bu,hs⟩:=hx.str_inv;have qe:=Lib.run_convert_string_bytes (P:=C.P) w T U E s hT hU hE;refine bS.value hd λO' ak=>⟨.slice (some ⟨w.heap.size,0,none⟩) s.size (grownCap w s.size 0 E),Lib.bytesWorld w E s,by simp[execOp,ho,aL,qe],?_⟩
 simp only[PI.runs,PI.run,az] at ak;obtain⟨ρ1,g1,ρ2,g2,g3⟩:=ak;cases c1:((PE.ci BinOp.leq (.slen e) (.con (.int oU))).ev O).b<;>simp only[c1,zyy,zyx] at g1
 .cases g1
 cases g1;cases g2;cases g3;have aqP:s.size<=4294967296:=by
  simp[PE.ev,bu,D.s,D.i,D.b,jN,D.int,oU] at c1;omega
 have fE:Below w.heap.size w (Lib.bytesWorld w E s):=⟨rfl,rfl,rfl,by rw[Lib.bytesWorld_size];omega,λk hk=>Lib.bytesWorld_at_old w E s k hk⟩
 have aI:(Lib.bytesWorld w E s).heap.size=w.heap.size+1:=Lib.bytesWorld_size w E s
 let V':Im:={c:=λk i=>if k=w.heap.size then(if i<s.size then some (.int .u8 (s.data.toList.getD i 0).toNat) else none) else V.c k i,m:=V.m}
 have hle:V.le V':=by
  refine⟨λk o v hc=>?_,λk es hc=>hc⟩;have:k≠w.heap.size:=by have:=h.lt hc;omega
  simp[V',this,hc]
 have ar:V'.ok (Lib.bytesWorld w E s):=by
  refine⟨λk i v hc=>?_,(h.ok.below fE).m,λk i v hc=>?_⟩
  all_goals simp only[V'] at hc
  all_goals split at hc
  .rename_i ek;subst ek;split at hc
   .rename_i hi;cases hc;exact Lib.bytesWorld_cell w E s i hi
   .cases hc
  .exact(h.ok.below fE).c k i v hc
  .split at hc<;>cases hc
  .exact(h.ok.below fE).f k i v hc
 have h1:=h.step (S':=S) (O':=O) (V':=V') (own':=own) (hv':=hv) (A':=A) (a':=a) (w':=Lib.bytesWorld w E s) (λ_=>False) rfl hle ar (λk i v hc=>?_) (λk es hc=>.inl hc) (fE.mono h.below.size) ⟨λ_=>aX _,λ_ _=>rfl⟩
  (λj _=>⟨rfl,rfl,rfl,λk hk=>⟨hk,fE.block k (h.owns k j hk).2.1⟩⟩) (λj hj=>hj.elim) (λk j hk=>?_) (λ_=>id) (λt=>.inl ⟨rfl,rfl,rfl⟩) (λ_ _=>rfl) (λk hk _=>fE.block k hk) (λk i hk=>.inl ⟨i,hk⟩) (λ_ hf=>hf.elim)
 .refine⟨_,_,_,h1.setReg ht (s:=.dat (.slice (.int .u8))) ?_ af (λ_ _ e=>by cases e)⟩;show Rep C.cap V' _ _ _;simp only[PE.ev,bu,D.s];refine .slice (.int .u8) w.heap.size 0 s.size _ _ (λi=>.int .u8 (s.data.toList.getD i 0).toNat) (by simp) (grownCap_ge w s.size 0 E) (grownCap_le_maxLen w s.size 0 E (by unfold maxLen;omega)) (λi x hx=>?_) (λi j u hi hu=>?_) (λe=>by cases e)
  .simp only[bX,aB] at hx;obtain⟨b,hb,rfl⟩:=hx;have:s.data.toList.getD i 0=b:=by simp[aE,hb]
   rw[this];have:=b.toNat_lt;exact .int .u8 _ (by show(0:Int)<=_;omega) (by show _<=(255:Int);omega)
  .have hj:j=0:=by
        have:=(ed.1 hu).1;simp[Value.cells] at this;exact this
   subst hj;simp[Value.cells] at hu;subst hu;simp[V',Ty.size,hi]
 .simp only[V'] at hc;split at hc
  .rename_i ek;exact .inr ⟨by have:=h.below.size;omega,.inr (by omega)⟩
  .exact .inl hc
 .obtain⟨g1,g2,g3,g4⟩:=h.owns k j hk;refine⟨g1,by omega,λi=>?_,g4⟩;have:k≠w.heap.size:=by omega
  simp[V',this,g3 i]
end
def K4 (C:Ctx)(S:St)(gs:List (Nat×Bool))(e:Ty)(z:D)(parts:List (Nat×Operand))(i:Nat):Option PE:=
 match parts.find? (λp=>Nat.beq p.1 i) with
 |some p=>(use C S gs p.2).bind λa=>bif Ty.sub a.1 e then some a.2 else Option.none
 |Option.none=>some (PE.con z)
def yp (C:Ctx)(S:St)(gs:List (Nat×Bool))(dst:Nat)(T:TypeId)(len:Nat)(parts:List (Nat×Operand)):ls:=
 match C.P.underlying T with
 |some (.slice E)=>
  (qI C.P E).bind λe=>(qK e).bind λz=>
    bif sU C.P E e&&Ty.sub z.1 e&&hZ (parts.map (·.1))&&parts.all (λp=>Nat.blt p.1 len)&&Nat.ble (len*e.size) 16777216 then
     ((List.range len).mapM (K4 C S gs e z.2 parts)).map λes=>(mkObj S dst (.row E e),[.setO dst (.lst es),.setR dst (.con .none)])
    else Option.none
 |_=>Option.none
def BI (C:Ctx)(S:St)(gs:List (Nat×Bool))(dst:Nat)(T:TypeId)(len:Nat)(parts:List (Nat×Operand)):ls:=
 match C.P.underlying T,yp C S gs dst T len parts with
 |some (.slice E),some r=>
  (qI C.P E).bind λe=>
    match r.2 with
    |.setO _ x::_=>some ((S.newO dst .dead).setR dst (match gs with|[]=>.dat (.slice e.rol)|_=>.opt gs (.dat (.slice e.rol))),[.setR dst x])
    |_=>Option.none
 |_,_=>Option.none
def Rt (S:St):AgC->Bool
 |.dat _=>true
 |.obj j ver=>Nat.beq ver (S.ver j)&&lM (S.o j)
def EZ (C:Ctx)(S:St)(T:TypeId)(x v:Operand):ls:=
 match C.P.info? T with
 |some inf=>
  match gL S [] x with
  |.ptr j ver off=>
   bif Nat.beq ver (S.ver j) then
    match S.o j with
    |.box ag shs=>
     match use C S [] v with
     |some (t,e)=>
      bif Nat.beq inf.size t.size&&(t.rowT||t.one)&&Nat.ble (off+t.size) shs.length then
             some (S.setO j (.box ag (shs.take off++t.flat.map .dat++shs.drop (off+t.size))),[.setO j (.setc (.o j) off e)])
      else Option.none
     |Option.none=>
      match gL S [] v with
      |.obj j' nJ=>
       bif Nat.beq nJ (S.ver j')&&lM (S.o j')&&Nat.beq inf.size 1&&Nat.blt off shs.length then
              some (S.setO j (.box ag (shs.set off (.obj j' nJ))),[.setO j (.setc (.o j) off (.con .none))])
       else Option.none
      |.agg l=>
       bif Nat.beq inf.size l.length&&Nat.ble (off+l.length) shs.length&&l.all (Rt S) then
              some (S.setO j (.box ag (shs.take off++l.map AgC.sh++shs.drop (off+l.length))),[.setO j (.setc (.o j) off (sB v))])
       else Option.none
      |_=>Option.none
    |_=>Option.none
   else Option.none
  |.eptr j ver size off=>
   bif Nat.beq ver (S.ver j) then
    match S.o j,use C S [] v with
    |.row _ (.agg ts),some (t,e)=>
     bif Nat.beq inf.size t.size&&(t.rowT||t.one)&&Nat.beq size ts.length&&Nat.ble (off+t.size) ts.length&&Ty.subs t.flat ((ts.drop off).take t.size) then
         some (S,[.setO j (.setn (.o j) (sB x) off e)])
     else Option.none
    |.row _ e0,some (t,e)=>
     bif Nat.beq inf.size 1&&Nat.beq size 1&&Nat.beq off 0&&e0.one&&Ty.sub t e0 then some (S,[.setO j (.setn (.o j) (sB x) 0 e)]) else Option.none
    |_,_=>Option.none
   else Option.none
  |_=>Option.none
 |Option.none=>Option.none
def BJ (C:Ctx)(S:St)(T:TypeId)(m k v:Operand):ls:=
 match C.P.underlying T,gL S [] m with
 |some (.map K _),.obj j ver=>
  bif Nat.beq ver (S.ver j) then
   match S.o j,use C S [] k,use C S [] v with
   |.mp kt et,some (tk,ek),some (tv,ev)=>
    bif Ty.beq tk kt&&wG C.P K kt&&Ty.sub tv et then some (S,[.chk (.ci .lss (.mlen (.o j)) (.con (.int oU))),.setO j (.put (.o j) ek ev)]) else Option.none
   |_,_,_=>Option.none
  else Option.none
 |_,_=>Option.none
def Mr (x y:PE):PE:=.ci .leq (.llen (.app x y)) (.con (.int oU))
def OE:Ty->Ty->Bool
 |.slice e',e=>Ty.beq e'.unf e
 |.nils _,_=>true
 |_,_=>false
def EM (C:Ctx)(S:St)(dst:Nat)(T:TypeId)(s x:Operand):ls:=
 match C.P.underlying T with
 |some (.slice E)=>
  (qI C.P E).bind λe=>
    match view C S [] x with
    |some (tx,ex)=>
     bif sU C.P E e&&OE tx e then
        match use C S [] s with
        |some (.nils _,_)=>some (mkObj S dst (.row E e),[.chk (Mr (.con (.list [])) ex),.setO dst (.app (.con (.list [])) ex),.setR dst (.con .none)])
        |some _=>Option.none
        |Option.none=>
         match gL S [] s with
         |.obj j ver=>
          bif Nat.beq ver (S.ver j) then
             match S.o j with
             |.row E' e'=>
              bif Nat.beq E' E&&Ty.beq e' e then
                some ((S.newO j (.row E e)).setR dst (.obj j (S.ver j+1)),[.chk (Mr (.o j) ex),.setO j (.app (.o j) ex),.setR dst (.con .none)])
              else Option.none
             |_=>Option.none
          else Option.none
         |_=>Option.none
     else Option.none
    |Option.none=>Option.none
 |_=>Option.none
def Q9 {P:Program}{T:TypeId}{e:Ty}(h:sU P T e=true):∃inf z,P.info? T=some inf/\inf.size=e.size/\inf.bytes<=zf/\1<=e.size/\inf.zero=some z/\kf e z=true:=by
 unfold sU at h;split at h
 .rename_i i hi;simp only[ao] at h;have h4:=h.2;unfold vq at h4;split at h4
  .rename_i z hz;exact⟨i,z,hi,ay h.1.1.1,jI h.1.1.2,jI h.1.2,hz,h4⟩
  .cases h4
 .cases h
def aaa {e:Ty}{z:Value}(h:kf e z=true):z.cells.size=e.size:=by
 cases e with
 |agg ts=>
  cases z with
  |agg vs=>simp only[kf] at h;have:=(aab ts vs.toList h).1;simpa [Value.cells,Ty.size] using this
  |_=>simp[kf] at h
 |_=>cases z<;>simp_all [kf,Ae,Value.cells,Ty.size]
def alO {O:Env}{x y:PE}(h:((PE.ci .lss x y).ev O).b=true):(x.ev O).i<(y.ev O).i:=by
 simpa [PE.ev,D.b_bool,jN] using h
def abw {O:Env}{x y:PE}(h:((PE.ci .leq x y).ev O).b=true):(x.ev O).i<=(y.ev O).i:=by
 simpa [PE.ev,D.b_bool,jN] using h
def asN {n:Nat}(h:(n:Int)<oU):n<4294967296:=by unfold oU at h;omega
def aeU {n:Nat}(h:(n:Int)<=oU):n<=4294967296:=by unfold oU at h;omega
def St.setO_self {S:St}{j:Nat}{ob:Ob}(h:S.o j=ob):S.setO j ob=S:=by
 have:bW S.o j ob=S.o:=by
  funext i;rw[fp];split
  .rename_i e;subst e;exact h.symm
  .rfl
 cases S;simp only[St.setO] at this ⊢;rw[this]
section
variable {C:Ctx} {S:St} {O:Env} {V:Im} {own:Nat->Option Nat} {hv:Nat->Value} {w0:World} {σ0:Base} {A:Nat->Prop} {a:Act} {w:World} {gs:List (Nat×Bool)} {Z:aS} {dst:Nat}
def Inv.updO (h:Inv C S O V own hv w0 σ0 A a w)(j:Nat)(ob:Ob)(d:D)(v:Value)(nb:Nat->Bool){w':World}(hw:Below w0.heap.size w w')
 (rF:∀k,k<w.heap.size->own k≠some j->w'.heap[k]?=w.heap[k]?) (dT:∀k,nb k=true->(own k=some j\/w.heap.size<=k)/\k<w'.heap.size)
 (cR:bY C (S.newO j ob) (O.setO j d) V (fM own j nb) (bW hv j v) w' w0.heap.size j ob) (oL:ob≠.tr:=by intro h;cases h):Inv C (S.newO j ob) (O.setO j d) V (fM own j nb) (bW hv j v) w0 σ0 A a w':=by
 have aI:w0.heap.size<=w.heap.size:=h.below.size;have bp:∀k i,i≠j->own k=some i->fM own j nb k=some i:=by
  intro k i hi hk;have h1:=h.owns k i hk;have h2:nb k=false:=by
   cases hn:nb k with
   |false=>rfl
   |true=>
    rcases(dT k hn).1 with e|e
    .rw[hk] at e;simp at e;exact absurd e hi
    .omega
  simp[fM,h2,hk,hi]
 have ar:V.ok w':=by
  refine⟨λk o u hc=>?_,λk es hc=>?_,h.ok.fz λk o v hc=>rF k (h.lt hc) λe=>by rw[(h.owns k j e).2.2.1 o] at hc;cases hc⟩
  .have au:own k≠some j:=λe=>by rw[(h.owns k j e).2.2.1 o] at hc;cases hc
   rw[World.cell?_of_block (rF k (h.lt hc) au)];exact h.ok.c k o u hc
  .have au:own k≠some j:=λe=>by rw[(h.owns k j e).2.2.2] at hc;cases hc
   exact(h.ok.m k es hc).keep (rF k (h.ltm hc) au)
 refine h.step (λi=>i=j) rfl (.refl V) ar (λ_ _ _ hx=>.inl hx) (λ_ _ hx=>.inl hx) hw ⟨λi=>?_,λi e=>?_⟩ (λi hi=>⟨?_,?_,?_,λk hk=>⟨bp k i hi hk,?_⟩⟩) (λi hi=>?_) (λk i hk=>?_) (λ_=>id) (λt=>.inl ⟨rfl,rfl,rfl⟩) (λ_ _=>rfl) (λk hk e=>rF k hk (by rw[e];simp)) (λk i hk=>by
  unfold fM at hk;split at hk
  .rename_i hn;rcases(dT k hn).1 with e|e
   .exact .inl ⟨j,e⟩
   .exact .inr e
  .split at hk
   .cases hk
   .exact .inl ⟨i,hk⟩) (λi hi=>by subst hi;simpa only[St.newO,aN] using oL)
 .simp only[St.newO,fp];split<;>rename_i e
  .subst e;omega
  .omega
 .simp only[St.newO,fp] at e;split at e
  .rename_i e';subst e';omega
  .rename_i au;exact bB _ _ au
 .simp[St.newO,bB _ _ hi]
 .simp[Env.setO,bB _ _ hi]
 .exact bB _ _ hi
 .exact rF k (h.owns k i hk).2.1 (by rw[hk];simpa using hi)
 .subst hi;simp only[St.newO,aN];exact cR
 .unfold fM at hk;split at hk
  .rename_i hn;obtain⟨g1,g2⟩:=dT k hn;rcases g1 with e|e
   .obtain⟨f1,f2,f3,f4⟩:=h.owns k j e;exact⟨f1,g2,f3,f4⟩
   .refine⟨by omega,g2,λo=>?_,?_⟩
    .cases hc:V.c k o with
     |none=>rfl
     |some u=>have:=h.lt hc;omega
    .cases hc:V.m k with
     |none=>rfl
     |some u=>have:=h.ltm hc;omega
  .split at hk
   .cases hk
   .obtain⟨g1,g2,g3,g4⟩:=h.owns k i hk;exact⟨g1,by have:=hw.size;omega,g3,g4⟩
def Inv.updB (h:Inv C S O V own hv w0 σ0 A a w)(j:Nat)(ob:Ob)(d:D){w':World}(hw:Below w0.heap.size w w')
 (rF:∀k,k<w.heap.size->own k≠some j->w'.heap[k]?=w.heap[k]?)
 (cR:bY C (S.setO j ob) (O.setO j d) V own hv w' w0.heap.size j ob) (oL:ob≠.tr:=by intro h;cases h):Inv C (S.setO j ob) (O.setO j d) V own hv w0 σ0 A a w':=by
 have ar:V.ok w':=by
  refine⟨λk o u hc=>?_,λk es hc=>?_,h.ok.fz λk o v hc=>rF k (h.lt hc) λe=>by rw[(h.owns k j e).2.2.1 o] at hc;cases hc⟩
  .have au:own k≠some j:=λe=>by rw[(h.owns k j e).2.2.1 o] at hc;cases hc
   rw[World.cell?_of_block (rF k (h.lt hc) au)];exact h.ok.c k o u hc
  .have au:own k≠some j:=λe=>by rw[(h.owns k j e).2.2.2] at hc;cases hc
   exact(h.ok.m k es hc).keep (rF k (h.ltm hc) au)
 refine h.step (λi=>i=j) rfl (.refl V) ar (λ_ _ _ hx=>.inl hx) (λ_ _ hx=>.inl hx) hw (Compat.setO _ _ _ _) (λi hi=>⟨by simp[St.setO,bB _ _ hi],by simp[Env.setO,bB _ _ hi],rfl,λk hk=>⟨hk,rF k (h.owns k i hk).2.1 (by rw[hk];simpa using hi)⟩⟩) (λi hi=>?_) (λk i hk=>?_) (λ_=>id) (λt=>.inl ⟨rfl,rfl,rfl⟩) (λ_ _=>rfl) (λk hk e=>rF k hk (by rw[e];simp)) (λk i hk=>.inl ⟨i,hk⟩) (λi hi=>by subst hi;rw[St.setO_o];exact oL)
 .subst hi;rw[St.setO_o];exact cR
 .obtain⟨g1,g2,g3,g4⟩:=h.owns k i hk;exact⟨g1,by have:=hw.size;omega,g3,g4⟩
def acx {B:Nat}{w w':World}{row:Option Nat}(hg:w.grownBy w' row)(hB:B<=w.heap.size)(hr:∀k,row=some k->B<=k):Below B w w':=(Below.refl B w).grown hg hB hr
def afa {z:Array Value}{n i q:Nat}(hz:0<z.size)(hi:i<n)(hq:q<z.size):(madeCells z (n*z.size))[i*z.size+q]?=z[q]?:=by
 have af:i*z.size+q<n*z.size:=by
  have:(i+1)*z.size<=n*z.size:=jJ _ hi;rw[jH] at this;omega
 have hm:(i*z.size+q)%z.size=q:=by rw[Av,aaE,I9 hq]
 simp[madeCells,Array.getElem?_range,af,hm,hq]
def anc (h:Inv C S O V own hv w0 σ0 A a w)(hC:CtxOK C σ0)(ht:¬A dst)(af:dst<a.tmps.size){T:TypeId}{l c:Operand}{r:St×List PI}(hr:EV C S dst T l c=some r){o:Oper}(hd:o.dst=some dst)(ho:o.op=.makeSlice T l c):bS C w0 σ0 Z S O A a w o r:=by
 unfold EV at hr;split at hr
 case h_2=>cases hr
 rename_i E k1 n k2 m hT hl hc;simp only[az] at hr;obtain⟨e,he,hr⟩:=hr;cases hf:sU C.P E e<;>simp only[hf,zyy,zyx] at hr
 .cases hr
 obtain⟨inf,z0,hi,hs,hb,h1,hz,nk⟩:=Q9 hf;simp only[az] at hr;obtain⟨z,hzt,hr⟩:=hr;cases cg:Ty.sub z.1 e<;>simp only[cg,zyy,zyx] at hr
 .cases hr
 cases hr;obtain⟨n1,aL,bu,b1,b2⟩:=(cv h hC rfl hl).int_inv;obtain⟨n2,iK,dD,b3,b4⟩:=(cv h hC rfl hc).int_inv;simp only at bu dD;have Gr:=((Af (cap:=C.cap) (V:=V) hzt nk).1).sub cg;refine bS.value hd λO' ak=>?_;simp only[PI.runs,PI.run,az] at ak;obtain⟨ρ1,g1,ρ2,g2,ak⟩:=ak;cases c1:((TE n).ev O).b<;>simp only[c1,zyy,zyx] at g1
 .cases g1
 cases g1;cases c2:((PE.ci BinOp.eql n m).ev O).b<;>simp only[c2,zyy,zyx] at g2
 .cases g2
 cases g2;have aq2:n1=n2:=by simpa [PE.ev,bu,dD,D.i_int,D.b_bool,jN] using c2
 subst aq2;have hb:0<=n1/\n1<=oU:=by simpa [TE,PE.ev,bu,D.i_int,D.b_bool,jN,D.int] using c1
 obtain⟨nn,rfl⟩:=qP hb.1;have FW:nn<=4294967296:=by have:=hb.2;unfold oU at this;omega
 have jy:z0.cells.size=e.size:=aaa nk;obtain⟨w',r1,r2,r3⟩:=run_make_full (P:=C.P) w w0.heap.size T E inf z0 e.size hT hi hz hs k1 k2 nn (by
  have:inf.bytes*nn<=zf*4294967296:=Aw (by assumption) FW;unfold zf at this;omega) (by unfold maxLen;omega) h.below.size
 refine⟨.slice (some ⟨w.heap.size,0,none⟩) nn nn,w',by simp[execOp,ho,aL,iK,r1],?_⟩;obtain⟨ρ3,g3,ρ4,g4,g5⟩:=ak;cases g3;cases g4;cases g5;simp only[PE.ev,bu,D.i_int,xK];have hlen:(List.replicate nn z.2).length=nn:=by simp
 refine h.mkObj ht af (.row E e) _ _ (λk=>Nat.beq k w.heap.size) (acx r3 (aX _) (by simp)) (λk hk=>?_) ⟨_,List.replicate nn z.2,by simp[Env.setO,aN],by rw[aN,hlen];exact r2,⟨λ_=>z0,λi x hx=>?_,λi j u hi hj=>?_⟩,λk hk=>?_⟩
 .have bf:k=w.heap.size:=ay hk;have:=(r2.lt _ rfl).2;subst bf;exact⟨aX _,this⟩
 .have:=(eu.1 hx)
  obtain⟨q1,q2⟩:=this;simp at q2;subst q2;exact Gr
 .rw[hlen] at hi;have bC:j<z0.cells.size:=(ed.1 hj).1;rw[py,<-jy];rw[afa (by omega) hi bC];exact hj
 .rw[aN] at hk;simp[Value.ownBlock] at hk;simp[fM,hk]
def nN.push {arr:Array MapEntry}{clock:Nat}(h:nN arr clock)(k v:Value):nN (arr.push {key:=k,val:=v,born:=clock}) (clock+1):=by
 have key:∀(i:Nat) (e:MapEntry),(arr.push {key:=k,val:=v,born:=clock})[i]?=some e->(arr[i]?=some e/\e.born<clock)\/(i=arr.size/\e.born=clock):=by
  intro i e he;rw[Array.getElem?_push] at he;split at he
  .rename_i hi;cases he;exact .inr ⟨hi,rfl⟩
  .exact .inl ⟨he,h.1 i e he⟩
 refine⟨λi e he=>?_,λi j e f he hf hb=>?_⟩
 .rcases key i e he with⟨_,h1⟩|⟨_,h1⟩<;>omega
 .rcases key i e he with⟨h1,h2⟩|⟨h1,h2⟩<;>rcases key j f hf with⟨h3,h4⟩|⟨h3,h4⟩
  .exact h.2 i j e f h1 h3 hb
  .omega
  .omega
  .omega
def nN.modify {arr:Array MapEntry}{clock:Nat}(h:nN arr clock)(i0:Nat)(k v:Value):nN (arr.modify i0 λe=>{e with key:=k,val:=v}) clock:=by
 have key:∀(i:Nat) (e:MapEntry),(arr.modify i0 λe=>{e with key:=k,val:=v})[i]?=some e->∃e',arr[i]?=some e'/\e'.born=e.born:=by
  intro i e he;rw[Pd] at he;split at he
  .simp only[aB] at he;obtain⟨e',h1,rfl⟩:=he;exact⟨e',h1,rfl⟩
  .exact⟨e,he,rfl⟩
 refine⟨λi e he=>?_,λi j e f he hf hb=>?_⟩
 .obtain⟨e',h1,h2⟩:=key i e he;rw[<-h2];exact h.1 i e' h1
 .obtain⟨e',h1,h2⟩:=key i e he;obtain⟨f',h3,h4⟩:=key j f hf;exact h.2 i j e' f' h1 h3 (by rw[h2,h4,hb])
def abW (h:Inv C S O V own hv w0 σ0 A a w)(hC:CtxOK C σ0){T:TypeId}{m k v:Operand}{r:St×List PI}(hr:BJ C S T m k v=some r){o:Oper}(hd:o.dst=none)(ho:o.op=.mapUpdate T m k v\/o.op=.insert T m k v):bS C w0 σ0 Z S O A a w o r:=by
 unfold BJ at hr;split at hr
 case h_2=>cases hr
 rename_i K E j ver hT es;obtain⟨dV,_⟩:=ua h (gs:=[]) rfl m;rw[es] at dV;cases hb:Nat.beq ver (S.ver j)<;>simp only[hb,zyy,zyx] at hr
 .cases hr
 have ct:=dV.2 (ay hb);have bj:=h.objs j;split at hr
 case h_2=>cases hr
 rename_i kt et tk ek tv ev eo hk y5;rw[eo] at bj;cases hc:(Ty.beq tk kt&&wG C.P K kt&&Ty.sub tv et)<;>simp only[hc,zyy,zyx] at hr
 .cases hr
 cases hr;simp only[ao] at hc;obtain⟨⟨LR,FL⟩,cg⟩:=hc;obtain⟨g,arr,clock,ds,h1,h2,h3,h4,h5,⟨h6,tg⟩,h7⟩:=bj;have bf:=cv h hC rfl hk;rw[Ty.beq_eq _ _ LR] at bf;have hv':=(cv h hC rfl y5).sub cg;refine bS.skip hd λO' ak=>?_;simp only[PI.runs,PI.run,az] at ak;obtain⟨ρ1,g1,ρ2,g2,g3⟩:=ak;cases c1:((PE.ci BinOp.lss (.mlen (.o j)) (.con (.int oU))).ev O).b<;>simp only[c1,zyy,zyx] at g1
 .cases g1
 cases g1;cases g2;cases g3;have aqP:ds.length<4294967296:=by
  have h8:=alO c1;simp only[PE.ev,h4,D.m,D.i_int,D.int] at h8;exact asN h8
 have jR:(Instr.checkKey false 10000 K (a.eval k)).run C.P w=.ok () w:=abv (cap:=C.cap) (V:=V) FL bf;have fX:∃vH BB ds',(Instr.mapUpdate T (a.eval m) (a.eval k) (a.eval v)).run C.P w=.ok () {w with heap:=w.heap.setIfInBounds g (.map vH BB)}/\fj (ek.ev O) (ev.ev O) ds=ds'/\ds'.length=vH.size/\(ds'.length<=maxLen/\nN vH BB)/\
  ∀(i:Nat) (e:MapEntry) (p:D×D),vH[i]?=some e->ds'[i]?=some p->Rep C.cap V kt e.key p.1/\Rep C.cap V et e.val p.2:=by
  rcases run_findKey FL bf arr ds h5 h7 w with⟨f1,f2,f3⟩|⟨i,e,p,f1,f2,f3,f4,f5,f6⟩
  .refine⟨arr.push {key:=a.eval k,val:=a.eval v,born:=clock},clock+1,ds++[(ek.ev O,ev.ev O)],?_,f3 _,by simp[h5],⟨by simp;unfold maxLen;omega,tg.push _ _⟩,λq e p he hp=>?_⟩
   .rw[ct,h1];simp[Instr.mapUpdate,run_underlying hT,getObj,Sem.run,h3,jR,f1,setObj]
   .rw[Array.getElem?_push] at he;rw[lZ] at hp;by_cases hq:q=arr.size
    .subst hq;simp at he;rw[if_neg (by omega)] at hp;simp[h5] at hp;subst he;subst hp;exact⟨bf,hv'⟩
    .rw[if_neg hq] at he;have uV:q<arr.size:=(ed.1 he).1;rw[if_pos (by omega)] at hp;exact h7 q e p he hp
  .refine⟨arr.modify i λe=>{e with key:=a.eval k,val:=a.eval v},clock,ds.set i (ek.ev O,ev.ev O),?_,f5 _,by simp[h5],⟨by simp;exact h6,tg.modify _ _ _⟩,λq e' p' he hp=>?_⟩
   .rw[ct,h1];have cA:(Instr.keyThatStays e.key (a.eval k)).run C.P w=.ok (a.eval k) w:=by simp[Instr.keyThatStays,f6]
    simp[Instr.mapUpdate,run_underlying hT,getObj,Sem.run,h3,jR,f3,f1,cA,setObj]
   .rw[Pd] at he;rw[DU] at hp;by_cases hq:i=q
    .subst hq;simp only[if_true] at he hp;rw[f1] at he;simp at he;split at hp
     .cases hp;subst he;exact⟨bf,hv'⟩
     .cases hp
    .rw[if_neg hq] at he hp;exact h7 q e' p' he hp
 obtain⟨vH,BB,ds',r1,r2,r3,r4,r5⟩:=fX;refine⟨{w with heap:=w.heap.setIfInBounds g (.map vH BB)},by rcases ho with ho|ho<;>simp[execOp,ho,r1],?_⟩;have FF:g<w.heap.size:=(ed.1 h3).1;have hgB:w0.heap.size<=g:=(h.owns g j h2).1;have bL:(PE.put (.o j) ek ev).ev O=.map ds':=by simp only[PE.ev,h4,D.m,r2]
 rw[bL]
 have:=h.updB j (.mp kt et) (.map ds') (w':={w with heap:=w.heap.setIfInBounds g (.map vH BB)}) ⟨rfl,rfl,rfl,by simp,λk hk=>by simp;rw[aad (by omega)]⟩
  (λk hk au=>by simp;rw[aad (λe=>au (by rw[<-e];exact h2))])
  ⟨g,vH,BB,ds',h1,h2,by simp[FF],by simp[Env.setO,aN],r3,r4,r5⟩
 have eS:S.setO j (.mp kt et)=S:=St.setO_self eo;rw[eS] at this;exact⟨_,_,_,this⟩
end
def aA0 {e:Ty}{z:Value}(h:kf e z=true):e.rowT=true\/e.one=true:=by
 cases e<;>first|exact .inl rfl|exact .inr rfl|(cases z<;>simp[kf,Ae] at h)
def Rep.cellsOne {cap:Nat->Option CSig}{V:Im}{t:Ty}{v:Value}{d:D}(h:Rep cap V t v d)(ht:t.rowT=true\/t.one=true){m:Nat}{u:Value}(hu:v.cells[m]?=some u):u.oneCell'=true:=by
 obtain⟨f1,f2,f3⟩:=h.flat ht;have af:m<v.cells.size:=(ed.1 hu).1;rw[h.size] at af;obtain⟨g1,g2⟩:=f3 m _ (aU (by omega:m<t.flat.length));have:=(g2.oneCell g1).2;rw[fe,hu] at this;exact this
def ab3 {cap:Nat->Option CSig}{V:Im}{e:Ty}{cells:List Value}{xs:List D}(h:dh cap V e cells xs)(hl:cells.length=xs.length*e.size)(fY:e.rowT=true\/e.one=true):∀u∈cells,u.oneCell'=true:=by
 obtain⟨vs,h1,h2⟩:=h;intro u hu;obtain⟨p,hp,rfl⟩:=ew hu;rw[hl] at hp;have hs:0<e.size:=Nat.pos_of_ne_zero λe0=>by rw[e0] at hp;simp at hp
 have hi:p/e.size<xs.length:=(vB hs).2 hp;have hq:p%e.size<e.size:=pD _ hs;have bI:=h1 _ _ (aU hi);have aI:=bI.size;have kr:(vs (p/e.size)).cells[p%e.size]?=some (vs (p/e.size)).cells[p%e.size]:=ir (by omega);have:=h2 _ _ _ hi kr;rw[uq,xU] at this;have h3:cells[p]=(vs (p/e.size)).cells[p%e.size]:=by
  have h4:=aU (show p<cells.length by omega);rw[h4] at this;exact ur this
 rw[h3];exact bI.cellsOne fY kr
def anB {cap:Nat->Option CSig}{V:Im}{e:Ty}{c1 c2:List Value}{xs ys:List D}(h:dh cap V e c1 xs)(k:dh cap V e c2 ys)(hl:c1.length=xs.length*e.size):dh cap V e (c1++c2) (xs++ys):=by
 obtain⟨vs,h1,h2⟩:=h;obtain⟨us,k1,k2⟩:=k;refine⟨λi=>if i<xs.length then vs i else us (i-xs.length),λi x hx=>?_,λi j u hi hj=>?_⟩
 .rw[lZ] at hx;split at hx
  .rename_i af;simp only[af,if_true];exact h1 i x hx
  .rename_i af;simp only[af,if_false];exact k1 _ x hx
 .by_cases af:i<xs.length
  .simp only[af,if_true] at hj;have:=h2 i j u af hj;rw[nP (eu.1 this).1];exact this
  .simp only[af,if_false] at hj;have df:i-xs.length<ys.length:=by simp at hi;omega
   have:=k2 _ j u df hj;have e1:i*e.size=c1.length+(i-xs.length)*e.size:=by rw[hl,<-jH];congr 1;omega
   rw[nQ (by omega)];rw[show i*e.size+j-c1.length=(i-xs.length)*e.size+j by omega];exact this
section
variable {C:Ctx} {S:St} {O:Env} {V:Im} {own:Nat->Option Nat} {hv:Nat->Value} {w0:World} {σ0:Base} {A:Nat->Prop} {a:Act} {w:World} {gs:List (Nat×Bool)} {Z:aS} {dst:Nat}
def aAz (h:Inv C S O V own hv w0 σ0 A a w){B:Nat}{e f:Ty}{v:Value}{d:D}(hs:0<e.size)(fY:e.rowT=true\/e.one=true)(hf:f.unf=e)(Te:PD C V w B (.slice f) v d):
 ∃ys,d=.list ys/\ys.length<=maxLen/\((v=.slice none 0 0/\ys=[])\/∃(ad:Addr) (c:Nat) (news:List Value),v=.slice (some ad) ys.length c/\news.length=ys.length*e.size/\
  (∀j u,news[j]?=some u->w.cell? (ad.add j)=some u)/\dh C.cap V e news ys):=by
 rcases Te with hr|⟨T,e',cells,xs,ht,hd,bp,cU⟩|⟨k,arr,clock,es,kt,et,ht,_⟩
 .obtain⟨xs,hd,me⟩:=hr.slice_inv;rw[<-f.unf_size,hf] at me;rcases me with⟨⟨p0,aL⟩,rfl⟩|⟨k,o,c,aL,h1,h2,vs,h3,h4⟩
  .cases p0 with
   |none=>exact⟨[],hd,by simp,.inl ⟨aL,rfl⟩⟩
   |some a0=>exact⟨[],hd,by simp,.inr ⟨a0,0,[],aL,by simp,λj u hu=>by simp at hu,λ_=>undef,λi x hx=>by simp at hx,λi j u hi=>by simp at hi⟩⟩
  .refine⟨xs,hd,by omega,.inr ⟨⟨k,o,none⟩,c,(List.range (xs.length*e.size)).map λp=>(vs (p/e.size)).cells.getD (p%e.size) undef,aL,by simp,λj u hu=>?_,vs,h3,λi j u hi hj=>?_⟩⟩
   .simp only[bX,aB] at hu;obtain⟨p,hp,rfl⟩:=hu;have fF:j<xs.length*e.size:=by have:=(eu.1 hp).1;simpa using this
    rw[pz fF] at hp;cases hp;have hi:j/e.size<xs.length:=(vB hs).2 fF;have hq:j%e.size<e.size:=pD _ hs;have bI:=h3 _ _ (aU hi);have aI:=bI.size;have kr:(vs (j/e.size)).cells[j%e.size]?=some ((vs (j/e.size)).cells.getD (j%e.size) undef):=by
     rw[fe,ir (by omega)];rfl
    have:=h.cell (h4 _ _ _ hi kr);rw[sO]
    rwa [show o+j/e.size*e.size+j%e.size=o+j by rw[qU,uq,xU]] at this
   .have bI:=h3 _ _ (aU hi);have bC:j<e.size:=by rw[<-bI.size];exact(ed.1 hj).1
    have af:i*e.size+j<xs.length*e.size:=by
     have:(i+1)*e.size<=xs.length*e.size:=jJ _ hi;rw[jH] at this;omega
    have e1:(i*e.size+j)/e.size=i:=by rw[uq,Nat.mul_add_div hs,Nat.div_eq_of_lt bC];omega
    have e2:(i*e.size+j)%e.size=j:=by rw[Av,aaE,I9 bC]
    simp only[bX,pz af,kj,e1,e2];rw[fe,hj];rfl
 .cases ht;rw[Ty.unf_rol] at hf;obtain⟨b,c,aL,hm,_⟩:=zz bp;have cU:dh C.cap V e cells xs:=by
   obtain⟨us,u1,u2⟩:=cU;refine⟨us,λi x hx=>hf▸(u1 i x hx).unf,λi j u hi hu=>?_⟩;rw[<-hf,Ty.unf_size];exact u2 i j u hi hu
  have bp:w.ownsRow B T e.size v xs.length cells:=by rw[<-hf,Ty.unf_size];exact bp
  rcases bp.2 with⟨e1,e2⟩|⟨g,cap,cur,e1,e2⟩
  .have:xs=[]:=Pl e2;subst this;exact⟨[],hd,by simp,.inl ⟨e1,rfl⟩⟩
  .exact⟨xs,hd,hm,.inr ⟨⟨g,0,none⟩,cap,cells,e1,bp.1,bp.cells (by rw[e1];rfl),cU⟩⟩
 .cases ht
def awX {P:Program}{B:Nat}{T E ty:TypeId}{inf:TypeInfo}{z:Value}{size:Nat}{v x:Value}{n m:Nat}{xs news:List Value}(hT:P.underlying T=some (.slice E))(hi:P.info? E=some inf)(hz:inf.zero=some z)
 (hs:inf.size=size) (jy:z.cells.size=size) (aI:0<size) (rE:inf.bytes<=zf) (bp:w.ownsRow B E size v n xs) (hB:B<=w.heap.size) (cQ:n+m<=4294967296)
 (hx:(x=.slice none 0 0/\m=0/\news=[])\/∃(ad:Addr) (c:Nat),x=.slice (some ad) m c/\news.length=m*size/\(∀j u,news[j]?=some u->w.cell? (ad.add j)=some u)/\∀u∈news,u.oneCell'=true):
 ∃v' w',(Builtin.append_ #[T,T] ty #[v,x]).run P w=.ok v' w'/\w'.ownsRow B E size v' (n+m) (xs++news)/\w.grownBy w' v.ownBlock/\∀k,v'.ownBlock=some k->v.ownBlock=some k\/(w.heap.size<=k/\k<w'.heap.size):=by
 rcases hx with⟨rfl,rfl,rfl⟩|⟨ad,c,rfl,hl,LX,h1⟩
 .refine⟨v,w,run_append_owned_none w B T ty E inf size hT hi v n xs bp,by simpa using bp,⟨rfl,rfl,rfl,aX _,λ_ _ _=>rfl⟩,λk hk=>.inl hk⟩
 .have RT:(n+m)*inf.bytes<=140737488355328:=by
   have:(n+m)*inf.bytes<=4294967296*zf:=Aw cQ rE;unfold zf at this;omega
  obtain⟨v',w',r1,r2,r3,r4⟩:=run_append_own (P:=P) w B T ty E inf z size inf.bytes hT hi hz hs rfl jy aI v n xs bp ad m c news hl LX h1 (by unfold maxLen;omega) RT hB;refine⟨v',w',r1,r2,r3,λk hk=>?_⟩;have af:=(r2.lt k hk).2;subst hs;rcases bp.2 with⟨rfl,rfl⟩|⟨g,cap,cur,rfl,B2,hg,dp,oF,cH,Gg⟩
  .by_cases hm:m=0
   .subst hm;have:=r4.2 ⟨rfl,rfl⟩;subst this;simp[Value.ownBlock] at hk
   .have hr:=run_append_nil (P:=P) w T ty E inf z hT hi hz ad m c news hl LX (by omega) (by omega) (by have hb:=RT;simp only[fw] at hb;omega);rw[hr] at r1;cases r1;simp[Value.ownBlock] at hk;subst hk;exact .inr ⟨aX _,af⟩
  .by_cases adW:n+m<=cap
   .have LK:n*inf.size+news.length<=cur.size:=by rw[hl,cH,<-jH];exact jJ _ adW
    have hr:=run_append_room (P:=P) w T ty E inf hT hi g n cap cur hg ad m c news hl LX h1 adW LK;rw[hr] at r1;cases r1;exact .inl hk
   .have hr:=run_append_grow (P:=P) w T ty E inf z hT hi hz ⟨g,0,none⟩ n cap xs bp.1 (bp.cells (g:=g) rfl) ad m c news hl LX (by omega) (by omega) (growslice_fits (by omega) RT);rw[hr] at r1;cases r1;simp[Value.ownBlock] at hk;subst hk;exact .inr ⟨aX _,af⟩
def amQ (h:Inv C S O V own hv w0 σ0 A a w)(hC:CtxOK C σ0)(ht:¬A dst)(af:dst<a.tmps.size){T:TypeId}{s x:Operand}{r:St×List PI}(hr:EM C S dst T s x=some r){o:Oper}(hd:o.dst=some dst)
 (ho:o.op=.call {callee:=.builtin .append,args:=#[s,x],argTypes:=#[T,T]}):bS C w0 σ0 Z S O A a w o r:=by
 unfold EM at hr;split at hr
 case h_2=>cases hr
 rename_i E hT;simp only[az] at hr;obtain⟨e,he,hr⟩:=hr;split at hr
 case h_2=>cases hr
 rename_i tx ex Te;have hv':=ZV h hC (gs:=[]) rfl Te;obtain⟨cs,ak⟩:=WQ (C:=C) (w:=w) (a:=a) ho;cases hc:(sU C.P E e&&OE tx e)<;>simp only[hc,zyy,zyx] at hr
 .cases hr
 simp only[ao] at hc;obtain⟨inf,z,hi,hs,rE,h1,hz,nk⟩:=Q9 hc.1;have jy:=aaa nk;have fY:=aA0 nk;have Tf:∃f:Ty,f.unf=e/\PD C V w w0.heap.size (.slice f) (a.eval x) (ex.ev O):=by
  have cA:=hc.2;unfold OE at cA;split at cA
  .exact⟨_,Ty.beq_eq _ _ cA,hv'⟩
  .refine⟨e,Ty.unf_ro fY,?_⟩;rcases hv' with hr|⟨_,_,_,_,ht,_⟩|⟨_,_,_,_,_,_,ht,_⟩
   .exact .inl (hr.sub (by simp[Ty.sub]))
   .cases ht
   .cases ht
  .cases cA
 obtain⟨fv,eW,Tf⟩:=Tf;obtain⟨ys,LJ,mq,arQ⟩:=aAz h h1 fY eW Tf;have hx:∃news,dh C.cap V e news ys/\news.length=ys.length*e.size/\((a.eval x=.slice none 0 0/\ys.length=0/\news=[])\/∃(ad:Addr) (c:Nat),a.eval x=.slice (some ad) ys.length c/\news.length=ys.length*e.size/\(∀j u,news[j]?=some u->w.cell? (ad.add j)=some u)/\∀u∈news,u.oneCell'=true):=by
  rcases arQ with⟨e1,rfl⟩|⟨ad,c,news,e1,e2,e3,e4⟩
  .exact⟨[],⟨λ_=>undef,by simp,by simp⟩,by simp,.inl ⟨e1,rfl,rfl⟩⟩
  .exact⟨news,e4,e2,.inr ⟨ad,c,e1,e2,e3,ab3 e4 e2 fY⟩⟩
 obtain⟨news,au,FV,hx⟩:=hx;have main:∀(j:Nat) (v:Value) (xs:List D) (cells:List Value),a.eval s=v->w.ownsRow w0.heap.size E e.size v xs.length cells->dh C.cap V e cells xs->xs.length+ys.length<=4294967296->
  (∀k,v.ownBlock=some k->own k=some j)->
  ∃v' w',(execOp a.eval o).run C.P w=.ok (.value v') w'/\Good C w0 σ0 ((S.newO j (.row E e)).setR dst (.obj j (S.ver j+1))) ((O.setO j (.list (xs++ys))).setR dst .none) (λu=>A u\/u=dst) (a.put (some dst) v') w':=by
  intro j v xs cells SZ bp cU hlen cR;obtain⟨v',w',r1,r2,r3,r4⟩:=awX (P:=C.P) (ty:=o.type) hT hi hz hs jy h1 rE bp h.below.size hlen hx;refine⟨v',w',by rw[ak];simp[builtin,SZ,r1],?_⟩
  have Tb:=h.updO j (.row E e) (.list (xs++ys)) v' (λk=>decide (v'.ownBlock=some k)) (w':=w') (acx r3 h.below.size (λk hk=>(h.owns k j (cR k hk)).1)) (λk hk au=>r3.block k hk (λe=>au (cR k e.symm))) (λk hk=>by
        have bf:v'.ownBlock=some k:=by simpa using hk
        rcases r4 k bf with e|e
        .exact⟨.inl (cR k e),(r2.lt k bf).2⟩
        .exact⟨.inr e.1,e.2⟩)
   ⟨cells++news,xs++ys,by simp[Env.setO,aN],by rw[aN,mM];exact r2,anB cU au bp.1,λk hk=>by rw[aN] at hk;simp[fM,hk]⟩
  have h2:=Tb.setObj ht (j:=j) (v:=v') (aN _ _ _) af;have e:(S.newO j (.row E e)).ver j=S.ver j+1:=aN _ _ _;rw[e] at h2;exact⟨_,_,_,h2⟩
 split at hr
 .rename_i e0 pe0 hu;cases hr;refine bS.value hd λO' qd=>?_;have wq:=cv h hC rfl hu;have SZ:a.eval s=.slice none 0 0:=by
   generalize a.eval s=v at wq;generalize pe0.ev O=d at wq;cases wq;rfl
  simp only[PI.runs,PI.run,az] at qd;obtain⟨ρ1,g1,ρ2,g2,ρ3,g3,g4⟩:=qd;cases c1:((Mr (.con (.list [])) ex).ev O).b<;>simp only[c1,zyy,zyx] at g1
  .cases g1
  cases g1;cases g2;cases g3;cases g4;have hlen:=abw c1;simp only[PE.ev,D.l_list,LJ,xR,D.i_int,D.int] at hlen;have:=main dst (.slice none 0 0) [] [] SZ (World.ownsRow_nil _ _ _ _) ⟨λ_=>undef,by simp,by simp⟩ (by simpa using aeU hlen) (by simp[Value.ownBlock]);simpa [PE.ev,D.l_list,LJ,mkObj] using this
 .cases hr
 .obtain⟨dV,_⟩:=ua h (gs:=[]) rfl s;split at hr
  case h_2=>cases hr
  rename_i j ver es;rw[es] at dV;cases hb:Nat.beq ver (S.ver j)<;>simp only[hb,zyy,zyx] at hr
  .cases hr
  have ct:=dV.2 (ay hb);have bj:=h.objs j;split at hr
  case h_2=>cases hr
  rename_i E' e' eo;rw[eo] at bj;cases ky:(Nat.beq E' E&&Ty.beq e' e)<;>simp only[ky,zyy,zyx] at hr
  .cases hr
  cases hr;simp only[ao] at ky;have e1:=ay ky.1;have e2:=Ty.beq_eq _ _ ky.2;subst e1;subst e2;obtain⟨cells,xs,k1,k2,k3,k4⟩:=bj;refine bS.value hd λO' qd=>?_;simp only[PI.runs,PI.run,az] at qd;obtain⟨ρ1,g1,ρ2,g2,ρ3,g3,g4⟩:=qd;cases c1:((Mr (.o j) ex).ev O).b<;>simp only[c1,zyy,zyx] at g1
  .cases g1
  cases g1;cases g2;cases g3;cases g4;have hlen:=abw c1;simp only[PE.ev,D.l_list,LJ,k1,D.i_int,D.int] at hlen;have:=main j (hv j) xs cells ct k2 k3 (by have:=aeU hlen;simpa using this) k4;simpa [PE.ev,D.l_list,LJ,k1] using this
end
def It {P:Program}{a:Act}{w:World}{o:Oper}{T:TypeId}{x v:Operand}{inf:TypeInfo}{k off:Nat}{cs:Array Value}{E:TypeId}(ho:o.op=.store T x v)(hi:P.info? T=some inf)(hx:a.eval x=.pointer (some ⟨k,off,none⟩))
 (hs:(a.eval v).cells.size=inf.size) (dE:∀u∈(a.eval v).cells.toList,u.oneCell'=true) (hb:w.heap[k]?=some (.cells cs E (0,0))) (hle:off+inf.size<=cs.size):
 (execOp a.eval o).run P w=.ok .skip (w.setRow k (cs.toList.take off++(a.eval v).cells.toList++cs.toList.drop (off+inf.size)).toArray):=by
 have:=run_storeCells_at P k off E (a.eval v).cells.toList 0 cs w hb (by simp[hs];exact hle) dE;simp only[iU,Ag,hs] at this;simp[execOp,ho,Instr.storeAt,hx,Instr.sureAddr,storeVar,Go.sizeOf,run_typeInfo w hi,hs,this]
def ajf {w:World}{B k:Nat}{cs:Array Value}(hB:B<=k):Below B w (w.setRow k cs)/\∀i,i≠k->(w.setRow k cs).heap[i]?=w.heap[i]?:=
 ⟨⟨rfl,rfl,rfl,by simp[World.setRow],λi hi=>setRow_other w k i cs (by omega)⟩,λi hi=>setRow_other w k i cs hi⟩
def Lf {α:Type}(xs ys:List α)(off:Nat)(d:α)(hle:off+ys.length<=xs.length)(i:Nat):(xs.take off++ys++xs.drop (off+ys.length)).getD i d=if off<=i/\i<off+ys.length then ys.getD (i-off) d else xs.getD i d:=by
 simp only[aE,sK];rw[lZ,dO,mN (by omega)];split
 .rename_i h;rw[if_neg (by omega),fQ,if_pos h]
 .rename_i h;rw[lZ];split
  .rename_i h2;rw[if_pos (by omega)]
  .rename_i h2;rw[if_neg (by omega),gl];congr 2;omega
section
variable {C:Ctx} {S:St} {O:Env} {V:Im} {own:Nat->Option Nat} {hv:Nat->Value} {w0:World} {σ0:Base} {A:Nat->Prop} {a:Act} {w:World} {gs:List (Nat×Bool)} {Z:aS} {dst:Nat}
def Inv.storeBox (h:Inv C S O V own hv w0 σ0 A a w){j k off:Nat}{ag:Bool}{shs news:List Sh}{cs:Array Value}{E:TypeId}{ds dn:List D}{vs:List Value}(eo:S.o j=.box ag shs)
 (h1:hv j=.pointer (some ⟨k,0,none⟩)) (h2:own k=some j) (h3:w.heap[k]?=some (.cells cs E (0,0))) (h4:cs.size=shs.length) (h5:O.o j=.agg ds) (h6:ds.length=shs.length)
 (h7:∀i s,shs[i]?=some s->(∀gs s',s≠.opt gs s')/\aG C S O V hv s (cs.getD i undef) (ds.getD i .none))
 (l1:news.length=vs.length) (l2:dn.length=vs.length) (hle:off+vs.length<=shs.length)
 (mi:∀i s,news[i]?=some s->(∀gs s',s≠.opt gs s')/\aG C S O V hv s (vs.getD i undef) (dn.getD i .none)):
 Inv C (S.setO j (.box ag (shs.take off++news++shs.drop (off+vs.length)))) (O.setO j (.agg (dg ds off dn))) V own hv w0 σ0 A a (w.setRow k (cs.toList.take off++vs++cs.toList.drop (off+vs.length)).toArray):=by
 have hkB:w0.heap.size<=k:=(h.owns k j h2).1;obtain⟨b1,b2⟩:=ajf (w:=w) (B:=w0.heap.size) (k:=k) (cs:=(cs.toList.take off++vs++cs.toList.drop (off+vs.length)).toArray) hkB;refine h.updB j _ _ b1 (λi hi au=>b2 i λe=>au (e▸h2)) ⟨k,_,E,dg ds off dn,h1,h2,setRow_heap w k cs _ E _ h3,?_,by simp[Env.setO,aN],?_,λi s hi=>?_⟩
 .simp[l1];omega
 .simp[dg,l2,l1];omega
 .have cH:(cs.toList.take off++vs++cs.toList.drop (off+vs.length)).toArray.getD i undef=if off<=i/\i<off+vs.length then vs.getD (i-off) undef else cs.getD i undef:=by
   have e0:∀l:List Value,l.toArray.getD i undef=l.getD i undef:=λl=>by simp[fe,aE]
   rw[e0,Lf cs.toList vs off undef (by simp;omega),BU cs i]
  have jS:(dg ds off dn).getD i .none=if off<=i/\i<off+vs.length then dn.getD (i-off) .none else ds.getD i .none:=by
   rw[dg,Lf ds dn off .none (by omega),l2]
  rw[cH,jS];have adD:∀s v d,(∀gs s',s≠.opt gs s')->aG C S O V hv s v d->aG C (S.setO j (.box ag (shs.take off++news++shs.drop (off+vs.length)))) (O.setO j (.agg (dg ds off dn))) V hv s v d:=
   λs v d hn hk=>aG.mono' (.refl V) (Compat.setO _ _ _ _) hn hk
  have jV:(shs.take off++news++shs.drop (off+vs.length))[i]?=if off<=i/\i<off+vs.length then news[i-off]? else shs[i]?:=by
   rw[sK,lZ,dO,mN (by omega)];split
   .rename_i h;rw[if_neg (by omega),fQ,if_pos h]
   .rename_i h;rw[lZ,l1];split
    .rename_i h2;rw[if_pos (by omega)]
    .rename_i h2;rw[if_neg (by omega),gl];congr 1;omega
  rw[jV] at hi;split
  .rename_i hc;rw[if_pos hc] at hi;obtain⟨g1,g2⟩:=mi _ s hi;exact⟨g1,adD _ _ _ g1 g2⟩
  .rename_i hc;rw[if_neg hc] at hi;obtain⟨g1,g2⟩:=h7 _ s hi;exact⟨g1,adD _ _ _ g1 g2⟩
def ai5 (h:Inv C S O V own hv w0 σ0 A a w){j:Nat}(hr:lM (S.o j)=true):(hv j).cells=#[hv j]/\(hv j).oneCell'=true:=by
 have bj:=h.objs j;cases cR:S.o j with
 |row T e=>
  rw[cR] at bj;obtain⟨cells,xs,h1,h2,h3,h4⟩:=bj;obtain⟨b,c,e1,_⟩:=zz h2;rw[e1];exact⟨rfl,rfl⟩
 |mp kt et=>
  rw[cR] at bj;obtain⟨k0,arr,clock,es,h1,_⟩:=bj;rw[h1];exact⟨rfl,rfl⟩
 |_=>rw[cR] at hr;simp[lM] at hr
def Inv.storeRow (h:Inv C S O V own hv w0 σ0 A a w){j k n c i p:Nat}{T:TypeId}{e:Ty}{cells vs:List Value}{xs:List D}{v':Value}{d':D}(eo:S.o j=.row T e)(eX:hv j=.slice (some ⟨k,0,none⟩) n c)
 (h1:O.o j=.list xs) (h2:w.ownsRow w0.heap.size T e.size (hv j) xs.length cells) (h3:dh C.cap V e cells xs) (h4:∀k,(hv j).ownBlock=some k->own k=some j) (hi:i<xs.length)
 (we:i*e.size<=p) (eO:p+vs.length<=i*e.size+e.size) (hr:Rep C.cap V e v' d')
 (hv':∀q u,v'.cells[q]?=some u->(cells.take p++vs++cells.drop (p+vs.length))[i*e.size+q]?=some u):
 ∃cur,w.heap[k]?=some (.cells cur T (0,0))/\p+vs.length<=cur.size/\Inv C S (O.setO j (.list (xs.set i d'))) V own hv w0 σ0 A a (w.setRow k (cur.toList.take p++vs++cur.toList.drop (p+vs.length)).toArray):=by
 have aY:=h2.1;rcases h2.2 with⟨e0,e1⟩|⟨g,cap,cur,e1,e2,e3,e4,e5,e6,e7⟩
 .omega
 rw[eX] at e1;cases e1;have aqG:i*e.size+e.size<=xs.length*e.size:=by
  have:(i+1)*e.size<=xs.length*e.size:=jJ _ hi;rw[jH] at this;omega
 have aFL:xs.length*e.size<=c*e.size:=jJ _ e4;have arp:p+vs.length<=cur.size:=by omega
 refine⟨cur,e3,arp,?_⟩;have bp:own k=some j:=h4 k (by rw[eX];rfl);obtain⟨b1,b2⟩:=ajf (w:=w) (B:=w0.heap.size) (k:=k) (cs:=(cur.toList.take p++vs++cur.toList.drop (p+vs.length)).toArray) e2;have Gg:(cur.toList.take p++vs++cur.toList.drop (p+vs.length)).take (xs.length*e.size)=cells.take p++vs++cells.drop (p+vs.length):=by
  rw[<-e7];apply vx;intro q;simp only[sK,fQ,lZ,dO,gl,Ag];by_cases hq:q<xs.length*e.size
  .rw[if_pos hq];by_cases F9:q<p
   .simp[F9,Nat.lt_min,show q<cur.size by omega,hq]
   .by_cases gY:q-p<vs.length
    .rw[if_neg (by omega),mN (by omega),if_pos gY,if_neg (by omega),mN (by omega),if_pos gY]
    .rw[if_neg (by omega),mN (by omega),if_neg gY,if_neg (by omega),mN (by omega),if_neg gY,if_pos (by omega)]
  .rw[if_neg hq];have:¬q<p:=by omega
   rw[if_neg (by omega),mN (by omega),if_neg (by omega),if_neg (by omega)]
 have:=h.updB j (.row T e) (.list (xs.set i d')) b1 (λq hq au=>b2 q λe=>au (e▸bp))
  ⟨cells.take p++vs++cells.drop (p+vs.length),xs.set i d',by simp[Env.setO,aN],⟨by simp;omega,.inr ⟨k,c,_,by rw[eX];simp,e2,setRow_heap w k cur _ T _ e3,by simpa using e4,e5,by simp;omega,by simpa using Gg⟩⟩,?_,h4⟩
 .rw[St.setO_self eo] at this;exact this
 .obtain⟨us,u1,u2⟩:=h3;refine⟨λq=>if q=i then v' else us q,λq x hx=>?_,λq m u hq hm=>?_⟩
  .rw[DU] at hx;by_cases Cj:i=q
   .subst Cj;simp only[if_true] at hx ⊢;rw[if_pos hi] at hx;cases hx;exact hr
   .rw[if_neg Cj] at hx;simp only[show ¬q=i from λe=>Cj e.symm,if_false];exact u1 q x hx
  .by_cases Cj:q=i
   .subst Cj;simp only[if_true] at hm;exact hv' m u hm
   .simp only[Cj,if_false] at hm;simp only[List.length_set] at hq;have h9:=u2 q m u hq hm;have aF6:m<e.size:=by rw[<-(u1 q _ (aU hq)).size];exact(ed.1 hm).1
    have kR:q*e.size+m<p\/p+vs.length<=q*e.size+m:=by
     rcases I8 q i with af|gV
     .left;have:(q+1)*e.size<=i*e.size:=jJ _ af;rw[jH] at this;omega
     .right;have:(i+1)*e.size<=q*e.size:=jJ _ (by omega);rw[jH] at this;omega
    rw[sK,lZ,dO,mN (by omega)];rcases kR with ho|ho
    .rw[if_pos ho,fQ,if_pos ho];exact h9
    .rw[if_neg (by omega),nQ (by omega),gl];rw[show p+vs.length+(q*e.size+m-p-vs.length)=q*e.size+m by omega];exact h9
def anl (h:Inv C S O V own hv w0 σ0 A a w)(hC:CtxOK C σ0){T:TypeId}{x v:Operand}{r:St×List PI}(hr:EZ C S T x v=some r){o:Oper}(hd:o.dst=none)(ho:o.op=.store T x v):bS C w0 σ0 Z S O A a w o r:=by
 unfold EZ at hr;split at hr
 case h_2=>cases hr
 rename_i inf hi;obtain⟨dV,_⟩:=ua h (gs:=[]) rfl x;split at hr
 case h_3=>cases hr
 .rename_i j ver off es;rw[es] at dV;cases hb:Nat.beq ver (S.ver j)<;>simp only[hb,zyy,zyx] at hr
  .cases hr
  obtain⟨k,eX,fV⟩:=dV.2 (ay hb);have bj:=h.objs j;split at hr
  case h_2=>cases hr
  rename_i ag shs eo;rw[eo] at bj;obtain⟨k',cs,E,ds,h1,h2,h3,h4,h5,h6,h7⟩:=bj;have cw:=h1;rw[eX] at h1;cases h1;split at hr
  .rename_i t e hu;have hv':=cv h hC rfl hu;cases hc:(Nat.beq inf.size t.size&&(t.rowT||t.one)&&Nat.ble (off+t.size) shs.length)<;>simp only[hc,zyy,zyx] at hr
   .cases hr
   cases hr;simp only[ao,kL] at hc;obtain⟨⟨aI,fY⟩,hle⟩:=hc;have aI:=ay aI;have hle:=jI hle;obtain⟨f1,f2,f3⟩:=hv'.flat fY;have jd:=hv'.size;refine bS.skip hd λO' ak=>?_;rw[tW ak]
   refine⟨_,It ho hi fV (by rw[jd,aI]) (λu hu=>by
        obtain⟨m,hm,rfl⟩:=ew hu;exact hv'.cellsOne fY (m:=m) (by simp at hm ⊢)) h3 (by omega),?_⟩
   have cA:=h.storeBox (off:=off) (news:=t.flat.map .dat) (vs:=(a.eval v).cells.toList) (dn:=(e.ev O).cells) eo cw h2 h3 h4 h5 h6 h7 (by simp[f1,jd]) (by simp[f2,jd]) (by simp[jd];omega) (λi s hi=>by
        simp only[bX,aB] at hi;obtain⟨ti,S5,rfl⟩:=hi;refine⟨λ_ _ e=>(by cases e),?_⟩;rw[BU];exact(f3 i ti S5).2)
   have e1:(a.eval v).cells.toList.length=t.size:=by simp[jd]
   rw[e1] at cA;rw[aI];refine⟨V,own,hv,?_⟩;simpa [PE.ev,h5,D.cells] using cA
  .split at hr
   case h_3=>cases hr
   case h_2=>
        rename_i l fT;obtain⟨Cn,_⟩:=ua h (gs:=[]) rfl v;rw[fT] at Cn;obtain⟨vs,ds',q1,q2,q3,q4,q5⟩:=Cn;cases hc:(Nat.beq inf.size l.length&&Nat.ble (off+l.length) shs.length&&l.all (Rt S))<;>simp only[hc,zyy,zyx] at hr
        .cases hr
        cases hr;simp only[ao] at hc;obtain⟨⟨aI,hle⟩,dS⟩:=hc;have aI:=ay aI;have hle:=jI hle;have jw:(a.eval v).cells.toList=vs:=by rw[q1];simp[Value.cells]
        have cH:(a.eval v).cells.size=vs.length:=by rw[<-jw];simp
        have dE:∀u∈(a.eval v).cells.toList,u.oneCell'=true:=λu hu=>by
         rw[jw] at hu;obtain⟨i,hi,rfl⟩:=ew hu;have yL:i<l.length:=by omega
         have g:=q5 i l[i] (aU yL);have hf:=cN.1 dS l[i] (bU yL);have R7:vs.getD i undef=vs[i]:=by simp[aE,hi]
         rw[R7] at g;generalize l[i]=c at g hf;cases c with
         |dat t=>exact(g.2.oneCell g.1).2
         |obj j' nJ=>
          simp only[Rt,ao] at hf;rw[g.2 (ay hf.1)];exact(ai5 h hf.2).2
        refine bS.skip hd λO' ak=>?_;rw[tW ak];refine⟨_,It ho hi fV (by omega) dE h3 (by omega),?_⟩
        have cA:=h.storeBox (off:=off) (news:=l.map AgC.sh) (vs:=vs) (dn:=ds') eo cw h2 h3 h4 h5 h6 h7 (by simp[q3]) (by omega) (by omega) (λi s hi=>by
         simp only[bX,aB] at hi;obtain⟨c,hc,rfl⟩:=hi;have g:=q5 i c hc;cases c with
         |dat t=>exact⟨λ_ _ e=>(by cases e),g.2⟩
         |obj j' nJ=>exact⟨λ_ _ e=>(by cases e),g⟩)
        rw[jw,aI];have e1:vs.length=l.length:=q3;rw[e1] at cA;refine⟨V,own,hv,?_⟩;simpa [PE.ev,h5,q2,D.cells] using cA
   rename_i j' nJ fT;obtain⟨Cn,_⟩:=ua h (gs:=[]) rfl v;rw[fT] at Cn;cases hc:(Nat.beq nJ (S.ver j')&&lM (S.o j')&&Nat.beq inf.size 1&&Nat.blt off shs.length)<;>simp only[hc,zyy,zyx] at hr
   .cases hr
   cases hr;simp only[ao] at hc;obtain⟨⟨⟨asa,gz⟩,aI⟩,af⟩:=hc;have aI:=ay aI;have af:off<shs.length:=by simpa [pC] using af
   have ct:=Cn.2 (ay asa);obtain⟨c1,c2⟩:=ai5 h gz;have jw:(a.eval v).cells=#[a.eval v]:=by rw[ct];exact c1
   refine bS.skip hd λO' ak=>?_;rw[tW ak];refine⟨_,It ho hi fV (by rw[jw,aI];rfl) (λu hu=>by rw[jw] at hu;simp at hu;subst hu;rw[ct];exact c2) h3 (by omega),?_⟩
   have cA:=h.storeBox (off:=off) (news:=[.obj j' nJ]) (vs:=[a.eval v]) (dn:=[.none]) eo cw h2 h3 h4 h5 h6 h7 rfl rfl (by simp;omega) (λi s hi=>by
        match i,hi with
        |0,hi=>simp at hi;subst hi;exact⟨λ_ _ e=>(by cases e),Cn.1,λ_=>by simpa using ct⟩
        |i+1,hi=>simp at hi)
   rw[jw,aI];have e2:shs.take off++[Sh.obj j' nJ]++shs.drop (off+[a.eval v].length)=shs.set off (.obj j' nJ):=by
        rw[List.set_eq_take_append_cons_drop,if_pos af];simp
   rw[e2] at cA;refine⟨V,own,hv,?_⟩;simpa [PE.ev,h5,D.cells] using cA
 .rename_i j ver size off es;rw[es] at dV;cases hb:Nat.beq ver (S.ver j)<;>simp only[hb,zyy,zyx] at hr
  .cases hr
  obtain⟨k,n,c,ik,i,eX,vV,bO,fV⟩:=dV.2 (ay hb);have bj:=h.objs j;split at hr
  .rename_i T' ts t e eo hu;rw[eo] at bj;have hv':=cv h hC rfl hu;cases hc:(Nat.beq inf.size t.size&&(t.rowT||t.one)&&Nat.beq size ts.length&&Nat.ble (off+t.size) ts.length&&Ty.subs t.flat ((ts.drop off).take t.size))<;>simp only[hc,zyy,zyx] at hr
   .cases hr
   cases hr;simp only[ao,kL] at hc;obtain⟨⟨⟨⟨aI,fY⟩,y2⟩,hle⟩,cg⟩:=hc;have aI:=ay aI;have y2:=ay y2;have hle:=jI hle;obtain⟨f1,f2,f3⟩:=hv'.flat fY;have jd:=hv'.size;have f1:t.flat.length=t.size:=f1;have f2:(e.ev O).cells.length=t.size:=f2;have jd:(a.eval v).cells.size=t.size:=jd;obtain⟨cells,xs,k1,k2,k3,k4⟩:=bj;obtain⟨b,c',e1,FO,FP⟩:=zz k2;rw[eX] at e1;cases e1;obtain⟨us,u1,u2⟩:=k3;obtain⟨y,hy⟩:∃y,xs[i]?=some y:=⟨_,aU bO⟩
   obtain⟨os,ds,wy,hd0,l1,l2,aK,dE⟩:=(u1 i y hy).agg_inv;have Gj:(a.eval v).cells.toList.length=t.size:=by simp[jd]
   have mi:Rep C.cap V (.agg ts) (.agg (os.take off++(a.eval v).cells.toList++os.drop (off+(a.eval v).cells.toList.length)).toArray) (.agg (dg ds off (e.ev O).cells)):=by
        refine .agg _ _ _ (by simp[jd];omega) (by simp[dg,f2];omega) (λm tm hm=>?_) dE;rw[Lf os _ off undef (by rw[Gj];omega),dg,Lf ds _ off .none (by rw[f2];omega),Gj,f2];split
        .rename_i hc;have arU:=Ty.subs_get _ _ cg (m-off) tm (by
          rw[fQ,if_pos (by omega),gl,show off+(m-off)=m by omega];exact hm)
         obtain⟨tf,htf,cA⟩:=arU;rw[BU];exact((f3 _ tf htf).2).sub cA
        .exact aK m tm hm
   have aY:=k2.1;have aqG:i*(Ty.agg ts).size+(Ty.agg ts).size<=xs.length*(Ty.agg ts).size:=by
        have:(i+1)*(Ty.agg ts).size<=xs.length*(Ty.agg ts).size:=jJ _ bO;rw[jH] at this;omega
   have ad3:(Ty.agg ts).size=ts.length:=rfl
   obtain⟨cur,q1,q2,q3⟩:=h.storeRow (i:=i) (p:=i*(Ty.agg ts).size+off) (vs:=(a.eval v).cells.toList) eo eX k1 k2 ⟨us,u1,u2⟩ k4 bO (by omega) (by rw[Gj];omega) mi (λq u hq=>by
        have dL:(os.take off++(a.eval v).cells.toList++os.drop (off+(a.eval v).cells.toList.length))[q]?=some u:=by simpa [Value.cells] using hq
        have aGh:q<ts.length:=by have:=(eu.1 dL).1;simp[jd] at this;omega
        rw[sK,lZ,dO,mN (by omega)] at dL;rw[sK,lZ,dO,mN (by omega)];by_cases tA:q<off
        .rw[if_pos tA,fQ,if_pos tA] at dL;rw[if_pos (by omega),fQ,if_pos (by omega)];exact u2 i q u bO (by rw[wy];simpa [Value.cells] using dL)
        .rw[if_neg tA,lZ] at dL;rw[if_neg (by omega),lZ];rw[show i*(Ty.agg ts).size+q-(i*(Ty.agg ts).size+off)=q-off by omega];by_cases L6:q-off<(a.eval v).cells.toList.length
         .rw[if_pos L6] at dL ⊢;exact dL
         .rw[if_neg L6,gl] at dL;rw[if_neg L6,gl];rw[show off+(a.eval v).cells.toList.length+(q-off-(a.eval v).cells.toList.length)=q by omega] at dL;rw[show i*(Ty.agg ts).size+off+(a.eval v).cells.toList.length+(q-off-(a.eval v).cells.toList.length)=i*(Ty.agg ts).size+q by omega];exact u2 i q u bO (by rw[wy];simpa [Value.cells] using dL))
   refine bS.skip hd λO' ak=>?_;rw[tW ak]
   refine⟨_,It ho hi (cs:=cur) (by rw[fV,y2]) (by rw[jd,aI]) (λu hu=>by
        obtain⟨m,hm,rfl⟩:=ew hu;exact hv'.cellsOne fY (m:=m) (by simp at hm ⊢)) q1 (by rw[Gj] at q2;rw[aI,<-ad3];exact q2),V,own,hv,?_⟩
   rw[Gj] at q3;simp only[PE.ev,k1,D.l_list,vV,D.i_int,xK,uH hy,hd0,xk];rw[aI,<-ad3];exact q3
  .rename_i T' e0 t e au eo hu;rw[eo] at bj;have hv':=cv h hC rfl hu;cases hc:(Nat.beq inf.size 1&&Nat.beq size 1&&Nat.beq off 0&&e0.one&&Ty.sub t e0)<;>simp only[hc,zyy,zyx] at hr
   .cases hr
   cases hr;simp only[ao] at hc;obtain⟨⟨⟨⟨aI,y2⟩,jc⟩,dE⟩,cg⟩:=hc;have aI:=ay aI;have y2:=ay y2;have jc:=ay jc;subst jc;subst y2;have hve:=hv'.sub cg;obtain⟨c1,c2⟩:=hve.oneCell dE;have FA:e0.size=1:=by cases e0<;>simp_all [Ty.size,Ty.one]
   obtain⟨cells,xs,k1,k2,k3,k4⟩:=bj;obtain⟨b,c',e1,FO,FP⟩:=zz k2;rw[eX] at e1;cases e1;obtain⟨y,hy⟩:∃y,xs[i]?=some y:=⟨_,aU bO⟩
   have aY:=k2.1
   obtain⟨cur,q1,q2,q3⟩:=h.storeRow (i:=i) (p:=i*e0.size) (vs:=[a.eval v]) eo eX k1 k2 k3 k4 bO (aX _) (by rw[FA];simp) hve (λq u hq=>by
        rw[c1] at hq;have tz:q=0:=by have:=(ed.1 hq).1;simpa using this
        subst tz;simp at hq;subst hq;have:i*e0.size<=cells.length:=by rw[aY];exact jJ _ (by omega)
        rw[sK,nQ (by simp;omega)];simp[mN this])
   refine bS.skip hd λO' ak=>?_;rw[tW ak];refine⟨_,It ho hi (cs:=cur) (by rw[fV]) (by rw[c1,aI];rfl) (λu hu=>by rw[c1] at hu;simp at hu;subst hu;exact c2) q1 (by rw[FA] at q2;rw[aI];simpa using q2),V,own,hv,?_⟩;rw[c1,aI];have Gp:xk y 0 (e.ev O)=e.ev O:=by
        obtain⟨us,u1,u2⟩:=k3;have:=(u1 i y hy).dcells dE;cases y with
        |agg ds=>have h8:=u1 i _ hy;generalize us i=vv at h8;cases h8;simp[Ty.one] at dE
        |_=>rfl
   simp only[PE.ev,k1,D.l_list,vV,D.i_int,xK,uH hy,Gp];rw[FA] at q3;simpa using q3
  .cases hr
def anL {O:Env}{es:List PE}{i:Nat}{e:PE}(h:es[i]?=some e):(PE.evs O es)[i]?=some (e.ev O):=by
 rw[PE.evs_eq,bX,h];rfl
def abQ (h:Inv C S O V own hv w0 σ0 A a w)(hC:CtxOK C σ0)(hg:holds gs O=true){T:TypeId}{len:Nat}{ps:Array (Nat×Operand)}{r:St×List PI}(hr:yp C S gs dst T len ps.toList=some r){o:Oper}
 (ho:o.op=.buildSlice T len ps):∃(E:TypeId) (e:Ty) (es:List PE) (v:Value) (w':World),C.P.underlying T=some (.slice E)/\qI C.P E=some e/\r=(mkObj S dst (.row E e),[.setO dst (.lst es),.setR dst (.con .none)])/\
   (execOp a.eval o).run C.P w=.ok (.value v) w'/\Below w.heap.size w w'/\(∀k,Nat.beq k w.heap.size=true->w.heap.size<=k/\k<w'.heap.size)/\
   bY C (S.newO dst (.row E e)) (O.setO dst (.list (PE.evs O es))) V (fM own dst (λk=>Nat.beq k w.heap.size)) (bW hv dst v) w' w0.heap.size dst (.row E e):=by
 unfold yp at hr;split at hr
 case h_2=>cases hr
 rename_i E hT;simp only[az] at hr;obtain⟨e,he,z,hz,hr⟩:=hr;cases hc:(sU C.P E e&&Ty.sub z.1 e&&hZ (ps.toList.map (·.1))&&ps.toList.all (λp=>Nat.blt p.1 len)&&Nat.ble (len*e.size) 16777216)<;>simp only[hc,zyy,zyx] at hr
 .cases hr
 simp only[ao] at hc;obtain⟨⟨⟨⟨hef,cg⟩,bo⟩,fJ⟩,hle⟩:=hc;have hle:=jI hle;obtain⟨inf,zv,hi,hs,rE,h1,hzv,nk⟩:=Q9 hef;have jy:=aaa nk;have nf:=qn bo;have Gr:=((Af (cap:=C.cap) (V:=V) hz nk).1).sub cg;simp only[aB] at hr;obtain⟨es,jT,rfl⟩:=hr;obtain⟨el1,el2⟩:=mapM_some _ _ _ jT;simp only[aaz] at el1;have ac8:∀i,i<len->∃pe,es[i]?=some pe/\K4 C S gs e z.2 ps.toList i=some pe:=by
  intro i hi;obtain⟨y,hy1,wz⟩:=el2 i i (by rw[pz hi]);exact⟨y,hy1,wz⟩
 have qa:∀x,x∈ps.toList->x.1<len/\∃t pe,use C S gs x.2=some (t,pe)/\Ty.sub t e=true/\es[x.1]?=some pe:=by
  intro x hx;have y9:x.1<len:=by
   have:=cN.1 fJ x hx;simpa [pC] using this
  refine⟨y9,?_⟩;obtain⟨pe,we,eO⟩:=ac8 x.1 y9;have FD:=ach nf (i:=x.1) (x:=x.2) hx;simp only[K4,FD,az] at eO;obtain⟨y,hy,eO⟩:=eO;cases hs:Ty.sub y.1 e<;>simp only[hs,zyy,zyx] at eO
  .cases eO
  cases eO;exact⟨y.1,y.2,hy,hs,we⟩
 let c0:Array Value:=madeCells zv.cells (len*e.size)
 have Fu:c0.size=len*e.size:=size_madeCells _ _
 have kD:∀p,p∈(ps.toList.map λ(x:Nat×Operand)=>(x.1,a.eval x.2))->∃o,(λi=>some (i*e.size,e.size)) p.1=some (o,p.2.cells.size)/\o+p.2.cells.size<=c0.size:=by
  intro p hp;obtain⟨x,hx,rfl⟩:=cr.1 hp;obtain⟨y9,t,pe,hu,cA,_⟩:=qa x hx;have wj:=((cv h hC hg hu).sub cA).size;simp only;refine⟨x.1*e.size,by rw[wj],?_⟩;rw[wj,Fu];have:(x.1+1)*e.size<=len*e.size:=jJ _ y9;rw[jH] at this;omega
 have B5:∀(i j oi si oj sj:Nat),i≠j->(λi=>some (i*e.size,e.size)) i=some (oi,si)->(λi=>some (i*e.size,e.size)) j=some (oj,sj)->oi+si<=oj\/oj+sj<=oi:=by
  intro i j oi si oj sj au hi hj;simp only[aZ,nT] at hi hj;obtain⟨rfl,rfl⟩:=hi;obtain⟨rfl,rfl⟩:=hj;rcases I8 i j with af|gV
  .left;have:(i+1)*e.size<=j*e.size:=jJ _ af;rw[jH] at this;omega
  .right;have:(j+1)*e.size<=i*e.size:=jJ _ (by omega);rw[jH] at this;omega
 obtain⟨dj,f1,f2,f3,f4⟩:=Rh (λi=>some (i*e.size,e.size)) (ps.toList.map λ(x:Nat×Operand)=>(x.1,a.eval x.2)) c0 kD B5 (by simpa [IW] using nf);have ak:(execOp a.eval o).run C.P w=.ok (.value (.slice (some ⟨w.heap.size,0,none⟩) len len)) (w.alloc (.cells dj E)):=by
  have n1:¬(len*inf.size>2^24):=by rw[hs];omega
  have K8:Instr.fill (λi=>some (i*inf.size,inf.size)) c0 (ps.toList.map λ(x:Nat×Operand)=>(x.1,a.eval x.2))=some dj:=by rw[hs];exact f1
  by_cases h0:len*inf.size=0
  .have B3:c0=#[]:=by
        apply Pc;rw[Fu,<-hs];exact h0
   rw[B3] at K8
   have anN:Instr.fill (λi=>some (i*inf.size,inf.size)) (Array.map (λ_=>default) (Array.range 0)) (ps.toList.map λ(x:Nat×Operand)=>(x.1,a.eval x.2))=some dj:=by
        have:(Array.map (λ_=>(default:Value)) (Array.range 0))=#[]:=by simp
        rw[this];exact K8
   simp[execOp,ho,Instr.buildSlice,run_underlying hT,Go.sizeOf,run_typeInfo w hi,n1,h0,anN,newRow]
  .have B3:c0=(Array.range (len*inf.size)).map (λx=>zv.cells[x%zv.cells.size]!):=by simp only[c0,madeCells,hs]
   rw[B3] at K8;have h00:¬(len=0\/inf.size=0):=by rw[<-Nat.mul_eq_zero];exact h0
   simp[execOp,ho,Instr.buildSlice,run_underlying hT,Go.sizeOf,run_typeInfo w hi,n1,h0,h00,zeroValue,hzv,K8,newRow]
 refine⟨E,e,es,_,_,hT,he,rfl,ak,(Below.refl _ _).alloc (aX _) _,λk hk=>by simp at hk;simp;omega,?_⟩;have cU:(PE.evs O es).length=len:=by rw[PE.evs_eq,ef,el1]
 have aqs:∀(i:Nat) (x:D),(PE.evs O es)[i]?=some x->∃v,Rep C.cap V e v x/\∀q u,v.cells[q]?=some u->dj.toList[i*e.size+q]?=some u:=by
  intro i x hx;have yL:i<len:=by have:=(eu.1 hx).1;omega
  obtain⟨pe,we,eO⟩:=ac8 i yL;rw[anL we] at hx;cases hx;unfold K4 at eO;split at eO
  .rename_i p hp;have hpm:=DW hp;have L3:p.1=i:=by have:=Pn hp;simpa using this
   obtain⟨_,t,pe',hu,cA,oM⟩:=qa p hpm;rw[L3,we] at oM;cases oM;have bI:=(cv h hC hg hu).sub cA;refine⟨_,bI,λq u hq=>?_⟩;have uV:q<(a.eval p.2).cells.size:=(ed.1 hq).1;have:=f3 p.1 (a.eval p.2) (p.1*e.size) (cr.2 ⟨p,hpm,rfl⟩) (by simp[bI.size]) q uV;rw[L3] at this;simp[this,hq]
  .rename_i hp;cases eO;refine⟨zv,Gr,λq u hq=>?_⟩;have uV:q<zv.cells.size:=(ed.1 hq).1
   have p7:i∉(ps.toList.map λ(x:Nat×Operand)=>(x.1,a.eval x.2)).map (·.1):=by
        intro cV;simp only[nS,cr,IW] at cV;obtain⟨x,Ct,e⟩:=cV;have:=Ao.1 hp x Ct;simp[e] at this
   have:=f4 i (i*e.size) e.size p7 rfl q (by omega);have h9:c0[i*e.size+q]?=zv.cells[q]?:=by
        simp only[c0];rw[<-jy];exact afa (by omega) yL uV
   simp[this,h9,hq]
 have jd:∃vs:Nat->Value,∀(i:Nat) (x:D),(PE.evs O es)[i]?=some x->Rep C.cap V e (vs i) x/\∀q u,(vs i).cells[q]?=some u->dj.toList[i*e.size+q]?=some u:=by
  have kP:∀i,∃v,∀x,(PE.evs O es)[i]?=some x->Rep C.cap V e v x/\∀q u,v.cells[q]?=some u->dj.toList[i*e.size+q]?=some u:=by
   intro i;cases hx:(PE.evs O es)[i]? with
   |none=>exact⟨undef,λx da=>by cases da⟩
   |some x=>
    obtain⟨v,hv⟩:=aqs i x hx;exact⟨v,λy hy=>by cases hy;exact hv⟩
  exact⟨λi=>Classical.choose (kP i),λi x hx=>aaj (kP i) x hx⟩
 obtain⟨vs,jd⟩:=jd;have cH:dj.size=len*e.size:=by rw[f2,Fu]
 refine⟨dj.toList,PE.evs O es,by simp[Env.setO,aN],?_,⟨vs,λi x hx=>(jd i x hx).1,λi j u hi hj=>(jd i _ (aU hi)).2 j u hj⟩,λk hk=>by rw[aN] at hk;simp[Value.ownBlock] at hk;simp[fM,hk]⟩;rw[aN,cU];have Se:len<=maxLen:=by
  have:len*1<=len*e.size:=Nat.mul_le_mul_left _ h1;unfold maxLen;omega
 exact⟨by simp[cH],.inr ⟨w.heap.size,len,dj,rfl,h.below.size,heap_alloc_new w _,aX _,Se,cH,by rw[xT (by simp[cH])]⟩⟩
def amU (h:Inv C S O V own hv w0 σ0 A a w)(hC:CtxOK C σ0)(ht:¬A dst)(af:dst<a.tmps.size){T:TypeId}{len:Nat}{ps:Array (Nat×Operand)}{r:St×List PI}(hr:yp C S [] dst T len ps.toList=some r){o:Oper}(hd:o.dst=some dst)
 (ho:o.op=.buildSlice T len ps):bS C w0 σ0 Z S O A a w o r:=by
 obtain⟨E,e,es,v,w',_,_,rfl,ak,hb,dT,cR⟩:=abQ h hC rfl hr ho;refine bS.value hd λO' qd=>⟨_,_,ak,?_⟩
 rw[Dr qd];exact h.mkObj ht af (.row E e) _ _ (λk=>Nat.beq k w.heap.size) hb dT cR
def Inv.kill (h:Inv C S O V own hv w0 σ0 A a w)(j:Nat):Inv C (S.newO j .dead) O V own hv w0 σ0 A a w:=by
 have dF:∀i,S.ver i<=(S.newO j .dead).ver i:=by
  intro i;show S.ver i<=bW S.ver j (S.ver j+1) i;rw[fp];by_cases e:i=j
  .subst e;simp
  .simp[e]
 have hc:Compat S hv (S.newO j .dead) hv:=⟨dF,λ_ _=>rfl⟩
 refine h.step (·=j) rfl (.refl V) h.ok (λ_ _ _ hx=>.inl hx) (λ_ _ hx=>.inl hx) (.refl _ _) hc (λi hi=>⟨by simp[St.newO,bB _ _ hi],rfl,rfl,λk hk=>⟨hk,rfl⟩⟩) (λi hi=>?_) h.owns (λ_=>id) (λt=>.inl ⟨rfl,rfl,rfl⟩) (λ_ _=>rfl) (λ_ _ _=>rfl) (λk i hk=>.inl ⟨i,hk⟩) (λi hi=>by subst hi;simp[St.newO,aN]);subst hi;simp only[St.newO,aN];trivial
def am8 (h:Inv C S O V own hv w0 σ0 A a w)(hC:CtxOK C σ0)(ht:¬A dst)(af:dst<a.tmps.size)(eC:∀g,g∈gs->A g.1)(hg:holds gs O=true){T:TypeId}{len:Nat}{ps:Array (Nat×Operand)}{r:St×List PI}(hr:BI C S gs dst T len ps.toList=some r){o:Oper}(hd:o.dst=some dst)
 (ho:o.op=.buildSlice T len ps):bS C w0 σ0 Z S O A a w o r:=by
 unfold BI at hr;split at hr
 case h_2=>cases hr
 rename_i E q hT hq;simp only[az] at hr;obtain⟨e,he,hr⟩:=hr;obtain⟨E',e',es,v,w',BZ,rG,rfl,ak,hb,dT,cR⟩:=abQ h hC hg hq ho;rw[hT] at BZ;cases BZ;rw[he] at rG;cases rG;cases hr;refine bS.value hd λO' qd=>⟨_,_,ak,?_⟩
 have hρ:O'=O.setR dst (.list (PE.evs O es)):=by simp[PI.runs,PI.run,PE.ev] at qd;exact qd.symm
 subst hρ;have h1:=h.newO dst (.row E e) (.list (PE.evs O es)) v (λk=>Nat.beq k w.heap.size) hb dT cR;obtain⟨σ2,jB,_,h2⟩:=h1.fz dst;have B9:(S.newO dst (.row E e)).fz dst=(S.newO dst (.row E e)).setO dst (.fz (.slice e.rol)):=by
  have:(S.newO dst (.row E e)).o dst=.row E e:=aN _ _ _;unfold St.fz;rw[this]
 rw[B9] at h2;have bj:=h2.objs dst;have e1:((S.newO dst (.row E e)).setO dst (.fz (.slice e.rol))).o dst=.fz (.slice e.rol):=aN _ _ _;rw[e1] at bj;have bI:Rep C.cap σ2 (.slice e.rol) v (.list (PE.evs O es)):=by
  have:=bj.2
  rwa [aN,show(O.setO dst (.list (PE.evs O es))).o dst=.list (PE.evs O es) from aN _ _ _] at this
 have h3:Inv C (S.newO dst .dead) O σ2 jB (bW hv dst v) w0 σ0 A a w':=by
  refine h2.step (·=dst) rfl (.refl σ2) h2.ok (λ_ _ _ hx=>.inl hx) (λ_ _ hx=>.inl hx) (.refl _ _) ⟨λi=>aX _,λ_ _=>rfl⟩ (λi hi=>⟨?_,?_,rfl,λk hk=>⟨hk,rfl⟩⟩) (λi hi=>?_) h2.owns (λ_=>id) (λt=>.inl ⟨rfl,rfl,rfl⟩) (λ_ _=>rfl) (λ_ _ _=>rfl) (λk i hk=>.inl ⟨i,hk⟩) (λi hi=>by subst hi;simp[St.newO,aN])
  .simp[St.newO,St.setO,bB _ _ hi]
  .simp[Env.setO,bB _ _ hi]
  .subst hi;simp only[St.newO,aN];trivial
 have hh:holds gs (O.setR dst (.list (PE.evs O es)))=true:=by rw[F0 (t:=dst) λg hm e=>ht (by rw[<-e];exact eC g hm)];exact hg
 cases gs with
 |nil=>exact⟨_,_,_,h3.setReg ht (s:=.dat (.slice e.rol)) bI af (λ_ _ e=>by cases e)⟩
 |cons g bM=>
  refine⟨_,_,_,h3.setReg ht (s:=.opt (g::bM) (.dat (.slice e.rol))) ⟨λ_=>bI,λe=>absurd (hh.symm.trans e) (by decide)⟩ af (λgs s e=>?_)⟩;cases e;exact⟨eC,λ_ _ e=>by cases e⟩
end
end Cx
