import Derived.Test.YtbagcfebdgiihaaGreatDoorAAB
import Derived.Laws.OwnMore
import Derived.Lib.ConvBytes
set_option linter.all false
namespace Cx
open Go Go.RowKit
def ag7 (b i:Nat):Nat:=4096*(i+1)+b
def St.fz (S:St)(j:Nat):St:=
 match S.o j with
 |.row _ e=>S.setO j (.fz (.slice e.rol))
 |.mp k e=>S.setO j (.fz (.map k e))
 |_=>S
def F9 (S:St)(b:Nat):Option (St×List PI):=
 match S.o b with
 |.box ag aP=>
  (y5 S (.o b) aP 0).bind λx=>
    bif ag then some (S.setO b (.fbox (.agg x.1)),[.setO b (.mk x.2)])
    else match x.1,x.2 with
     |[t],[e]=>some (S.setO b (.fbox t),[.setO b e])
     |_,_=>Option.none
 |_=>Option.none
def St.mv (S:St)(j j':Nat):St:=
 {S with o:=cL (cL S.o j' (S.o j)) j .dead,ver:=cL (cL S.ver j' (S.ver j'+1)) j (S.ver j+1)}
def ni:Ob->Bool
 |.row ..=>true
 |.mp ..=>true
 |_=>false
def Jq (S:St)(t j':Nat):Option (St×List PI):=
 match S.r t with
 |.obj j ver=>
  bif Nat.beq ver (S.ver j)&&ni (S.o j)&& !Nat.beq j j' then some ((S.mv j j').setR t (.obj j' (S.ver j'+1)),[.setO j' (.o j)])
  else some (S,[])
 |_=>some (S,[])
def Jp (S:St)(b i j':Nat):Option (St×List PI):=
 match S.o b with
 |.box ag aP=>
  match aP[i]? with
  |some (.obj j ver)=>
   bif Nat.beq ver (S.ver j)&&ni (S.o j)&& !Nat.beq j j'&& !Nat.beq b j'&& !Nat.beq b j then
    some ((S.mv j j').setO b (.box ag (aP.set i (.obj j' (S.ver j'+1)))),[.setO j' (.o j)])
   else some (S,[])
  |_=>some (S,[])
 |_=>some (S,[])
def GN (C:Ctx)(S:St)(b i j:Nat)(T:TypeId):Option (St×List PI):=
 match S.o b with
 |.box ag aP=>
  match aP[i]?,qy C.P T with
  |some (.dat (.nils _)),some e=>
   bif !Nat.beq b j then some ((S.newO j (.row T e)).setO b (.box ag (aP.set i (.obj j (S.ver j+1)))),[.setO j (.con (.list []))])
   else some (S,[])
  |_,_=>some (S,[])
 |_=>some (S,[])
section
variable {C:Ctx} {S:St} {Z:Env} {H:Im} {own:Nat->Option Nat} {hv:Nat->Value} {w0:World} {σ0:Base} {A:Nat->Prop} {a:Act} {w:World} {gs:List (Nat×Bool)} {V:bf} {dst:Nat}
def Inv.lt (h:Inv C S Z H own hv w0 σ0 A a w){k o:Nat}{u:Value}(hc:H.c k o=some u):k<w.heap.size:=World.block_lt_of_cell? w (a:=⟨k,o,none⟩) (h.ok.c _ _ _ hc)
def Inv.ltm (h:Inv C S Z H own hv w0 σ0 A a w){k:Nat}{es:List (Value×Value)}(hc:H.m k=some es):k<w.heap.size:=by
 exact(h.ok.m _ _ hc).lt
def Im.ok.below {H:Im}{w w':World}(h:H.ok w)(hb:Below w.heap.size w w'):H.ok w':=by
 refine⟨λk o v hc=>?_,λk es hc=>?_⟩
 .have h1:=h.c k o v hc;rw[hb.cell (World.block_lt_of_cell? w (a:=⟨k,o,none⟩) h1)];exact h1
 .exact(h.m k es hc).keep (hb.block k (h.m k es hc).lt)
def gH (own:Nat->Option Nat)(j:Nat)(nb:Nat->Bool):Nat->Option Nat:=λk=>if nb k then some j else if own k=some j then none else own k
def Inv.newOσ (h:Inv C S Z H own hv w0 σ0 A a w)(j:Nat)(ob:Ob)(d:D)(v:Value)(nb:Nat->Bool){H':Im}{w':World}(hle:H.le H')(aE:H'.ok w')(gG:∀k o x,H'.c k o=some x->H.c k o=some x\/w.heap.size<=k)(eK:∀k x,H'.m k=some x->H.m k=some x\/w.heap.size<=k)
 (hw:Below w.heap.size w w') (eJ:∀k,nb k=true->w.heap.size<=k/\k<w'.heap.size) (gE:∀k,nb k=true->(∀o,H'.c k o=none)/\H'.m k=none)
 (dr:eD C (S.newO j ob) (Z.setO j d) H' (gH own j nb) (cL hv j v) w' w0.heap.size j ob) (q7:ob≠.tr:=by intro h;cases h):Inv C (S.newO j ob) (Z.setO j d) H' (gH own j nb) (cL hv j v) w0 σ0 A a w':=by
 have bp:w0.heap.size<=w.heap.size:=h.below.size;have dv:∀k i,i≠j->own k=some i->gH own j nb k=some i:=by
  intro k i hi hk;have h1:=h.owns k i hk;have h2:nb k=false:=by
   cases hn:nb k with
   |false=>rfl
   |true=>have:=eJ k hn;omega
  simp[gH,h2,hk,hi]
 refine h.step (λi=>i=j) rfl hle aE (λk o x hx=>(gG k o x hx).imp id λe=>⟨by omega,.inr e⟩) (λk x hx=>(eK k x hx).imp id λe=>⟨by omega,.inr e⟩) (hw.mono bp) ⟨λi=>?_,λi e=>?_⟩ (λi hi=>⟨?_,?_,?_,λk hk=>⟨dv k i hi hk,?_⟩⟩) (λi hi=>?_) (λk i hk=>?_) (λ_=>id) (λt=>.inl ⟨rfl,rfl,rfl⟩) (λ_ _=>rfl) (λk hk _=>hw.block k hk) (λk i hk=>by
  unfold gH at hk;split at hk
  .rename_i hn;exact .inr (eJ k hn).1
  .split at hk
   .cases hk
   .exact .inl ⟨i,hk⟩) (λi hi=>by subst hi;simpa only[St.newO,bh] using q7)
 .simp only[St.newO,ic];split<;>rename_i e
  .subst e;omega
  .omega
 .simp only[St.newO,ic] at e;split at e
  .rename_i e';subst e';omega
  .rename_i aI;exact bU _ _ aI
 .simp[St.newO,bU _ _ hi]
 .simp[Env.setO,bU _ _ hi]
 .exact bU _ _ hi
 .exact hw.block k (h.owns k i hk).2.1
 .subst hi;simp only[St.newO,bh];exact dr
 .unfold gH at hk;split at hk
  .rename_i hn;obtain⟨g1,g2⟩:=eJ k hn;exact⟨by omega,g2,(gE k hn).1,(gE k hn).2⟩
  .split at hk
   .cases hk
   .obtain⟨g1,g2,g3,g4⟩:=h.owns k i hk;refine⟨g1,by have:=hw.size;omega,λo=>?_,?_⟩
    .cases hc:H'.c k o with
     |none=>rfl
     |some u=>
      rcases gG k o u hc with e|e
      .rw[g3 o] at e;cases e
      .omega
    .cases hc:H'.m k with
     |none=>rfl
     |some u=>
      rcases eK k u hc with e|e
      .rw[g4] at e;cases e
      .omega
def Inv.newO (h:Inv C S Z H own hv w0 σ0 A a w)(j:Nat)(ob:Ob)(d:D)(v:Value)(nb:Nat->Bool){w':World}(hw:Below w.heap.size w w')(eJ:∀k,nb k=true->w.heap.size<=k/\k<w'.heap.size)
 (dr:eD C (S.newO j ob) (Z.setO j d) H (gH own j nb) (cL hv j v) w' w0.heap.size j ob) (q7:ob≠.tr:=by intro h;cases h):Inv C (S.newO j ob) (Z.setO j d) H (gH own j nb) (cL hv j v) w0 σ0 A a w':=by
 refine h.newOσ j ob d v nb (.refl H) (h.ok.below hw) (λ_ _ _ hx=>.inl hx) (λ_ _ hx=>.inl hx) hw eJ (λk hn=>⟨λo=>?_,?_⟩) dr q7
 .cases hc:H.c k o with
  |none=>rfl
  |some u=>have:=h.lt hc;have:=(eJ k hn).1;omega
 .cases hc:H.m k with
  |none=>rfl
  |some u=>have:=h.ltm hc;have:=(eJ k hn).1;omega
def Inv.setObj (h:Inv C S Z H own hv w0 σ0 A a w){t j:Nat}(ht:¬A t){v:Value}(fw:hv j=v)(aq:t<a.tmps.size):
 Inv C (S.setR t (.obj j (S.ver j))) (Z.setR t .none) H own hv w0 σ0 (λu=>A u\/u=t) (a.put (some t) v) w:=
 h.setReg ht (s:=.obj j (S.ver j)) (v:=v) (d:=.none) ⟨bL _,λ_=>fw.symm⟩ aq (λ_ _ e=>by cases e)
def TZ (S:St)(j:Nat):(S.fz j).ver=S.ver/\(S.fz j).r=S.r:=by
 unfold St.fz;split<;>exact⟨rfl,rfl⟩
def Inv.fz (h:Inv C S Z H own hv w0 σ0 A a w)(j:Nat):∃H' own',H.le H'/\Inv C (S.fz j) Z H' own' hv w0 σ0 A a w:=by
 have bI:=h.objs j;unfold St.fz;split
 .rename_i T e eo;rw[eo] at bI;obtain⟨cells,xs,h1,h2,⟨vs,h3,h4⟩,h5⟩:=bI;have bp:w0.heap.size<=w.heap.size:=h.below.size
  let nb:Nat->Bool:=λk=>decide ((hv j).ownBlock=some k)
  let H':Im:={c:=λk o=>if nb k then cells[o]? else H.c k o,m:=H.m}
  have eJ:∀k,nb k=true->own k=some j:=λk hk=>h5 k (by simpa [nb] using hk);have hle:H.le H':=by
   refine⟨λk o v hc=>?_,λk es hc=>hc⟩;have:nb k=false:=by
        cases hn:nb k with
        |false=>rfl
        |true=>have:=(h.owns k j (eJ k hn)).2.2.1 o;rw[this] at hc;cases hc
   simp[H',this,hc]
  refine⟨H',λk=>if nb k then none else own k,hle,h.step (λi=>i=j) rfl hle ?_ (λk o x hx=>?_) (λ_ _ hx=>.inl hx) (.refl _ _) ⟨λ_=>bL _,λ_ _=>rfl⟩ (λi hi=>⟨?_,rfl,rfl,λk hk=>⟨?_,rfl⟩⟩) (λi hi=>?_) (λk i hk=>?_) (λ_=>id) (λt=>.inl ⟨rfl,rfl,rfl⟩) (λ_ _=>rfl) (λ_ _ _=>rfl) (λk i hk=>by
        split at hk
        .cases hk
        .exact .inl ⟨i,hk⟩) (λi hi=>by subst hi;simp[St.setO,bh])⟩
  .refine⟨λk o v hc=>?_,h.ok.m⟩;simp only[H'] at hc;split at hc
   .rename_i hn;have dr:(hv j).ownBlock=some k:=by simpa [nb] using hn
    have:=h2.cells dr o v hc;rw[v5] at this;simpa using this
   .exact h.ok.c k o v hc
  .simp only[H'] at hx;split at hx
   .rename_i hn;exact .inr ⟨(h.owns k j (eJ k hn)).1,.inl ⟨j,eJ k hn⟩⟩
   .exact .inl hx
  .simp[St.setO,bU _ _ hi]
  .have:nb k=false:=by
        cases hn:nb k with
        |false=>rfl
        |true=>rw[eJ k hn] at hk;simp at hk;exact absurd hk.symm hi
   simp[this,hk]
  .subst hi;simp only[St.setO,bh];refine⟨rfl,?_⟩;rw[h1];rcases h2.2 with⟨e1,e2⟩|⟨g,cap,cur,e1,e2,e3,e4,e5,e6,e7⟩
   .rw[e1];have:xs=[]:=ad9 e2;subst this;exact .nil _
   .rw[e1];refine .slice e.rol g 0 xs.length cap xs vs rfl e4 e5 (λi x hx=>((h3 i x hx).mono hle).unf_rol) (λi m u hi hu=>?_);rw[Ty.rol_size];have hn:nb g=true:=by simp[nb,e1,Value.ownBlock]
    simp only[H',hn,if_true,jh];exact h4 i m u hi hu
  .split at hk
   .cases hk
   .rename_i hn;obtain⟨g1,g2,g3,g4⟩:=h.owns k i hk;exact⟨g1,g2,λo=>by simp[H',hn,g3 o],g4⟩
 .rename_i kt et eo;rw[eo] at bI;obtain⟨k0,arr,clock,gV,h1,h2,h3,h4,h5,⟨hx,_⟩,h6⟩:=bI;have bp:w0.heap.size<=w.heap.size:=h.below.size
  let H':Im:={c:=H.c,m:=λk=>if k=k0 then some (entriesOf arr) else H.m k}
  have hle:H.le H':=by
   refine⟨λk o v hc=>hc,λk es hc=>?_⟩;have:k≠k0:=λe=>by subst e;rw[(h.owns k j h2).2.2.2] at hc;cases hc
   simp[H',this,hc]
  refine⟨H',λk=>if k=k0 then none else own k,hle,h.step (λi=>i=j) rfl hle ?_ (λk o x hx=>.inl hx) (λk x hx=>?_) (.refl _ _) ⟨λ_=>bL _,λ_ _=>rfl⟩ (λi hi=>⟨?_,rfl,rfl,λk hk=>⟨?_,rfl⟩⟩) (λi hi=>?_) (λk i hk=>?_) (λ_=>id) (λt=>.inl ⟨rfl,rfl,rfl⟩) (λ_ _=>rfl) (λ_ _ _=>rfl) (λk i hk=>by
        split at hk
        .cases hk
        .exact .inl ⟨i,hk⟩) (λi hi=>by subst hi;simp[St.setO,bh])⟩
  .refine⟨h.ok.c,λk es hc=>?_⟩;simp only[H'] at hc;split at hc
   .rename_i e;subst e;cases hc;refine .inl ⟨λe=>?_,arr,clock,h3,rfl⟩;refine Hz (cap:=C.cap) (H:=H) (kt:=kt) (es:=gV) (by simp[entriesOf,h5]) (λi p q hp hq=>?_) e;simp only[entriesOf,dF,aT] at hp;obtain⟨x,dE,rfl⟩:=hp;exact(h6 i x q (by simpa using dE) hq).1
   .exact h.ok.m k es hc
  .simp only[H'] at hx;split at hx
   .rename_i e;subst e;exact .inr ⟨(h.owns k j h2).1,.inl ⟨j,h2⟩⟩
   .exact .inl hx
  .simp[St.setO,bU _ _ hi]
  .have:k≠k0:=λe=>by subst e;rw[h2] at hk;simp at hk;exact hi hk.symm
   simp[this,hk]
  .subst hi;simp only[St.setO,bh];refine⟨rfl,?_⟩;rw[h1,h4];refine .map kt et k0 (entriesOf arr) gV (by simp[H']) (by simp[entriesOf,h5]) hx (λi p q hp hq=>?_) (λi p q hp hq=>?_)
   .simp only[entriesOf,dF,aT] at hp;obtain⟨e,he,rfl⟩:=hp;exact((h6 i e q (by simpa using he) hq).1).mono hle
   .simp only[entriesOf,dF,aT] at hp;obtain⟨e,he,rfl⟩:=hp;exact((h6 i e q (by simpa using he) hq).2).mono hle
  .split at hk
   .cases hk
   .rename_i hn;obtain⟨g1,g2,g3,g4⟩:=h.owns k i hk;exact⟨g1,g2,g3,by simp[H',hn,g4]⟩
 .exact⟨H,own,.refl H,h⟩
def vE {j:Nat}{e:PE}{Z':Env}(h:PI.runs V [.setO j e] Z=some Z'):Z'=Z.setO j (e.ev Z):=by
 simp[PI.runs,PI.run] at h;exact h.symm
def qv {Z':Env}(h:PI.runs V [] Z=some Z'):Z'=Z:=by
 simp[PI.runs] at h;exact h.symm
def ED (C:Ctx)(w0:World)(σ0:Base)(V:bf)(S:St)(Z:Env)(A:Nat->Prop)(a:Act)(w:World)(r:St×List PI):Prop:=
 ∀Z',PI.runs V r.2 Z=some Z'->Good C w0 σ0 r.1 Z' A a w
def atC (h:Inv C S Z H own hv w0 σ0 A a w){b:Nat}{r:St×List PI}(hr:F9 S b=some r):ED C w0 σ0 V S Z A a w r:=by
 unfold F9 at hr;split at hr
 case h_2=>cases hr
 rename_i ag aP eo;simp only[aJ] at hr;obtain⟨x,hx,hr⟩:=hr;have bI:=h.objs b;rw[eo] at bI;obtain⟨k,cs,T,ds,h1,h2,h3,h4,h5,h6,h7⟩:=bI;obtain⟨l1,es,⟨he,uG⟩,l2,cG⟩:=Tq (b:=.o b) h (cs:=cs.toList) h5 aP 0 x (λm s hm=>by rw[CP,jh];exact(h7 m s hm).2) hx
 let H':Im:={c:=λk' o=>if k'=k then cs[o]? else H.c k' o,m:=H.m}
 have hle:H.le H':=by
  refine⟨λk' o v hc=>?_,λk es hc=>hc⟩;have:k'≠k:=λe=>by subst e;rw[(h.owns k' b h2).2.2.1 o] at hc;cases hc
  simp[H',this,hc]
 have key:∀(t:Ty) (v:Value) (d:D),Rep C.cap H' t v d->(∀(i:Nat) (u:Value),v.cells[i]?=some u->cs[i]?=some u)->
  Inv C (S.setO b (.fbox t)) (Z.setO b d) H' (λk'=>if k'=k then none else own k') hv w0 σ0 A a w:=by
  intro t v d hrv bG
  refine h.step (λi=>i=b) rfl hle ?_ (λk' o x hx=>?_) (λ_ _ hx=>.inl hx) (.refl _ _) ⟨λ_=>bL _,λ_ _=>rfl⟩ (λi hi=>⟨?_,?_,rfl,λk' hk=>⟨?_,rfl⟩⟩) (λi hi=>?_) (λk' i hk=>?_) (λ_=>id) (λt=>.inl ⟨rfl,rfl,rfl⟩) (λ_ _=>rfl) (λ_ _ _=>rfl) (λk' i hk=>by
        split at hk
        .cases hk
        .exact .inl ⟨i,hk⟩) (λi hi=>by subst hi;simp[St.setO,bh])
  .refine⟨λk' o v hc=>?_,h.ok.m⟩;simp only[H'] at hc;split at hc
   .rename_i e;subst e;simp[World.cell?,h3,hc]
   .exact h.ok.c k' o v hc
  .simp only[H'] at hx;split at hx
   .rename_i e;subst e;exact .inr ⟨(h.owns k' b h2).1,.inl ⟨b,h2⟩⟩
   .exact .inl hx
  .simp[St.setO,bU _ _ hi]
  .simp[Env.setO,bU _ _ hi]
  .have:k'≠k:=λe=>by subst e;rw[h2] at hk;simp at hk;exact hi hk.symm
   simp[this,hk]
  .subst hi;simp only[St.setO,bh];exact⟨k,v,h1,by simp only[Env.setO,bh];exact hrv,λi u hu=>by simp[H',bG i u hu]⟩
  .split at hk
   .cases hk
   .rename_i hn;obtain⟨g1,g2,g3,g4⟩:=h.owns k' i hk;exact⟨g1,g2,λo=>by simp[H',hn,g3 o],g4⟩
 have lE:∀(m:Nat) (t:Ty),x.1[m]?=some t->t.one=true/\Rep C.cap H' t (cs.toList.getD m undef) (es.getD m .none):=λm t hm=>by
  obtain⟨g1,g2⟩:=cG m t hm;rw[jh] at g2;exact⟨g1,g2.mono hle⟩
 intro Z' az;cases ag with
 |true=>
  simp only[zyv] at hr;cases hr;have:=vE az;subst this;refine⟨_,_,_,key (.agg x.1) (.agg cs.toList.toArray) _ ?_ (λi u hu=>by simpa [Value.cells] using hu)⟩;simp only[PE.ev,he];exact .agg _ _ _ (by simp;omega) (by omega) (λm t hm=>(lE m t hm).2) (λm t hm=>(lE m t hm).1)
 |false=>
  simp only[zyu] at hr;split at hr
  .rename_i t e et ee;cases hr;have:=vE az;subst this;obtain⟨g1,g2⟩:=lE 0 t (by rw[et];rfl);have mh:es=[e.ev Z]:=by rw[<-uG,ee];rfl
   subst mh;refine⟨_,_,_,key t (cs.toList.getD 0 undef) _ (by simpa using g2) (λi u hu=>?_)⟩;rw[(g2.oneCell g1).1] at hu;have hi:i=0:=by
        have:=(ij.1 hu).1;simpa using this
   subst hi;simp at hu;subst hu;have:0<cs.size:=by rw[h4];rw[et] at l1;simp at l1;omega
   rw[kB this];simp[bn,kB this]
  .cases hr
def Inv.mv (h:Inv C S Z H own hv w0 σ0 A a w){j j':Nat}(aI:j≠j')(hk:ni (S.o j)=true):
 Inv C (S.mv j j') (Z.setO j' (Z.o j)) H (λk=>if own k=some j then some j' else if own k=some j' then none else own k) (cL hv j' (hv j)) w0 σ0 A a w:=by
 have bI:=h.objs j
 refine h.step (λi=>i=j\/i=j') rfl (.refl H) h.ok (λ_ _ _ hx=>.inl hx) (λ_ _ hx=>.inl hx) (.refl _ _) ⟨λi=>?_,λi e=>?_⟩ (λi hi=>?_) (λi hi=>?_) (λk i hk=>?_) (λ_=>id) (λt=>.inl ⟨rfl,rfl,rfl⟩) (λ_ _=>rfl) (λ_ _ _=>rfl) (λk i hk=>by
        split at hk
        .rename_i e;exact .inl ⟨j,e⟩
        .split at hk
         .cases hk
         .exact .inl ⟨i,hk⟩) (λi hi=>by
        rcases hi with rfl|rfl
        .simp[St.mv,bh]
        .simp only[St.mv,bU _ _ (vV aI),bh];intro e;rw[e] at hk;cases hk)
 .simp only[St.mv,ic];split
  .rename_i e;subst e;omega
  .split
   .rename_i e;subst e;omega
   .omega
 .simp only[St.mv,ic] at e;split at e
  .rename_i e';subst e';omega
  .split at e
   .rename_i e';subst e';omega
   .rename_i U4;exact bU _ _ U4
 .simp only[not_or] at hi;refine⟨by simp[St.mv,bU _ _ hi.1,bU _ _ hi.2],by simp[Env.setO,bU _ _ hi.2],bU _ _ hi.2,λk hk=>⟨?_,rfl⟩⟩;have e1:i≠j:=hi.1;have e2:i≠j':=hi.2;simp[hk,e1,e2]
 .rcases hi with rfl|rfl
  .simp only[St.mv,bh];trivial
  .simp only[St.mv,bU _ _ (vV aI),bh];cases dr:S.o j with
   |row T e=>
    rw[dr] at bI;obtain⟨cells,xs,h1,h2,h3,h4⟩:=bI;refine⟨cells,xs,by simp only[Env.setO,bh];exact h1,by rw[bh];exact h2,h3,λk hk=>?_⟩;rw[bh] at hk;simp[h4 k hk]
   |mp kt et=>
    rw[dr] at bI;obtain⟨k0,arr,clock,es,h1,h2,h3,h4,h5,h6⟩:=bI;exact⟨k0,arr,clock,es,by rw[bh];exact h1,by simp[h2],h3,by simp only[Env.setO,bh];exact h4,h5,h6⟩
   |_=>rw[dr] at hk;simp[ni] at hk
 .split at hk
  .rename_i e;exact h.owns k j e
  .split at hk
   .cases hk
   .exact h.owns k i hk
def aB7 (h:Inv C S Z H own hv w0 σ0 A a w){t j':Nat}{r:St×List PI}(hr:Jq S t j'=some r):ED C w0 σ0 V S Z A a w r:=by
 intro Z' az;unfold Jq at hr;split at hr
 .rename_i j ver es;cases hb:(Nat.beq ver (S.ver j)&&ni (S.o j)&& !Nat.beq j j')<;>simp only[hb,zyv,zyu] at hr
  .cases hr;rw[qv az];exact⟨_,_,_,h⟩
  .cases hr;simp only[aA,lY] at hb;have gm:=aK hb.1.1;have aI:j≠j':=λe=>by subst e;simp at hb
   have oK:=h.mv aI hb.1.2;have rf:=h.regs t;rw[es] at rf;have cV:=rf.2 gm;rw[vE az];refine⟨_,_,_,oK.step (S':=(S.mv j j').setR t (.obj j' (S.ver j'+1))) (λ_=>False) rfl (.refl H) oK.ok (λ_ _ _ hx=>.inl hx) (λ_ _ hx=>.inl hx) (.refl _ _) ⟨λ_=>bL _,λ_ _=>rfl⟩ (λi _=>⟨rfl,rfl,rfl,λk hk=>⟨hk,rfl⟩⟩) (λ_ hf=>hf.elim) oK.owns (λ_=>id) (λu=>?_) (λ_ _=>rfl) (λ_ _ _=>rfl) (λk i hk=>.inl ⟨i,hk⟩) (λ_ hf=>hf.elim)⟩;by_cases hu:u=t
   .subst hu;refine .inr ⟨?_,λgs s e=>by simp[St.setR,bh] at e⟩;simp only[St.setR,bh];refine⟨?_,λ_=>?_⟩
    .simp[St.mv,bU _ _ (vV aI),bh]
    .rw[bh];exact cV
   .exact .inl ⟨by simp[St.setR,bU _ _ hu],rfl,rfl⟩
 .cases hr;rw[qv az];exact⟨_,_,_,h⟩
def aB6 (h:Inv C S Z H own hv w0 σ0 A a w){b i j':Nat}{r:St×List PI}(hr:Jp S b i j'=some r):ED C w0 σ0 V S Z A a w r:=by
 intro Z' az;unfold Jp at hr;split at hr
 .rename_i ag aP eo;split at hr
  .rename_i j ver es;cases hb:(Nat.beq ver (S.ver j)&&ni (S.o j)&& !Nat.beq j j'&& !Nat.beq b j'&& !Nat.beq b j)<;>simp only[hb,zyv,zyu] at hr
   .cases hr;rw[qv az];exact⟨_,_,_,h⟩
   .cases hr;simp only[aA,lY] at hb;have gm:=aK hb.1.1.1.1;have aI:j≠j':=λe=>by subst e;simp at hb
    have iQ:b≠j':=λe=>by subst e;simp at hb
    have eI:b≠j:=λe=>by subst e;simp at hb
    have bI:=h.objs b;rw[eo] at bI;obtain⟨k,cs,T,ds,h1,h2,h3,h4,h5,h6,h7⟩:=bI;have cV:=(h7 i _ es).2.2 gm;have oK:=h.mv aI hb.1.1.1.2;rw[vE az];have TM:(S.mv j j').o b=.box ag aP:=by simp[St.mv,bU _ _ iQ,bU _ _ eI,eo]
    have GL:=oK.objs b;rw[TM] at GL;refine⟨_,_,_,oK.step (S':=(S.mv j j').setO b (.box ag (aP.set i (.obj j' (S.ver j'+1))))) (λm=>m=b) rfl (.refl H) oK.ok (λ_ _ _ hx=>.inl hx) (λ_ _ hx=>.inl hx) (.refl _ _) ⟨λ_=>bL _,λ_ _=>rfl⟩ (λm hm=>⟨by simp[St.setO,bU _ _ hm],rfl,rfl,λk hk=>⟨hk,rfl⟩⟩) (λm hm=>?_) oK.owns (λ_=>id) (λt=>.inl ⟨rfl,rfl,rfl⟩) (λ_ _=>rfl) (λ_ _ _=>rfl) (λk i hk=>.inl ⟨i,hk⟩) (λm hm=>by subst hm;simp[St.setO,bh])⟩;subst hm;rw[St.setO_o];obtain⟨k1,FL,T1,FN,g1,g2,g3,g4,g5,g6,g7⟩:=GL;have e1:FL=cs:=by
     rw[bU _ _ iQ,h1] at g1;cases g1;rw[h3] at g3;cases g3;rfl
    refine⟨k1,FL,T1,FN,g1,g2,g3,by simpa using g4,g5,by simpa using g6,λq x hq=>?_⟩;rw[EH] at hq;split at hq
    .rename_i e;subst e;split at hq
     .cases hq;refine⟨(λ_ _ e=>by cases e),?_,λ_=>?_⟩
      .simp[St.setO,St.mv,bU _ _ (vV aI),bh]
      .rw[bh,e1];exact cV
     .cases hq
    .obtain⟨f1,f2⟩:=g7 q x hq;exact⟨f1,f2.mono' (.refl H) (Compat.setO _ _ _ _) f1⟩
  .cases hr;rw[qv az];exact⟨_,_,_,h⟩
 .cases hr;rw[qv az];exact⟨_,_,_,h⟩
def avM (h:Inv C S Z H own hv w0 σ0 A a w){b i j:Nat}{T:TypeId}{r:St×List PI}(hr:GN C S b i j T=some r):ED C w0 σ0 V S Z A a w r:=by
 intro Z' az;unfold GN at hr;split at hr
 .rename_i ag aP eo;split at hr
  .rename_i e0 e es et;cases hb:(!Nat.beq b j)<;>simp only[hb,zyv,zyu] at hr
   .cases hr;rw[qv az];exact⟨_,_,_,h⟩
   .cases hr;have aI:b≠j:=λe=>by subst e;simp at hb
    have bI:=h.objs b;rw[eo] at bI;obtain⟨k,cs,T0,ds,h1,h2,h3,h4,h5,h6,h7⟩:=bI;have cV:cs.getD i undef=.slice none 0 0:=by
     have:=(h7 i _ es).2;generalize cs.getD i undef=v at this;generalize ds.getD i .none=d at this;cases this;rfl
    have ml:=h.newO j (.row T e) (.list []) (.slice none 0 0) (λ_=>false) (.refl _ _) (by simp) ⟨[],[],by simp[Env.setO,bh],by rw[bh];exact World.ownsRow_nil _ _ _ _,⟨λ_=>undef,by simp,by simp⟩,by rw[bh];simp[Value.ownBlock]⟩;rw[vE az];have TM:(S.newO j (.row T e)).o b=.box ag aP:=by simp[St.newO,bU _ _ aI,eo]
    have GL:=ml.objs b;rw[TM] at GL;refine⟨_,_,_,ml.step (S':=(S.newO j (.row T e)).setO b (.box ag (aP.set i (.obj j (S.ver j+1))))) (λm=>m=b) rfl (.refl H) ml.ok (λ_ _ _ hx=>.inl hx) (λ_ _ hx=>.inl hx) (.refl _ _) ⟨λ_=>bL _,λ_ _=>rfl⟩ (λm hm=>⟨by simp[St.setO,bU _ _ hm],rfl,rfl,λk hk=>⟨hk,rfl⟩⟩) (λm hm=>?_) ml.owns (λ_=>id) (λt=>.inl ⟨rfl,rfl,rfl⟩) (λ_ _=>rfl) (λ_ _ _=>rfl) (λk i hk=>.inl ⟨i,hk⟩) (λm hm=>by subst hm;simp[St.setO,bh])⟩;subst hm;rw[St.setO_o];obtain⟨k1,FL,T1,FN,g1,g2,g3,g4,g5,g6,g7⟩:=GL;have e1:FL=cs:=by
     rw[bU _ _ aI,h1] at g1;cases g1;rw[h3] at g3;cases g3;rfl
    refine⟨k1,FL,T1,FN,g1,g2,g3,by simpa using g4,g5,by simpa using g6,λq x hq=>?_⟩;rw[EH] at hq;split at hq
    .rename_i e';subst e';split at hq
     .cases hq;refine⟨(λ_ _ e=>by cases e),?_,λ_=>?_⟩
      .simp[St.setO,St.newO,bh]
      .rw[bh,e1];exact cV
     .cases hq
    .obtain⟨f1,f2⟩:=g7 q x hq;exact⟨f1,f2.mono' (.refl H) (Compat.setO _ _ _ _) f1⟩
  .cases hr;rw[qv az];exact⟨_,_,_,h⟩
 .cases hr;rw[qv az];exact⟨_,_,_,h⟩
end
def mkObj (S:St)(dst:Nat)(ob:Ob):St:=(S.newO dst ob).setR dst (.obj dst (S.ver dst+1))
def mkPtr (S:St)(dst:Nat)(ob:Ob):St:=(S.newO dst ob).setR dst (.ptr dst (S.ver dst+1) 0)
abbrev l5:=Option (St×List PI)
def FX (C:Ctx)(S:St)(dst:Nat)(T:TypeId)(x:Operand):l5:=
 match use C S [] x,C.P.underlying T with
 |some (.nils _,_),some (.slice E)=>(qy C.P E).map λe=>(mkObj S dst (.row E e),[.setO dst (.con (.list [])),.setR dst (.con .none)])
 |_,_=>Option.none
def FO (C:Ctx)(S:St)(dst:Nat)(T:TypeId):l5:=
 match qy C.P T,C.P.info? T,rj C.P T with
 |some t,some inf,some ag=>
  bif vN inf t&&(t.rowT||t.one) then
   (qz t).map λz=>(mkPtr S dst (.box ag (z.1.flat.map .dat)),[.setO dst (.con (.agg z.2.cells)),.setR dst (.con .none)])
  else Option.none
 |_,_,_=>Option.none
def FQ (C:Ctx)(S:St)(dst:Nat)(T:TypeId)(x:Operand):l5:=
 match use C S [] x,rj C.P T with
 |some (t,e),some ag=>
  bif t.rowT||t.one then some (mkPtr S dst (.box ag (t.flat.map .dat)),[.setO dst (.mk [e]),.setR dst (.con .none)]) else Option.none
 |_,_=>Option.none
def FV (C:Ctx)(S:St)(dst:Nat)(T:TypeId)(r:Option Operand):l5:=
 match C.P.underlying T,r with
 |some (.map K E),Option.none=>
  (qy C.P K).bind λkt=>(qy C.P E).map λet=>(mkObj S dst (.mp kt et),[.setO dst (.con (.map [])),.setR dst (.con .none)])
 |_,_=>Option.none
def FW (C:Ctx)(S:St)(dst:Nat)(T:TypeId)(l c:Operand):l5:=
 match C.P.underlying T,use C S [] l,use C S [] c with
 |some (.slice E),some (.int _,n),some (.int _,m)=>
  (qy C.P E).bind λe=>
    bif sq C.P E e then
     (qz e).bind λz=>
        bif Ty.sub z.1 e then some (mkObj S dst (.row E e),[.chk (VR n),.chk (.ci .eql n m),.setO dst (.rep n (.con z.2)),.setR dst (.con .none)]) else Option.none
    else Option.none
 |_,_,_=>Option.none
def FY (C:Ctx)(S:St)(dst:Nat)(T:TypeId)(x:Operand):l5:=
 match C.P.underlying T,lb S [] x with
 |some (.map _ _),.obj j ver=>
  bif Nat.beq ver (S.ver j)&& !Nat.beq j dst then
   match S.o j with
   |.mp kt et=>some (mkObj (S.mv j dst) dst (.it kt et),[.setO dst (.tup [.lst [],.o j]),.setR dst (.con .none)])
   |_=>Option.none
  else Option.none
 |_,_=>Option.none
def FT (C:Ctx)(S:St)(dst:Nat)(s d:TypeId)(x:Operand):l5:=
 match use C S [] x,C.P.underlying s,C.P.underlying d with
 |some (.str,e),some .string,some (.slice E)=>
  (match C.P.underlying E with
   |some (.int .u8)=>some (S.setR dst (.dat (.slice (.int .u8))),[.chk (.ci .leq (.slen e) (.con (.int oW))),.setR dst (.bytes e)])
   |_=>Option.none)
 |_,_,_=>Option.none
section
variable {C:Ctx} {S:St} {Z:Env} {H:Im} {own:Nat->Option Nat} {hv:Nat->Value} {w0:World} {σ0:Base} {A:Nat->Prop} {a:Act} {w:World} {gs:List (Nat×Bool)} {V:bf} {dst:Nat}
def cE (C:Ctx)(w0:World)(σ0:Base)(V:bf)(S:St)(Z:Env)(A:Nat->Prop)(a:Act)(w:World)(o:Oper)(r:St×List PI):Prop:=
 ∀Z',PI.runs V r.2 Z=some Z'->∀(K:Act->World->Prop) (Q:Exit->Act->World->Prop),(∀a' w',Good C w0 σ0 r.1 Z' (λu=>A u\/o.dst=some u) a' w'->a'.tmps.size=a.tmps.size->K a' w')->o.wp C.P a w K Q
def size_put (a:Act)(d:Option Tmp)(v:Value):(a.put d v).tmps.size=a.tmps.size:=by
 cases d<;>simp[Act.put]
def cE.value {o:Oper}{r:St×List PI}(hd:o.dst=some dst)(hx:∀Z',PI.runs V r.2 Z=some Z'->∃v w',(execOp a.eval o).run C.P w=.ok (.value v) w'/\Good C w0 σ0 r.1 Z' (λu=>A u\/u=dst) (a.put (some dst) v) w'):cE C w0 σ0 V S Z A a w o r:=by
 intro Z' az K Q hK;obtain⟨v,w',h1,h2⟩:=hx Z' az;simp only[Oper.wp,h1,Oper.upon,hd];refine hK _ _ ?_ (size_put _ _ _)
 have:(λu=>A u\/o.dst=some u)=(λu=>A u\/u=dst):=by
  funext u;rw[hd];simp[eq_comm]
 rw[this];exact h2
def cE.skip {o:Oper}{r:St×List PI}(hd:o.dst=none)(hx:∀Z',PI.runs V r.2 Z=some Z'->∃w',(execOp a.eval o).run C.P w=.ok .skip w'/\Good C w0 σ0 r.1 Z' A a w'):cE C w0 σ0 V S Z A a w o r:=by
 intro Z' az K Q hK;obtain⟨w',h1,h2⟩:=hx Z' az;simp only[Oper.wp,h1,Oper.upon,hd]
 have:(λu=>A u\/o.dst=some u)=A:=by
  funext u;rw[hd];simp
 rw[this] at hK;exact hK _ _ h2 (size_put _ _ _)
def ff.eff (h:Inv C S Z H own hv w0 σ0 A a w)(ht:¬A dst)(aq:dst<a.tmps.size){o:Oper}(hd:o.dst=some dst){s:Sh}{HI:List PI}(hq:ff C S Z H hv V dst a w o (s,HI)):cE C w0 σ0 V S Z A a w o (S.setR dst s,HI):=by
 refine cE.value hd λZ' az=>?_;obtain⟨v,d,rfl,h1,h2,h3⟩:=hq Z' az;exact⟨v,w,h1,H,own,hv,h.setReg ht (ba.mono' (.refl H) (.refl S hv) h3 h2) aq (λgs s' e=>absurd e (h3 gs s'))⟩
def ff.effG (h:Inv C S Z H own hv w0 σ0 A a w)(ht:¬A dst)(aq:dst<a.tmps.size)(eT:∀g,g∈gs->A g.1)(hg:holds gs Z=true){o:Oper}(hd:o.dst=some dst){s:Sh}{HI:List PI}(hq:ff C S Z H hv V dst a w o (s,HI)):cE C w0 σ0 V S Z A a w o (S.setR dst (.opt gs s),HI):=by
 refine cE.value hd λZ' az=>?_;obtain⟨v,d,rfl,h1,h2,h3⟩:=hq Z' az;have hh:holds gs (Z.setR dst d)=true:=by rw[GM (t:=dst) (d:=d) λg hm e=>ht (by rw[<-e];exact eT g hm)];exact hg
 refine⟨v,w,h1,H,own,hv,h.setReg ht ⟨λ_=>ba.mono' (.refl H) (.refl S hv) h3 h2,λe=>absurd (hh.symm.trans e) (by decide)⟩ aq (λbY s' e=>?_)⟩;cases e;exact⟨eT,h3⟩
def Inv.passed (h:Inv C S Z H own hv w0 σ0 A a w)(ht:¬A dst)(aq:dst<a.tmps.size)(eT:∀g,g∈gs->A g.1)(hg:holds gs Z=false){s:Sh}(hs:∀bY s',s≠.opt bY s')(d:D):Inv C (S.setR dst (.opt gs s)) (Z.setR dst d) H own hv w0 σ0 (λu=>A u\/u=dst) (a.put (some dst) undef) w:=by
 have hh:holds gs (Z.setR dst d)=false:=by rw[GM (t:=dst) (d:=d) λg hm e=>ht (by rw[<-e];exact eT g hm)];exact hg
 refine h.setReg ht (s:=.opt gs s) (v:=undef) (d:=d) ⟨λe=>absurd (hh.symm.trans e) (by decide),λ_=>rfl⟩ aq (λbY s' e=>?_);cases e;exact⟨eT,hs⟩
def Inv.mkObj (h:Inv C S Z H own hv w0 σ0 A a w)(ht:¬A dst)(aq:dst<a.tmps.size)(ob:Ob)(d:D)(v:Value)(nb:Nat->Bool){w':World}(hw:Below w.heap.size w w')(eJ:∀k,nb k=true->w.heap.size<=k/\k<w'.heap.size)
 (dr:eD C (S.newO dst ob) (Z.setO dst d) H (gH own dst nb) (cL hv dst v) w' w0.heap.size dst ob) (q7:ob≠.tr:=by intro h;cases h):
 Good C w0 σ0 (Cx.mkObj S dst ob) ((Z.setO dst d).setR dst .none) (λu=>A u\/u=dst) (a.put (some dst) v) w':=by
 have h1:=h.newO dst ob d v nb hw eJ dr q7;have h2:=h1.setObj ht (j:=dst) (v:=v) (bh _ _ _) aq;have e:(S.newO dst ob).ver dst=S.ver dst+1:=bh _ _ _;rw[e] at h2;exact⟨_,_,_,h2⟩
def Inv.mkPtr (h:Inv C S Z H own hv w0 σ0 A a w)(ht:¬A dst)(aq:dst<a.tmps.size)(ob:Ob)(d:D)(k:Nat)(nb:Nat->Bool){w':World}(hw:Below w.heap.size w w')(eJ:∀k,nb k=true->w.heap.size<=k/\k<w'.heap.size)
 (dr:eD C (S.newO dst ob) (Z.setO dst d) H (gH own dst nb) (cL hv dst (.pointer (some ⟨k,0,none⟩))) w' w0.heap.size dst ob) (q7:ob≠.tr:=by intro h;cases h):
 Good C w0 σ0 (Cx.mkPtr S dst ob) ((Z.setO dst d).setR dst .none) (λu=>A u\/u=dst) (a.put (some dst) (.pointer (some ⟨k,0,none⟩))) w':=by
 have h1:=h.newO dst ob d _ nb hw eJ dr q7;have e:(S.newO dst ob).ver dst=S.ver dst+1:=bh _ _ _;have h2:=h1.setReg ht (s:=.ptr dst (S.ver dst+1) 0) (v:=.pointer (some ⟨k,0,none⟩)) (d:=.none) ⟨Nat.le_of_eq e.symm,λ_=>⟨k,bh _ _ _,rfl⟩⟩ aq (λ_ _ e=>by cases e);exact⟨_,_,_,h2⟩
def Js {e:PE}{Z':Env}(h:PI.runs V [.setO dst e,.setR dst (.con .none)] Z=some Z'):Z'=(Z.setO dst (e.ev Z)).setR dst .none:=by
 simp[PI.runs,PI.run,PE.ev] at h;exact h.symm
def aeW (h:Inv C S Z H own hv w0 σ0 A a w){t:Ty}{v:Value}{d:D}(hr:Rep C.cap H t v d)(ho:t.rowT=true\/t.one=true)(ag:Bool)(T:TypeId):
 eD C (S.newO dst (.box ag (t.flat.map .dat))) (Z.setO dst (.agg d.cells)) H (gH own dst (λk=>Nat.beq k w.heap.size)) (cL hv dst (.pointer (some ⟨w.heap.size,0,none⟩))) (w.alloc (.cells v.cells T)) w0.heap.size dst (.box ag (t.flat.map .dat)):=by
 obtain⟨f1,f2,f3⟩:=hr.flat ho;refine⟨w.heap.size,v.cells,T,d.cells,bh _ _ _,by simp[gH],heap_alloc_new w _,by rw[hr.size];simp[f1],by simp[Env.setO,bh],by simp[f1,f2],λi s hi=>?_⟩;simp only[dF,aT] at hi;obtain⟨ti,G2,rfl⟩:=hi;exact⟨λ_ _ e=>(by cases e),(f3 i ti G2).2⟩
def ark (h:Inv C S Z H own hv w0 σ0 A a w)(hC:CtxOK C σ0)(ht:¬A dst)(aq:dst<a.tmps.size){T:TypeId}{x:Operand}{r:St×List PI}(hr:FX C S dst T x=some r){o:Oper}(hd:o.dst=some dst)(ho:o.op=.assign x):cE C w0 σ0 V S Z A a w o r:=by
 unfold FX at hr;split at hr
 case h_2=>cases hr
 rename_i e0 e1 E hu hT;simp only[aT] at hr;obtain⟨e,he,rfl⟩:=hr;have hx:=cM h hC rfl hu;have cV:a.eval x=.slice none 0 0:=by
  generalize a.eval x=v at hx;generalize e1.ev Z=d at hx;cases hx;rfl
 refine cE.value hd λZ' az=>⟨.slice none 0 0,w,by simp[execOp,ho,cV],?_⟩
 rw[Js az];exact h.mkObj ht aq (.row E e) _ _ (λ_=>false) (.refl _ _) (by simp) ⟨[],[],by simp[Env.setO,bh,PE.ev],by rw[bh];exact World.ownsRow_nil _ _ _ _,⟨λ_=>undef,by simp,by simp⟩,by rw[bh];simp[Value.ownBlock]⟩
def aqS (h:Inv C S Z H own hv w0 σ0 A a w)(ht:¬A dst)(aq:dst<a.tmps.size){T:TypeId}{r:St×List PI}(hr:FO C S dst T=some r){o:Oper}(hd:o.dst=some dst)(ho:o.op=.alloc T):cE C w0 σ0 V S Z A a w o r:=by
 unfold FO at hr;split at hr
 case h_2=>cases hr
 rename_i t inf ag Vv hi ha;cases hc:(vN inf t&&(t.rowT||t.one))<;>simp only[hc,zyv,zyu] at hr
 .cases hr
 simp only[aA,lZ] at hc;simp only[aT] at hr;obtain⟨z,hz,rfl⟩:=hr;obtain⟨v0,jx,VJ⟩:∃v0,inf.zero=some v0/\j2 t v0=true:=by
  have:=hc.1;unfold vN at this;split at this
  .exact⟨_,by assumption,this⟩
  .cases this
 obtain⟨k1,k2,k3⟩:=A1 (cap:=C.cap) (H:=H) hz VJ;have GX:z.1.rowT=true\/z.1.one=true:=by
  rcases hc.2 with e|e
  .left;cases t<;>simp[Ty.rowT] at e;simp[qz] at hz;obtain⟨_,_,rfl⟩:=hz;rfl
  .right;rw[k3];exact e
 refine cE.value hd λZ' az=>⟨.pointer (some ⟨w.heap.size,0,none⟩),w.alloc (.cells v0.cells T),?_,?_⟩
 .simp[execOp,ho,Instr.alloc,zeroValue,run_typeInfo w hi,jx,newVar,newRow]
 .rw[Js az];exact h.mkPtr ht aq _ _ _ (λk=>Nat.beq k w.heap.size) ((Below.refl _ _).alloc (bL _) _) (λk hk=>by simp at hk;simp;omega) (aeW h k1 GX ag T)
def aqW (h:Inv C S Z H own hv w0 σ0 A a w)(hC:CtxOK C σ0)(ht:¬A dst)(aq:dst<a.tmps.size){T:TypeId}{x:Operand}{r:St×List PI}(hr:FQ C S dst T x=some r){o:Oper}(hd:o.dst=some dst)(ho:o.op=.box T x):cE C w0 σ0 V S Z A a w o r:=by
 unfold FQ at hr;split at hr
 case h_2=>cases hr
 rename_i t e ag hu ha;cases hc:(t.rowT||t.one)<;>simp only[hc,zyv,zyu] at hr
 .cases hr
 cases hr;simp only[lZ] at hc;have hx:=cM h hC rfl hu;refine cE.value hd λZ' az=>⟨.pointer (some ⟨w.heap.size,0,none⟩),w.alloc (.cells (a.eval x).cells T),?_,?_⟩
 .simp[execOp,ho,Instr.box,newVar,newRow]
 .rw[Js az];have:(PE.mk [e]).ev Z=.agg (e.ev Z).cells:=by simp[PE.ev,PE.evc]
  rw[this];exact h.mkPtr ht aq _ _ _ (λk=>Nat.beq k w.heap.size) ((Below.refl _ _).alloc (bL _) _) (λk hk=>by simp at hk;simp;omega) (aeW h hx hc ag T)
def arc (h:Inv C S Z H own hv w0 σ0 A a w)(ht:¬A dst)(aq:dst<a.tmps.size){T:TypeId}{m:Option Operand}{r:St×List PI}(hr:FV C S dst T m=some r){o:Oper}(hd:o.dst=some dst)(ho:o.op=.makeMap T m):cE C w0 σ0 V S Z A a w o r:=by
 unfold FV at hr;split at hr
 case h_2=>cases hr
 rename_i K E hT;simp only[aJ,aT] at hr;obtain⟨kt,hk,et,he,rfl⟩:=hr;refine cE.value hd λZ' az=>⟨.map (some w.heap.size),w.alloc (.map #[] 0),?_,?_⟩
 .simp[execOp,ho,Instr.makeMap]
 .rw[Js az]
  exact h.mkObj ht aq (.mp kt et) _ _ (λk=>Nat.beq k w.heap.size) ((Below.refl _ _).alloc (bL _) _) (λk hk=>by simp at hk;simp;omega)
   ⟨w.heap.size,#[],0,[],bh _ _ _,by simp[gH],heap_alloc_new w _,by simp[Env.setO,bh,PE.ev],rfl,⟨by simp,by simp[nI]⟩,by simp⟩
def arn (h:Inv C S Z H own hv w0 σ0 A a w)(ht:¬A dst)(aq:dst<a.tmps.size){T:TypeId}{x:Operand}{r:St×List PI}(hr:FY C S dst T x=some r){o:Oper}(hd:o.dst=some dst)(ho:o.op=.range T x):cE C w0 σ0 V S Z A a w o r:=by
 unfold FY at hr;split at hr
 case h_2=>cases hr
 rename_i K E j ver hT es;obtain⟨fp,_⟩:=AS h (gs:=[]) rfl x;rw[es] at fp;cases hb:(Nat.beq ver (S.ver j)&& !Nat.beq j dst)<;>simp only[hb,zyv,zyu] at hr
 .cases hr
 simp only[aA,lY] at hb;have cV:=fp.2 (aK hb.1);have aI:j≠dst:=λe=>by subst e;simp at hb
 have bI:=h.objs j;split at hr
 case h_2=>cases hr
 rename_i kt et eo;cases hr;rw[eo] at bI;obtain⟨m,arr,clock,ds,h1,h2,h3,h4,h5,⟨h6,sA⟩,h7⟩:=bI;have oK:=h.mv aI (by rw[eo];rfl);have oJ:m<w.heap.size:=(ij.1 h3).1;have UX:w0.heap.size<=m:=(h.owns m j h2).1;refine cE.value hd λZ' az=>⟨.pointer (some ⟨w.heap.size,0,none⟩),w.alloc (.mapIter (some m) clock #[] clock),?_,?_⟩
 .simp[execOp,ho,Instr.range,cV,h1,run_underlying hT,getObj,Sem.run,h3]
 have hρ:Z'=((Z.setO dst (.tup [.list [],.map ds])).setR dst .none):=by
  simp[PI.runs,PI.run,PE.ev,PE.evs,h4] at az;exact az.symm
 subst hρ;have eh:Below w.heap.size w (w.alloc (.mapIter (some m) clock #[] clock)):=(Below.refl _ _).alloc (bL _) _;have Vo:=oK.step (S':=(S.mv j dst).newO dst (.it kt et)) (Z':=(Z.setO dst (.tup [.list [],.map ds]))) (H':=H) (hv':=cL (cL hv dst (hv j)) dst (.pointer (some ⟨w.heap.size,0,none⟩)))
  (own':=λk=>if k=w.heap.size then some dst else(if own k=some j then some dst else if own k=some dst then none else own k)) (a':=a) (A':=A) (w':=w.alloc (.mapIter (some m) clock #[] clock)) (λi=>i=dst)
  rfl (.refl H) (h.ok.below eh) (λ_ _ _ hx=>.inl hx) (λ_ _ hx=>.inl hx) (eh.mono h.below.size) ⟨λi=>?_,λi e=>?_⟩ (λi hi=>⟨?_,?_,?_,λk hk=>⟨?_,?_⟩⟩) (λi hi=>?_) (λk i hk=>?_) (λ_=>id) (λt=>.inl ⟨rfl,rfl,rfl⟩) (λ_ _=>rfl) (λk hk _=>eh.block k hk) (λk i hk=>?_) (λi hi=>by subst hi;simp[St.newO,bh])
 .have gf:=Vo.setObj ht (j:=dst) (v:=.pointer (some ⟨w.heap.size,0,none⟩)) (bh _ _ _) aq;have e:((S.mv j dst).newO dst (.it kt et)).ver dst=(S.mv j dst).ver dst+1:=bh _ _ _;rw[e] at gf;exact⟨_,_,_,gf⟩
 .simp only[St.newO,ic];split<;>rename_i e
  .subst e;omega
  .omega
 .simp only[St.newO,ic] at e;split at e
  .rename_i e';subst e';omega
  .rename_i U4;exact bU _ _ U4
 .simp[St.newO,bU _ _ hi]
 .simp[Env.setO,bU _ _ hi]
 .exact bU _ _ hi
 .have aML:=(oK.owns k i hk).2.1;have bu:k≠w.heap.size:=by omega
  simp only[if_neg bu];exact hk
 .exact eh.block k (oK.owns k i hk).2.1
 .subst hi;simp only[St.newO,bh];have cP:m≠w.heap.size:=by omega
  refine⟨w.heap.size,m,arr,clock,ds,[],bh _ _ _,by simp,by simp[cP,h2],by omega,?_,heap_alloc_new w _,by simp[Env.setO,bh,ia],List.nodup_nil,by simp,h5,sA,h7⟩;rw[eh.block m oJ];exact h3
 .split at hk
  .rename_i e;subst e;refine⟨h.below.size,by simp,λo=>?_,?_⟩
   .cases hc:H.c w.heap.size o with
    |none=>rfl
    |some u=>have:=h.lt hc;omega
   .cases hc:H.m w.heap.size with
    |none=>rfl
    |some u=>have:=h.ltm hc;omega
  .obtain⟨g1,g2,g3,g4⟩:=oK.owns k i hk;exact⟨g1,by simp;omega,g3,g4⟩
 .split at hk
  .rename_i e;subst e;exact .inr (bL _)
  .exact .inl ⟨i,hk⟩
def aq0 (h:Inv C S Z H own hv w0 σ0 A a w)(hC:CtxOK C σ0)(ht:¬A dst)(aq:dst<a.tmps.size){T U:TypeId}{x:Operand}{r:St×List PI}(hr:FT C S dst T U x=some r){o:Oper}(hd:o.dst=some dst)(ho:o.op=.convert T U x):cE C w0 σ0 V S Z A a w o r:=by
 unfold FT at hr;split at hr
 case h_2=>cases hr
 rename_i e E hu hT hU;split at hr
 case h_2=>cases hr
 rename_i hE;cases hr;have hx:=cM h hC rfl hu;obtain⟨s,bD,bB,hs⟩:=hx.str_inv;have xd:=Lib.run_convert_string_bytes (P:=C.P) w T U E s hT hU hE;refine cE.value hd λZ' az=>⟨.slice (some ⟨w.heap.size,0,none⟩) s.size (grownCap w s.size 0 E),Lib.bytesWorld w E s,by simp[execOp,ho,bD,xd],?_⟩
 simp only[PI.runs,PI.run,aJ] at az;obtain⟨ρ1,g1,ρ2,g2,g3⟩:=az;cases c1:((PE.ci BinOp.leq (.slen e) (.con (.int oW))).ev Z).b<;>simp only[c1,zyv,zyu] at g1
 .cases g1
 cases g1;cases g2;cases g3;have NL:s.size<=4294967296:=by
  simp[PE.ev,bB,D.s,D.i,D.b,jm,D.int,oW] at c1;omega
 have eh:Below w.heap.size w (Lib.bytesWorld w E s):=⟨rfl,rfl,rfl,by rw[Lib.bytesWorld_size];omega,λk hk=>Lib.bytesWorld_at_old w E s k hk⟩
 have bp:(Lib.bytesWorld w E s).heap.size=w.heap.size+1:=Lib.bytesWorld_size w E s
 let H':Im:={c:=λk i=>if k=w.heap.size then(if i<s.size then some (.int .u8 (s.data.toList.getD i 0).toNat) else none) else H.c k i,m:=H.m}
 have hle:H.le H':=by
  refine⟨λk o v hc=>?_,λk es hc=>hc⟩;have:k≠w.heap.size:=by have:=h.lt hc;omega
  simp[H',this,hc]
 have aE:H'.ok (Lib.bytesWorld w E s):=by
  refine⟨λk i v hc=>?_,(h.ok.below eh).m⟩;simp only[H'] at hc;split at hc
  .rename_i ek;subst ek;split at hc
   .rename_i hi;cases hc;exact Lib.bytesWorld_cell w E s i hi
   .cases hc
  .exact(h.ok.below eh).c k i v hc
 have h1:=h.step (S':=S) (Z':=Z) (H':=H') (own':=own) (hv':=hv) (A':=A) (a':=a) (w':=Lib.bytesWorld w E s) (λ_=>False) rfl hle aE (λk i v hc=>?_) (λk es hc=>.inl hc) (eh.mono h.below.size) ⟨λ_=>bL _,λ_ _=>rfl⟩
  (λj _=>⟨rfl,rfl,rfl,λk hk=>⟨hk,eh.block k (h.owns k j hk).2.1⟩⟩) (λj hj=>hj.elim) (λk j hk=>?_) (λ_=>id) (λt=>.inl ⟨rfl,rfl,rfl⟩) (λ_ _=>rfl) (λk hk _=>eh.block k hk) (λk i hk=>.inl ⟨i,hk⟩) (λ_ hf=>hf.elim)
 .refine⟨_,_,_,h1.setReg ht (s:=.dat (.slice (.int .u8))) ?_ aq (λ_ _ e=>by cases e)⟩;show Rep C.cap H' _ _ _;simp only[PE.ev,bB,D.s];refine .slice (.int .u8) w.heap.size 0 s.size _ _ (λi=>.int .u8 (s.data.toList.getD i 0).toNat) (by simp) (grownCap_ge w s.size 0 E) (grownCap_le_maxLen w s.size 0 E (by unfold maxLen;omega)) (λi x hx=>?_) (λi j u hi hu=>?_)
  .simp only[dF,aT] at hx;obtain⟨b,hb,rfl⟩:=hx;have:s.data.toList.getD i 0=b:=by simp[bn,hb]
   rw[this];have:=b.toNat_lt;exact .int .u8 _ (by show(0:Int)<=_;omega) (by show _<=(255:Int);omega)
  .have hj:j=0:=by
        have:=(ij.1 hu).1;simp[Value.cells] at this;exact this
   subst hj;simp[Value.cells] at hu;subst hu;simp[H',Ty.size,hi]
 .simp only[H'] at hc;split at hc
  .rename_i ek;exact .inr ⟨by have:=h.below.size;omega,.inr (by omega)⟩
  .exact .inl hc
 .obtain⟨g1,g2,g3,g4⟩:=h.owns k j hk;refine⟨g1,by omega,λi=>?_,g4⟩;have:k≠w.heap.size:=by omega
  simp[H',this,g3 i]
end
def M0 (C:Ctx)(S:St)(gs:List (Nat×Bool))(e:Ty)(z:D)(parts:List (Nat×Operand))(i:Nat):Option PE:=
 match parts.find? (λp=>Nat.beq p.1 i) with
 |some p=>(use C S gs p.2).bind λa=>bif Ty.sub a.1 e then some a.2 else Option.none
 |Option.none=>some (PE.con z)
def ze (C:Ctx)(S:St)(gs:List (Nat×Bool))(dst:Nat)(T:TypeId)(len:Nat)(parts:List (Nat×Operand)):l5:=
 match C.P.underlying T with
 |some (.slice E)=>
  (qy C.P E).bind λe=>(qz e).bind λz=>
    bif sq C.P E e&&Ty.sub z.1 e&&nm (parts.map (·.1))&&parts.all (λp=>Nat.blt p.1 len)&&Nat.ble (len*e.size) 16777216 then
     ((List.range len).mapM (M0 C S gs e z.2 parts)).map λes=>(mkObj S dst (.row E e),[.setO dst (.lst es),.setR dst (.con .none)])
    else Option.none
 |_=>Option.none
def CJ (C:Ctx)(S:St)(gs:List (Nat×Bool))(dst:Nat)(T:TypeId)(len:Nat)(parts:List (Nat×Operand)):l5:=
 match C.P.underlying T,ze C S gs dst T len parts with
 |some (.slice E),some r=>
  (qy C.P E).bind λe=>
    match r.2 with
    |.setO _ x::_=>some ((S.newO dst .dead).setR dst (match gs with|[]=>.dat (.slice e.rol)|_=>.opt gs (.dat (.slice e.rol))),[.setR dst x])
    |_=>Option.none
 |_,_=>Option.none
def FZ (C:Ctx)(S:St)(T:TypeId)(x v:Operand):l5:=
 match C.P.info? T with
 |some inf=>
  match lb S [] x with
  |.ptr j ver off=>
   bif Nat.beq ver (S.ver j) then
    match S.o j with
    |.box ag aP=>
     match use C S [] v with
     |some (t,e)=>
      bif Nat.beq inf.size t.size&&(t.rowT||t.one)&&Nat.ble (off+t.size) aP.length then
             some (S.setO j (.box ag (aP.take off++t.flat.map .dat++aP.drop (off+t.size))),[.setO j (.setc (.o j) off e)])
      else Option.none
     |Option.none=>
      match lb S [] v with
      |.obj j' tL=>
       bif Nat.beq tL (S.ver j')&&ni (S.o j')&&Nat.beq inf.size 1&&Nat.blt off aP.length then
              some (S.setO j (.box ag (aP.set off (.obj j' tL))),[.setO j (.setc (.o j) off (.con .none))])
       else Option.none
      |_=>Option.none
    |_=>Option.none
   else Option.none
  |.eptr j ver size off=>
   bif Nat.beq ver (S.ver j) then
    match S.o j,use C S [] v with
    |.row _ (.agg ts),some (t,e)=>
     bif Nat.beq inf.size t.size&&(t.rowT||t.one)&&Nat.beq size ts.length&&Nat.ble (off+t.size) ts.length&&Ty.subs t.flat ((ts.drop off).take t.size) then
         some (S,[.setO j (.setn (.o j) (yb x) off e)])
     else Option.none
    |.row _ e0,some (t,e)=>
     bif Nat.beq inf.size 1&&Nat.beq size 1&&Nat.beq off 0&&e0.one&&Ty.sub t e0 then some (S,[.setO j (.setn (.o j) (yb x) 0 e)]) else Option.none
    |_,_=>Option.none
   else Option.none
  |_=>Option.none
 |Option.none=>Option.none
def CK (C:Ctx)(S:St)(T:TypeId)(m k v:Operand):l5:=
 match C.P.underlying T,lb S [] m with
 |some (.map K _),.obj j ver=>
  bif Nat.beq ver (S.ver j) then
   match S.o j,use C S [] k,use C S [] v with
   |.mp kt et,some (tk,ek),some (tv,ev)=>
    bif Ty.beq tk kt&&xt C.P K kt&&Ty.sub tv et then some (S,[.chk (.ci .lss (.mlen (.o j)) (.con (.int oW))),.setO j (.put (.o j) ek ev)]) else Option.none
   |_,_,_=>Option.none
  else Option.none
 |_,_=>Option.none
def Oe (x y:PE):PE:=.ci .leq (.llen (.app x y)) (.con (.int oW))
def QJ:Ty->Ty->Bool
 |.slice e',e=>Ty.beq e'.unf e
 |.nils _,_=>true
 |_,_=>false
def FP (C:Ctx)(S:St)(dst:Nat)(T:TypeId)(s x:Operand):l5:=
 match C.P.underlying T with
 |some (.slice E)=>
  (qy C.P E).bind λe=>
    match view C S [] x with
    |some (tx,ex)=>
     bif sq C.P E e&&QJ tx e then
        match use C S [] s with
        |some (.nils _,_)=>some (mkObj S dst (.row E e),[.chk (Oe (.con (.list [])) ex),.setO dst (.app (.con (.list [])) ex),.setR dst (.con .none)])
        |some _=>Option.none
        |Option.none=>
         match lb S [] s with
         |.obj j ver=>
          bif Nat.beq ver (S.ver j) then
             match S.o j with
             |.row E' e'=>
              bif Nat.beq E' E&&Ty.beq e' e then
                some ((S.newO j (.row E e)).setR dst (.obj j (S.ver j+1)),[.chk (Oe (.o j) ex),.setO j (.app (.o j) ex),.setR dst (.con .none)])
              else Option.none
             |_=>Option.none
          else Option.none
         |_=>Option.none
     else Option.none
    |Option.none=>Option.none
 |_=>Option.none
def TJ {P:Program}{T:TypeId}{e:Ty}(h:sq P T e=true):∃inf z,P.info? T=some inf/\inf.size=e.size/\inf.bytes<=Aj/\1<=e.size/\inf.zero=some z/\j2 e z=true:=by
 unfold sq at h;split at h
 .rename_i i hi;simp only[aA] at h;have h4:=h.2;unfold vN at h4;split at h4
  .rename_i z hz;exact⟨i,z,hi,aK h.1.1.1,mO h.1.1.2,mO h.1.2,hz,h4⟩
  .cases h4
 .cases h
def adV {e:Ty}{z:Value}(h:j2 e z=true):z.cells.size=e.size:=by
 cases e with
 |agg ts=>
  cases z with
  |agg vs=>simp only[j2] at h;have:=(adW ts vs.toList h).1;simpa [Value.cells,Ty.size] using this
  |_=>simp[j2] at h
 |_=>cases z<;>simp_all [j2,A0,Value.cells,Ty.size]
def aqj {Z:Env}{x y:PE}(h:((PE.ci .lss x y).ev Z).b=true):(x.ev Z).i<(y.ev Z).i:=by
 simpa [PE.ev,D.b_bool,jm] using h
def ae6 {Z:Env}{x y:PE}(h:((PE.ci .leq x y).ev Z).b=true):(x.ev Z).i<=(y.ev Z).i:=by
 simpa [PE.ev,D.b_bool,jm] using h
def axj {n:Nat}(h:(n:Int)<oW):n<4294967296:=by unfold oW at h;omega
def ah7 {n:Nat}(h:(n:Int)<=oW):n<=4294967296:=by unfold oW at h;omega
def St.setO_self {S:St}{j:Nat}{ob:Ob}(h:S.o j=ob):S.setO j ob=S:=by
 have:cL S.o j ob=S.o:=by
  funext i;rw[ic];split
  .rename_i e;subst e;exact h.symm
  .rfl
 cases S;simp only[St.setO] at this ⊢;rw[this]
section
variable {C:Ctx} {S:St} {Z:Env} {H:Im} {own:Nat->Option Nat} {hv:Nat->Value} {w0:World} {σ0:Base} {A:Nat->Prop} {a:Act} {w:World} {gs:List (Nat×Bool)} {V:bf} {dst:Nat}
def Inv.updO (h:Inv C S Z H own hv w0 σ0 A a w)(j:Nat)(ob:Ob)(d:D)(v:Value)(nb:Nat->Bool){w':World}(hw:Below w0.heap.size w w')
 (uE:∀k,k<w.heap.size->own k≠some j->w'.heap[k]?=w.heap[k]?) (eJ:∀k,nb k=true->(own k=some j\/w.heap.size<=k)/\k<w'.heap.size)
 (dr:eD C (S.newO j ob) (Z.setO j d) H (gH own j nb) (cL hv j v) w' w0.heap.size j ob) (q7:ob≠.tr:=by intro h;cases h):Inv C (S.newO j ob) (Z.setO j d) H (gH own j nb) (cL hv j v) w0 σ0 A a w':=by
 have bp:w0.heap.size<=w.heap.size:=h.below.size;have dv:∀k i,i≠j->own k=some i->gH own j nb k=some i:=by
  intro k i hi hk;have h1:=h.owns k i hk;have h2:nb k=false:=by
   cases hn:nb k with
   |false=>rfl
   |true=>
    rcases(eJ k hn).1 with e|e
    .rw[hk] at e;simp at e;exact absurd e hi
    .omega
  simp[gH,h2,hk,hi]
 have aE:H.ok w':=by
  refine⟨λk o u hc=>?_,λk es hc=>?_⟩
  .have aI:own k≠some j:=λe=>by rw[(h.owns k j e).2.2.1 o] at hc;cases hc
   rw[World.cell?_of_block (uE k (h.lt hc) aI)];exact h.ok.c k o u hc
  .have aI:own k≠some j:=λe=>by rw[(h.owns k j e).2.2.2] at hc;cases hc
   exact(h.ok.m k es hc).keep (uE k (h.ltm hc) aI)
 refine h.step (λi=>i=j) rfl (.refl H) aE (λ_ _ _ hx=>.inl hx) (λ_ _ hx=>.inl hx) hw ⟨λi=>?_,λi e=>?_⟩ (λi hi=>⟨?_,?_,?_,λk hk=>⟨dv k i hi hk,?_⟩⟩) (λi hi=>?_) (λk i hk=>?_) (λ_=>id) (λt=>.inl ⟨rfl,rfl,rfl⟩) (λ_ _=>rfl) (λk hk e=>uE k hk (by rw[e];simp)) (λk i hk=>by
  unfold gH at hk;split at hk
  .rename_i hn;rcases(eJ k hn).1 with e|e
   .exact .inl ⟨j,e⟩
   .exact .inr e
  .split at hk
   .cases hk
   .exact .inl ⟨i,hk⟩) (λi hi=>by subst hi;simpa only[St.newO,bh] using q7)
 .simp only[St.newO,ic];split<;>rename_i e
  .subst e;omega
  .omega
 .simp only[St.newO,ic] at e;split at e
  .rename_i e';subst e';omega
  .rename_i aI;exact bU _ _ aI
 .simp[St.newO,bU _ _ hi]
 .simp[Env.setO,bU _ _ hi]
 .exact bU _ _ hi
 .exact uE k (h.owns k i hk).2.1 (by rw[hk];simpa using hi)
 .subst hi;simp only[St.newO,bh];exact dr
 .unfold gH at hk;split at hk
  .rename_i hn;obtain⟨g1,g2⟩:=eJ k hn;rcases g1 with e|e
   .obtain⟨f1,f2,f3,f4⟩:=h.owns k j e;exact⟨f1,g2,f3,f4⟩
   .refine⟨by omega,g2,λo=>?_,?_⟩
    .cases hc:H.c k o with
     |none=>rfl
     |some u=>have:=h.lt hc;omega
    .cases hc:H.m k with
     |none=>rfl
     |some u=>have:=h.ltm hc;omega
  .split at hk
   .cases hk
   .obtain⟨g1,g2,g3,g4⟩:=h.owns k i hk;exact⟨g1,by have:=hw.size;omega,g3,g4⟩
def Inv.updB (h:Inv C S Z H own hv w0 σ0 A a w)(j:Nat)(ob:Ob)(d:D){w':World}(hw:Below w0.heap.size w w')
 (uE:∀k,k<w.heap.size->own k≠some j->w'.heap[k]?=w.heap[k]?)
 (dr:eD C (S.setO j ob) (Z.setO j d) H own hv w' w0.heap.size j ob) (q7:ob≠.tr:=by intro h;cases h):Inv C (S.setO j ob) (Z.setO j d) H own hv w0 σ0 A a w':=by
 have aE:H.ok w':=by
  refine⟨λk o u hc=>?_,λk es hc=>?_⟩
  .have aI:own k≠some j:=λe=>by rw[(h.owns k j e).2.2.1 o] at hc;cases hc
   rw[World.cell?_of_block (uE k (h.lt hc) aI)];exact h.ok.c k o u hc
  .have aI:own k≠some j:=λe=>by rw[(h.owns k j e).2.2.2] at hc;cases hc
   exact(h.ok.m k es hc).keep (uE k (h.ltm hc) aI)
 refine h.step (λi=>i=j) rfl (.refl H) aE (λ_ _ _ hx=>.inl hx) (λ_ _ hx=>.inl hx) hw (Compat.setO _ _ _ _) (λi hi=>⟨by simp[St.setO,bU _ _ hi],by simp[Env.setO,bU _ _ hi],rfl,λk hk=>⟨hk,uE k (h.owns k i hk).2.1 (by rw[hk];simpa using hi)⟩⟩) (λi hi=>?_) (λk i hk=>?_) (λ_=>id) (λt=>.inl ⟨rfl,rfl,rfl⟩) (λ_ _=>rfl) (λk hk e=>uE k hk (by rw[e];simp)) (λk i hk=>.inl ⟨i,hk⟩) (λi hi=>by subst hi;rw[St.setO_o];exact q7)
 .subst hi;rw[St.setO_o];exact dr
 .obtain⟨g1,g2,g3,g4⟩:=h.owns k i hk;exact⟨g1,by have:=hw.size;omega,g3,g4⟩
def afV {B:Nat}{w w':World}{row:Option Nat}(hg:w.grownBy w' row)(hB:B<=w.heap.size)(hr:∀k,row=some k->B<=k):Below B w w':=(Below.refl B w).grown hg hB hr
def aio {z:Array Value}{n i q:Nat}(hz:0<z.size)(hi:i<n)(hq:q<z.size):(madeCells z (n*z.size))[i*z.size+q]?=z[q]?:=by
 have aq:i*z.size+q<n*z.size:=by
  have:(i+1)*z.size<=n*z.size:=j9 _ hi;rw[lh] at this;omega
 have hm:(i*z.size+q)%z.size=q:=by rw[Nat.add_comm,ao8,EN hq]
 simp[madeCells,Array.getElem?_range,aq,hm,hq]
def arf (h:Inv C S Z H own hv w0 σ0 A a w)(hC:CtxOK C σ0)(ht:¬A dst)(aq:dst<a.tmps.size){T:TypeId}{l c:Operand}{r:St×List PI}(hr:FW C S dst T l c=some r){o:Oper}(hd:o.dst=some dst)(ho:o.op=.makeSlice T l c):cE C w0 σ0 V S Z A a w o r:=by
 unfold FW at hr;split at hr
 case h_2=>cases hr
 rename_i E k1 n k2 m hT hl hc;simp only[aJ] at hr;obtain⟨e,he,hr⟩:=hr;cases hf:sq C.P E e<;>simp only[hf,zyv,zyu] at hr
 .cases hr
 obtain⟨inf,z0,hi,hs,hb,h1,hz,ng⟩:=TJ hf;simp only[aJ] at hr;obtain⟨z,hzt,hr⟩:=hr;cases cZ:Ty.sub z.1 e<;>simp only[cZ,zyv,zyu] at hr
 .cases hr
 cases hr;obtain⟨n1,bD,bB,b1,b2⟩:=(cM h hC rfl hl).int_inv;obtain⟨n2,iw,dD,b3,b4⟩:=(cM h hC rfl hc).int_inv;simp only at bB dD;have He:=((A1 (cap:=C.cap) (H:=H) hzt ng).1).sub cZ;refine cE.value hd λZ' az=>?_;simp only[PI.runs,PI.run,aJ] at az;obtain⟨ρ1,g1,ρ2,g2,az⟩:=az;cases c1:((VR n).ev Z).b<;>simp only[c1,zyv,zyu] at g1
 .cases g1
 cases g1;cases c2:((PE.ci BinOp.eql n m).ev Z).b<;>simp only[c2,zyv,zyu] at g2
 .cases g2
 cases g2;have avt:n1=n2:=by simpa [PE.ev,bB,dD,D.i_int,D.b_bool,jm] using c2
 subst avt;have hb:0<=n1/\n1<=oW:=by simpa [VR,PE.ev,bB,D.i_int,D.b_bool,jm,D.int] using c1
 obtain⟨nn,rfl⟩:=eC hb.1;have zL:nn<=4294967296:=by have:=hb.2;unfold oW at this;omega
 have uV:z0.cells.size=e.size:=adV ng;obtain⟨w',r1,r2,r3⟩:=run_make_full (P:=C.P) w w0.heap.size T E inf z0 e.size hT hi hz hs k1 k2 nn (by
  have:inf.bytes*nn<=Aj*4294967296:=l7 (by assumption) zL;unfold Aj at this;omega) (by unfold maxLen;omega) h.below.size
 refine⟨.slice (some ⟨w.heap.size,0,none⟩) nn nn,w',by simp[execOp,ho,bD,iw,r1],?_⟩;obtain⟨ρ3,g3,ρ4,g4,g5⟩:=az;cases g3;cases g4;cases g5;simp only[PE.ev,bB,D.i_int,rW];have hlen:(List.replicate nn z.2).length=nn:=by simp
 refine h.mkObj ht aq (.row E e) _ _ (λk=>Nat.beq k w.heap.size) (afV r3 (bL _) (by simp)) (λk hk=>?_) ⟨_,List.replicate nn z.2,by simp[Env.setO,bh],by rw[bh,hlen];exact r2,⟨λ_=>z0,λi x hx=>?_,λi j u hi hj=>?_⟩,λk hk=>?_⟩
 .have bu:k=w.heap.size:=aK hk;have:=(r2.lt _ rfl).2;subst bu;exact⟨bL _,this⟩
 .have:=(jF.1 hx)
  obtain⟨q1,q2⟩:=this;simp at q2;subst q2;exact He
 .rw[hlen] at hi;have br:j<z0.cells.size:=(ij.1 hj).1;rw[Ex,<-uV];rw[aio (by omega) hi br];exact hj
 .rw[bh] at hk;simp[Value.ownBlock] at hk;simp[gH,hk]
def nI.push {arr:Array MapEntry}{clock:Nat}(h:nI arr clock)(k v:Value):nI (arr.push {key:=k,val:=v,born:=clock}) (clock+1):=by
 have key:∀(i:Nat) (e:MapEntry),(arr.push {key:=k,val:=v,born:=clock})[i]?=some e->(arr[i]?=some e/\e.born<clock)\/(i=arr.size/\e.born=clock):=by
  intro i e he;rw[Array.getElem?_push] at he;split at he
  .rename_i hi;cases he;exact .inr ⟨hi,rfl⟩
  .exact .inl ⟨he,h.1 i e he⟩
 refine⟨λi e he=>?_,λi j e f he hf hb=>?_⟩
 .rcases key i e he with⟨_,h1⟩|⟨_,h1⟩<;>omega
 .rcases key i e he with⟨h1,h2⟩|⟨h1,h2⟩<;>rcases key j f hf with⟨h3,h4⟩|⟨h3,h4⟩
  .exact h.2 i j e f h1 h3 hb
  .omega
  .omega
  .omega
def nI.modify {arr:Array MapEntry}{clock:Nat}(h:nI arr clock)(i0:Nat)(k v:Value):nI (arr.modify i0 λe=>{e with key:=k,val:=v}) clock:=by
 have key:∀(i:Nat) (e:MapEntry),(arr.modify i0 λe=>{e with key:=k,val:=v})[i]?=some e->∃e',arr[i]?=some e'/\e'.born=e.born:=by
  intro i e he;rw[Array.getElem?_modify] at he;split at he
  .simp only[aT] at he;obtain⟨e',h1,rfl⟩:=he;exact⟨e',h1,rfl⟩
  .exact⟨e,he,rfl⟩
 refine⟨λi e he=>?_,λi j e f he hf hb=>?_⟩
 .obtain⟨e',h1,h2⟩:=key i e he;rw[<-h2];exact h.1 i e' h1
 .obtain⟨e',h1,h2⟩:=key i e he;obtain⟨f',h3,h4⟩:=key j f hf;exact h.2 i j e' f' h1 h3 (by rw[h2,h4,hb])
def afz (h:Inv C S Z H own hv w0 σ0 A a w)(hC:CtxOK C σ0){T:TypeId}{m k v:Operand}{r:St×List PI}(hr:CK C S T m k v=some r){o:Oper}(hd:o.dst=none)(ho:o.op=.mapUpdate T m k v\/o.op=.insert T m k v):cE C w0 σ0 V S Z A a w o r:=by
 unfold CK at hr;split at hr
 case h_2=>cases hr
 rename_i K E j ver hT es;obtain⟨fp,_⟩:=AS h (gs:=[]) rfl m;rw[es] at fp;cases hb:Nat.beq ver (S.ver j)<;>simp only[hb,zyv,zyu] at hr
 .cases hr
 have cV:=fp.2 (aK hb);have bI:=h.objs j;split at hr
 case h_2=>cases hr
 rename_i kt et tk ek tv ev eo hk zV;rw[eo] at bI;cases hc:(Ty.beq tk kt&&xt C.P K kt&&Ty.sub tv et)<;>simp only[hc,zyv,zyu] at hr
 .cases hr
 cases hr;simp only[aA] at hc;obtain⟨⟨NH,GF⟩,cZ⟩:=hc;obtain⟨g,arr,clock,ds,h1,h2,h3,h4,h5,⟨h6,sA⟩,h7⟩:=bI;have bu:=cM h hC rfl hk;rw[Ty.beq_eq _ _ NH] at bu;have hv':=(cM h hC rfl zV).sub cZ;refine cE.skip hd λZ' az=>?_;simp only[PI.runs,PI.run,aJ] at az;obtain⟨ρ1,g1,ρ2,g2,g3⟩:=az;cases c1:((PE.ci BinOp.lss (.mlen (.o j)) (.con (.int oW))).ev Z).b<;>simp only[c1,zyv,zyu] at g1
 .cases g1
 cases g1;cases g2;cases g3;have NL:ds.length<4294967296:=by
  have h8:=aqj c1;simp only[PE.ev,h4,D.m,D.i_int,D.int] at h8;exact axj h8
 have gh:(Instr.checkKey false 10000 K (a.eval k)).run C.P w=.ok () w:=ae4 (cap:=C.cap) (H:=H) GF bu;have oO:∃v9 CC cO,(Instr.mapUpdate T (a.eval m) (a.eval k) (a.eval v)).run C.P w=.ok () {w with heap:=w.heap.setIfInBounds g (.map v9 CC)}/\ez (ek.ev Z) (ev.ev Z) ds=cO/\cO.length=v9.size/\(cO.length<=maxLen/\nI v9 CC)/\
  ∀(i:Nat) (e:MapEntry) (p:D×D),v9[i]?=some e->cO[i]?=some p->Rep C.cap H kt e.key p.1/\Rep C.cap H et e.val p.2:=by
  rcases run_findKey GF bu arr ds h5 h7 w with⟨f1,f2,f3⟩|⟨i,e,p,f1,f2,f3,f4,f5,f6⟩
  .refine⟨arr.push {key:=a.eval k,val:=a.eval v,born:=clock},clock+1,ds++[(ek.ev Z,ev.ev Z)],?_,f3 _,by simp[h5],⟨by simp;unfold maxLen;omega,sA.push _ _⟩,λq e p he hp=>?_⟩
   .rw[cV,h1];simp[Instr.mapUpdate,run_underlying hT,getObj,Sem.run,h3,gh,f1,setObj]
   .rw[Array.getElem?_push] at he;rw[nK] at hp;by_cases hq:q=arr.size
    .subst hq;simp at he;rw[if_neg (by omega)] at hp;simp[h5] at hp;subst he;subst hp;exact⟨bu,hv'⟩
    .rw[if_neg hq] at he;have NT:q<arr.size:=(ij.1 he).1;rw[if_pos (by omega)] at hp;exact h7 q e p he hp
  .refine⟨arr.modify i λe=>{e with key:=a.eval k,val:=a.eval v},clock,ds.set i (ek.ev Z,ev.ev Z),?_,f5 _,by simp[h5],⟨by simp;exact h6,sA.modify _ _ _⟩,λq e' p' he hp=>?_⟩
   .rw[cV,h1];have dw:(Instr.keyThatStays e.key (a.eval k)).run C.P w=.ok (a.eval k) w:=by simp[Instr.keyThatStays,f6]
    simp[Instr.mapUpdate,run_underlying hT,getObj,Sem.run,h3,gh,f3,f1,dw,setObj]
   .rw[Array.getElem?_modify] at he;rw[EH] at hp;by_cases hq:i=q
    .subst hq;simp only[if_true] at he hp;rw[f1] at he;simp at he;split at hp
     .cases hp;subst he;exact⟨bu,hv'⟩
     .cases hp
    .rw[if_neg hq] at he hp;exact h7 q e' p' he hp
 obtain⟨v9,CC,cO,r1,r2,r3,r4,r5⟩:=oO;refine⟨{w with heap:=w.heap.setIfInBounds g (.map v9 CC)},by rcases ho with ho|ho<;>simp[execOp,ho,r1],?_⟩;have UJ:g<w.heap.size:=(ij.1 h3).1;have hgB:w0.heap.size<=g:=(h.owns g j h2).1;have cf:(PE.put (.o j) ek ev).ev Z=.map cO:=by simp only[PE.ev,h4,D.m,r2]
 rw[cf]
 have:=h.updB j (.mp kt et) (.map cO) (w':={w with heap:=w.heap.setIfInBounds g (.map v9 CC)}) ⟨rfl,rfl,rfl,by simp,λk hk=>by simp;rw[adY (by omega)]⟩
  (λk hk aI=>by simp;rw[adY (λe=>aI (by rw[<-e];exact h2))])
  ⟨g,v9,CC,cO,h1,h2,by simp[UJ],by simp[Env.setO,bh],r3,r4,r5⟩
 have eS:S.setO j (.mp kt et)=S:=St.setO_self eo;rw[eS] at this;exact⟨_,_,_,this⟩
end
def aHD {e:Ty}{z:Value}(h:j2 e z=true):e.rowT=true\/e.one=true:=by
 cases e<;>first|exact .inl rfl|exact .inr rfl|(cases z<;>simp[j2,A0] at h)
def Rep.cellsOne {cap:Nat->Option CSig}{H:Im}{t:Ty}{v:Value}{d:D}(h:Rep cap H t v d)(ht:t.rowT=true\/t.one=true){m:Nat}{u:Value}(hu:v.cells[m]?=some u):u.oneCell'=true:=by
 obtain⟨f1,f2,f3⟩:=h.flat ht;have aq:m<v.cells.size:=(ij.1 hu).1;rw[h.size] at aq;obtain⟨g1,g2⟩:=f3 m _ (cd (by omega:m<t.flat.length));have:=(g2.oneCell g1).2;rw[iK,hu] at this;exact this
def arH {cap:Nat->Option CSig}{H:Im}{e:Ty}{cells:List Value}{xs:List D}(h:j4 cap H e cells xs)(hl:cells.length=xs.length*e.size)(iV:e.rowT=true\/e.one=true):∀u∈cells,u.oneCell'=true:=by
 obtain⟨vs,h1,h2⟩:=h;intro u hu;obtain⟨p,hp,rfl⟩:=gQ hu;rw[hl] at hp;have hs:0<e.size:=Nat.pos_of_ne_zero λe0=>by rw[e0] at hp;simp at hp
 have hi:p/e.size<xs.length:=(Be hs).2 hp;have hq:p%e.size<e.size:=j7 _ hs;have cG:=h1 _ _ (cd hi);have bp:=cG.size;have qW:(vs (p/e.size)).cells[p%e.size]?=some (vs (p/e.size)).cells[p%e.size]:=kB (by omega);have:=h2 _ _ _ hi qW;rw[nP,sd] at this;have h3:cells[p]=(vs (p/e.size)).cells[p%e.size]:=by
  have h4:=cd (show p<cells.length by omega);rw[h4] at this;exact EO this
 rw[h3];exact cG.cellsOne iV qW
def arG {cap:Nat->Option CSig}{H:Im}{e:Ty}{c1 c2:List Value}{xs ys:List D}(h:j4 cap H e c1 xs)(k:j4 cap H e c2 ys)(hl:c1.length=xs.length*e.size):j4 cap H e (c1++c2) (xs++ys):=by
 obtain⟨vs,h1,h2⟩:=h;obtain⟨us,k1,k2⟩:=k;refine⟨λi=>if i<xs.length then vs i else us (i-xs.length),λi x hx=>?_,λi j u hi hj=>?_⟩
 .rw[nK] at hx;split at hx
  .rename_i aq;simp only[aq,if_true];exact h1 i x hx
  .rename_i aq;simp only[aq,if_false];exact k1 _ x hx
 .by_cases aq:i<xs.length
  .simp only[aq,if_true] at hj;have:=h2 i j u aq hj;rw[tW (jF.1 this).1];exact this
  .simp only[aq,if_false] at hj;have gi:i-xs.length<ys.length:=by simp at hi;omega
   have:=k2 _ j u gi hj;have e1:i*e.size=c1.length+(i-xs.length)*e.size:=by rw[hl,<-lh];congr 1;omega
   rw[rY (by omega)];rw[show i*e.size+j-c1.length=(i-xs.length)*e.size+j by omega];exact this
section
variable {C:Ctx} {S:St} {Z:Env} {H:Im} {own:Nat->Option Nat} {hv:Nat->Value} {w0:World} {σ0:Base} {A:Nat->Prop} {a:Act} {w:World} {gs:List (Nat×Bool)} {V:bf} {dst:Nat}
def aHd (h:Inv C S Z H own hv w0 σ0 A a w){B:Nat}{e f:Ty}{v:Value}{d:D}(hs:0<e.size)(iV:e.rowT=true\/e.one=true)(hf:f.unf=e)(Vz:RO C H w B (.slice f) v d):
 ∃ys,d=.list ys/\ys.length<=maxLen/\((v=.slice none 0 0/\ys=[])\/∃(ad:Addr) (c:Nat) (news:List Value),v=.slice (some ad) ys.length c/\news.length=ys.length*e.size/\
  (∀j u,news[j]?=some u->w.cell? (ad.add j)=some u)/\j4 C.cap H e news ys):=by
 rcases Vz with hr|⟨T,e',cells,xs,ht,hd,dv,jv⟩|⟨k,arr,clock,es,kt,et,ht,_⟩
 .obtain⟨xs,hd,mZ⟩:=hr.slice_inv;rw[<-f.unf_size,hf] at mZ;rcases mZ with⟨⟨p0,bD⟩,rfl⟩|⟨k,o,c,bD,h1,h2,vs,h3,h4⟩
  .cases p0 with
   |none=>exact⟨[],hd,by simp,.inl ⟨bD,rfl⟩⟩
   |some a0=>exact⟨[],hd,by simp,.inr ⟨a0,0,[],bD,by simp,λj u hu=>by simp at hu,λ_=>undef,λi x hx=>by simp at hx,λi j u hi=>by simp at hi⟩⟩
  .refine⟨xs,hd,by omega,.inr ⟨⟨k,o,none⟩,c,(List.range (xs.length*e.size)).map λp=>(vs (p/e.size)).cells.getD (p%e.size) undef,bD,by simp,λj u hu=>?_,vs,h3,λi j u hi hj=>?_⟩⟩
   .simp only[dF,aT] at hu;obtain⟨p,hp,rfl⟩:=hu;have iT:j<xs.length*e.size:=by have:=(jF.1 hp).1;simpa using this
    rw[rZ iT] at hp;cases hp;have hi:j/e.size<xs.length:=(Be hs).2 iT;have hq:j%e.size<e.size:=j7 _ hs;have cG:=h3 _ _ (cd hi);have bp:=cG.size;have qW:(vs (j/e.size)).cells[j%e.size]?=some ((vs (j/e.size)).cells.getD (j%e.size) undef):=by
     rw[iK,kB (by omega)];rfl
    have:=h.cell (h4 _ _ _ hi qW);rw[v5]
    rwa [show o+j/e.size*e.size+j%e.size=o+j by rw[JW,nP,sd]] at this
   .have cG:=h3 _ _ (cd hi);have br:j<e.size:=by rw[<-cG.size];exact(ij.1 hj).1
    have aq:i*e.size+j<xs.length*e.size:=by
     have:(i+1)*e.size<=xs.length*e.size:=j9 _ hi;rw[lh] at this;omega
    have e1:(i*e.size+j)/e.size=i:=by rw[nP,Nat.mul_add_div hs,RC br];omega
    have e2:(i*e.size+j)%e.size=j:=by rw[Nat.add_comm,ao8,EN br]
    simp only[dF,rZ aq,ll,e1,e2];rw[iK,hj];rfl
 .cases ht;rw[Ty.unf_rol] at hf;obtain⟨b,c,bD,hm,_⟩:=Ay dv;have jv:j4 C.cap H e cells xs:=by
   obtain⟨us,u1,u2⟩:=jv;refine⟨us,λi x hx=>hf▸(u1 i x hx).unf,λi j u hi hu=>?_⟩;rw[<-hf,Ty.unf_size];exact u2 i j u hi hu
  have dv:w.ownsRow B T e.size v xs.length cells:=by rw[<-hf,Ty.unf_size];exact dv
  rcases dv.2 with⟨e1,e2⟩|⟨g,cap,cur,e1,e2⟩
  .have:xs=[]:=ad9 e2;subst this;exact⟨[],hd,by simp,.inl ⟨e1,rfl⟩⟩
  .exact⟨xs,hd,hm,.inr ⟨⟨g,0,none⟩,cap,cells,e1,dv.1,dv.cells (by rw[e1];rfl),jv⟩⟩
 .cases ht
def aCk {P:Program}{B:Nat}{T E ty:TypeId}{inf:TypeInfo}{z:Value}{size:Nat}{v x:Value}{n m:Nat}{xs news:List Value}(hT:P.underlying T=some (.slice E))(hi:P.info? E=some inf)(hz:inf.zero=some z)
 (hs:inf.size=size) (uV:z.cells.size=size) (bp:0<size) (lD:inf.bytes<=Aj) (dv:w.ownsRow B E size v n xs) (hB:B<=w.heap.size) (eK:n+m<=4294967296)
 (hx:(x=.slice none 0 0/\m=0/\news=[])\/∃(ad:Addr) (c:Nat),x=.slice (some ad) m c/\news.length=m*size/\(∀j u,news[j]?=some u->w.cell? (ad.add j)=some u)/\∀u∈news,u.oneCell'=true):
 ∃v' w',(Builtin.append_ #[T,T] ty #[v,x]).run P w=.ok v' w'/\w'.ownsRow B E size v' (n+m) (xs++news)/\w.grownBy w' v.ownBlock/\∀k,v'.ownBlock=some k->v.ownBlock=some k\/(w.heap.size<=k/\k<w'.heap.size):=by
 rcases hx with⟨rfl,rfl,rfl⟩|⟨ad,c,rfl,hl,NO,h1⟩
 .refine⟨v,w,run_append_owned_none w B T ty E inf size hT hi v n xs dv,by simpa using dv,⟨rfl,rfl,rfl,bL _,λ_ _ _=>rfl⟩,λk hk=>.inl hk⟩
 .have Uq:(n+m)*inf.bytes<=140737488355328:=by
   have:(n+m)*inf.bytes<=4294967296*Aj:=l7 eK lD;unfold Aj at this;omega
  obtain⟨v',w',r1,r2,r3,r4⟩:=run_append_own (P:=P) w B T ty E inf z size inf.bytes hT hi hz hs rfl uV bp v n xs dv ad m c news hl NO h1 (by unfold maxLen;omega) Uq hB;refine⟨v',w',r1,r2,r3,λk hk=>?_⟩;have aq:=(r2.lt k hk).2;subst hs;rcases dv.2 with⟨rfl,rfl⟩|⟨g,cap,cur,rfl,hbg,hg,gG,kJ,ju,G1⟩
  .by_cases hm:m=0
   .subst hm;have:=r4.2 ⟨rfl,rfl⟩;subst this;simp[Value.ownBlock] at hk
   .have hr:=run_append_nil (P:=P) w T ty E inf z hT hi hz ad m c news hl NO (by omega) (by omega) (by have hb:=Uq;simp only[jh] at hb;omega);rw[hr] at r1;cases r1;simp[Value.ownBlock] at hk;subst hk;exact .inr ⟨bL _,aq⟩
  .by_cases GW:n+m<=cap
   .have auJ:n*inf.size+news.length<=cur.size:=by rw[hl,ju,<-lh];exact j9 _ GW
    have hr:=run_append_room (P:=P) w T ty E inf hT hi g n cap cur hg ad m c news hl NO h1 GW auJ;rw[hr] at r1;cases r1;exact .inl hk
   .have hr:=run_append_grow (P:=P) w T ty E inf z hT hi hz ⟨g,0,none⟩ n cap xs dv.1 (dv.cells (g:=g) rfl) ad m c news hl NO (by omega) (by omega) (growslice_fits (by omega) Uq);rw[hr] at r1;cases r1;simp[Value.ownBlock] at hk;subst hk;exact .inr ⟨bL _,aq⟩
def aqU (h:Inv C S Z H own hv w0 σ0 A a w)(hC:CtxOK C σ0)(ht:¬A dst)(aq:dst<a.tmps.size){T:TypeId}{s x:Operand}{r:St×List PI}(hr:FP C S dst T s x=some r){o:Oper}(hd:o.dst=some dst)
 (ho:o.op=.call {callee:=.builtin .append,args:=#[s,x],argTypes:=#[T,T]}):cE C w0 σ0 V S Z A a w o r:=by
 unfold FP at hr;split at hr
 case h_2=>cases hr
 rename_i E hT;simp only[aJ] at hr;obtain⟨e,he,hr⟩:=hr;split at hr
 case h_2=>cases hr
 rename_i tx ex Vz;have hv':=adR h hC (gs:=[]) rfl Vz;obtain⟨cs,az⟩:=ZP (C:=C) (w:=w) (a:=a) ho;cases hc:(sq C.P E e&&QJ tx e)<;>simp only[hc,zyv,zyu] at hr
 .cases hr
 simp only[aA] at hc;obtain⟨inf,z,hi,hs,lD,h1,hz,ng⟩:=TJ hc.1;have uV:=adV ng;have iV:=aHD ng;have VA:∃f:Ty,f.unf=e/\RO C H w w0.heap.size (.slice f) (a.eval x) (ex.ev Z):=by
  have dw:=hc.2;unfold QJ at dw;split at dw
  .exact⟨_,Ty.beq_eq _ _ dw,hv'⟩
  .refine⟨e,Ty.unf_ro iV,?_⟩;rcases hv' with hr|⟨_,_,_,_,ht,_⟩|⟨_,_,_,_,_,_,ht,_⟩
   .exact .inl (hr.sub (by simp[Ty.sub]))
   .cases ht
   .cases ht
  .cases dw
 obtain⟨fv,hvf,VA⟩:=VA;obtain⟨ys,Nx,oP,awj⟩:=aHd h h1 iV hvf VA;have hx:∃news,j4 C.cap H e news ys/\news.length=ys.length*e.size/\((a.eval x=.slice none 0 0/\ys.length=0/\news=[])\/∃(ad:Addr) (c:Nat),a.eval x=.slice (some ad) ys.length c/\news.length=ys.length*e.size/\(∀j u,news[j]?=some u->w.cell? (ad.add j)=some u)/\∀u∈news,u.oneCell'=true):=by
  rcases awj with⟨e1,rfl⟩|⟨ad,c,news,e1,e2,e3,e4⟩
  .exact⟨[],⟨λ_=>undef,by simp,by simp⟩,by simp,.inl ⟨e1,rfl,rfl⟩⟩
  .exact⟨news,e4,e2,.inr ⟨ad,c,e1,e2,e3,arH e4 e2 iV⟩⟩
 obtain⟨news,aI,U5,hx⟩:=hx;have main:∀(j:Nat) (v:Value) (xs:List D) (cells:List Value),a.eval s=v->w.ownsRow w0.heap.size E e.size v xs.length cells->j4 C.cap H e cells xs->xs.length+ys.length<=4294967296->
  (∀k,v.ownBlock=some k->own k=some j)->
  ∃v' w',(execOp a.eval o).run C.P w=.ok (.value v') w'/\Good C w0 σ0 ((S.newO j (.row E e)).setR dst (.obj j (S.ver j+1))) ((Z.setO j (.list (xs++ys))).setR dst .none) (λu=>A u\/u=dst) (a.put (some dst) v') w':=by
  intro j v xs cells Vq dv jv hlen dr;obtain⟨v',w',r1,r2,r3,r4⟩:=aCk (P:=C.P) (ty:=o.type) hT hi hz hs uV h1 lD dv h.below.size hlen hx;refine⟨v',w',by rw[az];simp[builtin,Vq,r1],?_⟩
  have awy:=h.updO j (.row E e) (.list (xs++ys)) v' (λk=>decide (v'.ownBlock=some k)) (w':=w') (afV r3 h.below.size (λk hk=>(h.owns k j (dr k hk)).1)) (λk hk aI=>r3.block k hk (λe=>aI (dr k e.symm))) (λk hk=>by
        have bu:v'.ownBlock=some k:=by simpa using hk
        rcases r4 k bu with e|e
        .exact⟨.inl (dr k e),(r2.lt k bu).2⟩
        .exact⟨.inr e.1,e.2⟩)
   ⟨cells++news,xs++ys,by simp[Env.setO,bh],by rw[bh,nL];exact r2,arG jv aI dv.1,λk hk=>by rw[bh] at hk;simp[gH,hk]⟩
  have h2:=awy.setObj ht (j:=j) (v:=v') (bh _ _ _) aq;have e:(S.newO j (.row E e)).ver j=S.ver j+1:=bh _ _ _;rw[e] at h2;exact⟨_,_,_,h2⟩
 split at hr
 .rename_i e0 pe0 hu;cases hr;refine cE.value hd λZ' sJ=>?_;have Vr:=cM h hC rfl hu;have Vq:a.eval s=.slice none 0 0:=by
   generalize a.eval s=v at Vr;generalize pe0.ev Z=d at Vr;cases Vr;rfl
  simp only[PI.runs,PI.run,aJ] at sJ;obtain⟨ρ1,g1,ρ2,g2,ρ3,g3,g4⟩:=sJ;cases c1:((Oe (.con (.list [])) ex).ev Z).b<;>simp only[c1,zyv,zyu] at g1
  .cases g1
  cases g1;cases g2;cases g3;cases g4;have hlen:=ae6 c1;simp only[PE.ev,D.l_list,Nx,yN,D.i_int,D.int] at hlen;have:=main dst (.slice none 0 0) [] [] Vq (World.ownsRow_nil _ _ _ _) ⟨λ_=>undef,by simp,by simp⟩ (by simpa using ah7 hlen) (by simp[Value.ownBlock]);simpa [PE.ev,D.l_list,Nx,mkObj] using this
 .cases hr
 .obtain⟨fp,_⟩:=AS h (gs:=[]) rfl s;split at hr
  case h_2=>cases hr
  rename_i j ver es;rw[es] at fp;cases hb:Nat.beq ver (S.ver j)<;>simp only[hb,zyv,zyu] at hr
  .cases hr
  have cV:=fp.2 (aK hb);have bI:=h.objs j;split at hr
  case h_2=>cases hr
  rename_i E' e' eo;rw[eo] at bI;cases m4:(Nat.beq E' E&&Ty.beq e' e)<;>simp only[m4,zyv,zyu] at hr
  .cases hr
  cases hr;simp only[aA] at m4;have e1:=aK m4.1;have e2:=Ty.beq_eq _ _ m4.2;subst e1;subst e2;obtain⟨cells,xs,k1,k2,k3,k4⟩:=bI;refine cE.value hd λZ' sJ=>?_;simp only[PI.runs,PI.run,aJ] at sJ;obtain⟨ρ1,g1,ρ2,g2,ρ3,g3,g4⟩:=sJ;cases c1:((Oe (.o j) ex).ev Z).b<;>simp only[c1,zyv,zyu] at g1
  .cases g1
  cases g1;cases g2;cases g3;cases g4;have hlen:=ae6 c1;simp only[PE.ev,D.l_list,Nx,k1,D.i_int,D.int] at hlen;have:=main j (hv j) xs cells cV k2 k3 (by have:=ah7 hlen;simpa using this) k4;simpa [PE.ev,D.l_list,Nx,k1] using this
end
def QA {P:Program}{a:Act}{w:World}{o:Oper}{T:TypeId}{x v:Operand}{inf:TypeInfo}{k off:Nat}{cs:Array Value}{E:TypeId}(ho:o.op=.store T x v)(hi:P.info? T=some inf)(hx:a.eval x=.pointer (some ⟨k,off,none⟩))
 (hs:(a.eval v).cells.size=inf.size) (dA:∀u∈(a.eval v).cells.toList,u.oneCell'=true) (hb:w.heap[k]?=some (.cells cs E (0,0))) (hle:off+inf.size<=cs.size):
 (execOp a.eval o).run P w=.ok .skip (w.setRow k (cs.toList.take off++(a.eval v).cells.toList++cs.toList.drop (off+inf.size)).toArray):=by
 have:=run_storeCells_at P k off E (a.eval v).cells.toList 0 cs w hb (by simp[hs];exact hle) dA;simp only[qE,Ey,hs] at this;simp[execOp,ho,Instr.storeAt,hx,Instr.sureAddr,storeVar,Go.sizeOf,run_typeInfo w hi,hs,this]
def anu {w:World}{B k:Nat}{cs:Array Value}(hB:B<=k):Below B w (w.setRow k cs)/\∀i,i≠k->(w.setRow k cs).heap[i]?=w.heap[i]?:=
 ⟨⟨rfl,rfl,rfl,by simp[World.setRow],λi hi=>setRow_other w k i cs (by omega)⟩,λi hi=>setRow_other w k i cs hi⟩
def M7 {α:Type}(xs ys:List α)(off:Nat)(d:α)(hle:off+ys.length<=xs.length)(i:Nat):(xs.take off++ys++xs.drop (off+ys.length)).getD i d=if off<=i/\i<off+ys.length then ys.getD (i-off) d else xs.getD i d:=by
 simp only[bn,qD];rw[nK,eQ,qG (by omega)];split
 .rename_i h;rw[if_neg (by omega),iL,if_pos h]
 .rename_i h;rw[nK];split
  .rename_i h2;rw[if_pos (by omega)]
  .rename_i h2;rw[if_neg (by omega),je];congr 2;omega
section
variable {C:Ctx} {S:St} {Z:Env} {H:Im} {own:Nat->Option Nat} {hv:Nat->Value} {w0:World} {σ0:Base} {A:Nat->Prop} {a:Act} {w:World} {gs:List (Nat×Bool)} {V:bf} {dst:Nat}
def Inv.storeBox (h:Inv C S Z H own hv w0 σ0 A a w){j k off:Nat}{ag:Bool}{aP news:List Sh}{cs:Array Value}{E:TypeId}{ds dn:List D}{vs:List Value}(eo:S.o j=.box ag aP)
 (h1:hv j=.pointer (some ⟨k,0,none⟩)) (h2:own k=some j) (h3:w.heap[k]?=some (.cells cs E (0,0))) (h4:cs.size=aP.length) (h5:Z.o j=.agg ds) (h6:ds.length=aP.length)
 (h7:∀i s,aP[i]?=some s->(∀gs s',s≠.opt gs s')/\ba C S Z H hv s (cs.getD i undef) (ds.getD i .none))
 (l1:news.length=vs.length) (l2:dn.length=vs.length) (hle:off+vs.length<=aP.length)
 (ml:∀i s,news[i]?=some s->(∀gs s',s≠.opt gs s')/\ba C S Z H hv s (vs.getD i undef) (dn.getD i .none)):
 Inv C (S.setO j (.box ag (aP.take off++news++aP.drop (off+vs.length)))) (Z.setO j (.agg (dp ds off dn))) H own hv w0 σ0 A a (w.setRow k (cs.toList.take off++vs++cs.toList.drop (off+vs.length)).toArray):=by
 have hkB:w0.heap.size<=k:=(h.owns k j h2).1;obtain⟨b1,b2⟩:=anu (w:=w) (B:=w0.heap.size) (k:=k) (cs:=(cs.toList.take off++vs++cs.toList.drop (off+vs.length)).toArray) hkB;refine h.updB j _ _ b1 (λi hi aI=>b2 i λe=>aI (e▸h2)) ⟨k,_,E,dp ds off dn,h1,h2,setRow_heap w k cs _ E _ h3,?_,by simp[Env.setO,bh],?_,λi s hi=>?_⟩
 .simp[l1];omega
 .simp[dp,l2,l1];omega
 .have ju:(cs.toList.take off++vs++cs.toList.drop (off+vs.length)).toArray.getD i undef=if off<=i/\i<off+vs.length then vs.getD (i-off) undef else cs.getD i undef:=by
   have e0:∀l:List Value,l.toArray.getD i undef=l.getD i undef:=λl=>by simp[iK,bn]
   rw[e0,M7 cs.toList vs off undef (by simp;omega),CP cs i]
  have Gq:(dp ds off dn).getD i .none=if off<=i/\i<off+vs.length then dn.getD (i-off) .none else ds.getD i .none:=by
   rw[dp,M7 ds dn off .none (by omega),l2]
  rw[ju,Gq];have agZ:∀s v d,(∀gs s',s≠.opt gs s')->ba C S Z H hv s v d->ba C (S.setO j (.box ag (aP.take off++news++aP.drop (off+vs.length)))) (Z.setO j (.agg (dp ds off dn))) H hv s v d:=
   λs v d hn hk=>ba.mono' (.refl H) (Compat.setO _ _ _ _) hn hk
  have Dm:(aP.take off++news++aP.drop (off+vs.length))[i]?=if off<=i/\i<off+vs.length then news[i-off]? else aP[i]?:=by
   rw[qD,nK,eQ,qG (by omega)];split
   .rename_i h;rw[if_neg (by omega),iL,if_pos h]
   .rename_i h;rw[nK,l1];split
    .rename_i h2;rw[if_pos (by omega)]
    .rename_i h2;rw[if_neg (by omega),je];congr 1;omega
  rw[Dm] at hi;split
  .rename_i hc;rw[if_pos hc] at hi;obtain⟨g1,g2⟩:=ml _ s hi;exact⟨g1,agZ _ _ _ g1 g2⟩
  .rename_i hc;rw[if_neg hc] at hi;obtain⟨g1,g2⟩:=h7 _ s hi;exact⟨g1,agZ _ _ _ g1 g2⟩
def aCh (h:Inv C S Z H own hv w0 σ0 A a w){j:Nat}(hr:ni (S.o j)=true):(hv j).cells=#[hv j]/\(hv j).oneCell'=true:=by
 have bI:=h.objs j;cases dr:S.o j with
 |row T e=>
  rw[dr] at bI;obtain⟨cells,xs,h1,h2,h3,h4⟩:=bI;obtain⟨b,c,e1,_⟩:=Ay h2;rw[e1];exact⟨rfl,rfl⟩
 |mp kt et=>
  rw[dr] at bI;obtain⟨k0,arr,clock,es,h1,_⟩:=bI;rw[h1];exact⟨rfl,rfl⟩
 |_=>rw[dr] at hr;simp[ni] at hr
def Inv.storeRow (h:Inv C S Z H own hv w0 σ0 A a w){j k n c i p:Nat}{T:TypeId}{e:Ty}{cells vs:List Value}{xs:List D}{v':Value}{d':D}(eo:S.o j=.row T e)(fw:hv j=.slice (some ⟨k,0,none⟩) n c)
 (h1:Z.o j=.list xs) (h2:w.ownsRow w0.heap.size T e.size (hv j) xs.length cells) (h3:j4 C.cap H e cells xs) (h4:∀k,(hv j).ownBlock=some k->own k=some j) (hi:i<xs.length)
 (GO:i*e.size<=p) (fS:p+vs.length<=i*e.size+e.size) (hr:Rep C.cap H e v' d')
 (hv':∀q u,v'.cells[q]?=some u->(cells.take p++vs++cells.drop (p+vs.length))[i*e.size+q]?=some u):
 ∃cur,w.heap[k]?=some (.cells cur T (0,0))/\p+vs.length<=cur.size/\Inv C S (Z.setO j (.list (xs.set i d'))) H own hv w0 σ0 A a (w.setRow k (cur.toList.take p++vs++cur.toList.drop (p+vs.length)).toArray):=by
 have bG:=h2.1;rcases h2.2 with⟨e0,e1⟩|⟨g,cap,cur,e1,e2,e3,e4,e5,e6,e7⟩
 .omega
 rw[fw] at e1;cases e1;have au1:i*e.size+e.size<=xs.length*e.size:=by
  have:(i+1)*e.size<=xs.length*e.size:=j9 _ hi;rw[lh] at this;omega
 have aMB:xs.length*e.size<=c*e.size:=j9 _ e4;have avS:p+vs.length<=cur.size:=by omega
 refine⟨cur,e3,avS,?_⟩;have dv:own k=some j:=h4 k (by rw[fw];rfl);obtain⟨b1,b2⟩:=anu (w:=w) (B:=w0.heap.size) (k:=k) (cs:=(cur.toList.take p++vs++cur.toList.drop (p+vs.length)).toArray) e2;have G1:(cur.toList.take p++vs++cur.toList.drop (p+vs.length)).take (xs.length*e.size)=cells.take p++vs++cells.drop (p+vs.length):=by
  rw[<-e7];apply aea;intro q;simp only[qD,iL,nK,eQ,je,Ey];by_cases hq:q<xs.length*e.size
  .rw[if_pos hq];by_cases w9:q<p
   .simp[w9,Nat.lt_min,show q<cur.size by omega,hq]
   .by_cases eM:q-p<vs.length
    .rw[if_neg (by omega),qG (by omega),if_pos eM,if_neg (by omega),qG (by omega),if_pos eM]
    .rw[if_neg (by omega),qG (by omega),if_neg eM,if_neg (by omega),qG (by omega),if_neg eM,if_pos (by omega)]
  .rw[if_neg hq];have:¬q<p:=by omega
   rw[if_neg (by omega),qG (by omega),if_neg (by omega),if_neg (by omega)]
 have:=h.updB j (.row T e) (.list (xs.set i d')) b1 (λq hq aI=>b2 q λe=>aI (e▸dv))
  ⟨cells.take p++vs++cells.drop (p+vs.length),xs.set i d',by simp[Env.setO,bh],⟨by simp;omega,.inr ⟨k,c,_,by rw[fw];simp,e2,setRow_heap w k cur _ T _ e3,by simpa using e4,e5,by simp;omega,by simpa using G1⟩⟩,?_,h4⟩
 .rw[St.setO_self eo] at this;exact this
 .obtain⟨us,u1,u2⟩:=h3;refine⟨λq=>if q=i then v' else us q,λq x hx=>?_,λq m u hq hm=>?_⟩
  .rw[EH] at hx;by_cases Dj:i=q
   .subst Dj;simp only[if_true] at hx ⊢;rw[if_pos hi] at hx;cases hx;exact hr
   .rw[if_neg Dj] at hx;simp only[show ¬q=i from λe=>Dj e.symm,if_false];exact u1 q x hx
  .by_cases Dj:q=i
   .subst Dj;simp only[if_true] at hm;exact hv' m u hm
   .simp only[Dj,if_false] at hm;simp only[List.length_set] at hq;have h9:=u2 q m u hq hm;have aMQ:m<e.size:=by rw[<-(u1 q _ (cd hq)).size];exact(ij.1 hm).1
    have kL:q*e.size+m<p\/p+vs.length<=q*e.size+m:=by
     rcases JZ q i with aq|iS
     .left;have:(q+1)*e.size<=i*e.size:=j9 _ aq;rw[lh] at this;omega
     .right;have:(i+1)*e.size<=q*e.size:=j9 _ (by omega);rw[lh] at this;omega
    rw[qD,nK,eQ,qG (by omega)];rcases kL with ho|ho
    .rw[if_pos ho,iL,if_pos ho];exact h9
    .rw[if_neg (by omega),rY (by omega),je];rw[show p+vs.length+(q*e.size+m-p-vs.length)=q*e.size+m by omega];exact h9
def arp (h:Inv C S Z H own hv w0 σ0 A a w)(hC:CtxOK C σ0){T:TypeId}{x v:Operand}{r:St×List PI}(hr:FZ C S T x v=some r){o:Oper}(hd:o.dst=none)(ho:o.op=.store T x v):cE C w0 σ0 V S Z A a w o r:=by
 unfold FZ at hr;split at hr
 case h_2=>cases hr
 rename_i inf hi;obtain⟨fp,_⟩:=AS h (gs:=[]) rfl x;split at hr
 case h_3=>cases hr
 .rename_i j ver off es;rw[es] at fp;cases hb:Nat.beq ver (S.ver j)<;>simp only[hb,zyv,zyu] at hr
  .cases hr
  obtain⟨k,fw,gD⟩:=fp.2 (aK hb);have bI:=h.objs j;split at hr
  case h_2=>cases hr
  rename_i ag aP eo;rw[eo] at bI;obtain⟨k',cs,E,ds,h1,h2,h3,h4,h5,h6,h7⟩:=bI;have cu:=h1;rw[fw] at h1;cases h1;split at hr
  .rename_i t e hu;have hv':=cM h hC rfl hu;cases hc:(Nat.beq inf.size t.size&&(t.rowT||t.one)&&Nat.ble (off+t.size) aP.length)<;>simp only[hc,zyv,zyu] at hr
   .cases hr
   cases hr;simp only[aA,lZ] at hc;obtain⟨⟨bp,iV⟩,hle⟩:=hc;have bp:=aK bp;have hle:=mO hle;obtain⟨f1,f2,f3⟩:=hv'.flat iV;have kN:=hv'.size;refine cE.skip hd λZ' az=>?_;rw[vE az]
   refine⟨_,QA ho hi gD (by rw[kN,bp]) (λu hu=>by
        obtain⟨m,hm,rfl⟩:=gQ hu;exact hv'.cellsOne iV (m:=m) (by simp at hm ⊢)) h3 (by omega),?_⟩
   have dw:=h.storeBox (off:=off) (news:=t.flat.map .dat) (vs:=(a.eval v).cells.toList) (dn:=(e.ev Z).cells) eo cu h2 h3 h4 h5 h6 h7 (by simp[f1,kN]) (by simp[f2,kN]) (by simp[kN];omega) (λi s hi=>by
        simp only[dF,aT] at hi;obtain⟨ti,G2,rfl⟩:=hi;refine⟨λ_ _ e=>(by cases e),?_⟩;rw[CP];exact(f3 i ti G2).2)
   have e1:(a.eval v).cells.toList.length=t.size:=by simp[kN]
   rw[e1] at dw;rw[bp];refine⟨H,own,hv,?_⟩;simpa [PE.ev,h5,D.cells] using dw
  .split at hr
   case h_2=>cases hr
   rename_i j' tL gV;obtain⟨Vm,_⟩:=AS h (gs:=[]) rfl v;rw[gV] at Vm;cases hc:(Nat.beq tL (S.ver j')&&ni (S.o j')&&Nat.beq inf.size 1&&Nat.blt off aP.length)<;>simp only[hc,zyv,zyu] at hr
   .cases hr
   cases hr;simp only[aA] at hc;obtain⟨⟨⟨awC,gl⟩,bp⟩,aq⟩:=hc;have bp:=aK bp;have aq:off<aP.length:=by simpa [qF] using aq
   have cV:=Vm.2 (aK awC);obtain⟨c1,c2⟩:=aCh h gl;have lE:(a.eval v).cells=#[a.eval v]:=by rw[cV];exact c1
   refine cE.skip hd λZ' az=>?_;rw[vE az];refine⟨_,QA ho hi gD (by rw[lE,bp];rfl) (λu hu=>by rw[lE] at hu;simp at hu;subst hu;rw[cV];exact c2) h3 (by omega),?_⟩
   have dw:=h.storeBox (off:=off) (news:=[.obj j' tL]) (vs:=[a.eval v]) (dn:=[.none]) eo cu h2 h3 h4 h5 h6 h7 rfl rfl (by simp;omega) (λi s hi=>by
        match i,hi with
        |0,hi=>simp at hi;subst hi;exact⟨λ_ _ e=>(by cases e),Vm.1,λ_=>by simpa using cV⟩
        |i+1,hi=>simp at hi)
   rw[lE,bp];have e2:aP.take off++[Sh.obj j' tL]++aP.drop (off+[a.eval v].length)=aP.set off (.obj j' tL):=by
        rw[List.set_eq_take_append_cons_drop,if_pos aq];simp
   rw[e2] at dw;refine⟨H,own,hv,?_⟩;simpa [PE.ev,h5,D.cells] using dw
 .rename_i j ver size off es;rw[es] at fp;cases hb:Nat.beq ver (S.ver j)<;>simp only[hb,zyv,zyu] at hr
  .cases hr
  obtain⟨k,n,c,ik,i,fw,wL,cj,gD⟩:=fp.2 (aK hb);have bI:=h.objs j;split at hr
  .rename_i T' ts t e eo hu;rw[eo] at bI;have hv':=cM h hC rfl hu;cases hc:(Nat.beq inf.size t.size&&(t.rowT||t.one)&&Nat.beq size ts.length&&Nat.ble (off+t.size) ts.length&&Ty.subs t.flat ((ts.drop off).take t.size))<;>simp only[hc,zyv,zyu] at hr
   .cases hr
   cases hr;simp only[aA,lZ] at hc;obtain⟨⟨⟨⟨bp,iV⟩,zT⟩,hle⟩,cZ⟩:=hc;have bp:=aK bp;have zT:=aK zT;have hle:=mO hle;obtain⟨f1,f2,f3⟩:=hv'.flat iV;have kN:=hv'.size;have f1:t.flat.length=t.size:=f1;have f2:(e.ev Z).cells.length=t.size:=f2;have kN:(a.eval v).cells.size=t.size:=kN;obtain⟨cells,xs,k1,k2,k3,k4⟩:=bI;obtain⟨b,c',e1,zJ,uN⟩:=Ay k2;rw[fw] at e1;cases e1;obtain⟨us,u1,u2⟩:=k3;obtain⟨y,hy⟩:∃y,xs[i]?=some y:=⟨_,cd cj⟩
   obtain⟨os,ds,Dp,Gn,l1,l2,bj,dA⟩:=(u1 i y hy).agg_inv;have G7:(a.eval v).cells.toList.length=t.size:=by simp[kN]
   have ml:Rep C.cap H (.agg ts) (.agg (os.take off++(a.eval v).cells.toList++os.drop (off+(a.eval v).cells.toList.length)).toArray) (.agg (dp ds off (e.ev Z).cells)):=by
        refine .agg _ _ _ (by simp[kN];omega) (by simp[dp,f2];omega) (λm tm hm=>?_) dA;rw[M7 os _ off undef (by rw[G7];omega),dp,M7 ds _ off .none (by rw[f2];omega),G7,f2];split
        .rename_i hc;have awn:=Ty.subs_get _ _ cZ (m-off) tm (by
          rw[iL,if_pos (by omega),je,show off+(m-off)=m by omega];exact hm)
         obtain⟨tf,htf,dw⟩:=awn;rw[CP];exact((f3 _ tf htf).2).sub dw
        .exact bj m tm hm
   have bG:=k2.1;have au1:i*(Ty.agg ts).size+(Ty.agg ts).size<=xs.length*(Ty.agg ts).size:=by
        have:(i+1)*(Ty.agg ts).size<=xs.length*(Ty.agg ts).size:=j9 _ cj;rw[lh] at this;omega
   have ahp:(Ty.agg ts).size=ts.length:=rfl
   obtain⟨cur,q1,q2,q3⟩:=h.storeRow (i:=i) (p:=i*(Ty.agg ts).size+off) (vs:=(a.eval v).cells.toList) eo fw k1 k2 ⟨us,u1,u2⟩ k4 cj (by omega) (by rw[G7];omega) ml (λq u hq=>by
        have dX:(os.take off++(a.eval v).cells.toList++os.drop (off+(a.eval v).cells.toList.length))[q]?=some u:=by simpa [Value.cells] using hq
        have aMY:q<ts.length:=by have:=(jF.1 dX).1;simp[kN] at this;omega
        rw[qD,nK,eQ,qG (by omega)] at dX;rw[qD,nK,eQ,qG (by omega)];by_cases sI:q<off
        .rw[if_pos sI,iL,if_pos sI] at dX;rw[if_pos (by omega),iL,if_pos (by omega)];exact u2 i q u cj (by rw[Dp];simpa [Value.cells] using dX)
        .rw[if_neg sI,nK] at dX;rw[if_neg (by omega),nK];rw[show i*(Ty.agg ts).size+q-(i*(Ty.agg ts).size+off)=q-off by omega];by_cases NU:q-off<(a.eval v).cells.toList.length
         .rw[if_pos NU] at dX ⊢;exact dX
         .rw[if_neg NU,je] at dX;rw[if_neg NU,je];rw[show off+(a.eval v).cells.toList.length+(q-off-(a.eval v).cells.toList.length)=q by omega] at dX;rw[show i*(Ty.agg ts).size+off+(a.eval v).cells.toList.length+(q-off-(a.eval v).cells.toList.length)=i*(Ty.agg ts).size+q by omega];exact u2 i q u cj (by rw[Dp];simpa [Value.cells] using dX))
   refine cE.skip hd λZ' az=>?_;rw[vE az]
   refine⟨_,QA ho hi (cs:=cur) (by rw[gD,zT]) (by rw[kN,bp]) (λu hu=>by
        obtain⟨m,hm,rfl⟩:=gQ hu;exact hv'.cellsOne iV (m:=m) (by simp at hm ⊢)) q1 (by rw[G7] at q2;rw[bp,<-ahp];exact q2),H,own,hv,?_⟩
   rw[G7] at q3;simp only[PE.ev,k1,D.l_list,wL,D.i_int,rW,uB hy,Gn,tG];rw[bp,<-ahp];exact q3
  .rename_i T' e0 t e aI eo hu;rw[eo] at bI;have hv':=cM h hC rfl hu;cases hc:(Nat.beq inf.size 1&&Nat.beq size 1&&Nat.beq off 0&&e0.one&&Ty.sub t e0)<;>simp only[hc,zyv,zyu] at hr
   .cases hr
   cases hr;simp only[aA] at hc;obtain⟨⟨⟨⟨bp,zT⟩,jP⟩,dA⟩,cZ⟩:=hc;have bp:=aK bp;have zT:=aK zT;have jP:=aK jP;subst jP;subst zT;have hve:=hv'.sub cZ;obtain⟨c1,c2⟩:=hve.oneCell dA;have Gu:e0.size=1:=by cases e0<;>simp_all [Ty.size,Ty.one]
   obtain⟨cells,xs,k1,k2,k3,k4⟩:=bI;obtain⟨b,c',e1,zJ,uN⟩:=Ay k2;rw[fw] at e1;cases e1;obtain⟨y,hy⟩:∃y,xs[i]?=some y:=⟨_,cd cj⟩
   have bG:=k2.1
   obtain⟨cur,q1,q2,q3⟩:=h.storeRow (i:=i) (p:=i*e0.size) (vs:=[a.eval v]) eo fw k1 k2 k3 k4 cj (bL _) (by rw[Gu];simp) hve (λq u hq=>by
        rw[c1] at hq;have sH:q=0:=by have:=(ij.1 hq).1;simpa using this
        subst sH;simp at hq;subst hq;have:i*e0.size<=cells.length:=by rw[bG];exact j9 _ (by omega)
        rw[qD,rY (by simp;omega)];simp[qG this])
   refine cE.skip hd λZ' az=>?_;rw[vE az];refine⟨_,QA ho hi (cs:=cur) (by rw[gD]) (by rw[c1,bp];rfl) (λu hu=>by rw[c1] at hu;simp at hu;subst hu;exact c2) q1 (by rw[Gu] at q2;rw[bp];simpa using q2),H,own,hv,?_⟩;rw[c1,bp];have Hd:tG y 0 (e.ev Z)=e.ev Z:=by
        obtain⟨us,u1,u2⟩:=k3;have:=(u1 i y hy).dcells dA;cases y with
        |agg ds=>have h8:=u1 i _ hy;generalize us i=vv at h8;cases h8;simp[Ty.one] at dA
        |_=>rfl
   simp only[PE.ev,k1,D.l_list,wL,D.i_int,rW,uB hy,Hd];rw[Gu] at q3;simpa using q3
  .cases hr
def arQ {Z:Env}{es:List PE}{i:Nat}{e:PE}(h:es[i]?=some e):(PE.evs Z es)[i]?=some (e.ev Z):=by
 rw[PE.evs_eq,dF,h];rfl
def aft (h:Inv C S Z H own hv w0 σ0 A a w)(hC:CtxOK C σ0)(hg:holds gs Z=true){T:TypeId}{len:Nat}{ps:Array (Nat×Operand)}{r:St×List PI}(hr:ze C S gs dst T len ps.toList=some r){o:Oper}
 (ho:o.op=.buildSlice T len ps):∃(E:TypeId) (e:Ty) (es:List PE) (v:Value) (w':World),C.P.underlying T=some (.slice E)/\qy C.P E=some e/\r=(mkObj S dst (.row E e),[.setO dst (.lst es),.setR dst (.con .none)])/\
   (execOp a.eval o).run C.P w=.ok (.value v) w'/\Below w.heap.size w w'/\(∀k,Nat.beq k w.heap.size=true->w.heap.size<=k/\k<w'.heap.size)/\
   eD C (S.newO dst (.row E e)) (Z.setO dst (.list (PE.evs Z es))) H (gH own dst (λk=>Nat.beq k w.heap.size)) (cL hv dst v) w' w0.heap.size dst (.row E e):=by
 unfold ze at hr;split at hr
 case h_2=>cases hr
 rename_i E hT;simp only[aJ] at hr;obtain⟨e,he,z,hz,hr⟩:=hr;cases hc:(sq C.P E e&&Ty.sub z.1 e&&nm (ps.toList.map (·.1))&&ps.toList.all (λp=>Nat.blt p.1 len)&&Nat.ble (len*e.size) 16777216)<;>simp only[hc,zyv,zyu] at hr
 .cases hr
 simp only[aA] at hc;obtain⟨⟨⟨⟨hef,cZ⟩,bX⟩,eL⟩,hle⟩:=hc;have hle:=mO hle;obtain⟨inf,zv,hi,hs,lD,h1,hzv,ng⟩:=TJ hef;have uV:=adV ng;have m9:=va bX;have He:=((A1 (cap:=C.cap) (H:=H) hz ng).1).sub cZ;simp only[aT] at hr;obtain⟨es,mh,rfl⟩:=hr;obtain⟨el1,el2⟩:=mapM_some _ _ _ mh;simp only[List.length_range] at el1;have agu:∀i,i<len->∃pe,es[i]?=some pe/\M0 C S gs e z.2 ps.toList i=some pe:=by
  intro i hi;obtain⟨y,VH,sQ⟩:=el2 i i (by rw[rZ hi]);exact⟨y,VH,sQ⟩
 have sG:∀x,x∈ps.toList->x.1<len/\∃t pe,use C S gs x.2=some (t,pe)/\Ty.sub t e=true/\es[x.1]?=some pe:=by
  intro x hx;have Aa:x.1<len:=by
   have:=fe.1 eL x hx;simpa [qF] using this
  refine⟨Aa,?_⟩;obtain⟨pe,GO,fS⟩:=agu x.1 Aa;have Gw:=afN m9 (i:=x.1) (x:=x.2) hx;simp only[M0,Gw,aJ] at fS;obtain⟨y,hy,fS⟩:=fS;cases hs:Ty.sub y.1 e<;>simp only[hs,zyv,zyu] at fS
  .cases fS
  cases fS;exact⟨y.1,y.2,hy,hs,GO⟩
 let c0:Array Value:=madeCells zv.cells (len*e.size)
 have Gm:c0.size=len*e.size:=size_madeCells _ _
 have sM:∀p,p∈(ps.toList.map λ(x:Nat×Operand)=>(x.1,a.eval x.2))->∃o,(λi=>some (i*e.size,e.size)) p.1=some (o,p.2.cells.size)/\o+p.2.cells.size<=c0.size:=by
  intro p hp;obtain⟨x,hx,rfl⟩:=fF.1 hp;obtain⟨Aa,t,pe,hu,dw,_⟩:=sG x hx;have Dn:=((cM h hC hg hu).sub dw).size;simp only;refine⟨x.1*e.size,by rw[Dn],?_⟩;rw[Dn,Gm];have:(x.1+1)*e.size<=len*e.size:=j9 _ Aa;rw[lh] at this;omega
 have C1:∀(i j oi si oj sj:Nat),i≠j->(λi=>some (i*e.size,e.size)) i=some (oi,si)->(λi=>some (i*e.size,e.size)) j=some (oj,sj)->oi+si<=oj\/oj+sj<=oi:=by
  intro i j oi si oj sj aI hi hj;simp only[bx,pJ] at hi hj;obtain⟨rfl,rfl⟩:=hi;obtain⟨rfl,rfl⟩:=hj;rcases JZ i j with aq|iS
  .left;have:(i+1)*e.size<=j*e.size:=j9 _ aq;rw[lh] at this;omega
  .right;have:(j+1)*e.size<=i*e.size:=j9 _ (by omega);rw[lh] at this;omega
 obtain⟨fQ,f1,f2,f3,f4⟩:=TQ (λi=>some (i*e.size,e.size)) (ps.toList.map λ(x:Nat×Operand)=>(x.1,a.eval x.2)) c0 sM C1 (by simpa [Rp] using m9);have az:(execOp a.eval o).run C.P w=.ok (.value (.slice (some ⟨w.heap.size,0,none⟩) len len)) (w.alloc (.cells fQ E)):=by
  have n1:¬(len*inf.size>2^24):=by rw[hs];omega
  have M2:Instr.fill (λi=>some (i*inf.size,inf.size)) c0 (ps.toList.map λ(x:Nat×Operand)=>(x.1,a.eval x.2))=some fQ:=by rw[hs];exact f1
  by_cases h0:len*inf.size=0
  .have Us:c0=#[]:=by
        apply Rk;rw[Gm,<-hs];exact h0
   rw[Us] at M2
   have arU:Instr.fill (λi=>some (i*inf.size,inf.size)) (Array.map (λ_=>default) (Array.range 0)) (ps.toList.map λ(x:Nat×Operand)=>(x.1,a.eval x.2))=some fQ:=by
        have:(Array.map (λ_=>(default:Value)) (Array.range 0))=#[]:=by simp
        rw[this];exact M2
   simp[execOp,ho,Instr.buildSlice,run_underlying hT,Go.sizeOf,run_typeInfo w hi,n1,h0,arU,newRow]
  .have Us:c0=(Array.range (len*inf.size)).map (λx=>zv.cells[x%zv.cells.size]!):=by simp only[c0,madeCells,hs]
   rw[Us] at M2;have h00:¬(len=0\/inf.size=0):=by rw[<-Nat.mul_eq_zero];exact h0
   simp[execOp,ho,Instr.buildSlice,run_underlying hT,Go.sizeOf,run_typeInfo w hi,n1,h0,h00,zeroValue,hzv,M2,newRow]
 refine⟨E,e,es,_,_,hT,he,rfl,az,(Below.refl _ _).alloc (bL _) _,λk hk=>by simp at hk;simp;omega,?_⟩;have jv:(PE.evs Z es).length=len:=by rw[PE.evs_eq,nN,el1]
 have auP:∀(i:Nat) (x:D),(PE.evs Z es)[i]?=some x->∃v,Rep C.cap H e v x/\∀q u,v.cells[q]?=some u->fQ.toList[i*e.size+q]?=some u:=by
  intro i x hx;have ND:i<len:=by have:=(jF.1 hx).1;omega
  obtain⟨pe,GO,fS⟩:=agu i ND;rw[arQ GO] at hx;cases hx;unfold M0 at fS;split at fS
  .rename_i p hp;have hpm:=Bc hp;have NS:p.1=i:=by have:=Rw hp;simpa using this
   obtain⟨_,t,pe',hu,dw,wX⟩:=sG p hpm;rw[NS,GO] at wX;cases wX;have cG:=(cM h hC hg hu).sub dw;refine⟨_,cG,λq u hq=>?_⟩;have NT:q<(a.eval p.2).cells.size:=(ij.1 hq).1;have:=f3 p.1 (a.eval p.2) (p.1*e.size) (fF.2 ⟨p,hpm,rfl⟩) (by simp[cG.size]) q NT;rw[NS] at this;simp[this,hq]
  .rename_i hp;cases fS;refine⟨zv,He,λq u hq=>?_⟩;have NT:q<zv.cells.size:=(ij.1 hq).1
   have oM:i∉(ps.toList.map λ(x:Nat×Operand)=>(x.1,a.eval x.2)).map (·.1):=by
        intro cY;simp only[Ry,fF,Rp] at cY;obtain⟨x,Dt,e⟩:=cY;have:=tV.1 hp x Dt;simp[e] at this
   have:=f4 i (i*e.size) e.size oM rfl q (by omega);have h9:c0[i*e.size+q]?=zv.cells[q]?:=by
        simp only[c0];rw[<-uV];exact aio (by omega) ND NT
   simp[this,h9,hq]
 have kN:∃vs:Nat->Value,∀(i:Nat) (x:D),(PE.evs Z es)[i]?=some x->Rep C.cap H e (vs i) x/\∀q u,(vs i).cells[q]?=some u->fQ.toList[i*e.size+q]?=some u:=by
  have lF:∀i,∃v,∀x,(PE.evs Z es)[i]?=some x->Rep C.cap H e v x/\∀q u,v.cells[q]?=some u->fQ.toList[i*e.size+q]?=some u:=by
   intro i;cases hx:(PE.evs Z es)[i]? with
   |none=>exact⟨undef,λx dE=>by cases dE⟩
   |some x=>
    obtain⟨v,hv⟩:=auP i x hx;exact⟨v,λy hy=>by cases hy;exact hv⟩
  exact⟨λi=>Classical.choose (lF i),λi x hx=>Classical.choose_spec (lF i) x hx⟩
 obtain⟨vs,kN⟩:=kN;have ju:fQ.size=len*e.size:=by rw[f2,Gm]
 refine⟨fQ.toList,PE.evs Z es,by simp[Env.setO,bh],?_,⟨vs,λi x hx=>(kN i x hx).1,λi j u hi hj=>(kN i _ (cd hi)).2 j u hj⟩,λk hk=>by rw[bh] at hk;simp[Value.ownBlock] at hk;simp[gH,hk]⟩;rw[bh,jv];have UU:len<=maxLen:=by
  have:len*1<=len*e.size:=aes _ h1;unfold maxLen;omega
 exact⟨by simp[ju],.inr ⟨w.heap.size,len,fQ,rfl,h.below.size,heap_alloc_new w _,bL _,UU,ju,by rw[EK (by simp[ju])]⟩⟩
def aqY (h:Inv C S Z H own hv w0 σ0 A a w)(hC:CtxOK C σ0)(ht:¬A dst)(aq:dst<a.tmps.size){T:TypeId}{len:Nat}{ps:Array (Nat×Operand)}{r:St×List PI}(hr:ze C S [] dst T len ps.toList=some r){o:Oper}(hd:o.dst=some dst)
 (ho:o.op=.buildSlice T len ps):cE C w0 σ0 V S Z A a w o r:=by
 obtain⟨E,e,es,v,w',_,_,rfl,az,hb,eJ,dr⟩:=aft h hC rfl hr ho;refine cE.value hd λZ' sJ=>⟨_,_,az,?_⟩
 rw[Js sJ];exact h.mkObj ht aq (.row E e) _ _ (λk=>Nat.beq k w.heap.size) hb eJ dr
def Inv.kill (h:Inv C S Z H own hv w0 σ0 A a w)(j:Nat):Inv C (S.newO j .dead) Z H own hv w0 σ0 A a w:=by
 have gm:∀i,S.ver i<=(S.newO j .dead).ver i:=by
  intro i;show S.ver i<=cL S.ver j (S.ver j+1) i;rw[ic];by_cases e:i=j
  .subst e;simp
  .simp[e]
 have hc:Compat S hv (S.newO j .dead) hv:=⟨gm,λ_ _=>rfl⟩
 refine h.step (·=j) rfl (.refl H) h.ok (λ_ _ _ hx=>.inl hx) (λ_ _ hx=>.inl hx) (.refl _ _) hc (λi hi=>⟨by simp[St.newO,bU _ _ hi],rfl,rfl,λk hk=>⟨hk,rfl⟩⟩) (λi hi=>?_) h.owns (λ_=>id) (λt=>.inl ⟨rfl,rfl,rfl⟩) (λ_ _=>rfl) (λ_ _ _=>rfl) (λk i hk=>.inl ⟨i,hk⟩) (λi hi=>by subst hi;simp[St.newO,bh]);subst hi;simp only[St.newO,bh];trivial
def ara (h:Inv C S Z H own hv w0 σ0 A a w)(hC:CtxOK C σ0)(ht:¬A dst)(aq:dst<a.tmps.size)(eT:∀g,g∈gs->A g.1)(hg:holds gs Z=true){T:TypeId}{len:Nat}{ps:Array (Nat×Operand)}{r:St×List PI}(hr:CJ C S gs dst T len ps.toList=some r){o:Oper}(hd:o.dst=some dst)
 (ho:o.op=.buildSlice T len ps):cE C w0 σ0 V S Z A a w o r:=by
 unfold CJ at hr;split at hr
 case h_2=>cases hr
 rename_i E q hT hq;simp only[aJ] at hr;obtain⟨e,he,hr⟩:=hr;obtain⟨E',e',es,v,w',CU,uG,rfl,az,hb,eJ,dr⟩:=aft h hC hg hq ho;rw[hT] at CU;cases CU;rw[he] at uG;cases uG;cases hr;refine cE.value hd λZ' sJ=>⟨_,_,az,?_⟩
 have hρ:Z'=Z.setR dst (.list (PE.evs Z es)):=by simp[PI.runs,PI.run,PE.ev] at sJ;exact sJ.symm
 subst hρ;have h1:=h.newO dst (.row E e) (.list (PE.evs Z es)) v (λk=>Nat.beq k w.heap.size) hb eJ dr;obtain⟨σ2,jV,_,h2⟩:=h1.fz dst;have UG:(S.newO dst (.row E e)).fz dst=(S.newO dst (.row E e)).setO dst (.fz (.slice e.rol)):=by
  have:(S.newO dst (.row E e)).o dst=.row E e:=bh _ _ _;unfold St.fz;rw[this]
 rw[UG] at h2;have bI:=h2.objs dst;have e1:((S.newO dst (.row E e)).setO dst (.fz (.slice e.rol))).o dst=.fz (.slice e.rol):=bh _ _ _;rw[e1] at bI;have cG:Rep C.cap σ2 (.slice e.rol) v (.list (PE.evs Z es)):=by
  have:=bI.2
  rwa [bh,show(Z.setO dst (.list (PE.evs Z es))).o dst=.list (PE.evs Z es) from bh _ _ _] at this
 have h3:Inv C (S.newO dst .dead) Z σ2 jV (cL hv dst v) w0 σ0 A a w':=by
  refine h2.step (·=dst) rfl (.refl σ2) h2.ok (λ_ _ _ hx=>.inl hx) (λ_ _ hx=>.inl hx) (.refl _ _) ⟨λi=>bL _,λ_ _=>rfl⟩ (λi hi=>⟨?_,?_,rfl,λk hk=>⟨hk,rfl⟩⟩) (λi hi=>?_) h2.owns (λ_=>id) (λt=>.inl ⟨rfl,rfl,rfl⟩) (λ_ _=>rfl) (λ_ _ _=>rfl) (λk i hk=>.inl ⟨i,hk⟩) (λi hi=>by subst hi;simp[St.newO,bh])
  .simp[St.newO,St.setO,bU _ _ hi]
  .simp[Env.setO,bU _ _ hi]
  .subst hi;simp only[St.newO,bh];trivial
 have hh:holds gs (Z.setR dst (.list (PE.evs Z es)))=true:=by rw[GM (t:=dst) λg hm e=>ht (by rw[<-e];exact eT g hm)];exact hg
 cases gs with
 |nil=>exact⟨_,_,_,h3.setReg ht (s:=.dat (.slice e.rol)) cG aq (λ_ _ e=>by cases e)⟩
 |cons g bY=>
  refine⟨_,_,_,h3.setReg ht (s:=.opt (g::bY) (.dat (.slice e.rol))) ⟨λ_=>cG,λe=>absurd (hh.symm.trans e) (by decide)⟩ aq (λgs s e=>?_)⟩;cases e;exact⟨eT,λ_ _ e=>by cases e⟩
end
end Cx
