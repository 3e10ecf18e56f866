import Derived.Test.YtnkkihnmnfihnaaGreatDoorMAB
import Derived.Laws.OwnMore
import Derived.Lib.ConvBytes
set_option linter.all false
namespace Cx
open Go Go.RowKit
def il (b i:Nat):Nat:=4096*(i+1)+b
def St.fz (S:St)(j:Nat):St:=
 match S.o j with
 |.row _ e=>S.setO j (.fz (.slice e.rol))
 |.mp k e=>S.setO j (.fz (.map k e))
 |_=>S
def E4 (S:St)(b:Nat):Option (St×List PI):=
 match S.o b with
 |.box ag shs=>
  (sE S (.o b) shs 0).bind λx=>
    bif ag then some (S.setO b (.fbox (.agg x.1)),[.setO b (.mk x.2)])
    else match x.1,x.2 with
     |[t],[e]=>some (S.setO b (.fbox t),[.setO b e])
     |_,_=>Option.none
 |_=>Option.none
def St.mv (S:St)(j j':Nat):St:=
 {S with o:=cr (cr S.o j' (S.o j)) j .dead,ver:=cr (cr S.ver j' (S.ver j'+1)) j (S.ver j+1)}
def l8:Ob->Bool
 |.row ..=>true
 |.mp ..=>true
 |_=>false
def zX (S:St)(t j':Nat):Option (St×List PI):=
 match S.r t with
 |.obj j ver=>
  bif Nat.beq ver (S.ver j)&&l8 (S.o j)&& !Nat.beq j j' then some ((S.mv j j').setR t (.obj j' (S.ver j'+1)),[.setO j' (.o j)])
  else some (S,[])
 |_=>some (S,[])
def HT (S:St)(b i j':Nat):Option (St×List PI):=
 match S.o b with
 |.box ag shs=>
  match shs[i]? with
  |some (.obj j ver)=>
   bif Nat.beq ver (S.ver j)&&l8 (S.o j)&& !Nat.beq j j'&& !Nat.beq b j'&& !Nat.beq b j then
    some ((S.mv j j').setO b (.box ag (shs.set i (.obj j' (S.ver j'+1)))),[.setO j' (.o j)])
   else some (S,[])
  |_=>some (S,[])
 |_=>some (S,[])
def FL (C:Ctx)(S:St)(b i j:Nat)(T:TypeId):Option (St×List PI):=
 match S.o b with
 |.box ag shs=>
  match shs[i]?,qA C.P T with
  |some (.dat (.nils _)),some e=>
   bif !Nat.beq b j then some ((S.newO j (.row T e)).setO b (.box ag (shs.set i (.obj j (S.ver j+1)))),[.setO j (.con (.list []))])
   else some (S,[])
  |_,_=>some (S,[])
 |_=>some (S,[])
section
variable {C:Ctx} {S:St} {O:Env} {V:Im} {own:Nat->Option Nat} {hv:Nat->Value} {w0:World} {σ0:Base} {A:Nat->Prop} {a:Act} {w:World} {gs:List (Nat×Bool)} {Z:aW} {dst:Nat}
def Inv.lt (h:Inv C S O V own hv w0 σ0 A a w){k o:Nat}{u:Value}(hc:V.c k o=some u):k<w.heap.size:=World.block_lt_of_cell? w (a:=⟨k,o,none⟩) (h.ok.c _ _ _ hc)
def Inv.ltm (h:Inv C S O V own hv w0 σ0 A a w){k:Nat}{es:List (Value×Value)}(hc:V.m k=some es):k<w.heap.size:=by
 exact(h.ok.m _ _ hc).lt
def Im.ok.below {V:Im}{w w':World}(h:V.ok w)(hb:Below w.heap.size w w'):V.ok w':=by
 refine⟨λk o v hc=>?_,λk es hc=>?_⟩
 .have h1:=h.c k o v hc;rw[hb.cell (World.block_lt_of_cell? w (a:=⟨k,o,none⟩) h1)];exact h1
 .exact(h.m k es hc).keep (hb.block k (h.m k es hc).lt)
def fZ (own:Nat->Option Nat)(j:Nat)(nb:Nat->Bool):Nat->Option Nat:=λk=>if nb k then some j else if own k=some j then none else own k
def Inv.newOσ (h:Inv C S O V own hv w0 σ0 A a w)(j:Nat)(ob:Ob)(d:D)(v:Value)(nb:Nat->Bool){V':Im}{w':World}(hle:V.le V')(aC:V'.ok w')(dh:∀k o x,V'.c k o=some x->V.c k o=some x\/w.heap.size<=k)(cS:∀k x,V'.m k=some x->V.m k=some x\/w.heap.size<=k)
 (hw:Below w.heap.size w w') (dA:∀k,nb k=true->w.heap.size<=k/\k<w'.heap.size) (dq:∀k,nb k=true->(∀o,V'.c k o=none)/\V'.m k=none)
 (db:cI C (S.newO j ob) (O.setO j d) V' (fZ own j nb) (cr hv j v) w' w0.heap.size j ob) (oG:ob≠.tr:=by intro h;cases h):Inv C (S.newO j ob) (O.setO j d) V' (fZ own j nb) (cr hv j v) w0 σ0 A a w':=by
 have aJ:w0.heap.size<=w.heap.size:=h.below.size;have cH:∀k i,i≠j->own k=some i->fZ own j nb k=some i:=by
  intro k i hi hk;have h1:=h.owns k i hk;have h2:nb k=false:=by
   cases hn:nb k with
   |false=>rfl
   |true=>have:=dA k hn;omega
  simp[fZ,h2,hk,hi]
 refine h.step (λi=>i=j) rfl hle aC (λk o x hx=>(dh k o x hx).imp id λe=>⟨by omega,.inr e⟩) (λk x hx=>(cS k x hx).imp id λe=>⟨by omega,.inr e⟩) (hw.mono aJ) ⟨λi=>?_,λi e=>?_⟩ (λi hi=>⟨?_,?_,?_,λk hk=>⟨cH k i hi hk,?_⟩⟩) (λi hi=>?_) (λk i hk=>?_) (λ_=>id) (λt=>.inl ⟨rfl,rfl,rfl⟩) (λ_ _=>rfl) (λk hk _=>hw.block k hk) (λk i hk=>by
  unfold fZ at hk;split at hk
  .rename_i hn;exact .inr (dA k hn).1
  .split at hk
   .cases hk
   .exact .inl ⟨i,hk⟩) (λi hi=>by subst hi;simpa only[St.newO,aP] using oG)
 .simp only[St.newO,fQ];split<;>rename_i e
  .subst e;omega
  .omega
 .simp only[St.newO,fQ] at e;split at e
  .rename_i e';subst e';omega
  .rename_i aF;exact bF _ _ aF
 .simp[St.newO,bF _ _ hi]
 .simp[Env.setO,bF _ _ hi]
 .exact bF _ _ hi
 .exact hw.block k (h.owns k i hk).2.1
 .subst hi;simp only[St.newO,aP];exact db
 .unfold fZ at hk;split at hk
  .rename_i hn;obtain⟨g1,g2⟩:=dA k hn;exact⟨by omega,g2,(dq k hn).1,(dq k hn).2⟩
  .split at hk
   .cases hk
   .obtain⟨g1,g2,g3,g4⟩:=h.owns k i hk;refine⟨g1,by have:=hw.size;omega,λo=>?_,?_⟩
    .cases hc:V'.c k o with
     |none=>rfl
     |some u=>
      rcases dh k o u hc with e|e
      .rw[g3 o] at e;cases e
      .omega
    .cases hc:V'.m k with
     |none=>rfl
     |some u=>
      rcases cS k u hc with e|e
      .rw[g4] at e;cases e
      .omega
def Inv.newO (h:Inv C S O V own hv w0 σ0 A a w)(j:Nat)(ob:Ob)(d:D)(v:Value)(nb:Nat->Bool){w':World}(hw:Below w.heap.size w w')(dA:∀k,nb k=true->w.heap.size<=k/\k<w'.heap.size)
 (db:cI C (S.newO j ob) (O.setO j d) V (fZ own j nb) (cr hv j v) w' w0.heap.size j ob) (oG:ob≠.tr:=by intro h;cases h):Inv C (S.newO j ob) (O.setO j d) V (fZ own j nb) (cr hv j v) w0 σ0 A a w':=by
 refine h.newOσ j ob d v nb (.refl V) (h.ok.below hw) (λ_ _ _ hx=>.inl hx) (λ_ _ hx=>.inl hx) hw dA (λk hn=>⟨λo=>?_,?_⟩) db oG
 .cases hc:V.c k o with
  |none=>rfl
  |some u=>have:=h.lt hc;have:=(dA k hn).1;omega
 .cases hc:V.m k with
  |none=>rfl
  |some u=>have:=h.ltm hc;have:=(dA k hn).1;omega
def Inv.setObj (h:Inv C S O V own hv w0 σ0 A a w){t j:Nat}(ht:¬A t){v:Value}(fF:hv j=v)(ao:t<a.tmps.size):
 Inv C (S.setR t (.obj j (S.ver j))) (O.setR t .none) V own hv w0 σ0 (λu=>A u\/u=t) (a.put (some t) v) w:=
 h.setReg ht (s:=.obj j (S.ver j)) (v:=v) (d:=.none) ⟨bB _,λ_=>fF.symm⟩ ao (λ_ _ e=>by cases e)
def KJ (S:St)(j:Nat):(S.fz j).ver=S.ver/\(S.fz j).r=S.r:=by
 unfold St.fz;split<;>exact⟨rfl,rfl⟩
def Inv.fz (h:Inv C S O V own hv w0 σ0 A a w)(j:Nat):∃V' own',V.le V'/\Inv C (S.fz j) O V' own' hv w0 σ0 A a w:=by
 have bm:=h.objs j;unfold St.fz;split
 .rename_i T e eo;rw[eo] at bm;obtain⟨cells,xs,h1,h2,⟨vs,h3,h4⟩,h5⟩:=bm;have aJ:w0.heap.size<=w.heap.size:=h.below.size
  let nb:Nat->Bool:=λk=>decide ((hv j).ownBlock=some k)
  let V':Im:={c:=λk o=>if nb k then cells[o]? else V.c k o,m:=V.m}
  have dA:∀k,nb k=true->own k=some j:=λk hk=>h5 k (by simpa [nb] using hk);have hle:V.le V':=by
   refine⟨λk o v hc=>?_,λk es hc=>hc⟩;have:nb k=false:=by
        cases hn:nb k with
        |false=>rfl
        |true=>have:=(h.owns k j (dA k hn)).2.2.1 o;rw[this] at hc;cases hc
   simp[V',this,hc]
  refine⟨V',λk=>if nb k then none else own k,hle,h.step (λi=>i=j) rfl hle ?_ (λk o x hx=>?_) (λ_ _ hx=>.inl hx) (.refl _ _) ⟨λ_=>bB _,λ_ _=>rfl⟩ (λi hi=>⟨?_,rfl,rfl,λk hk=>⟨?_,rfl⟩⟩) (λi hi=>?_) (λk i hk=>?_) (λ_=>id) (λt=>.inl ⟨rfl,rfl,rfl⟩) (λ_ _=>rfl) (λ_ _ _=>rfl) (λk i hk=>by
        split at hk
        .cases hk
        .exact .inl ⟨i,hk⟩) (λi hi=>by subst hi;simp[St.setO,aP])⟩
  .refine⟨λk o v hc=>?_,h.ok.m⟩;simp only[V'] at hc;split at hc
   .rename_i hn;have db:(hv j).ownBlock=some k:=by simpa [nb] using hn
    have:=h2.cells db o v hc;rw[tS] at this;simpa using this
   .exact h.ok.c k o v hc
  .simp only[V'] at hx;split at hx
   .rename_i hn;exact .inr ⟨(h.owns k j (dA k hn)).1,.inl ⟨j,dA k hn⟩⟩
   .exact .inl hx
  .simp[St.setO,bF _ _ hi]
  .have:nb k=false:=by
        cases hn:nb k with
        |false=>rfl
        |true=>rw[dA k hn] at hk;simp at hk;exact absurd hk.symm hi
   simp[this,hk]
  .subst hi;simp only[St.setO,aP];refine⟨rfl,?_⟩;rw[h1];rcases h2.2 with⟨e1,e2⟩|⟨g,cap,cur,e1,e2,e3,e4,e5,e6,e7⟩
   .rw[e1];have:xs=[]:=Ox e2;subst this;exact .nil _
   .rw[e1];refine .slice e.rol g 0 xs.length cap xs vs rfl e4 e5 (λi x hx=>((h3 i x hx).mono hle).unf_rol) (λi m u hi hu=>?_);rw[Ty.rol_size];have hn:nb g=true:=by simp[nb,e1,Value.ownBlock]
    simp only[V',hn,if_true,iL];exact h4 i m u hi hu
  .split at hk
   .cases hk
   .rename_i hn;obtain⟨g1,g2,g3,g4⟩:=h.owns k i hk;exact⟨g1,g2,λo=>by simp[V',hn,g3 o],g4⟩
 .rename_i kt et eo;rw[eo] at bm;obtain⟨k0,arr,clock,gq,h1,h2,h3,h4,h5,⟨hx,_⟩,h6⟩:=bm;have aJ:w0.heap.size<=w.heap.size:=h.below.size
  let V':Im:={c:=V.c,m:=λk=>if k=k0 then some (entriesOf arr) else V.m k}
  have hle:V.le V':=by
   refine⟨λk o v hc=>hc,λk es hc=>?_⟩;have:k≠k0:=λe=>by subst e;rw[(h.owns k j h2).2.2.2] at hc;cases hc
   simp[V',this,hc]
  refine⟨V',λk=>if k=k0 then none else own k,hle,h.step (λi=>i=j) rfl hle ?_ (λk o x hx=>.inl hx) (λk x hx=>?_) (.refl _ _) ⟨λ_=>bB _,λ_ _=>rfl⟩ (λi hi=>⟨?_,rfl,rfl,λk hk=>⟨?_,rfl⟩⟩) (λi hi=>?_) (λk i hk=>?_) (λ_=>id) (λt=>.inl ⟨rfl,rfl,rfl⟩) (λ_ _=>rfl) (λ_ _ _=>rfl) (λk i hk=>by
        split at hk
        .cases hk
        .exact .inl ⟨i,hk⟩) (λi hi=>by subst hi;simp[St.setO,aP])⟩
  .refine⟨h.ok.c,λk es hc=>?_⟩;simp only[V'] at hc;split at hc
   .rename_i e;subst e;cases hc;refine .inl ⟨λe=>?_,arr,clock,h3,rfl⟩;refine Gp (cap:=C.cap) (V:=V) (kt:=kt) (es:=gq) (by simp[entriesOf,h5]) (λi p q hp hq=>?_) e;simp only[entriesOf,cM,aD] at hp;obtain⟨x,dC,rfl⟩:=hp;exact(h6 i x q (by simpa using dC) hq).1
   .exact h.ok.m k es hc
  .simp only[V'] at hx;split at hx
   .rename_i e;subst e;exact .inr ⟨(h.owns k j h2).1,.inl ⟨j,h2⟩⟩
   .exact .inl hx
  .simp[St.setO,bF _ _ hi]
  .have:k≠k0:=λe=>by subst e;rw[h2] at hk;simp at hk;exact hi hk.symm
   simp[this,hk]
  .subst hi;simp only[St.setO,aP];refine⟨rfl,?_⟩;rw[h1,h4];refine .map kt et k0 (entriesOf arr) gq (by simp[V']) (by simp[entriesOf,h5]) hx (λi p q hp hq=>?_) (λi p q hp hq=>?_)
   .simp only[entriesOf,cM,aD] at hp;obtain⟨e,he,rfl⟩:=hp;exact((h6 i e q (by simpa using he) hq).1).mono hle
   .simp only[entriesOf,cM,aD] at hp;obtain⟨e,he,rfl⟩:=hp;exact((h6 i e q (by simpa using he) hq).2).mono hle
  .split at hk
   .cases hk
   .rename_i hn;obtain⟨g1,g2,g3,g4⟩:=h.owns k i hk;exact⟨g1,g2,g3,by simp[V',hn,g4]⟩
 .exact⟨V,own,.refl V,h⟩
def tE {j:Nat}{e:PE}{O':Env}(h:PI.runs Z [.setO j e] O=some O'):O'=O.setO j (e.ev O):=by
 simp[PI.runs,PI.run] at h;exact h.symm
def pk {O':Env}(h:PI.runs Z [] O=some O'):O'=O:=by
 simp[PI.runs] at h;exact h.symm
def DT (C:Ctx)(w0:World)(σ0:Base)(Z:aW)(S:St)(O:Env)(A:Nat->Prop)(a:Act)(w:World)(r:St×List PI):Prop:=
 ∀O',PI.runs Z r.2 O=some O'->Good C w0 σ0 r.1 O' A a w
def aoi (h:Inv C S O V own hv w0 σ0 A a w){b:Nat}{r:St×List PI}(hr:E4 S b=some r):DT C w0 σ0 Z S O A a w r:=by
 unfold E4 at hr;split at hr
 case h_2=>cases hr
 rename_i ag shs eo;simp only[aA] at hr;obtain⟨x,hx,hr⟩:=hr;have bm:=h.objs b;rw[eo] at bm;obtain⟨k,cs,T,ds,h1,h2,h3,h4,h5,h6,h7⟩:=bm;obtain⟨l1,es,⟨he,rf⟩,l2,cw⟩:=P9 (b:=.o b) h (cs:=cs.toList) h5 shs 0 x (λm s hm=>by rw[BV,iL];exact(h7 m s hm).2) hx
 let V':Im:={c:=λk' o=>if k'=k then cs[o]? else V.c k' o,m:=V.m}
 have hle:V.le V':=by
  refine⟨λk' o v hc=>?_,λk es hc=>hc⟩;have:k'≠k:=λe=>by subst e;rw[(h.owns k' b h2).2.2.1 o] at hc;cases hc
  simp[V',this,hc]
 have key:∀(t:Ty) (v:Value) (d:D),Rep C.cap V' t v d->(∀(i:Nat) (u:Value),v.cells[i]?=some u->cs[i]?=some u)->
  Inv C (S.setO b (.fbox t)) (O.setO b d) V' (λk'=>if k'=k then none else own k') hv w0 σ0 A a w:=by
  intro t v d hrv bo
  refine h.step (λi=>i=b) rfl hle ?_ (λk' o x hx=>?_) (λ_ _ hx=>.inl hx) (.refl _ _) ⟨λ_=>bB _,λ_ _=>rfl⟩ (λi hi=>⟨?_,?_,rfl,λk' hk=>⟨?_,rfl⟩⟩) (λi hi=>?_) (λk' i hk=>?_) (λ_=>id) (λt=>.inl ⟨rfl,rfl,rfl⟩) (λ_ _=>rfl) (λ_ _ _=>rfl) (λk' i hk=>by
        split at hk
        .cases hk
        .exact .inl ⟨i,hk⟩) (λi hi=>by subst hi;simp[St.setO,aP])
  .refine⟨λk' o v hc=>?_,h.ok.m⟩;simp only[V'] at hc;split at hc
   .rename_i e;subst e;simp[World.cell?,h3,hc]
   .exact h.ok.c k' o v hc
  .simp only[V'] at hx;split at hx
   .rename_i e;subst e;exact .inr ⟨(h.owns k' b h2).1,.inl ⟨b,h2⟩⟩
   .exact .inl hx
  .simp[St.setO,bF _ _ hi]
  .simp[Env.setO,bF _ _ hi]
  .have:k'≠k:=λe=>by subst e;rw[h2] at hk;simp at hk;exact hi hk.symm
   simp[this,hk]
  .subst hi;simp only[St.setO,aP];exact⟨k,v,h1,by simp only[Env.setO,aP];exact hrv,λi u hu=>by simp[V',bo i u hu]⟩
  .split at hk
   .cases hk
   .rename_i hn;obtain⟨g1,g2,g3,g4⟩:=h.owns k' i hk;exact⟨g1,g2,λo=>by simp[V',hn,g3 o],g4⟩
 have jI:∀(m:Nat) (t:Ty),x.1[m]?=some t->t.one=true/\Rep C.cap V' t (cs.toList.getD m undef) (es.getD m .none):=λm t hm=>by
  obtain⟨g1,g2⟩:=cw m t hm;rw[iL] at g2;exact⟨g1,g2.mono hle⟩
 intro O' ar;cases ag with
 |true=>
  simp only[zyy] at hr;cases hr;have:=tE ar;subst this;refine⟨_,_,_,key (.agg x.1) (.agg cs.toList.toArray) _ ?_ (λi u hu=>by simpa [Value.cells] using hu)⟩;simp only[PE.ev,he];exact .agg _ _ _ (by simp;omega) (by omega) (λm t hm=>(jI m t hm).2) (λm t hm=>(jI m t hm).1)
 |false=>
  simp only[zyx] at hr;split at hr
  .rename_i t e et ee;cases hr;have:=tE ar;subst this;obtain⟨g1,g2⟩:=jI 0 t (by rw[et];rfl);have kh:es=[e.ev O]:=by rw[<-rf,ee];rfl
   subst kh;refine⟨_,_,_,key t (cs.toList.getD 0 undef) _ (by simpa using g2) (λi u hu=>?_)⟩;rw[(g2.oneCell g1).1] at hu;have hi:i=0:=by
        have:=(gX.1 hu).1;simpa using this
   subst hi;simp at hu;subst hu;have:0<cs.size:=by rw[h4];rw[et] at l1;simp at l1;omega
   rw[gl this];simp[aL,gl this]
  .cases hr
def Inv.mv (h:Inv C S O V own hv w0 σ0 A a w){j j':Nat}(aF:j≠j')(hk:l8 (S.o j)=true):
 Inv C (S.mv j j') (O.setO j' (O.o j)) V (λk=>if own k=some j then some j' else if own k=some j' then none else own k) (cr hv j' (hv j)) w0 σ0 A a w:=by
 have bm:=h.objs j
 refine h.step (λi=>i=j\/i=j') rfl (.refl V) h.ok (λ_ _ _ hx=>.inl hx) (λ_ _ hx=>.inl hx) (.refl _ _) ⟨λi=>?_,λi e=>?_⟩ (λi hi=>?_) (λi hi=>?_) (λk i hk=>?_) (λ_=>id) (λt=>.inl ⟨rfl,rfl,rfl⟩) (λ_ _=>rfl) (λ_ _ _=>rfl) (λk i hk=>by
        split at hk
        .rename_i e;exact .inl ⟨j,e⟩
        .split at hk
         .cases hk
         .exact .inl ⟨i,hk⟩) (λi hi=>by
        rcases hi with rfl|rfl
        .simp[St.mv,aP]
        .simp only[St.mv,bF _ _ (vP aF),aP];intro e;rw[e] at hk;cases hk)
 .simp only[St.mv,fQ];split
  .rename_i e;subst e;omega
  .split
   .rename_i e;subst e;omega
   .omega
 .simp only[St.mv,fQ] at e;split at e
  .rename_i e';subst e';omega
  .split at e
   .rename_i e';subst e';omega
   .rename_i Rx;exact bF _ _ Rx
 .simp only[not_or] at hi;refine⟨by simp[St.mv,bF _ _ hi.1,bF _ _ hi.2],by simp[Env.setO,bF _ _ hi.2],bF _ _ hi.2,λk hk=>⟨?_,rfl⟩⟩;have e1:i≠j:=hi.1;have e2:i≠j':=hi.2;simp[hk,e1,e2]
 .rcases hi with rfl|rfl
  .simp only[St.mv,aP];trivial
  .simp only[St.mv,bF _ _ (vP aF),aP];cases db:S.o j with
   |row T e=>
    rw[db] at bm;obtain⟨cells,xs,h1,h2,h3,h4⟩:=bm;refine⟨cells,xs,by simp only[Env.setO,aP];exact h1,by rw[aP];exact h2,h3,λk hk=>?_⟩;rw[aP] at hk;simp[h4 k hk]
   |mp kt et=>
    rw[db] at bm;obtain⟨k0,arr,clock,es,h1,h2,h3,h4,h5,h6⟩:=bm;exact⟨k0,arr,clock,es,by rw[aP];exact h1,by simp[h2],h3,by simp only[Env.setO,aP];exact h4,h5,h6⟩
   |_=>rw[db] at hk;simp[l8] at hk
 .split at hk
  .rename_i e;exact h.owns k j e
  .split at hk
   .cases hk
   .exact h.owns k i hk
def aw2 (h:Inv C S O V own hv w0 σ0 A a w){t j':Nat}{r:St×List PI}(hr:zX S t j'=some r):DT C w0 σ0 Z S O A a w r:=by
 intro O' ar;unfold zX at hr;split at hr
 .rename_i j ver es;cases hb:(Nat.beq ver (S.ver j)&&l8 (S.o j)&& !Nat.beq j j')<;>simp only[hb,zyy,zyx] at hr
  .cases hr;rw[pk ar];exact⟨_,_,_,h⟩
  .cases hr;simp only[av,jb] at hb;have dO:=aE hb.1.1;have aF:j≠j':=λe=>by subst e;simp at hb
   have mJ:=h.mv aF hb.1.2;have gS:=h.regs t;rw[es] at gS;have cK:=gS.2 dO;rw[tE ar];refine⟨_,_,_,mJ.step (S':=(S.mv j j').setR t (.obj j' (S.ver j'+1))) (λ_=>False) rfl (.refl V) mJ.ok (λ_ _ _ hx=>.inl hx) (λ_ _ hx=>.inl hx) (.refl _ _) ⟨λ_=>bB _,λ_ _=>rfl⟩ (λi _=>⟨rfl,rfl,rfl,λk hk=>⟨hk,rfl⟩⟩) (λ_ hf=>hf.elim) mJ.owns (λ_=>id) (λu=>?_) (λ_ _=>rfl) (λ_ _ _=>rfl) (λk i hk=>.inl ⟨i,hk⟩) (λ_ hf=>hf.elim)⟩;by_cases hu:u=t
   .subst hu;refine .inr ⟨?_,λgs s e=>by simp[St.setR,aP] at e⟩;simp only[St.setR,aP];refine⟨?_,λ_=>?_⟩
    .simp[St.mv,bF _ _ (vP aF),aP]
    .rw[aP];exact cK
   .exact .inl ⟨by simp[St.setR,bF _ _ hu],rfl,rfl⟩
 .cases hr;rw[pk ar];exact⟨_,_,_,h⟩
def aw1 (h:Inv C S O V own hv w0 σ0 A a w){b i j':Nat}{r:St×List PI}(hr:HT S b i j'=some r):DT C w0 σ0 Z S O A a w r:=by
 intro O' ar;unfold HT at hr;split at hr
 .rename_i ag shs eo;split at hr
  .rename_i j ver es;cases hb:(Nat.beq ver (S.ver j)&&l8 (S.o j)&& !Nat.beq j j'&& !Nat.beq b j'&& !Nat.beq b j)<;>simp only[hb,zyy,zyx] at hr
   .cases hr;rw[pk ar];exact⟨_,_,_,h⟩
   .cases hr;simp only[av,jb] at hb;have dO:=aE hb.1.1.1.1;have aF:j≠j':=λe=>by subst e;simp at hb
    have ij:b≠j':=λe=>by subst e;simp at hb
    have cW:b≠j:=λe=>by subst e;simp at hb
    have bm:=h.objs b;rw[eo] at bm;obtain⟨k,cs,T,ds,h1,h2,h3,h4,h5,h6,h7⟩:=bm;have cK:=(h7 i _ es).2.2 dO;have mJ:=h.mv aF hb.1.1.1.2;rw[tE ar];have Qv:(S.mv j j').o b=.box ag shs:=by simp[St.mv,bF _ _ ij,bF _ _ cW,eo]
    have FJ:=mJ.objs b;rw[Qv] at FJ;refine⟨_,_,_,mJ.step (S':=(S.mv j j').setO b (.box ag (shs.set i (.obj j' (S.ver j'+1))))) (λm=>m=b) rfl (.refl V) mJ.ok (λ_ _ _ hx=>.inl hx) (λ_ _ hx=>.inl hx) (.refl _ _) ⟨λ_=>bB _,λ_ _=>rfl⟩ (λm hm=>⟨by simp[St.setO,bF _ _ hm],rfl,rfl,λk hk=>⟨hk,rfl⟩⟩) (λm hm=>?_) mJ.owns (λ_=>id) (λt=>.inl ⟨rfl,rfl,rfl⟩) (λ_ _=>rfl) (λ_ _ _=>rfl) (λk i hk=>.inl ⟨i,hk⟩) (λm hm=>by subst hm;simp[St.setO,aP])⟩;subst hm;rw[St.setO_o];obtain⟨k1,Ex,T1,EA,g1,g2,g3,g4,g5,g6,g7⟩:=FJ;have e1:Ex=cs:=by
     rw[bF _ _ ij,h1] at g1;cases g1;rw[h3] at g3;cases g3;rfl
    refine⟨k1,Ex,T1,EA,g1,g2,g3,by simpa using g4,g5,by simpa using g6,λq x hq=>?_⟩;rw[DW] at hq;split at hq
    .rename_i e;subst e;split at hq
     .cases hq;refine⟨(λ_ _ e=>by cases e),?_,λ_=>?_⟩
      .simp[St.setO,St.mv,bF _ _ (vP aF),aP]
      .rw[aP,e1];exact cK
     .cases hq
    .obtain⟨f1,f2⟩:=g7 q x hq;exact⟨f1,f2.mono' (.refl V) (Compat.setO _ _ _ _) f1⟩
  .cases hr;rw[pk ar];exact⟨_,_,_,h⟩
 .cases hr;rw[pk ar];exact⟨_,_,_,h⟩
def aqr (h:Inv C S O V own hv w0 σ0 A a w){b i j:Nat}{T:TypeId}{r:St×List PI}(hr:FL C S b i j T=some r):DT C w0 σ0 Z S O A a w r:=by
 intro O' ar;unfold FL at hr;split at hr
 .rename_i ag shs eo;split at hr
  .rename_i e0 e es et;cases hb:(!Nat.beq b j)<;>simp only[hb,zyy,zyx] at hr
   .cases hr;rw[pk ar];exact⟨_,_,_,h⟩
   .cases hr;have aF:b≠j:=λe=>by subst e;simp at hb
    have bm:=h.objs b;rw[eo] at bm;obtain⟨k,cs,T0,ds,h1,h2,h3,h4,h5,h6,h7⟩:=bm;have cK:cs.getD i undef=.slice none 0 0:=by
     have:=(h7 i _ es).2;generalize cs.getD i undef=v at this;generalize ds.getD i .none=d at this;cases this;rfl
    have mL:=h.newO j (.row T e) (.list []) (.slice none 0 0) (λ_=>false) (.refl _ _) (by simp) ⟨[],[],by simp[Env.setO,aP],by rw[aP];exact World.ownsRow_nil _ _ _ _,⟨λ_=>undef,by simp,by simp⟩,by rw[aP];simp[Value.ownBlock]⟩;rw[tE ar];have Qv:(S.newO j (.row T e)).o b=.box ag shs:=by simp[St.newO,bF _ _ aF,eo]
    have FJ:=mL.objs b;rw[Qv] at FJ;refine⟨_,_,_,mL.step (S':=(S.newO j (.row T e)).setO b (.box ag (shs.set i (.obj j (S.ver j+1))))) (λm=>m=b) rfl (.refl V) mL.ok (λ_ _ _ hx=>.inl hx) (λ_ _ hx=>.inl hx) (.refl _ _) ⟨λ_=>bB _,λ_ _=>rfl⟩ (λm hm=>⟨by simp[St.setO,bF _ _ hm],rfl,rfl,λk hk=>⟨hk,rfl⟩⟩) (λm hm=>?_) mL.owns (λ_=>id) (λt=>.inl ⟨rfl,rfl,rfl⟩) (λ_ _=>rfl) (λ_ _ _=>rfl) (λk i hk=>.inl ⟨i,hk⟩) (λm hm=>by subst hm;simp[St.setO,aP])⟩;subst hm;rw[St.setO_o];obtain⟨k1,Ex,T1,EA,g1,g2,g3,g4,g5,g6,g7⟩:=FJ;have e1:Ex=cs:=by
     rw[bF _ _ aF,h1] at g1;cases g1;rw[h3] at g3;cases g3;rfl
    refine⟨k1,Ex,T1,EA,g1,g2,g3,by simpa using g4,g5,by simpa using g6,λq x hq=>?_⟩;rw[DW] at hq;split at hq
    .rename_i e';subst e';split at hq
     .cases hq;refine⟨(λ_ _ e=>by cases e),?_,λ_=>?_⟩
      .simp[St.setO,St.newO,aP]
      .rw[aP,e1];exact cK
     .cases hq
    .obtain⟨f1,f2⟩:=g7 q x hq;exact⟨f1,f2.mono' (.refl V) (Compat.setO _ _ _ _) f1⟩
  .cases hr;rw[pk ar];exact⟨_,_,_,h⟩
 .cases hr;rw[pk ar];exact⟨_,_,_,h⟩
end
def mkObj (S:St)(dst:Nat)(ob:Ob):St:=(S.newO dst ob).setR dst (.obj dst (S.ver dst+1))
def mkPtr (S:St)(dst:Nat)(ob:Ob):St:=(S.newO dst ob).setR dst (.ptr dst (S.ver dst+1) 0)
abbrev lO:=Option (St×List PI)
def EL (C:Ctx)(S:St)(dst:Nat)(T:TypeId)(x:Operand):lO:=
 match use C S [] x,C.P.underlying T with
 |some (.nils _,_),some (.slice E)=>(qA C.P E).map λe=>(mkObj S dst (.row E e),[.setO dst (.con (.list [])),.setR dst (.con .none)])
 |_,_=>Option.none
def EB (C:Ctx)(S:St)(dst:Nat)(T:TypeId):lO:=
 match qA C.P T,C.P.info? T,rq C.P T with
 |some t,some inf,some ag=>
  bif vF inf t&&(t.rowT||t.one) then
   (qB t).map λz=>(mkPtr S dst (.box ag (z.1.flat.map .dat)),[.setO dst (.con (.agg z.2.cells)),.setR dst (.con .none)])
  else Option.none
 |_,_,_=>Option.none
def ED (C:Ctx)(S:St)(dst:Nat)(T:TypeId)(x:Operand):lO:=
 match use C S [] x,rq C.P T with
 |some (t,e),some ag=>
  bif t.rowT||t.one then some (mkPtr S dst (.box ag (t.flat.map .dat)),[.setO dst (.mk [e]),.setR dst (.con .none)]) else Option.none
 |Option.none,some true=>
  match fJ S [] x with
  |.agg l=>some (mkPtr S dst (.box true (l.map AgC.sh)),[.setO dst (rT x),.setR dst (.con .none)])
  |_=>Option.none
 |_,_=>Option.none
def EI (C:Ctx)(S:St)(dst:Nat)(T:TypeId)(r:Option Operand):lO:=
 match C.P.underlying T,r with
 |some (.map K E),Option.none=>
  (qA C.P K).bind λkt=>(qA C.P E).map λet=>(mkObj S dst (.mp kt et),[.setO dst (.con (.map [])),.setR dst (.con .none)])
 |_,_=>Option.none
def EJ (C:Ctx)(S:St)(dst:Nat)(T:TypeId)(l c:Operand):lO:=
 match C.P.underlying T,use C S [] l,use C S [] c with
 |some (.slice E),some (.int _,n),some (.int _,m)=>
  (qA C.P E).bind λe=>
    bif sI C.P E e then
     (qB e).bind λz=>
        bif Ty.sub z.1 e then some (mkObj S dst (.row E e),[.chk (Sz n),.chk (.ci .eql n m),.setO dst (.rep n (.con z.2)),.setR dst (.con .none)]) else Option.none
    else Option.none
 |_,_,_=>Option.none
def EM (C:Ctx)(S:St)(dst:Nat)(T:TypeId)(x:Operand):lO:=
 match C.P.underlying T,fJ S [] x with
 |some (.map _ _),.obj j ver=>
  bif Nat.beq ver (S.ver j)&& !Nat.beq j dst then
   match S.o j with
   |.mp kt et=>some (mkObj (S.mv j dst) dst (.it kt et),[.setO dst (.tup [.lst [],.o j]),.setR dst (.con .none)])
   |_=>Option.none
  else Option.none
 |_,_=>Option.none
def EE (C:Ctx)(S:St)(dst:Nat)(s d:TypeId)(x:Operand):lO:=
 match use C S [] x,C.P.underlying s,C.P.underlying d with
 |some (.str,e),some .string,some (.slice E)=>
  (match C.P.underlying E with
   |some (.int .u8)=>some (S.setR dst (.dat (.slice (.int .u8))),[.chk (.ci .leq (.slen e) (.con (.int oQ))),.setR dst (.bytes e)])
   |_=>Option.none)
 |_,_,_=>Option.none
section
variable {C:Ctx} {S:St} {O:Env} {V:Im} {own:Nat->Option Nat} {hv:Nat->Value} {w0:World} {σ0:Base} {A:Nat->Prop} {a:Act} {w:World} {gs:List (Nat×Bool)} {Z:aW} {dst:Nat}
def ct (C:Ctx)(w0:World)(σ0:Base)(Z:aW)(S:St)(O:Env)(A:Nat->Prop)(a:Act)(w:World)(o:Oper)(r:St×List PI):Prop:=
 ∀O',PI.runs Z r.2 O=some O'->∀(K:Act->World->Prop) (Q:Exit->Act->World->Prop),(∀a' w',Good C w0 σ0 r.1 O' (λu=>A u\/o.dst=some u) a' w'->a'.tmps.size=a.tmps.size->K a' w')->o.wp C.P a w K Q
def size_put (a:Act)(d:Option Tmp)(v:Value):(a.put d v).tmps.size=a.tmps.size:=by
 cases d<;>simp[Act.put]
def ct.value {o:Oper}{r:St×List PI}(hd:o.dst=some dst)(hx:∀O',PI.runs Z r.2 O=some O'->∃v w',(execOp a.eval o).run C.P w=.ok (.value v) w'/\Good C w0 σ0 r.1 O' (λu=>A u\/u=dst) (a.put (some dst) v) w'):ct C w0 σ0 Z S O A a w o r:=by
 intro O' ar K Q hK;obtain⟨v,w',h1,h2⟩:=hx O' ar;simp only[Oper.wp,h1,Oper.upon,hd];refine hK _ _ ?_ (size_put _ _ _)
 have:(λu=>A u\/o.dst=some u)=(λu=>A u\/u=dst):=by
  funext u;rw[hd];simp[eq_comm]
 rw[this];exact h2
def ct.skip {o:Oper}{r:St×List PI}(hd:o.dst=none)(hx:∀O',PI.runs Z r.2 O=some O'->∃w',(execOp a.eval o).run C.P w=.ok .skip w'/\Good C w0 σ0 r.1 O' A a w'):ct C w0 σ0 Z S O A a w o r:=by
 intro O' ar K Q hK;obtain⟨w',h1,h2⟩:=hx O' ar;simp only[Oper.wp,h1,Oper.upon,hd]
 have:(λu=>A u\/o.dst=some u)=A:=by
  funext u;rw[hd];simp
 rw[this] at hK;exact hK _ _ h2 (size_put _ _ _)
def eX.eff (h:Inv C S O V own hv w0 σ0 A a w)(ht:¬A dst)(ao:dst<a.tmps.size){o:Oper}(hd:o.dst=some dst){s:Sh}{GC:List PI}(hq:eX C S O V hv Z dst a w o (s,GC)):ct C w0 σ0 Z S O A a w o (S.setR dst s,GC):=by
 refine ct.value hd λO' ar=>?_;obtain⟨v,d,rfl,h1,h2,h3⟩:=hq O' ar;exact⟨v,w,h1,V,own,hv,h.setReg ht (aI.mono' (.refl V) (.refl S hv) h3 h2) ao (λgs s' e=>absurd e (h3 gs s'))⟩
def eX.effG (h:Inv C S O V own hv w0 σ0 A a w)(ht:¬A dst)(ao:dst<a.tmps.size)(ei:∀g,g∈gs->A g.1)(hg:holds gs O=true){o:Oper}(hd:o.dst=some dst){s:Sh}{GC:List PI}(hq:eX C S O V hv Z dst a w o (s,GC)):ct C w0 σ0 Z S O A a w o (S.setR dst (.opt gs s),GC):=by
 refine ct.value hd λO' ar=>?_;obtain⟨v,d,rfl,h1,h2,h3⟩:=hq O' ar;have hh:holds gs (O.setR dst d)=true:=by rw[FK (t:=dst) (d:=d) λg hm e=>ht (by rw[<-e];exact ei g hm)];exact hg
 refine⟨v,w,h1,V,own,hv,h.setReg ht ⟨λ_=>aI.mono' (.refl V) (.refl S hv) h3 h2,λe=>absurd (hh.symm.trans e) (by decide)⟩ ao (λbZ s' e=>?_)⟩;cases e;exact⟨ei,h3⟩
def Inv.passed (h:Inv C S O V own hv w0 σ0 A a w)(ht:¬A dst)(ao:dst<a.tmps.size)(ei:∀g,g∈gs->A g.1)(hg:holds gs O=false){s:Sh}(hs:∀bZ s',s≠.opt bZ s')(d:D):Inv C (S.setR dst (.opt gs s)) (O.setR dst d) V own hv w0 σ0 (λu=>A u\/u=dst) (a.put (some dst) undef) w:=by
 have hh:holds gs (O.setR dst d)=false:=by rw[FK (t:=dst) (d:=d) λg hm e=>ht (by rw[<-e];exact ei g hm)];exact hg
 refine h.setReg ht (s:=.opt gs s) (v:=undef) (d:=d) ⟨λe=>absurd (hh.symm.trans e) (by decide),λ_=>rfl⟩ ao (λbZ s' e=>?_);cases e;exact⟨ei,hs⟩
def Inv.mkObj (h:Inv C S O V own hv w0 σ0 A a w)(ht:¬A dst)(ao:dst<a.tmps.size)(ob:Ob)(d:D)(v:Value)(nb:Nat->Bool){w':World}(hw:Below w.heap.size w w')(dA:∀k,nb k=true->w.heap.size<=k/\k<w'.heap.size)
 (db:cI C (S.newO dst ob) (O.setO dst d) V (fZ own dst nb) (cr hv dst v) w' w0.heap.size dst ob) (oG:ob≠.tr:=by intro h;cases h):
 Good C w0 σ0 (Cx.mkObj S dst ob) ((O.setO dst d).setR dst .none) (λu=>A u\/u=dst) (a.put (some dst) v) w':=by
 have h1:=h.newO dst ob d v nb hw dA db oG;have h2:=h1.setObj ht (j:=dst) (v:=v) (aP _ _ _) ao;have e:(S.newO dst ob).ver dst=S.ver dst+1:=aP _ _ _;rw[e] at h2;exact⟨_,_,_,h2⟩
def Inv.mkPtr (h:Inv C S O V own hv w0 σ0 A a w)(ht:¬A dst)(ao:dst<a.tmps.size)(ob:Ob)(d:D)(k:Nat)(nb:Nat->Bool){w':World}(hw:Below w.heap.size w w')(dA:∀k,nb k=true->w.heap.size<=k/\k<w'.heap.size)
 (db:cI C (S.newO dst ob) (O.setO dst d) V (fZ own dst nb) (cr hv dst (.pointer (some ⟨k,0,none⟩))) w' w0.heap.size dst ob) (oG:ob≠.tr:=by intro h;cases h):
 Good C w0 σ0 (Cx.mkPtr S dst ob) ((O.setO dst d).setR dst .none) (λu=>A u\/u=dst) (a.put (some dst) (.pointer (some ⟨k,0,none⟩))) w':=by
 have h1:=h.newO dst ob d _ nb hw dA db oG;have e:(S.newO dst ob).ver dst=S.ver dst+1:=aP _ _ _;have h2:=h1.setReg ht (s:=.ptr dst (S.ver dst+1) 0) (v:=.pointer (some ⟨k,0,none⟩)) (d:=.none) ⟨Nat.le_of_eq e.symm,λ_=>⟨k,aP _ _ _,rfl⟩⟩ ao (λ_ _ e=>by cases e);exact⟨_,_,_,h2⟩
def Dx {e:PE}{O':Env}(h:PI.runs Z [.setO dst e,.setR dst (.con .none)] O=some O'):O'=(O.setO dst (e.ev O)).setR dst .none:=by
 simp[PI.runs,PI.run,PE.ev] at h;exact h.symm
def aaj (h:Inv C S O V own hv w0 σ0 A a w){t:Ty}{v:Value}{d:D}(hr:Rep C.cap V t v d)(ho:t.rowT=true\/t.one=true)(ag:Bool)(T:TypeId):
 cI C (S.newO dst (.box ag (t.flat.map .dat))) (O.setO dst (.agg d.cells)) V (fZ own dst (λk=>Nat.beq k w.heap.size)) (cr hv dst (.pointer (some ⟨w.heap.size,0,none⟩))) (w.alloc (.cells v.cells T)) w0.heap.size dst (.box ag (t.flat.map .dat)):=by
 obtain⟨f1,f2,f3⟩:=hr.flat ho;refine⟨w.heap.size,v.cells,T,d.cells,aP _ _ _,by simp[fZ],heap_alloc_new w _,by rw[hr.size];simp[f1],by simp[Env.setO,aP],by simp[f1,f2],λi s hi=>?_⟩;simp only[cM,aD] at hi;obtain⟨ti,F0,rfl⟩:=hi;exact⟨λ_ _ e=>(by cases e),(f3 i ti F0).2⟩
def ama (h:Inv C S O V own hv w0 σ0 A a w)(hC:CtxOK C σ0)(ht:¬A dst)(ao:dst<a.tmps.size){T:TypeId}{x:Operand}{r:St×List PI}(hr:EL C S dst T x=some r){o:Oper}(hd:o.dst=some dst)(ho:o.op=.assign x):ct C w0 σ0 Z S O A a w o r:=by
 unfold EL at hr;split at hr
 case h_2=>cases hr
 rename_i e0 e1 E hu hT;simp only[aD] at hr;obtain⟨e,he,rfl⟩:=hr;have hx:=cL h hC rfl hu;have cK:a.eval x=.slice none 0 0:=by
  generalize a.eval x=v at hx;generalize e1.ev O=d at hx;cases hx;rfl
 refine ct.value hd λO' ar=>⟨.slice none 0 0,w,by simp[execOp,ho,cK],?_⟩
 rw[Dx ar];exact h.mkObj ht ao (.row E e) _ _ (λ_=>false) (.refl _ _) (by simp) ⟨[],[],by simp[Env.setO,aP,PE.ev],by rw[aP];exact World.ownsRow_nil _ _ _ _,⟨λ_=>undef,by simp,by simp⟩,by rw[aP];simp[Value.ownBlock]⟩
def alE (h:Inv C S O V own hv w0 σ0 A a w)(ht:¬A dst)(ao:dst<a.tmps.size){T:TypeId}{r:St×List PI}(hr:EB C S dst T=some r){o:Oper}(hd:o.dst=some dst)(ho:o.op=.alloc T):ct C w0 σ0 Z S O A a w o r:=by
 unfold EB at hr;split at hr
 case h_2=>cases hr
 rename_i t inf ag R4 hi ha;cases hc:(vF inf t&&(t.rowT||t.one))<;>simp only[hc,zyy,zyx] at hr
 .cases hr
 simp only[av,gJ] at hc;simp only[aD] at hr;obtain⟨z,hz,rfl⟩:=hr;obtain⟨v0,uN,Co⟩:∃v0,inf.zero=some v0/\kA t v0=true:=by
  have:=hc.1;unfold vF at this;split at this
  .exact⟨_,by assumption,this⟩
  .cases this
 obtain⟨k1,k2,k3⟩:=Ai (cap:=C.cap) (V:=V) hz Co;have y2:z.1.rowT=true\/z.1.one=true:=by
  rcases hc.2 with e|e
  .left;cases t<;>simp[Ty.rowT] at e;simp[qB] at hz;obtain⟨_,_,rfl⟩:=hz;rfl
  .right;rw[k3];exact e
 refine ct.value hd λO' ar=>⟨.pointer (some ⟨w.heap.size,0,none⟩),w.alloc (.cells v0.cells T),?_,?_⟩
 .simp[execOp,ho,Instr.alloc,zeroValue,run_typeInfo w hi,uN,newVar,newRow]
 .rw[Dx ar];exact h.mkPtr ht ao _ _ _ (λk=>Nat.beq k w.heap.size) ((Below.refl _ _).alloc (bB _) _) (λk hk=>by simp at hk;simp;omega) (aaj h k1 y2 ag T)
def Compat.newO (S:St)(hv:Nat->Value)(j:Nat)(ob:Ob)(v:Value):Compat S hv (S.newO j ob) (cr hv j v):=by
 refine⟨λi=>?_,λi e=>?_⟩
 .simp only[St.newO,fQ];split<;>rename_i e
  .subst e;omega
  .omega
 .simp only[St.newO,fQ] at e;split at e
  .rename_i e';subst e';omega
  .rename_i aF;exact bF _ _ aF
def alI (h:Inv C S O V own hv w0 σ0 A a w)(hC:CtxOK C σ0)(ht:¬A dst)(ao:dst<a.tmps.size){T:TypeId}{x:Operand}{r:St×List PI}(hr:ED C S dst T x=some r){o:Oper}(hd:o.dst=some dst)(ho:o.op=.box T x):ct C w0 σ0 Z S O A a w o r:=by
 unfold ED at hr;split at hr
 case h_3=>cases hr
 case h_2=>
  rename_i hu ha;split at hr
  case h_2=>cases hr
  rename_i l gz;cases hr;have gS:=(tG h (gs:=[]) rfl x).1;rw[gz] at gS;obtain⟨vs,ds,e1,e2,e3,e4,e5⟩:=gS;refine ct.value hd λO' ar=>⟨.pointer (some ⟨w.heap.size,0,none⟩),w.alloc (.cells (a.eval x).cells T),?_,?_⟩
  .simp[execOp,ho,Instr.box,newVar,newRow]
  .rw[Dx ar,e2];refine h.mkPtr ht ao _ _ _ (λk=>Nat.beq k w.heap.size) ((Below.refl _ _).alloc (bB _) _) (λk hk=>by simp at hk;simp;omega) ⟨w.heap.size,(a.eval x).cells,T,ds,aP _ _ _,by simp[fZ],heap_alloc_new w _,by rw[e1];simp[Value.cells,e3],by simp[Env.setO,aP],by simp[e4],λi s hi=>?_⟩;simp only[cM,aD] at hi;obtain⟨c,hc,rfl⟩:=hi;have bY:(a.eval x).cells.getD i undef=vs.getD i undef:=by rw[e1];simp[Value.cells,aL,eG]
   have h6:=(e5 i c hc).monoR (Im.le.leR (.refl V)) (Compat.newO S hv dst (.box true (l.map AgC.sh)) (.pointer (some ⟨w.heap.size,0,none⟩)));rw[bY];cases c with
   |dat t=>exact⟨λ_ _ e=>(by cases e),h6.2⟩
   |obj j ver=>exact⟨λ_ _ e=>(by cases e),h6⟩
 rename_i t e ag hu ha;cases hc:(t.rowT||t.one)<;>simp only[hc,zyy,zyx] at hr
 .cases hr
 cases hr;simp only[gJ] at hc;have hx:=cL h hC rfl hu;refine ct.value hd λO' ar=>⟨.pointer (some ⟨w.heap.size,0,none⟩),w.alloc (.cells (a.eval x).cells T),?_,?_⟩
 .simp[execOp,ho,Instr.box,newVar,newRow]
 .rw[Dx ar];have:(PE.mk [e]).ev O=.agg (e.ev O).cells:=by simp[PE.ev,PE.evc]
  rw[this];exact h.mkPtr ht ao _ _ _ (λk=>Nat.beq k w.heap.size) ((Below.refl _ _).alloc (bB _) _) (λk hk=>by simp at hk;simp;omega) (aaj h hx hc ag T)
def al4 (h:Inv C S O V own hv w0 σ0 A a w)(ht:¬A dst)(ao:dst<a.tmps.size){T:TypeId}{m:Option Operand}{r:St×List PI}(hr:EI C S dst T m=some r){o:Oper}(hd:o.dst=some dst)(ho:o.op=.makeMap T m):ct C w0 σ0 Z S O A a w o r:=by
 unfold EI at hr;split at hr
 case h_2=>cases hr
 rename_i K E hT;simp only[aA,aD] at hr;obtain⟨kt,hk,et,he,rfl⟩:=hr;refine ct.value hd λO' ar=>⟨.map (some w.heap.size),w.alloc (.map #[] 0),?_,?_⟩
 .simp[execOp,ho,Instr.makeMap]
 .rw[Dx ar]
  exact h.mkObj ht ao (.mp kt et) _ _ (λk=>Nat.beq k w.heap.size) ((Below.refl _ _).alloc (bB _) _) (λk hk=>by simp at hk;simp;omega)
   ⟨w.heap.size,#[],0,[],aP _ _ _,by simp[fZ],heap_alloc_new w _,by simp[Env.setO,aP,PE.ev],rfl,⟨by simp,by simp[og]⟩,by simp⟩
def amc (h:Inv C S O V own hv w0 σ0 A a w)(ht:¬A dst)(ao:dst<a.tmps.size){T:TypeId}{x:Operand}{r:St×List PI}(hr:EM C S dst T x=some r){o:Oper}(hd:o.dst=some dst)(ho:o.op=.range T x):ct C w0 σ0 Z S O A a w o r:=by
 unfold EM at hr;split at hr
 case h_2=>cases hr
 rename_i K E j ver hT es;obtain⟨er,_⟩:=tG h (gs:=[]) rfl x;rw[es] at er;cases hb:(Nat.beq ver (S.ver j)&& !Nat.beq j dst)<;>simp only[hb,zyy,zyx] at hr
 .cases hr
 simp only[av,jb] at hb;have cK:=er.2 (aE hb.1);have aF:j≠dst:=λe=>by subst e;simp at hb
 have bm:=h.objs j;split at hr
 case h_2=>cases hr
 rename_i kt et eo;cases hr;rw[eo] at bm;obtain⟨m,arr,clock,ds,h1,h2,h3,h4,h5,⟨h6,sM⟩,h7⟩:=bm;have mJ:=h.mv aF (by rw[eo];rfl);have oF:m<w.heap.size:=(gX.1 h3).1;have Rp:w0.heap.size<=m:=(h.owns m j h2).1;refine ct.value hd λO' ar=>⟨.pointer (some ⟨w.heap.size,0,none⟩),w.alloc (.mapIter (some m) clock #[] clock),?_,?_⟩
 .simp[execOp,ho,Instr.range,cK,h1,run_underlying hT,getObj,Sem.run,h3]
 have hρ:O'=((O.setO dst (.tup [.list [],.map ds])).setR dst .none):=by
  simp[PI.runs,PI.run,PE.ev,PE.evs,h4] at ar;exact ar.symm
 subst hρ;have eR:Below w.heap.size w (w.alloc (.mapIter (some m) clock #[] clock)):=(Below.refl _ _).alloc (bB _) _;have RY:=mJ.step (S':=(S.mv j dst).newO dst (.it kt et)) (O':=(O.setO dst (.tup [.list [],.map ds]))) (V':=V) (hv':=cr (cr hv dst (hv j)) dst (.pointer (some ⟨w.heap.size,0,none⟩)))
  (own':=λk=>if k=w.heap.size then some dst else(if own k=some j then some dst else if own k=some dst then none else own k)) (a':=a) (A':=A) (w':=w.alloc (.mapIter (some m) clock #[] clock)) (λi=>i=dst)
  rfl (.refl V) (h.ok.below eR) (λ_ _ _ hx=>.inl hx) (λ_ _ hx=>.inl hx) (eR.mono h.below.size) ⟨λi=>?_,λi e=>?_⟩ (λi hi=>⟨?_,?_,?_,λk hk=>⟨?_,?_⟩⟩) (λi hi=>?_) (λk i hk=>?_) (λ_=>id) (λt=>.inl ⟨rfl,rfl,rfl⟩) (λ_ _=>rfl) (λk hk _=>eR.block k hk) (λk i hk=>?_) (λi hi=>by subst hi;simp[St.newO,aP])
 .have ic:=RY.setObj ht (j:=dst) (v:=.pointer (some ⟨w.heap.size,0,none⟩)) (aP _ _ _) ao;have e:((S.mv j dst).newO dst (.it kt et)).ver dst=(S.mv j dst).ver dst+1:=aP _ _ _;rw[e] at ic;exact⟨_,_,_,ic⟩
 .simp only[St.newO,fQ];split<;>rename_i e
  .subst e;omega
  .omega
 .simp only[St.newO,fQ] at e;split at e
  .rename_i e';subst e';omega
  .rename_i Rx;exact bF _ _ Rx
 .simp[St.newO,bF _ _ hi]
 .simp[Env.setO,bF _ _ hi]
 .exact bF _ _ hi
 .have aGb:=(mJ.owns k i hk).2.1;have bh:k≠w.heap.size:=by omega
  simp only[if_neg bh];exact hk
 .exact eR.block k (mJ.owns k i hk).2.1
 .subst hi;simp only[St.newO,aP];have dz:m≠w.heap.size:=by omega
  refine⟨w.heap.size,m,arr,clock,ds,[],aP _ _ _,by simp,by simp[dz,h2],by omega,?_,heap_alloc_new w _,by simp[Env.setO,aP,ix],List.nodup_nil,by simp,h5,sM,h7⟩;rw[eR.block m oF];exact h3
 .split at hk
  .rename_i e;subst e;refine⟨h.below.size,by simp,λo=>?_,?_⟩
   .cases hc:V.c w.heap.size o with
    |none=>rfl
    |some u=>have:=h.lt hc;omega
   .cases hc:V.m w.heap.size with
    |none=>rfl
    |some u=>have:=h.ltm hc;omega
  .obtain⟨g1,g2,g3,g4⟩:=mJ.owns k i hk;exact⟨g1,by simp;omega,g3,g4⟩
 .split at hk
  .rename_i e;subst e;exact .inr (bB _)
  .exact .inl ⟨i,hk⟩
def alM (h:Inv C S O V own hv w0 σ0 A a w)(hC:CtxOK C σ0)(ht:¬A dst)(ao:dst<a.tmps.size){T U:TypeId}{x:Operand}{r:St×List PI}(hr:EE C S dst T U x=some r){o:Oper}(hd:o.dst=some dst)(ho:o.op=.convert T U x):ct C w0 σ0 Z S O A a w o r:=by
 unfold EE at hr;split at hr
 case h_2=>cases hr
 rename_i e E hu hT hU;split at hr
 case h_2=>cases hr
 rename_i hE;cases hr;have hx:=cL h hC rfl hu;obtain⟨s,aY,bx,hs⟩:=hx.str_inv;have p6:=Lib.run_convert_string_bytes (P:=C.P) w T U E s hT hU hE;refine ct.value hd λO' ar=>⟨.slice (some ⟨w.heap.size,0,none⟩) s.size (grownCap w s.size 0 E),Lib.bytesWorld w E s,by simp[execOp,ho,aY,p6],?_⟩
 simp only[PI.runs,PI.run,aA] at ar;obtain⟨ρ1,g1,O2,g2,g3⟩:=ar;cases c1:((PE.ci BinOp.leq (.slen e) (.con (.int oQ))).ev O).b<;>simp only[c1,zyy,zyx] at g1
 .cases g1
 cases g1;cases g2;cases g3;have ap0:s.size<=4294967296:=by
  simp[PE.ev,bx,D.s,D.i,D.b,j7,D.int,oQ] at c1;omega
 have eR:Below w.heap.size w (Lib.bytesWorld w E s):=⟨rfl,rfl,rfl,by rw[Lib.bytesWorld_size];omega,λk hk=>Lib.bytesWorld_at_old w E s k hk⟩
 have aJ:(Lib.bytesWorld w E s).heap.size=w.heap.size+1:=Lib.bytesWorld_size w E s
 let V':Im:={c:=λk i=>if k=w.heap.size then(if i<s.size then some (.int .u8 (s.data.toList.getD i 0).toNat) else none) else V.c k i,m:=V.m}
 have hle:V.le V':=by
  refine⟨λk o v hc=>?_,λk es hc=>hc⟩;have:k≠w.heap.size:=by have:=h.lt hc;omega
  simp[V',this,hc]
 have aC:V'.ok (Lib.bytesWorld w E s):=by
  refine⟨λk i v hc=>?_,(h.ok.below eR).m⟩;simp only[V'] at hc;split at hc
  .rename_i ek;subst ek;split at hc
   .rename_i hi;cases hc;exact Lib.bytesWorld_cell w E s i hi
   .cases hc
  .exact(h.ok.below eR).c k i v hc
 have h1:=h.step (S':=S) (O':=O) (V':=V') (own':=own) (hv':=hv) (A':=A) (a':=a) (w':=Lib.bytesWorld w E s) (λ_=>False) rfl hle aC (λk i v hc=>?_) (λk es hc=>.inl hc) (eR.mono h.below.size) ⟨λ_=>bB _,λ_ _=>rfl⟩
  (λj _=>⟨rfl,rfl,rfl,λk hk=>⟨hk,eR.block k (h.owns k j hk).2.1⟩⟩) (λj hj=>hj.elim) (λk j hk=>?_) (λ_=>id) (λt=>.inl ⟨rfl,rfl,rfl⟩) (λ_ _=>rfl) (λk hk _=>eR.block k hk) (λk i hk=>.inl ⟨i,hk⟩) (λ_ hf=>hf.elim)
 .refine⟨_,_,_,h1.setReg ht (s:=.dat (.slice (.int .u8))) ?_ ao (λ_ _ e=>by cases e)⟩;show Rep C.cap V' _ _ _;simp only[PE.ev,bx,D.s];refine .slice (.int .u8) w.heap.size 0 s.size _ _ (λi=>.int .u8 (s.data.toList.getD i 0).toNat) (by simp) (grownCap_ge w s.size 0 E) (grownCap_le_maxLen w s.size 0 E (by unfold maxLen;omega)) (λi x hx=>?_) (λi j u hi hu=>?_)
  .simp only[cM,aD] at hx;obtain⟨b,hb,rfl⟩:=hx;have:s.data.toList.getD i 0=b:=by simp[aL,hb]
   rw[this];have:=b.toNat_lt;exact .int .u8 _ (by show(0:Int)<=_;omega) (by show _<=(255:Int);omega)
  .have hj:j=0:=by
        have:=(gX.1 hu).1;simp[Value.cells] at this;exact this
   subst hj;simp[Value.cells] at hu;subst hu;simp[V',Ty.size,hi]
 .simp only[V'] at hc;split at hc
  .rename_i ek;exact .inr ⟨by have:=h.below.size;omega,.inr (by omega)⟩
  .exact .inl hc
 .obtain⟨g1,g2,g3,g4⟩:=h.owns k j hk;refine⟨g1,by omega,λi=>?_,g4⟩;have:k≠w.heap.size:=by omega
  simp[V',this,g3 i]
end
def KA (C:Ctx)(S:St)(gs:List (Nat×Bool))(e:Ty)(z:D)(parts:List (Nat×Operand))(i:Nat):Option PE:=
 match parts.find? (λp=>Nat.beq p.1 i) with
 |some p=>(use C S gs p.2).bind λa=>bif Ty.sub a.1 e then some a.2 else Option.none
 |Option.none=>some (PE.con z)
def yj (C:Ctx)(S:St)(gs:List (Nat×Bool))(dst:Nat)(T:TypeId)(len:Nat)(parts:List (Nat×Operand)):lO:=
 match C.P.underlying T with
 |some (.slice E)=>
  (qA C.P E).bind λe=>(qB e).bind λz=>
    bif sI C.P E e&&Ty.sub z.1 e&&iu (parts.map (·.1))&&parts.all (λp=>Nat.blt p.1 len)&&Nat.ble (len*e.size) 16777216 then
     ((List.range len).mapM (KA C S gs e z.2 parts)).map λes=>(mkObj S dst (.row E e),[.setO dst (.lst es),.setR dst (.con .none)])
    else Option.none
 |_=>Option.none
def BL (C:Ctx)(S:St)(gs:List (Nat×Bool))(dst:Nat)(T:TypeId)(len:Nat)(parts:List (Nat×Operand)):lO:=
 match C.P.underlying T,yj C S gs dst T len parts with
 |some (.slice E),some r=>
  (qA C.P E).bind λe=>
    match r.2 with
    |.setO _ x::_=>some ((S.newO dst .dead).setR dst (match gs with|[]=>.dat (.slice e.rol)|_=>.opt gs (.dat (.slice e.rol))),[.setR dst x])
    |_=>Option.none
 |_,_=>Option.none
def QF (S:St):AgC->Bool
 |.dat _=>true
 |.obj j ver=>Nat.beq ver (S.ver j)&&l8 (S.o j)
def vY (C:Ctx)(S:St)(T:TypeId)(x v:Operand):lO:=
 match C.P.info? T with
 |some inf=>
  match fJ S [] x with
  |.ptr j ver off=>
   bif Nat.beq ver (S.ver j) then
    match S.o j with
    |.box ag shs=>
     match use C S [] v with
     |some (t,e)=>
      bif Nat.beq inf.size t.size&&(t.rowT||t.one)&&Nat.ble (off+t.size) shs.length then
             some (S.setO j (.box ag (shs.take off++t.flat.map .dat++shs.drop (off+t.size))),[.setO j (.setc (.o j) off e)])
      else Option.none
     |Option.none=>
      match fJ S [] v with
      |.obj j' nZ=>
       bif Nat.beq nZ (S.ver j')&&l8 (S.o j')&&Nat.beq inf.size 1&&Nat.blt off shs.length then
              some (S.setO j (.box ag (shs.set off (.obj j' nZ))),[.setO j (.setc (.o j) off (.con .none))])
       else Option.none
      |.agg l=>
       bif Nat.beq inf.size l.length&&Nat.ble (off+l.length) shs.length&&l.all (QF S) then
              some (S.setO j (.box ag (shs.take off++l.map AgC.sh++shs.drop (off+l.length))),[.setO j (.setc (.o j) off (rT v))])
       else Option.none
      |_=>Option.none
    |_=>Option.none
   else Option.none
  |.eptr j ver size off=>
   bif Nat.beq ver (S.ver j) then
    match S.o j,use C S [] v with
    |.row _ (.agg ts),some (t,e)=>
     bif Nat.beq inf.size t.size&&(t.rowT||t.one)&&Nat.beq size ts.length&&Nat.ble (off+t.size) ts.length&&Ty.subs t.flat ((ts.drop off).take t.size) then
         some (S,[.setO j (.setn (.o j) (rT x) off e)])
     else Option.none
    |.row _ e0,some (t,e)=>
     bif Nat.beq inf.size 1&&Nat.beq size 1&&Nat.beq off 0&&e0.one&&Ty.sub t e0 then some (S,[.setO j (.setn (.o j) (rT x) 0 e)]) else Option.none
    |_,_=>Option.none
   else Option.none
  |_=>Option.none
 |Option.none=>Option.none
def uc (C:Ctx)(S:St)(T:TypeId)(m k v:Operand):lO:=
 match C.P.underlying T,fJ S [] m with
 |some (.map K _),.obj j ver=>
  bif Nat.beq ver (S.ver j) then
   match S.o j,use C S [] k,use C S [] v with
   |.mp kt et,some (tk,ek),some (tv,ev)=>
    bif Ty.beq tk kt&&wP C.P K kt&&Ty.sub tv et then some (S,[.chk (.ci .lss (.mlen (.o j)) (.con (.int oQ))),.setO j (.put (.o j) ek ev)]) else Option.none
   |_,_,_=>Option.none
  else Option.none
 |_,_=>Option.none
def L1 (x y:PE):PE:=.ci .leq (.llen (.app x y)) (.con (.int oQ))
def NW:Ty->Ty->Bool
 |.slice e',e=>Ty.beq e'.unf e
 |.nils _,_=>true
 |_,_=>false
def EC (C:Ctx)(S:St)(dst:Nat)(T:TypeId)(s x:Operand):lO:=
 match C.P.underlying T with
 |some (.slice E)=>
  (qA C.P E).bind λe=>
    match view C S [] x with
    |some (tx,ex)=>
     bif sI C.P E e&&NW tx e then
        match use C S [] s with
        |some (.nils _,_)=>some (mkObj S dst (.row E e),[.chk (L1 (.con (.list [])) ex),.setO dst (.app (.con (.list [])) ex),.setR dst (.con .none)])
        |some _=>Option.none
        |Option.none=>
         match fJ S [] s with
         |.obj j ver=>
          bif Nat.beq ver (S.ver j) then
             match S.o j with
             |.row E' e'=>
              bif Nat.beq E' E&&Ty.beq e' e then
                some ((S.newO j (.row E e)).setR dst (.obj j (S.ver j+1)),[.chk (L1 (.o j) ex),.setO j (.app (.o j) ex),.setR dst (.con .none)])
              else Option.none
             |_=>Option.none
          else Option.none
         |_=>Option.none
     else Option.none
    |Option.none=>Option.none
 |_=>Option.none
def Qp {P:Program}{T:TypeId}{e:Ty}(h:sI P T e=true):∃inf z,P.info? T=some inf/\inf.size=e.size/\inf.bytes<=zk/\1<=e.size/\inf.zero=some z/\kA e z=true:=by
 unfold sI at h;split at h
 .rename_i i hi;simp only[av] at h;have h4:=h.2;unfold vF at h4;split at h4
  .rename_i z hz;exact⟨i,z,hi,aE h.1.1.1,kC h.1.1.2,kC h.1.2,hz,h4⟩
  .cases h4
 .cases h
def Zv {e:Ty}{z:Value}(h:kA e z=true):z.cells.size=e.size:=by
 cases e with
 |agg ts=>
  cases z with
  |agg vs=>simp only[kA] at h;have:=(Zw ts vs.toList h).1;simpa [Value.cells,Ty.size] using this
  |_=>simp[kA] at h
 |_=>cases z<;>simp_all [kA,Ah,Value.cells,Ty.size]
def ak9 {O:Env}{x y:PE}(h:((PE.ci .lss x y).ev O).b=true):(x.ev O).i<(y.ev O).i:=by
 simpa [PE.ev,D.b_bool,j7] using h
def aaA {O:Env}{x y:PE}(h:((PE.ci .leq x y).ev O).b=true):(x.ev O).i<=(y.ev O).i:=by
 simpa [PE.ev,D.b_bool,j7] using h
def arR {n:Nat}(h:(n:Int)<oQ):n<4294967296:=by unfold oQ at h;omega
def adp {n:Nat}(h:(n:Int)<=oQ):n<=4294967296:=by unfold oQ at h;omega
def St.setO_self {S:St}{j:Nat}{ob:Ob}(h:S.o j=ob):S.setO j ob=S:=by
 have:cr S.o j ob=S.o:=by
  funext i;rw[fQ];split
  .rename_i e;subst e;exact h.symm
  .rfl
 cases S;simp only[St.setO] at this ⊢;rw[this]
section
variable {C:Ctx} {S:St} {O:Env} {V:Im} {own:Nat->Option Nat} {hv:Nat->Value} {w0:World} {σ0:Base} {A:Nat->Prop} {a:Act} {w:World} {gs:List (Nat×Bool)} {Z:aW} {dst:Nat}
def Inv.updO (h:Inv C S O V own hv w0 σ0 A a w)(j:Nat)(ob:Ob)(d:D)(v:Value)(nb:Nat->Bool){w':World}(hw:Below w0.heap.size w w')
 (uz:∀k,k<w.heap.size->own k≠some j->w'.heap[k]?=w.heap[k]?) (dA:∀k,nb k=true->(own k=some j\/w.heap.size<=k)/\k<w'.heap.size)
 (db:cI C (S.newO j ob) (O.setO j d) V (fZ own j nb) (cr hv j v) w' w0.heap.size j ob) (oG:ob≠.tr:=by intro h;cases h):Inv C (S.newO j ob) (O.setO j d) V (fZ own j nb) (cr hv j v) w0 σ0 A a w':=by
 have aJ:w0.heap.size<=w.heap.size:=h.below.size;have cH:∀k i,i≠j->own k=some i->fZ own j nb k=some i:=by
  intro k i hi hk;have h1:=h.owns k i hk;have h2:nb k=false:=by
   cases hn:nb k with
   |false=>rfl
   |true=>
    rcases(dA k hn).1 with e|e
    .rw[hk] at e;simp at e;exact absurd e hi
    .omega
  simp[fZ,h2,hk,hi]
 have aC:V.ok w':=by
  refine⟨λk o u hc=>?_,λk es hc=>?_⟩
  .have aF:own k≠some j:=λe=>by rw[(h.owns k j e).2.2.1 o] at hc;cases hc
   rw[World.cell?_of_block (uz k (h.lt hc) aF)];exact h.ok.c k o u hc
  .have aF:own k≠some j:=λe=>by rw[(h.owns k j e).2.2.2] at hc;cases hc
   exact(h.ok.m k es hc).keep (uz k (h.ltm hc) aF)
 refine h.step (λi=>i=j) rfl (.refl V) aC (λ_ _ _ hx=>.inl hx) (λ_ _ hx=>.inl hx) hw ⟨λi=>?_,λi e=>?_⟩ (λi hi=>⟨?_,?_,?_,λk hk=>⟨cH k i hi hk,?_⟩⟩) (λi hi=>?_) (λk i hk=>?_) (λ_=>id) (λt=>.inl ⟨rfl,rfl,rfl⟩) (λ_ _=>rfl) (λk hk e=>uz k hk (by rw[e];simp)) (λk i hk=>by
  unfold fZ at hk;split at hk
  .rename_i hn;rcases(dA k hn).1 with e|e
   .exact .inl ⟨j,e⟩
   .exact .inr e
  .split at hk
   .cases hk
   .exact .inl ⟨i,hk⟩) (λi hi=>by subst hi;simpa only[St.newO,aP] using oG)
 .simp only[St.newO,fQ];split<;>rename_i e
  .subst e;omega
  .omega
 .simp only[St.newO,fQ] at e;split at e
  .rename_i e';subst e';omega
  .rename_i aF;exact bF _ _ aF
 .simp[St.newO,bF _ _ hi]
 .simp[Env.setO,bF _ _ hi]
 .exact bF _ _ hi
 .exact uz k (h.owns k i hk).2.1 (by rw[hk];simpa using hi)
 .subst hi;simp only[St.newO,aP];exact db
 .unfold fZ at hk;split at hk
  .rename_i hn;obtain⟨g1,g2⟩:=dA k hn;rcases g1 with e|e
   .obtain⟨f1,f2,f3,f4⟩:=h.owns k j e;exact⟨f1,g2,f3,f4⟩
   .refine⟨by omega,g2,λo=>?_,?_⟩
    .cases hc:V.c k o with
     |none=>rfl
     |some u=>have:=h.lt hc;omega
    .cases hc:V.m k with
     |none=>rfl
     |some u=>have:=h.ltm hc;omega
  .split at hk
   .cases hk
   .obtain⟨g1,g2,g3,g4⟩:=h.owns k i hk;exact⟨g1,by have:=hw.size;omega,g3,g4⟩
def Inv.updB (h:Inv C S O V own hv w0 σ0 A a w)(j:Nat)(ob:Ob)(d:D){w':World}(hw:Below w0.heap.size w w')
 (uz:∀k,k<w.heap.size->own k≠some j->w'.heap[k]?=w.heap[k]?)
 (db:cI C (S.setO j ob) (O.setO j d) V own hv w' w0.heap.size j ob) (oG:ob≠.tr:=by intro h;cases h):Inv C (S.setO j ob) (O.setO j d) V own hv w0 σ0 A a w':=by
 have aC:V.ok w':=by
  refine⟨λk o u hc=>?_,λk es hc=>?_⟩
  .have aF:own k≠some j:=λe=>by rw[(h.owns k j e).2.2.1 o] at hc;cases hc
   rw[World.cell?_of_block (uz k (h.lt hc) aF)];exact h.ok.c k o u hc
  .have aF:own k≠some j:=λe=>by rw[(h.owns k j e).2.2.2] at hc;cases hc
   exact(h.ok.m k es hc).keep (uz k (h.ltm hc) aF)
 refine h.step (λi=>i=j) rfl (.refl V) aC (λ_ _ _ hx=>.inl hx) (λ_ _ hx=>.inl hx) hw (Compat.setO _ _ _ _) (λi hi=>⟨by simp[St.setO,bF _ _ hi],by simp[Env.setO,bF _ _ hi],rfl,λk hk=>⟨hk,uz k (h.owns k i hk).2.1 (by rw[hk];simpa using hi)⟩⟩) (λi hi=>?_) (λk i hk=>?_) (λ_=>id) (λt=>.inl ⟨rfl,rfl,rfl⟩) (λ_ _=>rfl) (λk hk e=>uz k hk (by rw[e];simp)) (λk i hk=>.inl ⟨i,hk⟩) (λi hi=>by subst hi;rw[St.setO_o];exact oG)
 .subst hi;rw[St.setO_o];exact db
 .obtain⟨g1,g2,g3,g4⟩:=h.owns k i hk;exact⟨g1,by have:=hw.size;omega,g3,g4⟩
def abj {B:Nat}{w w':World}{row:Option Nat}(hg:w.grownBy w' row)(hB:B<=w.heap.size)(hr:∀k,row=some k->B<=k):Below B w w':=(Below.refl B w).grown hg hB hr
def adU {z:Array Value}{n i q:Nat}(hz:0<z.size)(hi:i<n)(hq:q<z.size):(madeCells z (n*z.size))[i*z.size+q]?=z[q]?:=by
 have ao:i*z.size+q<n*z.size:=by
  have:(i+1)*z.size<=n*z.size:=qI _ hi;rw[qG] at this;omega
 have hm:(i*z.size+q)%z.size=q:=by rw[D0,ajY,Nat.mod_eq_of_lt hq]
 simp[madeCells,Array.getElem?_range,ao,hm,hq]
def al6 (h:Inv C S O V own hv w0 σ0 A a w)(hC:CtxOK C σ0)(ht:¬A dst)(ao:dst<a.tmps.size){T:TypeId}{l c:Operand}{r:St×List PI}(hr:EJ C S dst T l c=some r){o:Oper}(hd:o.dst=some dst)(ho:o.op=.makeSlice T l c):ct C w0 σ0 Z S O A a w o r:=by
 unfold EJ at hr;split at hr
 case h_2=>cases hr
 rename_i E k1 n k2 m hT hl hc;simp only[aA] at hr;obtain⟨e,he,hr⟩:=hr;cases hf:sI C.P E e<;>simp only[hf,zyy,zyx] at hr
 .cases hr
 obtain⟨inf,z0,hi,hs,hb,h1,hz,nH⟩:=Qp hf;simp only[aA] at hr;obtain⟨z,hzt,hr⟩:=hr;cases cq:Ty.sub z.1 e<;>simp only[cq,zyy,zyx] at hr
 .cases hr
 cases hr;obtain⟨n1,aY,bx,b1,b2⟩:=(cL h hC rfl hl).int_inv;obtain⟨n2,jk,dM,b3,b4⟩:=(cL h hC rfl hc).int_inv;simp only at bx dM;have F7:=((Ai (cap:=C.cap) (V:=V) hzt nH).1).sub cq;refine ct.value hd λO' ar=>?_;simp only[PI.runs,PI.run,aA] at ar;obtain⟨ρ1,g1,O2,g2,ar⟩:=ar;cases c1:((Sz n).ev O).b<;>simp only[c1,zyy,zyx] at g1
 .cases g1
 cases g1;cases c2:((PE.ci BinOp.eql n m).ev O).b<;>simp only[c2,zyy,zyx] at g2
 .cases g2
 cases g2;have aqd:n1=n2:=by simpa [PE.ev,bx,dM,D.i_int,D.b_bool,j7] using c2
 subst aqd;have hb:0<=n1/\n1<=oQ:=by simpa [Sz,PE.ev,bx,D.i_int,D.b_bool,j7,D.int] using c1
 obtain⟨nn,rfl⟩:=vI hb.1;have yY:nn<=4294967296:=by have:=hb.2;unfold oQ at this;omega
 have uS:z0.cells.size=e.size:=Zv nH;obtain⟨w',r1,r2,r3⟩:=run_make_full (P:=C.P) w w0.heap.size T E inf z0 e.size hT hi hz hs k1 k2 nn (by
  have:inf.bytes*nn<=zk*4294967296:=Nat.mul_le_mul (by assumption) yY;unfold zk at this;omega) (by unfold maxLen;omega) h.below.size
 refine⟨.slice (some ⟨w.heap.size,0,none⟩) nn nn,w',by simp[execOp,ho,aY,jk,r1],?_⟩;obtain⟨ρ3,g3,ρ4,g4,g5⟩:=ar;cases g3;cases g4;cases g5;simp only[PE.ev,bx,D.i_int,xO];have hlen:(List.replicate nn z.2).length=nn:=by simp
 refine h.mkObj ht ao (.row E e) _ _ (λk=>Nat.beq k w.heap.size) (abj r3 (bB _) (by simp)) (λk hk=>?_) ⟨_,List.replicate nn z.2,by simp[Env.setO,aP],by rw[aP,hlen];exact r2,⟨λ_=>z0,λi x hx=>?_,λi j u hi hj=>?_⟩,λk hk=>?_⟩
 .have bh:k=w.heap.size:=aE hk;have:=(r2.lt _ rfl).2;subst bh;exact⟨bB _,this⟩
 .have:=(fo.1 hx)
  obtain⟨q1,q2⟩:=this;simp at q2;subst q2;exact F7
 .rw[hlen] at hi;have bR:j<z0.cells.size:=(gX.1 hj).1;rw[DO,<-uS];rw[adU (by omega) hi bR];exact hj
 .rw[aP] at hk;simp[Value.ownBlock] at hk;simp[fZ,hk]
def og.push {arr:Array MapEntry}{clock:Nat}(h:og arr clock)(k v:Value):og (arr.push {key:=k,val:=v,born:=clock}) (clock+1):=by
 have key:∀(i:Nat) (e:MapEntry),(arr.push {key:=k,val:=v,born:=clock})[i]?=some e->(arr[i]?=some e/\e.born<clock)\/(i=arr.size/\e.born=clock):=by
  intro i e he;rw[Array.getElem?_push] at he;split at he
  .rename_i hi;cases he;exact .inr ⟨hi,rfl⟩
  .exact .inl ⟨he,h.1 i e he⟩
 refine⟨λi e he=>?_,λi j e f he hf hb=>?_⟩
 .rcases key i e he with⟨_,h1⟩|⟨_,h1⟩<;>omega
 .rcases key i e he with⟨h1,h2⟩|⟨h1,h2⟩<;>rcases key j f hf with⟨h3,h4⟩|⟨h3,h4⟩
  .exact h.2 i j e f h1 h3 hb
  .omega
  .omega
  .omega
def og.modify {arr:Array MapEntry}{clock:Nat}(h:og arr clock)(i0:Nat)(k v:Value):og (arr.modify i0 λe=>{e with key:=k,val:=v}) clock:=by
 have key:∀(i:Nat) (e:MapEntry),(arr.modify i0 λe=>{e with key:=k,val:=v})[i]?=some e->∃e',arr[i]?=some e'/\e'.born=e.born:=by
  intro i e he;rw[Array.getElem?_modify] at he;split at he
  .simp only[aD] at he;obtain⟨e',h1,rfl⟩:=he;exact⟨e',h1,rfl⟩
  .exact⟨e,he,rfl⟩
 refine⟨λi e he=>?_,λi j e f he hf hb=>?_⟩
 .obtain⟨e',h1,h2⟩:=key i e he;rw[<-h2];exact h.1 i e' h1
 .obtain⟨e',h1,h2⟩:=key i e he;obtain⟨f',h3,h4⟩:=key j f hf;exact h.2 i j e' f' h1 h3 (by rw[h2,h4,hb])
def aaM (h:Inv C S O V own hv w0 σ0 A a w)(hC:CtxOK C σ0){T:TypeId}{m k v:Operand}{r:St×List PI}(hr:uc C S T m k v=some r){o:Oper}(hd:o.dst=none)(ho:o.op=.mapUpdate T m k v\/o.op=.insert T m k v):ct C w0 σ0 Z S O A a w o r:=by
 unfold uc at hr;split at hr
 case h_2=>cases hr
 rename_i K E j ver hT es;obtain⟨er,_⟩:=tG h (gs:=[]) rfl m;rw[es] at er;cases hb:Nat.beq ver (S.ver j)<;>simp only[hb,zyy,zyx] at hr
 .cases hr
 have cK:=er.2 (aE hb);have bm:=h.objs j;split at hr
 case h_2=>cases hr
 rename_i kt et tk ek tv ev eo hk y8;rw[eo] at bm;cases hc:(Ty.beq tk kt&&wP C.P K kt&&Ty.sub tv et)<;>simp only[hc,zyy,zyx] at hr
 .cases hr
 cases hr;simp only[av] at hc;obtain⟨⟨Lt,Fz⟩,cq⟩:=hc;obtain⟨g,arr,clock,ds,h1,h2,h3,h4,h5,⟨h6,sM⟩,h7⟩:=bm;have bh:=cL h hC rfl hk;rw[Ty.beq_eq _ _ Lt] at bh;have hv':=(cL h hC rfl y8).sub cq;refine ct.skip hd λO' ar=>?_;simp only[PI.runs,PI.run,aA] at ar;obtain⟨ρ1,g1,O2,g2,g3⟩:=ar;cases c1:((PE.ci BinOp.lss (.mlen (.o j)) (.con (.int oQ))).ev O).b<;>simp only[c1,zyy,zyx] at g1
 .cases g1
 cases g1;cases g2;cases g3;have ap0:ds.length<4294967296:=by
  have h8:=ak9 c1;simp only[PE.ev,h4,D.m,D.i_int,D.int] at h8;exact arR h8
 have uA:(Instr.checkKey false 10000 K (a.eval k)).run C.P w=.ok () w:=aay (cap:=C.cap) (V:=V) Fz bh;have gy:∃vS BC ds',(Instr.mapUpdate T (a.eval m) (a.eval k) (a.eval v)).run C.P w=.ok () {w with heap:=w.heap.setIfInBounds g (.map vS BC)}/\dj (ek.ev O) (ev.ev O) ds=ds'/\ds'.length=vS.size/\(ds'.length<=maxLen/\og vS BC)/\
  ∀(i:Nat) (e:MapEntry) (p:D×D),vS[i]?=some e->ds'[i]?=some p->Rep C.cap V kt e.key p.1/\Rep C.cap V et e.val p.2:=by
  rcases run_findKey Fz bh arr ds h5 h7 w with⟨f1,f2,f3⟩|⟨i,e,p,f1,f2,f3,f4,f5,f6⟩
  .refine⟨arr.push {key:=a.eval k,val:=a.eval v,born:=clock},clock+1,ds++[(ek.ev O,ev.ev O)],?_,f3 _,by simp[h5],⟨by simp;unfold maxLen;omega,sM.push _ _⟩,λq e p he hp=>?_⟩
   .rw[cK,h1];simp[Instr.mapUpdate,run_underlying hT,getObj,Sem.run,h3,uA,f1,setObj]
   .rw[Array.getElem?_push] at he;rw[np] at hp;by_cases hq:q=arr.size
    .subst hq;simp at he;rw[if_neg (by omega)] at hp;simp[h5] at hp;subst he;subst hp;exact⟨bh,hv'⟩
    .rw[if_neg hq] at he;have LN:q<arr.size:=(gX.1 he).1;rw[if_pos (by omega)] at hp;exact h7 q e p he hp
  .refine⟨arr.modify i λe=>{e with key:=a.eval k,val:=a.eval v},clock,ds.set i (ek.ev O,ev.ev O),?_,f5 _,by simp[h5],⟨by simp;exact h6,sM.modify _ _ _⟩,λq e' p' he hp=>?_⟩
   .rw[cK,h1];have cA:(Instr.keyThatStays e.key (a.eval k)).run C.P w=.ok (a.eval k) w:=by simp[Instr.keyThatStays,f6]
    simp[Instr.mapUpdate,run_underlying hT,getObj,Sem.run,h3,uA,f3,f1,cA,setObj]
   .rw[Array.getElem?_modify] at he;rw[DW] at hp;by_cases hq:i=q
    .subst hq;simp only[if_true] at he hp;rw[f1] at he;simp at he;split at hp
     .cases hp;subst he;exact⟨bh,hv'⟩
     .cases hp
    .rw[if_neg hq] at he hp;exact h7 q e' p' he hp
 obtain⟨vS,BC,ds',r1,r2,r3,r4,r5⟩:=gy;refine⟨{w with heap:=w.heap.setIfInBounds g (.map vS BC)},by rcases ho with ho|ho<;>simp[execOp,ho,r1],?_⟩;have Rh:g<w.heap.size:=(gX.1 h3).1;have hgB:w0.heap.size<=g:=(h.owns g j h2).1;have bY:(PE.put (.o j) ek ev).ev O=.map ds':=by simp only[PE.ev,h4,D.m,r2]
 rw[bY]
 have:=h.updB j (.mp kt et) (.map ds') (w':={w with heap:=w.heap.setIfInBounds g (.map vS BC)}) ⟨rfl,rfl,rfl,by simp,λk hk=>by simp;rw[Zz (by omega)]⟩
  (λk hk aF=>by simp;rw[Zz (λe=>aF (by rw[<-e];exact h2))])
  ⟨g,vS,BC,ds',h1,h2,by simp[Rh],by simp[Env.setO,aP],r3,r4,r5⟩
 have eS:S.setO j (.mp kt et)=S:=St.setO_self eo;rw[eS] at this;exact⟨_,_,_,this⟩
end
def aBt {e:Ty}{z:Value}(h:kA e z=true):e.rowT=true\/e.one=true:=by
 cases e<;>first|exact .inl rfl|exact .inr rfl|(cases z<;>simp[kA,Ah] at h)
def Rep.cellsOne {cap:Nat->Option CSig}{V:Im}{t:Ty}{v:Value}{d:D}(h:Rep cap V t v d)(ht:t.rowT=true\/t.one=true){m:Nat}{u:Value}(hu:v.cells[m]?=some u):u.oneCell'=true:=by
 obtain⟨f1,f2,f3⟩:=h.flat ht;have ao:m<v.cells.size:=(gX.1 hu).1;rw[h.size] at ao;obtain⟨g1,g2⟩:=f3 m _ (bL (by omega:m<t.flat.length));have:=(g2.oneCell g1).2;rw[eG,hu] at this;exact this
def amq {cap:Nat->Option CSig}{V:Im}{e:Ty}{cells:List Value}{xs:List D}(h:eW cap V e cells xs)(hl:cells.length=xs.length*e.size)(ji:e.rowT=true\/e.one=true):∀u∈cells,u.oneCell'=true:=by
 obtain⟨vs,h1,h2⟩:=h;intro u hu;obtain⟨p,hp,rfl⟩:=jV hu;rw[hl] at hp;have hs:0<e.size:=Nat.pos_of_ne_zero λe0=>by rw[e0] at hp;simp at hp
 have hi:p/e.size<xs.length:=(Nat.div_lt_iff_lt_mul hs).2 hp;have hq:p%e.size<e.size:=Nat.mod_lt _ hs;have cw:=h1 _ _ (bL hi);have aJ:=cw.size;have re:(vs (p/e.size)).cells[p%e.size]?=some (vs (p/e.size)).cells[p%e.size]:=gl (by omega);have:=h2 _ _ _ hi re;rw[Nat.mul_comm,Nat.div_add_mod] at this;have h3:cells[p]=(vs (p/e.size)).cells[p%e.size]:=by
  have h4:=bL (show p<cells.length by omega);rw[h4] at this;exact D1 this
 rw[h3];exact cw.cellsOne ji re
def amp {cap:Nat->Option CSig}{V:Im}{e:Ty}{c1 c2:List Value}{xs ys:List D}(h:eW cap V e c1 xs)(k:eW cap V e c2 ys)(hl:c1.length=xs.length*e.size):eW cap V e (c1++c2) (xs++ys):=by
 obtain⟨vs,h1,h2⟩:=h;obtain⟨us,k1,k2⟩:=k;refine⟨λi=>if i<xs.length then vs i else us (i-xs.length),λi x hx=>?_,λi j u hi hj=>?_⟩
 .rw[np] at hx;split at hx
  .rename_i ao;simp only[ao,if_true];exact h1 i x hx
  .rename_i ao;simp only[ao,if_false];exact k1 _ x hx
 .by_cases ao:i<xs.length
  .simp only[ao,if_true] at hj;have:=h2 i j u ao hj;rw[lP (fo.1 this).1];exact this
  .simp only[ao,if_false] at hj;have dx:i-xs.length<ys.length:=by simp at hi;omega
   have:=k2 _ j u dx hj;have e1:i*e.size=c1.length+(i-xs.length)*e.size:=by rw[hl,<-qG];congr 1;omega
   rw[mu (by omega)];rw[show i*e.size+j-c1.length=(i-xs.length)*e.size+j by omega];exact this
section
variable {C:Ctx} {S:St} {O:Env} {V:Im} {own:Nat->Option Nat} {hv:Nat->Value} {w0:World} {σ0:Base} {A:Nat->Prop} {a:Act} {w:World} {gs:List (Nat×Bool)} {Z:aW} {dst:Nat}
def aBf (h:Inv C S O V own hv w0 σ0 A a w){B:Nat}{e f:Ty}{v:Value}{d:D}(hs:0<e.size)(ji:e.rowT=true\/e.one=true)(hf:f.unf=e)(Sb:OR C V w B (.slice f) v d):
 ∃ys,d=.list ys/\ys.length<=maxLen/\((v=.slice none 0 0/\ys=[])\/∃(ad:Addr) (c:Nat) (news:List Value),v=.slice (some ad) ys.length c/\news.length=ys.length*e.size/\
  (∀j u,news[j]?=some u->w.cell? (ad.add j)=some u)/\eW C.cap V e news ys):=by
 rcases Sb with hr|⟨T,e',cells,xs,ht,hd,cH,jK⟩|⟨k,arr,clock,es,kt,et,ht,_⟩
 .obtain⟨xs,hd,B2⟩:=hr.slice_inv;rw[<-f.unf_size,hf] at B2;rcases B2 with⟨⟨p0,aY⟩,rfl⟩|⟨k,o,c,aY,h1,h2,vs,h3,h4⟩
  .cases p0 with
   |none=>exact⟨[],hd,by simp,.inl ⟨aY,rfl⟩⟩
   |some a0=>exact⟨[],hd,by simp,.inr ⟨a0,0,[],aY,by simp,λj u hu=>by simp at hu,λ_=>undef,λi x hx=>by simp at hx,λi j u hi=>by simp at hi⟩⟩
  .refine⟨xs,hd,by omega,.inr ⟨⟨k,o,none⟩,c,(List.range (xs.length*e.size)).map λp=>(vs (p/e.size)).cells.getD (p%e.size) undef,aY,by simp,λj u hu=>?_,vs,h3,λi j u hi hj=>?_⟩⟩
   .simp only[cM,aD] at hu;obtain⟨p,hp,rfl⟩:=hu;have gO:j<xs.length*e.size:=by have:=(fo.1 hp).1;simpa using this
    rw[sn gO] at hp;cases hp;have hi:j/e.size<xs.length:=(Nat.div_lt_iff_lt_mul hs).2 gO;have hq:j%e.size<e.size:=Nat.mod_lt _ hs;have cw:=h3 _ _ (bL hi);have aJ:=cw.size;have re:(vs (j/e.size)).cells[j%e.size]?=some ((vs (j/e.size)).cells.getD (j%e.size) undef):=by
     rw[eG,gl (by omega)];rfl
    have:=h.cell (h4 _ _ _ hi re);rw[tS]
    rwa [show o+j/e.size*e.size+j%e.size=o+j by rw[xS,Nat.mul_comm,Nat.div_add_mod]] at this
   .have cw:=h3 _ _ (bL hi);have bR:j<e.size:=by rw[<-cw.size];exact(gX.1 hj).1
    have ao:i*e.size+j<xs.length*e.size:=by
     have:(i+1)*e.size<=xs.length*e.size:=qI _ hi;rw[qG] at this;omega
    have e1:(i*e.size+j)/e.size=i:=by rw[Nat.mul_comm,Nat.mul_add_div hs,Nat.div_eq_of_lt bR];omega
    have e2:(i*e.size+j)%e.size=j:=by rw[D0,ajY,Nat.mod_eq_of_lt bR]
    simp only[cM,sn ao,ld,e1,e2];rw[eG,hj];rfl
 .cases ht;rw[Ty.unf_rol] at hf;obtain⟨b,c,aY,hm,_⟩:=zA cH;have jK:eW C.cap V e cells xs:=by
   obtain⟨us,u1,u2⟩:=jK;refine⟨us,λi x hx=>hf▸(u1 i x hx).unf,λi j u hi hu=>?_⟩;rw[<-hf,Ty.unf_size];exact u2 i j u hi hu
  have cH:w.ownsRow B T e.size v xs.length cells:=by rw[<-hf,Ty.unf_size];exact cH
  rcases cH.2 with⟨e1,e2⟩|⟨g,cap,cur,e1,e2⟩
  .have:xs=[]:=Ox e2;subst this;exact⟨[],hd,by simp,.inl ⟨e1,rfl⟩⟩
  .exact⟨xs,hd,hm,.inr ⟨⟨g,0,none⟩,cap,cells,e1,cH.1,cH.cells (by rw[e1];rfl),jK⟩⟩
 .cases ht
def axh {P:Program}{B:Nat}{T E ty:TypeId}{inf:TypeInfo}{z:Value}{size:Nat}{v x:Value}{n m:Nat}{xs news:List Value}(hT:P.underlying T=some (.slice E))(hi:P.info? E=some inf)(hz:inf.zero=some z)
 (hs:inf.size=size) (uS:z.cells.size=size) (aJ:0<size) (kg:inf.bytes<=zk) (cH:w.ownsRow B E size v n xs) (hB:B<=w.heap.size) (cS:n+m<=4294967296)
 (hx:(x=.slice none 0 0/\m=0/\news=[])\/∃(ad:Addr) (c:Nat),x=.slice (some ad) m c/\news.length=m*size/\(∀j u,news[j]?=some u->w.cell? (ad.add j)=some u)/\∀u∈news,u.oneCell'=true):
 ∃v' w',(Builtin.append_ #[T,T] ty #[v,x]).run P w=.ok v' w'/\w'.ownsRow B E size v' (n+m) (xs++news)/\w.grownBy w' v.ownBlock/\∀k,v'.ownBlock=some k->v.ownBlock=some k\/(w.heap.size<=k/\k<w'.heap.size):=by
 rcases hx with⟨rfl,rfl,rfl⟩|⟨ad,c,rfl,hl,LB,h1⟩
 .refine⟨v,w,run_append_owned_none w B T ty E inf size hT hi v n xs cH,by simpa using cH,⟨rfl,rfl,rfl,bB _,λ_ _ _=>rfl⟩,λk hk=>.inl hk⟩
 .have Q3:(n+m)*inf.bytes<=140737488355328:=by
   have:(n+m)*inf.bytes<=4294967296*zk:=Nat.mul_le_mul cS kg;unfold zk at this;omega
  obtain⟨v',w',r1,r2,r3,r4⟩:=run_append_own (P:=P) w B T ty E inf z size inf.bytes hT hi hz hs rfl uS aJ v n xs cH ad m c news hl LB h1 (by unfold maxLen;omega) Q3 hB;refine⟨v',w',r1,r2,r3,λk hk=>?_⟩;have ao:=(r2.lt k hk).2;subst hs;rcases cH.2 with⟨rfl,rfl⟩|⟨g,cap,cur,rfl,hbg,hg,dh,pR,dL,FZ⟩
  .by_cases hm:m=0
   .subst hm;have:=r4.2 ⟨rfl,rfl⟩;subst this;simp[Value.ownBlock] at hk
   .have hr:=run_append_nil (P:=P) w T ty E inf z hT hi hz ad m c news hl LB (by omega) (by omega) (by have hb:=Q3;simp only[iL] at hb;omega);rw[hr] at r1;cases r1;simp[Value.ownBlock] at hk;subst hk;exact .inr ⟨bB _,ao⟩
  .by_cases acF:n+m<=cap
   .have yK:n*inf.size+news.length<=cur.size:=by rw[hl,dL,<-qG];exact qI _ acF
    have hr:=run_append_room (P:=P) w T ty E inf hT hi g n cap cur hg ad m c news hl LB h1 acF yK;rw[hr] at r1;cases r1;exact .inl hk
   .have hr:=run_append_grow (P:=P) w T ty E inf z hT hi hz ⟨g,0,none⟩ n cap xs cH.1 (cH.cells (g:=g) rfl) ad m c news hl LB (by omega) (by omega) (growslice_fits (by omega) Q3);rw[hr] at r1;cases r1;simp[Value.ownBlock] at hk;subst hk;exact .inr ⟨bB _,ao⟩
def alG (h:Inv C S O V own hv w0 σ0 A a w)(hC:CtxOK C σ0)(ht:¬A dst)(ao:dst<a.tmps.size){T:TypeId}{s x:Operand}{r:St×List PI}(hr:EC C S dst T s x=some r){o:Oper}(hd:o.dst=some dst)
 (ho:o.op=.call {callee:=.builtin .append,args:=#[s,x],argTypes:=#[T,T]}):ct C w0 σ0 Z S O A a w o r:=by
 unfold EC at hr;split at hr
 case h_2=>cases hr
 rename_i E hT;simp only[aA] at hr;obtain⟨e,he,hr⟩:=hr;split at hr
 case h_2=>cases hr
 rename_i tx ex Sb;have hv':=Zq h hC (gs:=[]) rfl Sb;obtain⟨cs,ar⟩:=V3 (C:=C) (w:=w) (a:=a) ho;cases hc:(sI C.P E e&&NW tx e)<;>simp only[hc,zyy,zyx] at hr
 .cases hr
 simp only[av] at hc;obtain⟨inf,z,hi,hs,kg,h1,hz,nH⟩:=Qp hc.1;have uS:=Zv nH;have ji:=aBt nH;have Sc:∃f:Ty,f.unf=e/\OR C V w w0.heap.size (.slice f) (a.eval x) (ex.ev O):=by
  have cA:=hc.2;unfold NW at cA;split at cA
  .exact⟨_,Ty.beq_eq _ _ cA,hv'⟩
  .refine⟨e,Ty.unf_ro ji,?_⟩;rcases hv' with hr|⟨_,_,_,_,ht,_⟩|⟨_,_,_,_,_,_,ht,_⟩
   .exact .inl (hr.sub (by simp[Ty.sub]))
   .cases ht
   .cases ht
  .cases cA
 obtain⟨fv,fE,Sc⟩:=Sc;obtain⟨ys,Lh,lC,aqX⟩:=aBf h h1 ji fE Sc;have hx:∃news,eW C.cap V e news ys/\news.length=ys.length*e.size/\((a.eval x=.slice none 0 0/\ys.length=0/\news=[])\/∃(ad:Addr) (c:Nat),a.eval x=.slice (some ad) ys.length c/\news.length=ys.length*e.size/\(∀j u,news[j]?=some u->w.cell? (ad.add j)=some u)/\∀u∈news,u.oneCell'=true):=by
  rcases aqX with⟨e1,rfl⟩|⟨ad,c,news,e1,e2,e3,e4⟩
  .exact⟨[],⟨λ_=>undef,by simp,by simp⟩,by simp,.inl ⟨e1,rfl,rfl⟩⟩
  .exact⟨news,e4,e2,.inr ⟨ad,c,e1,e2,e3,amq e4 e2 ji⟩⟩
 obtain⟨news,aF,Rz,hx⟩:=hx;have main:∀(j:Nat) (v:Value) (xs:List D) (cells:List Value),a.eval s=v->w.ownsRow w0.heap.size E e.size v xs.length cells->eW C.cap V e cells xs->xs.length+ys.length<=4294967296->
  (∀k,v.ownBlock=some k->own k=some j)->
  ∃v' w',(execOp a.eval o).run C.P w=.ok (.value v') w'/\Good C w0 σ0 ((S.newO j (.row E e)).setR dst (.obj j (S.ver j+1))) ((O.setO j (.list (xs++ys))).setR dst .none) (λu=>A u\/u=dst) (a.put (some dst) v') w':=by
  intro j v xs cells RZ cH jK hlen db;obtain⟨v',w',r1,r2,r3,r4⟩:=axh (P:=C.P) (ty:=o.type) hT hi hz hs uS h1 kg cH h.below.size hlen hx;refine⟨v',w',by rw[ar];simp[builtin,RZ,r1],?_⟩
  have R8:=h.updO j (.row E e) (.list (xs++ys)) v' (λk=>decide (v'.ownBlock=some k)) (w':=w') (abj r3 h.below.size (λk hk=>(h.owns k j (db k hk)).1)) (λk hk aF=>r3.block k hk (λe=>aF (db k e.symm))) (λk hk=>by
        have bh:v'.ownBlock=some k:=by simpa using hk
        rcases r4 k bh with e|e
        .exact⟨.inl (db k e),(r2.lt k bh).2⟩
        .exact⟨.inr e.1,e.2⟩)
   ⟨cells++news,xs++ys,by simp[Env.setO,aP],by rw[aP,jW];exact r2,amp jK aF cH.1,λk hk=>by rw[aP] at hk;simp[fZ,hk]⟩
  have h2:=R8.setObj ht (j:=j) (v:=v') (aP _ _ _) ao;have e:(S.newO j (.row E e)).ver j=S.ver j+1:=aP _ _ _;rw[e] at h2;exact⟨_,_,_,h2⟩
 split at hr
 .rename_i e0 pe0 hu;cases hr;refine ct.value hd λO' p5=>?_;have R0:=cL h hC rfl hu;have RZ:a.eval s=.slice none 0 0:=by
   generalize a.eval s=v at R0;generalize pe0.ev O=d at R0;cases R0;rfl
  simp only[PI.runs,PI.run,aA] at p5;obtain⟨ρ1,g1,O2,g2,ρ3,g3,g4⟩:=p5;cases c1:((L1 (.con (.list [])) ex).ev O).b<;>simp only[c1,zyy,zyx] at g1
  .cases g1
  cases g1;cases g2;cases g3;cases g4;have hlen:=aaA c1;simp only[PE.ev,D.l_list,Lh,vO,D.i_int,D.int] at hlen;have:=main dst (.slice none 0 0) [] [] RZ (World.ownsRow_nil _ _ _ _) ⟨λ_=>undef,by simp,by simp⟩ (by simpa using adp hlen) (by simp[Value.ownBlock]);simpa [PE.ev,D.l_list,Lh,mkObj] using this
 .cases hr
 .obtain⟨er,_⟩:=tG h (gs:=[]) rfl s;split at hr
  case h_2=>cases hr
  rename_i j ver es;rw[es] at er;cases hb:Nat.beq ver (S.ver j)<;>simp only[hb,zyy,zyx] at hr
  .cases hr
  have cK:=er.2 (aE hb);have bm:=h.objs j;split at hr
  case h_2=>cases hr
  rename_i E' e' eo;rw[eo] at bm;cases iU:(Nat.beq E' E&&Ty.beq e' e)<;>simp only[iU,zyy,zyx] at hr
  .cases hr
  cases hr;simp only[av] at iU;have e1:=aE iU.1;have e2:=Ty.beq_eq _ _ iU.2;subst e1;subst e2;obtain⟨cells,xs,k1,k2,k3,k4⟩:=bm;refine ct.value hd λO' p5=>?_;simp only[PI.runs,PI.run,aA] at p5;obtain⟨ρ1,g1,O2,g2,ρ3,g3,g4⟩:=p5;cases c1:((L1 (.o j) ex).ev O).b<;>simp only[c1,zyy,zyx] at g1
  .cases g1
  cases g1;cases g2;cases g3;cases g4;have hlen:=aaA c1;simp only[PE.ev,D.l_list,Lh,k1,D.i_int,D.int] at hlen;have:=main j (hv j) xs cells cK k2 k3 (by have:=adp hlen;simpa using this) k4;simpa [PE.ev,D.l_list,Lh,k1] using this
end
def HX {P:Program}{a:Act}{w:World}{o:Oper}{T:TypeId}{x v:Operand}{inf:TypeInfo}{k off:Nat}{cs:Array Value}{E:TypeId}(ho:o.op=.store T x v)(hi:P.info? T=some inf)(hx:a.eval x=.pointer (some ⟨k,off,none⟩))
 (hs:(a.eval v).cells.size=inf.size) (du:∀u∈(a.eval v).cells.toList,u.oneCell'=true) (hb:w.heap[k]?=some (.cells cs E (0,0))) (hle:off+inf.size<=cs.size):
 (execOp a.eval o).run P w=.ok .skip (w.setRow k (cs.toList.take off++(a.eval v).cells.toList++cs.toList.drop (off+inf.size)).toArray):=by
 have:=run_storeCells_at P k off E (a.eval v).cells.toList 0 cs w hb (by simp[hs];exact hle) du;simp only[jB,DP,hs] at this;simp[execOp,ho,Instr.storeAt,hx,Instr.sureAddr,storeVar,Go.sizeOf,run_typeInfo w hi,hs,this]
def aiv {w:World}{B k:Nat}{cs:Array Value}(hB:B<=k):Below B w (w.setRow k cs)/\∀i,i≠k->(w.setRow k cs).heap[i]?=w.heap[i]?:=
 ⟨⟨rfl,rfl,rfl,by simp[World.setRow],λi hi=>setRow_other w k i cs (by omega)⟩,λi hi=>setRow_other w k i cs hi⟩
def KK {α:Type}(xs ys:List α)(off:Nat)(d:α)(hle:off+ys.length<=xs.length)(i:Nat):(xs.take off++ys++xs.drop (off+ys.length)).getD i d=if off<=i/\i<off+ys.length then ys.getD (i-off) d else xs.getD i d:=by
 simp only[aL,sm];rw[np,ed,qH (by omega)];split
 .rename_i h;rw[if_neg (by omega),gm,if_pos h]
 .rename_i h;rw[np];split
  .rename_i h2;rw[if_pos (by omega)]
  .rename_i h2;rw[if_neg (by omega),gK];congr 2;omega
section
variable {C:Ctx} {S:St} {O:Env} {V:Im} {own:Nat->Option Nat} {hv:Nat->Value} {w0:World} {σ0:Base} {A:Nat->Prop} {a:Act} {w:World} {gs:List (Nat×Bool)} {Z:aW} {dst:Nat}
def Inv.storeBox (h:Inv C S O V own hv w0 σ0 A a w){j k off:Nat}{ag:Bool}{shs news:List Sh}{cs:Array Value}{E:TypeId}{ds dn:List D}{vs:List Value}(eo:S.o j=.box ag shs)
 (h1:hv j=.pointer (some ⟨k,0,none⟩)) (h2:own k=some j) (h3:w.heap[k]?=some (.cells cs E (0,0))) (h4:cs.size=shs.length) (h5:O.o j=.agg ds) (h6:ds.length=shs.length)
 (h7:∀i s,shs[i]?=some s->(∀gs s',s≠.opt gs s')/\aI C S O V hv s (cs.getD i undef) (ds.getD i .none))
 (l1:news.length=vs.length) (l2:dn.length=vs.length) (hle:off+vs.length<=shs.length)
 (mL:∀i s,news[i]?=some s->(∀gs s',s≠.opt gs s')/\aI C S O V hv s (vs.getD i undef) (dn.getD i .none)):
 Inv C (S.setO j (.box ag (shs.take off++news++shs.drop (off+vs.length)))) (O.setO j (.agg (bH ds off dn))) V own hv w0 σ0 A a (w.setRow k (cs.toList.take off++vs++cs.toList.drop (off+vs.length)).toArray):=by
 have hkB:w0.heap.size<=k:=(h.owns k j h2).1;obtain⟨b1,b2⟩:=aiv (w:=w) (B:=w0.heap.size) (k:=k) (cs:=(cs.toList.take off++vs++cs.toList.drop (off+vs.length)).toArray) hkB;refine h.updB j _ _ b1 (λi hi aF=>b2 i λe=>aF (e▸h2)) ⟨k,_,E,bH ds off dn,h1,h2,setRow_heap w k cs _ E _ h3,?_,by simp[Env.setO,aP],?_,λi s hi=>?_⟩
 .simp[l1];omega
 .simp[bH,l2,l1];omega
 .have dL:(cs.toList.take off++vs++cs.toList.drop (off+vs.length)).toArray.getD i undef=if off<=i/\i<off+vs.length then vs.getD (i-off) undef else cs.getD i undef:=by
   have e0:∀l:List Value,l.toArray.getD i undef=l.getD i undef:=λl=>by simp[eG,aL]
   rw[e0,KK cs.toList vs off undef (by simp;omega),BV cs i]
  have yF:(bH ds off dn).getD i .none=if off<=i/\i<off+vs.length then dn.getD (i-off) .none else ds.getD i .none:=by
   rw[bH,KK ds dn off .none (by omega),l2]
  rw[dL,yF];have ach:∀s v d,(∀gs s',s≠.opt gs s')->aI C S O V hv s v d->aI C (S.setO j (.box ag (shs.take off++news++shs.drop (off+vs.length)))) (O.setO j (.agg (bH ds off dn))) V hv s v d:=
   λs v d hn hk=>aI.mono' (.refl V) (Compat.setO _ _ _ _) hn hk
  have gz:(shs.take off++news++shs.drop (off+vs.length))[i]?=if off<=i/\i<off+vs.length then news[i-off]? else shs[i]?:=by
   rw[sm,np,ed,qH (by omega)];split
   .rename_i h;rw[if_neg (by omega),gm,if_pos h]
   .rename_i h;rw[np,l1];split
    .rename_i h2;rw[if_pos (by omega)]
    .rename_i h2;rw[if_neg (by omega),gK];congr 1;omega
  rw[gz] at hi;split
  .rename_i hc;rw[if_pos hc] at hi;obtain⟨g1,g2⟩:=mL _ s hi;exact⟨g1,ach _ _ _ g1 g2⟩
  .rename_i hc;rw[if_neg hc] at hi;obtain⟨g1,g2⟩:=h7 _ s hi;exact⟨g1,ach _ _ _ g1 g2⟩
def ail (h:Inv C S O V own hv w0 σ0 A a w){j:Nat}(hr:l8 (S.o j)=true):(hv j).cells=#[hv j]/\(hv j).oneCell'=true:=by
 have bm:=h.objs j;cases db:S.o j with
 |row T e=>
  rw[db] at bm;obtain⟨cells,xs,h1,h2,h3,h4⟩:=bm;obtain⟨b,c,e1,_⟩:=zA h2;rw[e1];exact⟨rfl,rfl⟩
 |mp kt et=>
  rw[db] at bm;obtain⟨k0,arr,clock,es,h1,_⟩:=bm;rw[h1];exact⟨rfl,rfl⟩
 |_=>rw[db] at hr;simp[l8] at hr
def Inv.storeRow (h:Inv C S O V own hv w0 σ0 A a w){j k n c i p:Nat}{T:TypeId}{e:Ty}{cells vs:List Value}{xs:List D}{v':Value}{d':D}(eo:S.o j=.row T e)(fF:hv j=.slice (some ⟨k,0,none⟩) n c)
 (h1:O.o j=.list xs) (h2:w.ownsRow w0.heap.size T e.size (hv j) xs.length cells) (h3:eW C.cap V e cells xs) (h4:∀k,(hv j).ownBlock=some k->own k=some j) (hi:i<xs.length)
 (wB:i*e.size<=p) (fb:p+vs.length<=i*e.size+e.size) (hr:Rep C.cap V e v' d')
 (hv':∀q u,v'.cells[q]?=some u->(cells.take p++vs++cells.drop (p+vs.length))[i*e.size+q]?=some u):
 ∃cur,w.heap[k]?=some (.cells cur T (0,0))/\p+vs.length<=cur.size/\Inv C S (O.setO j (.list (xs.set i d'))) V own hv w0 σ0 A a (w.setRow k (cur.toList.take p++vs++cur.toList.drop (p+vs.length)).toArray):=by
 have bo:=h2.1;rcases h2.2 with⟨e0,e1⟩|⟨g,cap,cur,e1,e2,e3,e4,e5,e6,e7⟩
 .omega
 rw[fF] at e1;cases e1;have apP:i*e.size+e.size<=xs.length*e.size:=by
  have:(i+1)*e.size<=xs.length*e.size:=qI _ hi;rw[qG] at this;omega
 have aF3:xs.length*e.size<=c*e.size:=qI _ e4;have aqz:p+vs.length<=cur.size:=by omega
 refine⟨cur,e3,aqz,?_⟩;have cH:own k=some j:=h4 k (by rw[fF];rfl);obtain⟨b1,b2⟩:=aiv (w:=w) (B:=w0.heap.size) (k:=k) (cs:=(cur.toList.take p++vs++cur.toList.drop (p+vs.length)).toArray) e2;have FZ:(cur.toList.take p++vs++cur.toList.drop (p+vs.length)).take (xs.length*e.size)=cells.take p++vs++cells.drop (p+vs.length):=by
  rw[<-e7];apply ZM;intro q;simp only[sm,gm,np,ed,gK,DP];by_cases hq:q<xs.length*e.size
  .rw[if_pos hq];by_cases hq1:q<p
   .simp[hq1,Nat.lt_min,show q<cur.size by omega,hq]
   .by_cases kj:q-p<vs.length
    .rw[if_neg (by omega),qH (by omega),if_pos kj,if_neg (by omega),qH (by omega),if_pos kj]
    .rw[if_neg (by omega),qH (by omega),if_neg kj,if_neg (by omega),qH (by omega),if_neg kj,if_pos (by omega)]
  .rw[if_neg hq];have:¬q<p:=by omega
   rw[if_neg (by omega),qH (by omega),if_neg (by omega),if_neg (by omega)]
 have:=h.updB j (.row T e) (.list (xs.set i d')) b1 (λq hq aF=>b2 q λe=>aF (e▸cH))
  ⟨cells.take p++vs++cells.drop (p+vs.length),xs.set i d',by simp[Env.setO,aP],⟨by simp;omega,.inr ⟨k,c,_,by rw[fF];simp,e2,setRow_heap w k cur _ T _ e3,by simpa using e4,e5,by simp;omega,by simpa using FZ⟩⟩,?_,h4⟩
 .rw[St.setO_self eo] at this;exact this
 .obtain⟨us,u1,u2⟩:=h3;refine⟨λq=>if q=i then v' else us q,λq x hx=>?_,λq m u hq hm=>?_⟩
  .rw[DW] at hx;by_cases Cg:i=q
   .subst Cg;simp only[if_true] at hx ⊢;rw[if_pos hi] at hx;cases hx;exact hr
   .rw[if_neg Cg] at hx;simp only[show ¬q=i from λe=>Cg e.symm,if_false];exact u1 q x hx
  .by_cases Cg:q=i
   .subst Cg;simp only[if_true] at hm;exact hv' m u hm
   .simp only[Cg,if_false] at hm;simp only[List.length_set] at hq;have h9:=u2 q m u hq hm;have aGg:m<e.size:=by rw[<-(u1 q _ (bL hq)).size];exact(gX.1 hm).1
    have ls:q*e.size+m<p\/p+vs.length<=q*e.size+m:=by
     rcases OJ q i with ao|fV
     .left;have:(q+1)*e.size<=i*e.size:=qI _ ao;rw[qG] at this;omega
     .right;have:(i+1)*e.size<=q*e.size:=qI _ (by omega);rw[qG] at this;omega
    rw[sm,np,ed,qH (by omega)];rcases ls with ho|ho
    .rw[if_pos ho,gm,if_pos ho];exact h9
    .rw[if_neg (by omega),mu (by omega),gK];rw[show p+vs.length+(q*e.size+m-p-vs.length)=q*e.size+m by omega];exact h9
def ame (h:Inv C S O V own hv w0 σ0 A a w)(hC:CtxOK C σ0){T:TypeId}{x v:Operand}{r:St×List PI}(hr:vY C S T x v=some r){o:Oper}(hd:o.dst=none)(ho:o.op=.store T x v):ct C w0 σ0 Z S O A a w o r:=by
 unfold vY at hr;split at hr
 case h_2=>cases hr
 rename_i inf hi;obtain⟨er,_⟩:=tG h (gs:=[]) rfl x;split at hr
 case h_3=>cases hr
 .rename_i j ver off es;rw[es] at er;cases hb:Nat.beq ver (S.ver j)<;>simp only[hb,zyy,zyx] at hr
  .cases hr
  obtain⟨k,fF,gu⟩:=er.2 (aE hb);have bm:=h.objs j;split at hr
  case h_2=>cases hr
  rename_i ag shs eo;rw[eo] at bm;obtain⟨k',cs,E,ds,h1,h2,h3,h4,h5,h6,h7⟩:=bm;have cD:=h1;rw[fF] at h1;cases h1;split at hr
  .rename_i t e hu;have hv':=cL h hC rfl hu;cases hc:(Nat.beq inf.size t.size&&(t.rowT||t.one)&&Nat.ble (off+t.size) shs.length)<;>simp only[hc,zyy,zyx] at hr
   .cases hr
   cases hr;simp only[av,gJ] at hc;obtain⟨⟨aJ,ji⟩,hle⟩:=hc;have aJ:=aE aJ;have hle:=kC hle;obtain⟨f1,f2,f3⟩:=hv'.flat ji;have jm:=hv'.size;refine ct.skip hd λO' ar=>?_;rw[tE ar]
   refine⟨_,HX ho hi gu (by rw[jm,aJ]) (λu hu=>by
        obtain⟨m,hm,rfl⟩:=jV hu;exact hv'.cellsOne ji (m:=m) (by simp at hm ⊢)) h3 (by omega),?_⟩
   have cA:=h.storeBox (off:=off) (news:=t.flat.map .dat) (vs:=(a.eval v).cells.toList) (dn:=(e.ev O).cells) eo cD h2 h3 h4 h5 h6 h7 (by simp[f1,jm]) (by simp[f2,jm]) (by simp[jm];omega) (λi s hi=>by
        simp only[cM,aD] at hi;obtain⟨ti,F0,rfl⟩:=hi;refine⟨λ_ _ e=>(by cases e),?_⟩;rw[BV];exact(f3 i ti F0).2)
   have e1:(a.eval v).cells.toList.length=t.size:=by simp[jm]
   rw[e1] at cA;rw[aJ];refine⟨V,own,hv,?_⟩;simpa [PE.ev,h5,D.cells] using cA
  .split at hr
   case h_3=>cases hr
   case h_2=>
        rename_i l gq;obtain⟨Ci,_⟩:=tG h (gs:=[]) rfl v;rw[gq] at Ci;obtain⟨vs,ds',q1,q2,q3,q4,q5⟩:=Ci;cases hc:(Nat.beq inf.size l.length&&Nat.ble (off+l.length) shs.length&&l.all (QF S))<;>simp only[hc,zyy,zyx] at hr
        .cases hr
        cases hr;simp only[av] at hc;obtain⟨⟨aJ,hle⟩,dq⟩:=hc;have aJ:=aE aJ;have hle:=kC hle;have jI:(a.eval v).cells.toList=vs:=by rw[q1];simp[Value.cells]
        have dL:(a.eval v).cells.size=vs.length:=by rw[<-jI];simp
        have du:∀u∈(a.eval v).cells.toList,u.oneCell'=true:=λu hu=>by
         rw[jI] at hu;obtain⟨i,hi,rfl⟩:=jV hu;have yP:i<l.length:=by omega
         have g:=q5 i l[i] (bL yP);have hf:=bT.1 dq l[i] (cG yP);have Ri:vs.getD i undef=vs[i]:=by simp[aL,hi]
         rw[Ri] at g;generalize l[i]=c at g hf;cases c with
         |dat t=>exact(g.2.oneCell g.1).2
         |obj j' nZ=>
          simp only[QF,av] at hf;rw[g.2 (aE hf.1)];exact(ail h hf.2).2
        refine ct.skip hd λO' ar=>?_;rw[tE ar];refine⟨_,HX ho hi gu (by omega) du h3 (by omega),?_⟩
        have cA:=h.storeBox (off:=off) (news:=l.map AgC.sh) (vs:=vs) (dn:=ds') eo cD h2 h3 h4 h5 h6 h7 (by simp[q3]) (by omega) (by omega) (λi s hi=>by
         simp only[cM,aD] at hi;obtain⟨c,hc,rfl⟩:=hi;have g:=q5 i c hc;cases c with
         |dat t=>exact⟨λ_ _ e=>(by cases e),g.2⟩
         |obj j' nZ=>exact⟨λ_ _ e=>(by cases e),g⟩)
        rw[jI,aJ];have e1:vs.length=l.length:=q3;rw[e1] at cA;refine⟨V,own,hv,?_⟩;simpa [PE.ev,h5,q2,D.cells] using cA
   rename_i j' nZ gq;obtain⟨Ci,_⟩:=tG h (gs:=[]) rfl v;rw[gq] at Ci;cases hc:(Nat.beq nZ (S.ver j')&&l8 (S.o j')&&Nat.beq inf.size 1&&Nat.blt off shs.length)<;>simp only[hc,zyy,zyx] at hr
   .cases hr
   cases hr;simp only[av] at hc;obtain⟨⟨⟨arh,ir⟩,aJ⟩,ao⟩:=hc;have aJ:=aE aJ;have ao:off<shs.length:=by simpa [jC] using ao
   have cK:=Ci.2 (aE arh);obtain⟨c1,c2⟩:=ail h ir;have jI:(a.eval v).cells=#[a.eval v]:=by rw[cK];exact c1
   refine ct.skip hd λO' ar=>?_;rw[tE ar];refine⟨_,HX ho hi gu (by rw[jI,aJ];rfl) (λu hu=>by rw[jI] at hu;simp at hu;subst hu;rw[cK];exact c2) h3 (by omega),?_⟩
   have cA:=h.storeBox (off:=off) (news:=[.obj j' nZ]) (vs:=[a.eval v]) (dn:=[.none]) eo cD h2 h3 h4 h5 h6 h7 rfl rfl (by simp;omega) (λi s hi=>by
        match i,hi with
        |0,hi=>simp at hi;subst hi;exact⟨λ_ _ e=>(by cases e),Ci.1,λ_=>by simpa using cK⟩
        |i+1,hi=>simp at hi)
   rw[jI,aJ];have e2:shs.take off++[Sh.obj j' nZ]++shs.drop (off+[a.eval v].length)=shs.set off (.obj j' nZ):=by
        rw[List.set_eq_take_append_cons_drop,if_pos ao];simp
   rw[e2] at cA;refine⟨V,own,hv,?_⟩;simpa [PE.ev,h5,D.cells] using cA
 .rename_i j ver size off es;rw[es] at er;cases hb:Nat.beq ver (S.ver j)<;>simp only[hb,zyy,zyx] at hr
  .cases hr
  obtain⟨k,n,c,ik,i,fF,wk,bE,gu⟩:=er.2 (aE hb);have bm:=h.objs j;split at hr
  .rename_i T' ts t e eo hu;rw[eo] at bm;have hv':=cL h hC rfl hu;cases hc:(Nat.beq inf.size t.size&&(t.rowT||t.one)&&Nat.beq size ts.length&&Nat.ble (off+t.size) ts.length&&Ty.subs t.flat ((ts.drop off).take t.size))<;>simp only[hc,zyy,zyx] at hr
   .cases hr
   cases hr;simp only[av,gJ] at hc;obtain⟨⟨⟨⟨aJ,ji⟩,y5⟩,hle⟩,cq⟩:=hc;have aJ:=aE aJ;have y5:=aE y5;have hle:=kC hle;obtain⟨f1,f2,f3⟩:=hv'.flat ji;have jm:=hv'.size;have f1:t.flat.length=t.size:=f1;have f2:(e.ev O).cells.length=t.size:=f2;have jm:(a.eval v).cells.size=t.size:=jm;obtain⟨cells,xs,k1,k2,k3,k4⟩:=bm;obtain⟨b,c',e1,yV,yW⟩:=zA k2;rw[fF] at e1;cases e1;obtain⟨us,u1,u2⟩:=k3;obtain⟨y,hy⟩:∃y,xs[i]?=some y:=⟨_,bL bE⟩
   obtain⟨os,ds,wK,hd0,l1,l2,aU,du⟩:=(u1 i y hy).agg_inv;have F3:(a.eval v).cells.toList.length=t.size:=by simp[jm]
   have mL:Rep C.cap V (.agg ts) (.agg (os.take off++(a.eval v).cells.toList++os.drop (off+(a.eval v).cells.toList.length)).toArray) (.agg (bH ds off (e.ev O).cells)):=by
        refine .agg _ _ _ (by simp[jm];omega) (by simp[bH,f2];omega) (λm tm hm=>?_) du;rw[KK os _ off undef (by rw[F3];omega),bH,KK ds _ off .none (by rw[f2];omega),F3,f2];split
        .rename_i hc;have aq1:=Ty.subs_get _ _ cq (m-off) tm (by
          rw[gm,if_pos (by omega),gK,show off+(m-off)=m by omega];exact hm)
         obtain⟨tf,htf,cA⟩:=aq1;rw[BV];exact((f3 _ tf htf).2).sub cA
        .exact aU m tm hm
   have bo:=k2.1;have apP:i*(Ty.agg ts).size+(Ty.agg ts).size<=xs.length*(Ty.agg ts).size:=by
        have:(i+1)*(Ty.agg ts).size<=xs.length*(Ty.agg ts).size:=qI _ bE;rw[qG] at this;omega
   have acM:(Ty.agg ts).size=ts.length:=rfl
   obtain⟨cur,q1,q2,q3⟩:=h.storeRow (i:=i) (p:=i*(Ty.agg ts).size+off) (vs:=(a.eval v).cells.toList) eo fF k1 k2 ⟨us,u1,u2⟩ k4 bE (by omega) (by rw[F3];omega) mL (λq u hq=>by
        have dW:(os.take off++(a.eval v).cells.toList++os.drop (off+(a.eval v).cells.toList.length))[q]?=some u:=by simpa [Value.cells] using hq
        have aGl:q<ts.length:=by have:=(fo.1 dW).1;simp[jm] at this;omega
        rw[sm,np,ed,qH (by omega)] at dW;rw[sm,np,ed,qH (by omega)];by_cases sU:q<off
        .rw[if_pos sU,gm,if_pos sU] at dW;rw[if_pos (by omega),gm,if_pos (by omega)];exact u2 i q u bE (by rw[wK];simpa [Value.cells] using dW)
        .rw[if_neg sU,np] at dW;rw[if_neg (by omega),np];rw[show i*(Ty.agg ts).size+q-(i*(Ty.agg ts).size+off)=q-off by omega];by_cases RS:q-off<(a.eval v).cells.toList.length
         .rw[if_pos RS] at dW ⊢;exact dW
         .rw[if_neg RS,gK] at dW;rw[if_neg RS,gK];rw[show off+(a.eval v).cells.toList.length+(q-off-(a.eval v).cells.toList.length)=q by omega] at dW;rw[show i*(Ty.agg ts).size+off+(a.eval v).cells.toList.length+(q-off-(a.eval v).cells.toList.length)=i*(Ty.agg ts).size+q by omega];exact u2 i q u bE (by rw[wK];simpa [Value.cells] using dW))
   refine ct.skip hd λO' ar=>?_;rw[tE ar]
   refine⟨_,HX ho hi (cs:=cur) (by rw[gu,y5]) (by rw[jm,aJ]) (λu hu=>by
        obtain⟨m,hm,rfl⟩:=jV hu;exact hv'.cellsOne ji (m:=m) (by simp at hm ⊢)) q1 (by rw[F3] at q2;rw[aJ,<-acM];exact q2),V,own,hv,?_⟩
   rw[F3] at q3;simp only[PE.ev,k1,D.l_list,wk,D.i_int,xO,uu hy,hd0,vz];rw[aJ,<-acM];exact q3
  .rename_i T' e0 t e aF eo hu;rw[eo] at bm;have hv':=cL h hC rfl hu;cases hc:(Nat.beq inf.size 1&&Nat.beq size 1&&Nat.beq off 0&&e0.one&&Ty.sub t e0)<;>simp only[hc,zyy,zyx] at hr
   .cases hr
   cases hr;simp only[av] at hc;obtain⟨⟨⟨⟨aJ,y5⟩,ki⟩,du⟩,cq⟩:=hc;have aJ:=aE aJ;have y5:=aE y5;have ki:=aE ki;subst ki;subst y5;have hve:=hv'.sub cq;obtain⟨c1,c2⟩:=hve.oneCell du;have Fq:e0.size=1:=by cases e0<;>simp_all [Ty.size,Ty.one]
   obtain⟨cells,xs,k1,k2,k3,k4⟩:=bm;obtain⟨b,c',e1,yV,yW⟩:=zA k2;rw[fF] at e1;cases e1;obtain⟨y,hy⟩:∃y,xs[i]?=some y:=⟨_,bL bE⟩
   have bo:=k2.1
   obtain⟨cur,q1,q2,q3⟩:=h.storeRow (i:=i) (p:=i*e0.size) (vs:=[a.eval v]) eo fF k1 k2 k3 k4 bE (bB _) (by rw[Fq];simp) hve (λq u hq=>by
        rw[c1] at hq;have wE:q=0:=by have:=(gX.1 hq).1;simpa using this
        subst wE;simp at hq;subst hq;have:i*e0.size<=cells.length:=by rw[bo];exact qI _ (by omega)
        rw[sm,mu (by simp;omega)];simp[qH this])
   refine ct.skip hd λO' ar=>?_;rw[tE ar];refine⟨_,HX ho hi (cs:=cur) (by rw[gu]) (by rw[c1,aJ];rfl) (λu hu=>by rw[c1] at hu;simp at hu;subst hu;exact c2) q1 (by rw[Fq] at q2;rw[aJ];simpa using q2),V,own,hv,?_⟩;rw[c1,aJ];have F6:vz y 0 (e.ev O)=e.ev O:=by
        obtain⟨us,u1,u2⟩:=k3;have:=(u1 i y hy).dcells du;cases y with
        |agg ds=>have h8:=u1 i _ hy;generalize us i=vv at h8;cases h8;simp[Ty.one] at du
        |_=>rfl
   simp only[PE.ev,k1,D.l_list,wk,D.i_int,xO,uu hy,F6];rw[Fq] at q3;simpa using q3
  .cases hr
def amF {O:Env}{es:List PE}{i:Nat}{e:PE}(h:es[i]?=some e):(PE.evs O es)[i]?=some (e.ev O):=by
 rw[PE.evs_eq,cM,h];rfl
def aaG (h:Inv C S O V own hv w0 σ0 A a w)(hC:CtxOK C σ0)(hg:holds gs O=true){T:TypeId}{len:Nat}{ps:Array (Nat×Operand)}{r:St×List PI}(hr:yj C S gs dst T len ps.toList=some r){o:Oper}
 (ho:o.op=.buildSlice T len ps):∃(E:TypeId) (e:Ty) (es:List PE) (v:Value) (w':World),C.P.underlying T=some (.slice E)/\qA C.P E=some e/\r=(mkObj S dst (.row E e),[.setO dst (.lst es),.setR dst (.con .none)])/\
   (execOp a.eval o).run C.P w=.ok (.value v) w'/\Below w.heap.size w w'/\(∀k,Nat.beq k w.heap.size=true->w.heap.size<=k/\k<w'.heap.size)/\
   cI C (S.newO dst (.row E e)) (O.setO dst (.list (PE.evs O es))) V (fZ own dst (λk=>Nat.beq k w.heap.size)) (cr hv dst v) w' w0.heap.size dst (.row E e):=by
 unfold yj at hr;split at hr
 case h_2=>cases hr
 rename_i E hT;simp only[aA] at hr;obtain⟨e,he,z,hz,hr⟩:=hr;cases hc:(sI C.P E e&&Ty.sub z.1 e&&iu (ps.toList.map (·.1))&&ps.toList.all (λp=>Nat.blt p.1 len)&&Nat.ble (len*e.size) 16777216)<;>simp only[hc,zyy,zyx] at hr
 .cases hr
 simp only[av] at hc;obtain⟨⟨⟨⟨hef,cq⟩,bz⟩,dB⟩,hle⟩:=hc;have hle:=kC hle;obtain⟨inf,zv,hi,hs,kg,h1,hzv,nH⟩:=Qp hef;have uS:=Zv nH;have kL:=nL bz;have F7:=((Ai (cap:=C.cap) (V:=V) hz nH).1).sub cq;simp only[aD] at hr;obtain⟨es,kh,rfl⟩:=hr;obtain⟨el1,el2⟩:=mapM_some _ _ _ kh;simp only[DX] at el1;have abQ:∀i,i<len->∃pe,es[i]?=some pe/\KA C S gs e z.2 ps.toList i=some pe:=by
  intro i hi;obtain⟨y,hy1,uR⟩:=el2 i i (by rw[sn hi]);exact⟨y,hy1,uR⟩
 have pY:∀x,x∈ps.toList->x.1<len/\∃t pe,use C S gs x.2=some (t,pe)/\Ty.sub t e=true/\es[x.1]?=some pe:=by
  intro x hx;have ze:x.1<len:=by
   have:=bT.1 dB x hx;simpa [jC] using this
  refine⟨ze,?_⟩;obtain⟨pe,wB,fb⟩:=abQ x.1 ze;have Ft:=aa4 kL (i:=x.1) (x:=x.2) hx;simp only[KA,Ft,aA] at fb;obtain⟨y,hy,fb⟩:=fb;cases hs:Ty.sub y.1 e<;>simp only[hs,zyy,zyx] at fb
  .cases fb
  cases fb;exact⟨y.1,y.2,hy,hs,wB⟩
 let c0:Array Value:=madeCells zv.cells (len*e.size)
 have Fk:c0.size=len*e.size:=size_madeCells _ _
 have kO:∀p,p∈(ps.toList.map λ(x:Nat×Operand)=>(x.1,a.eval x.2))->∃o,(λi=>some (i*e.size,e.size)) p.1=some (o,p.2.cells.size)/\o+p.2.cells.size<=c0.size:=by
  intro p hp;obtain⟨x,hx,rfl⟩:=fq.1 hp;obtain⟨ze,t,pe,hu,cA,_⟩:=pY x hx;have wH:=((cL h hC hg hu).sub cA).size;simp only;refine⟨x.1*e.size,by rw[wH],?_⟩;rw[wH,Fk];have:(x.1+1)*e.size<=len*e.size:=qI _ ze;rw[qG] at this;omega
 have B6:∀(i j oi si oj sj:Nat),i≠j->(λi=>some (i*e.size,e.size)) i=some (oi,si)->(λi=>some (i*e.size,e.size)) j=some (oj,sj)->oi+si<=oj\/oj+sj<=oi:=by
  intro i j oi si oj sj aF hi hj;simp only[aZ,py] at hi hj;obtain⟨rfl,rfl⟩:=hi;obtain⟨rfl,rfl⟩:=hj;rcases OJ i j with ao|fV
  .left;have:(i+1)*e.size<=j*e.size:=qI _ ao;rw[qG] at this;omega
  .right;have:(j+1)*e.size<=i*e.size:=qI _ (by omega);rw[qG] at this;omega
 obtain⟨dy,f1,f2,f3,f4⟩:=Qz (λi=>some (i*e.size,e.size)) (ps.toList.map λ(x:Nat×Operand)=>(x.1,a.eval x.2)) c0 kO B6 (by simpa [Il] using kL);have ar:(execOp a.eval o).run C.P w=.ok (.value (.slice (some ⟨w.heap.size,0,none⟩) len len)) (w.alloc (.cells dy E)):=by
  have n1:¬(len*inf.size>2^24):=by rw[hs];omega
  have KE:Instr.fill (λi=>some (i*inf.size,inf.size)) c0 (ps.toList.map λ(x:Nat×Operand)=>(x.1,a.eval x.2))=some dy:=by rw[hs];exact f1
  by_cases h0:len*inf.size=0
  .have B3:c0=#[]:=by
        apply Oq;rw[Fk,<-hs];exact h0
   rw[B3] at KE
   have amH:Instr.fill (λi=>some (i*inf.size,inf.size)) (Array.map (λ_=>default) (Array.range 0)) (ps.toList.map λ(x:Nat×Operand)=>(x.1,a.eval x.2))=some dy:=by
        have:(Array.map (λ_=>(default:Value)) (Array.range 0))=#[]:=by simp
        rw[this];exact KE
   simp[execOp,ho,Instr.buildSlice,run_underlying hT,Go.sizeOf,run_typeInfo w hi,n1,h0,amH,newRow]
  .have B3:c0=(Array.range (len*inf.size)).map (λx=>zv.cells[x%zv.cells.size]!):=by simp only[c0,madeCells,hs]
   rw[B3] at KE;have h00:¬(len=0\/inf.size=0):=by rw[<-Nat.mul_eq_zero];exact h0
   simp[execOp,ho,Instr.buildSlice,run_underlying hT,Go.sizeOf,run_typeInfo w hi,n1,h0,h00,zeroValue,hzv,KE,newRow]
 refine⟨E,e,es,_,_,hT,he,rfl,ar,(Below.refl _ _).alloc (bB _) _,λk hk=>by simp at hk;simp;omega,?_⟩;have jK:(PE.evs O es).length=len:=by rw[PE.evs_eq,fp,el1]
 have apF:∀(i:Nat) (x:D),(PE.evs O es)[i]?=some x->∃v,Rep C.cap V e v x/\∀q u,v.cells[q]?=some u->dy.toList[i*e.size+q]?=some u:=by
  intro i x hx;have yP:i<len:=by have:=(fo.1 hx).1;omega
  obtain⟨pe,wB,fb⟩:=abQ i yP;rw[amF wB] at hx;cases hx;unfold KA at fb;split at fb
  .rename_i p hp;have hpm:=vN hp;have LL:p.1=i:=by have:=OA hp;simpa using this
   obtain⟨_,t,pe',hu,cA,wC⟩:=pY p hpm;rw[LL,wB] at wC;cases wC;have cw:=(cL h hC hg hu).sub cA;refine⟨_,cw,λq u hq=>?_⟩;have LN:q<(a.eval p.2).cells.size:=(gX.1 hq).1;have:=f3 p.1 (a.eval p.2) (p.1*e.size) (fq.2 ⟨p,hpm,rfl⟩) (by simp[cw.size]) q LN;rw[LL] at this;simp[this,hq]
  .rename_i hp;cases fb;refine⟨zv,F7,λq u hq=>?_⟩;have LN:q<zv.cells.size:=(gX.1 hq).1
   have yX:i∉(ps.toList.map λ(x:Nat×Operand)=>(x.1,a.eval x.2)).map (·.1):=by
        intro cO;simp only[OD,fq,Il] at cO;obtain⟨x,Cn,e⟩:=cO;have:=xP.1 hp x Cn;simp[e] at this
   have:=f4 i (i*e.size) e.size yX rfl q (by omega);have h9:c0[i*e.size+q]?=zv.cells[q]?:=by
        simp only[c0];rw[<-uS];exact adU (by omega) yP LN
   simp[this,h9,hq]
 have jm:∃vs:Nat->Value,∀(i:Nat) (x:D),(PE.evs O es)[i]?=some x->Rep C.cap V e (vs i) x/\∀q u,(vs i).cells[q]?=some u->dy.toList[i*e.size+q]?=some u:=by
  have lX:∀i,∃v,∀x,(PE.evs O es)[i]?=some x->Rep C.cap V e v x/\∀q u,v.cells[q]?=some u->dy.toList[i*e.size+q]?=some u:=by
   intro i;cases hx:(PE.evs O es)[i]? with
   |none=>exact⟨undef,λx dC=>by cases dC⟩
   |some x=>
    obtain⟨v,hv⟩:=apF i x hx;exact⟨v,λy hy=>by cases hy;exact hv⟩
  exact⟨λi=>Classical.choose (lX i),λi x hx=>ZF (lX i) x hx⟩
 obtain⟨vs,jm⟩:=jm;have dL:dy.size=len*e.size:=by rw[f2,Fk]
 refine⟨dy.toList,PE.evs O es,by simp[Env.setO,aP],?_,⟨vs,λi x hx=>(jm i x hx).1,λi j u hi hj=>(jm i _ (bL hi)).2 j u hj⟩,λk hk=>by rw[aP] at hk;simp[Value.ownBlock] at hk;simp[fZ,hk]⟩;rw[aP,jK];have Rn:len<=maxLen:=by
  have:len*1<=len*e.size:=Nat.mul_le_mul_left _ h1;unfold maxLen;omega
 exact⟨by simp[dL],.inr ⟨w.heap.size,len,dy,rfl,h.below.size,heap_alloc_new w _,bB _,Rn,dL,by rw[DZ (by simp[dL])]⟩⟩
def alK (h:Inv C S O V own hv w0 σ0 A a w)(hC:CtxOK C σ0)(ht:¬A dst)(ao:dst<a.tmps.size){T:TypeId}{len:Nat}{ps:Array (Nat×Operand)}{r:St×List PI}(hr:yj C S [] dst T len ps.toList=some r){o:Oper}(hd:o.dst=some dst)
 (ho:o.op=.buildSlice T len ps):ct C w0 σ0 Z S O A a w o r:=by
 obtain⟨E,e,es,v,w',_,_,rfl,ar,hb,dA,db⟩:=aaG h hC rfl hr ho;refine ct.value hd λO' p5=>⟨_,_,ar,?_⟩
 rw[Dx p5];exact h.mkObj ht ao (.row E e) _ _ (λk=>Nat.beq k w.heap.size) hb dA db
def Inv.kill (h:Inv C S O V own hv w0 σ0 A a w)(j:Nat):Inv C (S.newO j .dead) O V own hv w0 σ0 A a w:=by
 have dO:∀i,S.ver i<=(S.newO j .dead).ver i:=by
  intro i;show S.ver i<=cr S.ver j (S.ver j+1) i;rw[fQ];by_cases e:i=j
  .subst e;simp
  .simp[e]
 have hc:Compat S hv (S.newO j .dead) hv:=⟨dO,λ_ _=>rfl⟩
 refine h.step (·=j) rfl (.refl V) h.ok (λ_ _ _ hx=>.inl hx) (λ_ _ hx=>.inl hx) (.refl _ _) hc (λi hi=>⟨by simp[St.newO,bF _ _ hi],rfl,rfl,λk hk=>⟨hk,rfl⟩⟩) (λi hi=>?_) h.owns (λ_=>id) (λt=>.inl ⟨rfl,rfl,rfl⟩) (λ_ _=>rfl) (λ_ _ _=>rfl) (λk i hk=>.inl ⟨i,hk⟩) (λi hi=>by subst hi;simp[St.newO,aP]);subst hi;simp only[St.newO,aP];trivial
def al0 (h:Inv C S O V own hv w0 σ0 A a w)(hC:CtxOK C σ0)(ht:¬A dst)(ao:dst<a.tmps.size)(ei:∀g,g∈gs->A g.1)(hg:holds gs O=true){T:TypeId}{len:Nat}{ps:Array (Nat×Operand)}{r:St×List PI}(hr:BL C S gs dst T len ps.toList=some r){o:Oper}(hd:o.dst=some dst)
 (ho:o.op=.buildSlice T len ps):ct C w0 σ0 Z S O A a w o r:=by
 unfold BL at hr;split at hr
 case h_2=>cases hr
 rename_i E q hT hq;simp only[aA] at hr;obtain⟨e,he,hr⟩:=hr;obtain⟨E',e',es,v,w',BZ,rf,rfl,ar,hb,dA,db⟩:=aaG h hC hg hq ho;rw[hT] at BZ;cases BZ;rw[he] at rf;cases rf;cases hr;refine ct.value hd λO' p5=>⟨_,_,ar,?_⟩
 have hρ:O'=O.setR dst (.list (PE.evs O es)):=by simp[PI.runs,PI.run,PE.ev] at p5;exact p5.symm
 subst hρ;have h1:=h.newO dst (.row E e) (.list (PE.evs O es)) v (λk=>Nat.beq k w.heap.size) hb dA db;obtain⟨σ2,jS,_,h2⟩:=h1.fz dst;have Fu:(S.newO dst (.row E e)).fz dst=(S.newO dst (.row E e)).setO dst (.fz (.slice e.rol)):=by
  have:(S.newO dst (.row E e)).o dst=.row E e:=aP _ _ _;unfold St.fz;rw[this]
 rw[Fu] at h2;have bm:=h2.objs dst;have e1:((S.newO dst (.row E e)).setO dst (.fz (.slice e.rol))).o dst=.fz (.slice e.rol):=aP _ _ _;rw[e1] at bm;have cw:Rep C.cap σ2 (.slice e.rol) v (.list (PE.evs O es)):=by
  have:=bm.2
  rwa [aP,show(O.setO dst (.list (PE.evs O es))).o dst=.list (PE.evs O es) from aP _ _ _] at this
 have h3:Inv C (S.newO dst .dead) O σ2 jS (cr hv dst v) w0 σ0 A a w':=by
  refine h2.step (·=dst) rfl (.refl σ2) h2.ok (λ_ _ _ hx=>.inl hx) (λ_ _ hx=>.inl hx) (.refl _ _) ⟨λi=>bB _,λ_ _=>rfl⟩ (λi hi=>⟨?_,?_,rfl,λk hk=>⟨hk,rfl⟩⟩) (λi hi=>?_) h2.owns (λ_=>id) (λt=>.inl ⟨rfl,rfl,rfl⟩) (λ_ _=>rfl) (λ_ _ _=>rfl) (λk i hk=>.inl ⟨i,hk⟩) (λi hi=>by subst hi;simp[St.newO,aP])
  .simp[St.newO,St.setO,bF _ _ hi]
  .simp[Env.setO,bF _ _ hi]
  .subst hi;simp only[St.newO,aP];trivial
 have hh:holds gs (O.setR dst (.list (PE.evs O es)))=true:=by rw[FK (t:=dst) λg hm e=>ht (by rw[<-e];exact ei g hm)];exact hg
 cases gs with
 |nil=>exact⟨_,_,_,h3.setReg ht (s:=.dat (.slice e.rol)) cw ao (λ_ _ e=>by cases e)⟩
 |cons g bZ=>
  refine⟨_,_,_,h3.setReg ht (s:=.opt (g::bZ) (.dat (.slice e.rol))) ⟨λ_=>cw,λe=>absurd (hh.symm.trans e) (by decide)⟩ ao (λgs s e=>?_)⟩;cases e;exact⟨ei,λ_ _ e=>by cases e⟩
end
end Cx
