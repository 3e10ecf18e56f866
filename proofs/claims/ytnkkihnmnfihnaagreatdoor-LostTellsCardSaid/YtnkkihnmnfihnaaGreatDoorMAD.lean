import Derived.Test.YtnkkihnmnfihnaaGreatDoorMAC
noncomputable section
set_option linter.all false
namespace Cx
open Go Go.RowKit
open Classical in
def Im.noM (V:Im):Im:=⟨V.c,λk=>if V.m k=some dg then none else V.m k⟩
def Rep.noM {cap:Nat->Option CSig}{V:Im}{t:Ty}{v:Value}{d:D}(h:Rep cap V t v d):Rep cap V.noM t v d:=by
 induction h with
 |int k n h1 h2=>exact .int k n h1 h2
 |bool b=>exact .bool b
 |str s h=>exact .str s h
 |agg ts vs ds h1 h2 _ ho ih=>exact .agg ts vs ds h1 h2 ih ho
 |tup ts vs ds h1 h2 _ ih=>exact .tup ts vs ds h1 h2 ih
 |nil e=>exact .nil e
 |emp e a=>exact .emp e a
 |nils e=>exact .nils e
 |nsl0 e=>exact .nsl0 e
 |nsl e k o n c xs _ hx ih=>exact .nsl e k o n c xs ih hx
 |slice e k o n c xs vs hn hc hm _ hv ih=>exact .slice e k o n c xs vs hn hc hm ih hv
 |mapnil kt et=>exact .mapnil kt et
 |map kt et r ky es hm hl hx hk _ lD F8=>
  refine .map kt et r ky es ?_ hl hx lD F8;have aF:V.m r≠some dg:=λe=>by rw[hm] at e;cases e;exact Gp hl hk rfl
  simp only[Im.noM,if_neg aF,hm]
 |ref t k o v d _ hv ih=>exact .ref t k o v d ih hv
 |fn f cs vs ds hc h1 h2 _ ih=>exact .fn f cs vs ds hc h1 h2 ih
 |fnnil aa r=>exact .fnnil aa r
def Im.plus (V τ:Im):Im:=⟨λk o=>(V.c k o).or (τ.c k o),λk=>(V.m k).or (τ.m k)⟩
def Im.plus_le1 (V τ:Im):V.le (V.plus τ):=⟨λk o v h=>by simp[Im.plus,h],λk v h=>by simp[Im.plus,h]⟩
def sX.det {w:World}{k:Nat}{x y:List (Value×Value)}(h:sX w k x)(g:sX w k y):x=y:=by
 rcases h with⟨_,a,c,h1,h2⟩|⟨h1,h2⟩<;>rcases g with⟨_,a',c',g1,g2⟩|⟨g1,g2⟩
 .rw[h1] at g1;cases g1;rw[<-h2,<-g2]
 .rw[h1] at g2;cases g2
 .rw[h2] at g1;cases g1
 .rw[h1,g1]
def Im.plus_le2 {V τ:Im}{w:World}(h:V.ok w)(g:τ.ok w):τ.le (V.plus τ):=by
 refine⟨λk o v e=>?_,λk v e=>?_⟩
 .show(V.c k o).or (τ.c k o)=some v;cases hc:V.c k o with
  |none=>simpa using e
  |some u=>have:=(h.c k o u hc).symm.trans (g.c k o v e);simpa using this
 .show(V.m k).or (τ.m k)=some v;cases hc:V.m k with
  |none=>simpa using e
  |some u=>simpa using(h.m k u hc).det (g.m k v e)
def Im.plus_ok {V τ:Im}{w:World}(h:V.ok w)(g:τ.ok w):(V.plus τ).ok w:=by
 refine⟨λk o v e=>?_,λk v e=>?_⟩
 .change (V.c k o).or (τ.c k o)=some v at e;cases hc:V.c k o with
  |none=>rw[hc] at e;exact g.c k o v (by simpa using e)
  |some u=>rw[hc] at e;simp at e;subst e;exact h.c k o u hc
 .change (V.m k).or (τ.m k)=some v at e;cases hc:V.m k with
  |none=>rw[hc] at e;exact g.m k v (by simpa using e)
  |some u=>rw[hc] at e;simp at e;subst e;exact h.m k u hc
def Im.plus_c {V τ:Im}{k o:Nat}{v:Value}(h:(V.plus τ).c k o=some v):V.c k o=some v\/τ.c k o=some v:=by
 change (V.c k o).or (τ.c k o)=some v at h;cases hc:V.c k o with
 |none=>rw[hc] at h;exact .inr (by simpa using h)
 |some u=>rw[hc] at h;exact .inl (by simpa using h)
def Im.plus_m {V τ:Im}{k:Nat}{v:List (Value×Value)}(h:(V.plus τ).m k=some v):V.m k=some v\/τ.m k=some v:=by
 change (V.m k).or (τ.m k)=some v at h;cases hc:V.m k with
 |none=>rw[hc] at h;exact .inr (by simpa using h)
 |some u=>rw[hc] at h;exact .inl (by simpa using h)
def Ty.pureT:Ty->Bool
 |.int _|.bool|.str|.nils _=>true
 |_=>false
def Ty.pure:Ty->Bool
 |.tup ts=>ts.all Ty.pureT
 |.agg ts=>ts.all Ty.pureT
 |t=>Ty.pureT t
def Rep.pureT {cap:Nat->Option CSig}{V τ:Im}{t:Ty}{v:Value}{d:D}(h:Rep cap V t v d)(hp:t.pureT=true):Rep cap τ t v d:=by
 cases h<;>simp[Ty.pureT] at hp<;>constructor<;>assumption
def Rep.pure {cap:Nat->Option CSig}{V τ:Im}{t:Ty}{v:Value}{d:D}(h:Rep cap V t v d)(hp:t.pure=true):Rep cap τ t v d:=by
 cases h with
 |agg ts vs ds h1 h2 h ho=>exact .agg ts vs ds h1 h2 (λi t hi=>(h i t hi).pureT (bT.1 hp t (mw hi))) ho
 |tup ts vs ds h1 h2 h=>exact .tup ts vs ds h1 h2 (λi t hi=>(h i t hi).pureT (bT.1 hp t (mw hi)))
 |int k n h1 h2=>exact .int k n h1 h2
 |bool b=>exact .bool b
 |str s h=>exact .str s h
 |nils e=>exact .nils e
 |_=>simp[Ty.pure,Ty.pureT] at hp
def ZX (C:Ctx)(V':Im)(B:Nat)(w':World)(ow:Nat->Option Nat)(i:Nat):RC->Value->D->Prop
 |.dat t,v,d=>t.one=true/\Rep C.cap V' t v d
 |.row T e,v,d=>∃cells xs,d=.list xs/\w'.ownsRow B T e.size v xs.length cells/\eW C.cap V' e cells xs/\∀k,v.ownBlock=some k->ow k=some i
def nr (C:Ctx)(s:Sig)(V':Im)(w w':World)(v:Value)(d:D):Prop:=
 match s.mode with
 |.dat=>Rep C.cap V' s.res v d
 |.it _=>True
 |.ob ..=>True
 |.rows l=>∃(vs:List Value) (ds:List D) (ow:Nat->Option Nat),v=.agg vs.toArray/\d=.agg ds/\vs.length=l.length/\ds.length=l.length/\(∀(i:Nat) (c:RC),l[i]?=some c->ZX C V' w.heap.size w' ow i c (vs.getD i undef) (ds.getD i .none))/\
   ∀k i,ow k=some i->w.heap.size<=k/\k<w'.heap.size/\(∀o,V'.c k o=none)/\V'.m k=none
 |.row T e=>∃cells xs,d=.list xs/\w'.ownsRow w.heap.size T e.size v xs.length cells/\eW C.cap V' e cells xs/\∀k,v.ownBlock=some k->(∀o,V'.c k o=none)/\V'.m k=none
def qC (C:Ctx)(V:Im)(ts:List Ty)(args:List Value)(ds:List D):Prop:=
 args.length=ts.length/\ds.length=ts.length/\∀(i:Nat) (t:Ty),ts[i]?=some t->Rep C.cap V t (args.getD i undef) (ds.getD i .none)
def jz (C:Ctx)(f:Nat)(s:Sig)(ds:List D)(d:D):Prop:=
 ∀(V:Im) (w:World) (args:Array Value),V.ok w->CtxOK C V->qC C V s.args args.toList ds->
  Calls C.P f args w λe w'=>∃v V',e=.returned v/\V.le V'/\V'.ok w'/\Below w.heap.size w w'/\
   (∀k o x,V'.c k o=some x->V.c k o=some x\/w.heap.size<=k)/\(∀k x,V'.m k=some x->V.m k=some x\/w.heap.size<=k)/\nr C s V' w w' v d
def eU:List (Nat×Ob)->Nat->Ob
 |[],_=>.dead
 |x::l,j=>bif Nat.beq x.1 j then x.2 else eU l j
def oR:List (Nat×Ob)->List D->Nat->D
 |x::l,d::ds,j=>bif Nat.beq x.1 j then d else oR l ds j
 |_,_,_=>.none
def gE (shs:List Sh)(obs:List (Nat×Ob)):St:=⟨λt=>shs.getD t .none,λj=>eU obs j,λ_=>0⟩
def nM (obs:List (Nat×Ob))(ds os:List D):Env:=⟨λt=>ds.getD t .none,λj=>oR obs os j⟩
def oO:Sh->Bool
 |.dat _=>true
 |_=>false
def rv:Mode->Bool
 |.ob ..=>true
 |_=>false
def u7:Sh->Bool
 |.none|.dat _|.obj ..|.ptr ..|.fclo ..=>true
 |_=>false
def ME:Ob->Bool
 |.row ..|.mp ..=>true
 |.box _ shs=>shs.all u7
 |_=>false
def zr (shs:List Sh)(obs:List (Nat×Ob)):Bool:=shs.all u7&&obs.all λx=>ME x.2
def Me:List Sh->List (Nat×Ob)->Option (TypeId×Ty×List Ty)
 |.obj 0 0::l,[(0,.row T e),(1,.tr)]=>(aaF l).map λts=>(T,e,ts)
 |_,_=>none
def DS (C:Ctx)(f:Nat)(T:TypeId)(e:Ty)(ts:List Ty)(ds:List D)(d:D):Prop:=
 ∀(N:Nat) (V:Im) (w:World) (v:Value) (args:List Value) (xs:List D) (cells:List Value) (ds':List D),ds=.list xs::ds'->V.ok w->CtxOK C V->N<=w.heap.size->w.ownsRow N T e.size v xs.length cells->eW C.cap V e cells xs->
  (∀k,v.ownBlock=some k->k<w.heap.size/\(∀o,V.c k o=none)/\V.m k=none)->qC C V ts args ds'->
  Calls C.P f (v::args).toArray w λx w'=>∃v' kZ dy,x=.returned v'/\d=.list kZ/\Below N w w'/\(∀k,k<w.heap.size->v.ownBlock≠some k->w'.heap[k]?=w.heap[k]?)/\
   w'.ownsRow N T e.size v' kZ.length dy/\eW C.cap V e dy kZ/\∀k,v'.ownBlock=some k->(v.ownBlock=some k\/w.heap.size<=k)/\k<w'.heap.size
def vH (C:Ctx)(f:Nat)(shs:List Sh)(obs:List (Nat×Ob))(res:Ty)(ds:List D)(d:D):Prop:=
 ∀(N:Nat) (V:Im) (own:Nat->Option Nat) (hv:Nat->Value) (w:World) (args:Array Value) (cx:Nat->Prop),zr shs obs=true->V.ok w->CtxOK C V->(∀k,V.m k≠some dg)->N<=w.heap.size->args.size=shs.length->
  (∀k j,own k=some j->N<=k/\k<w.heap.size/\(∀o,V.c k o=none)/\V.m k=none)->
  (∀k,cx k->k<w.heap.size/\own k=none/\(∀o,V.c k o=none)/\V.m k=none)->
  (∀t,aI C (gE shs obs) (nM obs ds (ds.drop shs.length)) V hv (shs.getD t .none) (args.getD t undef) (ds.getD t .none))->
  (∀j,cI C (gE shs obs) (nM obs ds (ds.drop shs.length)) V own hv w N j (eU obs j))->
  Calls C.P f args w λe w'=>∃v V' own' hv' dr os,e=.returned v/\d=.tup (dr::os)/\os.length=obs.length/\V.le V'/\V'.ok w'/\Below 0 w w'/\
   (∀k,k<w.heap.size->own k=none->w'.heap[k]?=w.heap[k]?)/\
   (∀k o x,V'.c k o=some x->(V.c k o=some x\/N<=k)/\¬cx k)/\(∀k x,V'.m k=some x->(V.m k=some x\/N<=k)/\¬cx k)/\(∀k,V'.m k=some dg->N<=k->k<w.heap.size->own k≠none)/\
   (∀k j,own' k=some j->N<=k/\k<w'.heap.size/\(∀o,V'.c k o=none)/\V'.m k=none/\(k<w.heap.size->own k≠none))/\
   (∀(t:Nat) (sh:Sh),shs[t]?=some sh->oO sh=false->aI C (gE shs obs) (nM obs ds os) V' hv' sh (args.getD t undef) (ds.getD t .none))/\
   (∀j,cI C (gE shs obs) (nM obs ds os) V' own' hv' w' N j (eU obs j))/\Rep C.cap V' res v dr
def aI.ctx {C C':Ctx}(gM:C'.cap=C.cap){S:St}{O:Env}{V:Im}{hv:Nat->Value}{s:Sh}(hp:u7 s=true){v:Value}{d:D}(h:aI C S O V hv s v d):aI C' S O V hv s v d:=by
 cases s with
 |dat t=>show Rep C'.cap V t v d;rw[gM];exact h
 |opt gs s=>cases hp
 |eptr j ver a b=>cases hp
 |yv=>cases hp
 |agg l=>cases hp
 |_=>exact h
def cI.ctx {C C':Ctx}(gM:C'.cap=C.cap){S:St}{O:Env}{V:Im}{own:Nat->Option Nat}{hv:Nat->Value}{w:World}{N j:Nat}{ob:Ob}(hp:ME ob=true\/ob=.dead)(h:cI C S O V own hv w N j ob):cI C' S O V own hv w N j ob:=by
 rcases hp with hp|rfl
 .cases ob with
  |row T e=>obtain⟨cells,xs,h1,h2,h3,h4⟩:=h;exact⟨cells,xs,h1,h2,by rw[gM];exact h3,h4⟩
  |mp kt et=>obtain⟨k,arr,clock,es,h1,h2,h3,h4,h5,h6,h7⟩:=h;exact⟨k,arr,clock,es,h1,h2,h3,h4,h5,h6,by rw[gM];exact h7⟩
  |box ag shs=>
   obtain⟨k,cs,T,ds,h1,h2,h3,h4,h5,h6,h7⟩:=h;exact⟨k,cs,T,ds,h1,h2,h3,h4,h5,h6,λi s hs=>⟨(h7 i s hs).1,(h7 i s hs).2.ctx gM (bT.1 hp s (mw hs))⟩⟩
  |_=>cases hp
 .trivial
def adG {obs:List (Nat×Ob)}(h:(obs.all λx=>ME x.2)=true)(j:Nat):ME (eU obs j)=true\/eU obs j=.dead:=by
 induction obs with
 |nil=>exact .inr rfl
 |cons x l ih=>
  simp only[sl,av] at h;simp only[eU];cases hb:Nat.beq x.1 j
  .exact ih h.2
  .exact .inl h.1
def vH.ctx {C C':Ctx}{f:Nat}{shs:List Sh}{obs:List (Nat×Ob)}{res:Ty}{ds:List D}{d:D}(h:vH C f shs obs res ds d)(hP:C'.P=C.P)(gM:C'.cap=C.cap)(wu:C'.glob=C.glob):vH C' f shs obs res ds d:=by
 intro N V own hv w args cx hp aC hC bz hN aJ cH lY h1 h2;have ba:=hp;simp only[zr,av] at ba;have uK:∀t s,shs[t]?=some s->u7 s=true:=λt s hs=>bT.1 ba.1 s (mw hs);have hC':CtxOK C V:=⟨λg x hx=>by have:=hC.glob g x (by rw[wu];exact hx);rwa [gM] at this⟩
 have:=h N V own hv w args cx hp aC hC' bz hN aJ cH lY (λt=>by
  cases hs:shs[t]? with
  |none=>rw[aL,hs];trivial
  |some s=>have:=h1 t;rw[aL,hs] at this ⊢;exact this.ctx gM.symm (uK t s hs)) (λj=>(h2 j).ctx gM.symm (adG ba.2 j))
 rw[hP];refine this.mono λe w' hh=>?_;obtain⟨v,V',own',hv',dr,os,g1,g2,g3,g4,g5,g6,g7,g8,g9,g10,g11,g12,g13,g14⟩:=hh;exact⟨v,V',own',hv',dr,os,g1,g2,g3,g4,g5,g6,g7,g8,g9,g10,g11,λt sh hs hd=>(g12 t sh hs hd).ctx gM (uK t sh hs),λj=>(g13 j).ctx gM (adG ba.2 j),by rw[gM];exact g14⟩
def eW.cap {c c':Nat->Option CSig}(hc:c'=c){V:Im}{e:Ty}{cells:List Value}{xs:List D}(h:eW c V e cells xs):eW c' V e cells xs:=hc▸h
def DS.ctx {C C':Ctx}{f:Nat}{T:TypeId}{e:Ty}{ts:List Ty}{ds:List D}{d:D}(h:DS C f T e ts ds d)(hP:C'.P=C.P)(gM:C'.cap=C.cap)(wu:C'.glob=C.glob):DS C' f T e ts ds d:=by
 intro N V w v args xs cells ds' h1 h2 h3 h4 h5 h6 h7 h8;rw[hP];refine(h N V w v args xs cells ds' h1 h2 ⟨λg x hx=>by have:=h3.glob g x (by rw[wu];exact hx);rwa [gM] at this⟩ h4 h5 (h6.cap gM.symm) h7 ⟨h8.1,h8.2.1,λi t hi=>by have:=h8.2.2 i t hi;rwa [gM] at this⟩).mono λx w' hh=>?_;obtain⟨v',kZ,dy,g1,g2,g3,g4,g5,g6,g7⟩:=hh;exact⟨v',kZ,dy,g1,g2,g3,g4,g5,g6.cap gM,g7⟩
def iJ (C:Ctx)(f:Nat)(shs:List Sh)(obs:List (Nat×Ob))(res:Ty)(ds:List D)(d:D):Prop:=
 match Me shs obs with
 |some m=>DS C f m.1 m.2.1 m.2.2 ds d
 |none=>vH C f shs obs res ds d
def iJ.ctx {C C':Ctx}{f:Nat}{shs:List Sh}{obs:List (Nat×Ob)}{res:Ty}{ds:List D}{d:D}(h:iJ C f shs obs res ds d)(hP:C'.P=C.P)(gM:C'.cap=C.cap)(wu:C'.glob=C.glob):iJ C' f shs obs res ds d:=by
 unfold iJ at h ⊢;split at h
 .exact DS.ctx h hP gM wu
 .exact vH.ctx h hP gM wu
def aeg {shs:List Sh}{obs:List (Nat×Ob)}(h:∀x,x∈obs->x.2≠.tr):Me shs obs=none:=by
 unfold Me;split
 .exact absurd rfl (h (1,.tr) (by simp))
 .rfl
def iJ.of {C:Ctx}{f:Nat}{shs:List Sh}{obs:List (Nat×Ob)}{res:Ty}{ds:List D}{d:D}(ht:∀x,x∈obs->x.2≠.tr)(h:vH C f shs obs res ds d):iJ C f shs obs res ds d:=by
 unfold iJ;rw[aeg ht];exact h
def iJ.plain {C:Ctx}{f:Nat}{shs:List Sh}{obs:List (Nat×Ob)}{res:Ty}{ds:List D}{d:D}(hp:zr shs obs=true)(h:iJ C f shs obs res ds d):vH C f shs obs res ds d:=by
 unfold iJ at h;rw[aeg λx hx e=>?_] at h
 .exact h
 .simp only[zr,av] at hp;have:=bT.1 hp.2 x hx;rw[e] at this;cases this
def dw (C:Ctx)(Z:aW):Prop:=∀f ds d,Z f ds=some d->∀s,C.sig f=some s->(rv s.mode=false->jz C f s ds d)/\∀shs obs,s.mode=.ob shs obs->iJ C f shs obs s.res ds d
def nI:List Ty->Ty->Option (List Ty)
 |[.fn ys .bool],.tup []=>some ys
 |_,_=>none
def dJ (C:Ctx):Prop:=(∀f cs,C.cap f=some cs->nI cs.args cs.res=none->C.sig f=some ⟨cs.args++cs.caps,cs.res,.dat⟩)/\∀f s,C.sig f=some s->∃fn,C.P.funcs[f]?=some fn/\fn.body.isSome=true/\(fn.name== "runtime.NumGoroutine")=false
def xW (S:St):List AgC->List Nat
 |[]=>[]
 |.obj j ver::l=>bif Nat.beq ver (S.ver j)&&l8 (S.o j) then j::xW S l else xW S l
 |_::l=>xW S l
def cd (S:St)(gs:List (Nat×Bool)):List Operand->List Nat
 |[]=>[]
 |x::xs=>
  match fJ S gs x with
  |.obj j ver=>bif Nat.beq ver (S.ver j)&&l8 (S.o j) then j::cd S gs xs else cd S gs xs
  |.agg l=>xW S l++cd S gs xs
  |_=>cd S gs xs
def ke (gs:List (Nat×Bool))(s:Sh):Sh:=
 match gs with
 |[]=>s
 |_=>.opt gs s
def St.fzs (S:St)(js:List Nat):St:=js.foldl St.fz S
def m9:List RC->List Ty
 |[]=>[]
 |.dat t::l=>t::m9 l
 |.row _ e::l=>.slice e.rol::m9 l
def Ez (fr:List Nat)(dst:Nat)(s:Sig):Option Sig:=
 match s.mode with
 |.rows l=>bif !(fr.any (Nat.beq (2000000+dst)))&&Ty.beq s.res (.agg (m9 l)) then some {s with mode:=.dat} else some s
 |_=>some s
def M7:∀{l:List RC} {i:Nat} {t:Ty},(m9 l)[i]?=some t->(l[i]?=some (.dat t))\/∃T e,l[i]?=some (.row T e)/\t=.slice e.rol
 |[],i,t,h=>by simp[m9] at h
 |.dat u::l,0,t,h=>by simp[m9] at h;subst h;exact .inl rfl
 |.row T e::l,0,t,h=>by simp[m9] at h;exact .inr ⟨T,e,rfl,h.symm⟩
 |.dat u::l,i+1,t,h=>by simpa using M7 (l:=l) (i:=i) (by simpa [m9] using h)
 |.row T e::l,i+1,t,h=>by simpa using M7 (l:=l) (i:=i) (by simpa [m9] using h)
def US:∀(l:List RC),(m9 l).length=l.length
 |[]=>rfl
 |.dat _::l=>by simp[m9,US l]
 |.row ..::l=>by simp[m9,US l]
def jz.asDat {C:Ctx}{f:Nat}{s:Sig}{ds:List D}{d:D}{l:List RC}(hm:s.mode=.rows l)(hr:s.res=.agg (m9 l))(h:jz C f s ds d):jz C f {s with mode:=.dat} ds d:=by
 intro V w args h1 h2 h3;refine(h V w args h1 h2 h3).mono λe w' hh=>?_;obtain⟨v,V',rfl,hle,aC,hb,dh,cS,gy⟩:=hh;simp only[nr,hm] at gy;obtain⟨vs,ds,ow,rfl,rfl,l1,l2,ej,uJ⟩:=gy
 have hex:∀i,∃cs:List Value,∀T e,l[i]?=some (.row T e)->∃xs,ds.getD i .none=.list xs/\w'.ownsRow w.heap.size T e.size (vs.getD i undef) xs.length cs/\eW C.cap V' e cs xs/\∀k,(vs.getD i undef).ownBlock=some k->ow k=some i:=λi=>by
  cases hl:l[i]? with
  |none=>exact⟨[],λ_ _ h=>by cases h⟩
  |some c=>
   cases c with
   |dat t=>exact⟨[],λ_ _ h=>by cases h⟩
   |row T e=>
    obtain⟨cs,xs,g1,g2,g3,g4⟩:=ej i _ hl;exact⟨cs,λT' e' h=>by cases h;exact⟨xs,g1,g2,g3,g4⟩⟩
 let cs:Nat->List Value:=λi=>Classical.choose (hex i)
 have dL:∀i T e,l[i]?=some (.row T e)->∃xs,ds.getD i .none=.list xs/\w'.ownsRow w.heap.size T e.size (vs.getD i undef) xs.length (cs i)/\eW C.cap V' e (cs i) xs/\∀k,(vs.getD i undef).ownBlock=some k->ow k=some i:=λi=>ZF (hex i)
 let Cp:Nat->Nat->Bool:=λi k=>decide ((vs.getD i undef).ownBlock=some k)&&(match l[i]? with|some (.row ..)=>true|_=>false)
 let τ:Im:={c:=λk o=>match ow k with|some i=>(bif Cp i k then(cs i)[o]? else none)|none=>V'.c k o,m:=V'.m}
 have kK:V'.le τ:=by
  refine⟨λk o x hx=>?_,λk x hx=>hx⟩;cases hk:ow k with
  |none=>simp only[τ,hk];exact hx
  |some i=>have:=(uJ k i hk).2.2.1 o;rw[this] at hx;cases hx
 have y2:∀i k,Cp i k=true->∃T e,l[i]?=some (.row T e)/\(vs.getD i undef).ownBlock=some k:=λi k hk=>by
  simp only[Cp,av,decide_eq_true_eq] at hk;obtain⟨bq,cn⟩:=hk;split at cn
  .rename_i T e hl;exact⟨T,e,hl,bq⟩
  .cases cn
 refine⟨_,τ,rfl,hle.trans kK,⟨λk o x hx=>?_,aC.m⟩,hb,λk o x hx=>?_,cS,?_⟩
 .simp only[τ] at hx;split at hx
  .rename_i i hi;cases hr:Cp i k with
   |false=>rw[hr] at hx;cases hx
   |true=>
    rw[hr,zyy] at hx;obtain⟨T,e,hl,pQ⟩:=y2 i k hr;obtain⟨xs,g1,g2,g3,g4⟩:=dL i T e hl;have:=g2.cells pQ o x hx;rw[tS] at this;simpa using this
  .exact aC.c k o x hx
 .simp only[τ] at hx;split at hx
  .rename_i i hi;exact .inr (uJ k i hi).1
  .exact dh k o x hx
 .simp only[nr,hr];have hlen:=US l;refine .agg (m9 l) vs ds (by omega) (by omega) (λi t hi=>?_) (λi t hi=>?_)
  .rcases M7 hi with hl|⟨T,e,hl,rfl⟩
   .exact(ej i _ hl).2.mono kK
   .obtain⟨xs,g1,g2,⟨us,g3,g4⟩,g5⟩:=dL i T e hl;rw[g1];rcases g2.2 with⟨e1,e2⟩|⟨g,cap,cur,e1,e2,e3,e4,e5,e6,e7⟩
    .rw[e1];have:xs=[]:=Ox e2;subst this;exact .nil _
    .rw[e1];have pQ:(vs.getD i undef).ownBlock=some g:=by rw[e1];rfl
     refine .slice e.rol g 0 xs.length cap xs us rfl e4 e5 (λi x hx=>((g3 i x hx).mono kK).unf_rol) (λj m u hj hu=>?_);rw[Ty.rol_size];have hR:Cp i g=true:=by simp only[Cp,pQ,hl];simp
     simp only[τ,g5 g pQ,hR,zyy,iL];exact g4 j m u hj hu
  .rcases M7 hi with hl|⟨T,e,hl,rfl⟩
   .exact(ej i _ hl).1
   .rfl
def alw {C:Ctx}{fr:List Nat}{dst f:Nat}{s s':Sig}{ds:List D}{d:D}(hs:Ez fr dst s=some s')(hm:s'.mode=.dat)(h:rv s.mode=false->jz C f s ds d):jz C f s' ds d:=by
 unfold Ez at hs;split at hs
 .rename_i l hl;cases hb:(!(fr.any (Nat.beq (2000000+dst)))&&Ty.beq s.res (.agg (m9 l)))<;>simp only[hb,zyy,zyx] at hs
  .cases hs;rw[hl] at hm;cases hm
  .cases hs;simp only[av] at hb;exact jz.asDat hl (Ty.beq_eq _ _ hb.2) (h (by rw[hl];rfl))
 .cases hs;exact h (by rw[hm];rfl)
def qT (C:Ctx)(S:St)(gs:List (Nat×Bool))(dst:Nat)(f:Nat)(args:List Operand):Option (St×Sh×List PI):=
 ((C.sig f).bind (Ez C.fr dst)).bind λs=>
   match s.mode with
   |.dat=>
    (lL C (S.fzs (cd S gs args)) gs args).bind λu=>
      bif Ty.subs u.1 s.args then some (bif s.res.pure then S else S.fzs (cd S gs args),.dat s.res,[.call gs dst f u.2]) else Option.none
   |_=>Option.none
def EG (C:Ctx)(S:St)(dst:Nat)(f:Nat)(args:List Operand):lO:=
 (C.sig f).bind λs=>
    match s.mode with
    |.row T e=>
     (lL C (S.fzs (cd S [] args)) [] args).bind λu=>
       bif Ty.subs u.1 s.args then some (mkObj (bif e.pure then S else S.fzs (cd S [] args)) dst (.row T e),[.call [] dst f u.2,.setO dst (.r dst),.setR dst (.con .none)]) else Option.none
    |_=>Option.none
def jU (dst:Nat)(l:List RC)(j:Nat):Option (Nat×TypeId×Ty):=
 bif Nat.beq (j%4096) dst&&Nat.ble 4096 j then(match l[j/4096-1]? with|some (.row T e)=>some (j/4096-1,T,e)|_=>Option.none) else Option.none
def ahx {dst i:Nat}{l:List RC}{T:TypeId}{e:Ty}(hd:dst<4096)(h:l[i]?=some (.row T e)):jU dst l (il dst i)=some (i,T,e):=by
 unfold jU il;have e1:(4096*(i+1)+dst)%4096=dst:=by omega
 have e2:(4096*(i+1)+dst)/4096-1=i:=by omega
 have e3:Nat.ble 4096 (4096*(i+1)+dst)=true:=Nat.ble_eq_true_of_le (by omega);rw[e1,e2,e3,h,iK];rfl
def awJ {dst i j:Nat}{l:List RC}{T:TypeId}{e:Ty}(h:jU dst l j=some (i,T,e)):j=il dst i/\l[i]?=some (.row T e):=by
 unfold jU at h;cases hb:(Nat.beq (j%4096) dst&&Nat.ble 4096 j)<;>simp only[hb,zyy,zyx] at h
 .cases h
 simp only[av] at hb;have h1:=aE hb.1;have h2:=kC hb.2;split at h
 .rename_i hl;cases h;exact⟨by unfold il;omega,hl⟩
 .cases h
def St.newRows (S:St)(dst:Nat)(l:List RC):St:=⟨S.r,λj=>match jU dst l j with|some x=>.row x.2.1 x.2.2|Option.none=>S.o j,λj=>match jU dst l j with|some _=>S.ver j+1|Option.none=>S.ver j⟩
def ph (S:St)(dst:Nat):List RC->Nat->List AgC
 |[],_=>[]
 |.dat t::l,i=>.dat t::ph S dst l (i+1)
 |.row ..::l,i=>.obj (il dst i) (S.ver (il dst i)+1)::ph S dst l (i+1)
def Dg (dst:Nat):List RC->Nat->List PI
 |[],_=>[]
 |.dat _::l,i=>Dg dst l (i+1)
 |.row ..::l,i=>.setO (il dst i) (.cell (.r dst) i)::Dg dst l (i+1)
def EH (C:Ctx)(S:St)(dst:Nat)(f:Nat)(args:List Operand):lO:=
 (C.sig f).bind λs=>
    match s.mode with
    |.rows l=>
     (lL C (S.fzs (cd S [] args)) [] args).bind λu=>
       bif Ty.subs u.1 s.args&&Nat.blt dst 4096 then
         some (((S.fzs (cd S [] args)).newRows dst l).setR dst (.agg (ph (S.fzs (cd S [] args)) dst l 0)),.call [] dst f u.2::Dg dst l 0) else Option.none
    |_=>Option.none
def ahy (S:St)(dst:Nat):∀(l:List RC) (i:Nat),(ph S dst l i).length=l.length/\∀(n:Nat) (c:AgC),(ph S dst l i)[n]?=some c->(∃t,l[n]?=some (.dat t)/\c=.dat t)\/∃T e,l[n]?=some (.row T e)/\c=.obj (il dst (i+n)) (S.ver (il dst (i+n))+1)
 |[],i=>⟨rfl,λn c h=>by simp[ph] at h⟩
 |x::l,i=>by
  obtain⟨h1,h2⟩:=ahy S dst l (i+1);have e:∀n,i+1+n=i+(n+1):=λn=>by omega
  cases x with
  |dat t=>
   refine⟨by simp[ph,h1],λn c h=>?_⟩;cases n with
   |zero=>simp[ph] at h;exact .inl ⟨t,rfl,h.symm⟩
   |succ n=>simp only[ph,Ir] at h ⊢;have:=h2 n c h;rwa [e] at this
  |row T y=>
   refine⟨by simp[ph,h1],λn c h=>?_⟩;cases n with
   |zero=>simp[ph] at h;exact .inr ⟨T,y,rfl,by rw[jB];exact h.symm⟩
   |succ n=>simp only[ph,Ir] at h ⊢;have:=h2 n c h;rwa [e] at this
def UR (Z:aW)(dst:Nat):∀(l:List RC) (i:Nat) (O O':Env),PI.runs Z (Dg dst l i) O=some O'->O'.r=O.r/\(∀j,(∀(n:Nat) (T:TypeId) (e:Ty),l[n]?=some (.row T e)->j≠il dst (i+n))->O'.o j=O.o j)/\
 ∀(n:Nat) (T:TypeId) (e:Ty),l[n]?=some (.row T e)->O'.o (il dst (i+n))=(O.r dst).c (i+n)
 |[],i,O,O',h=>by
  simp only[Dg,PI.runs,aZ] at h;subst h;exact⟨rfl,λ_ _=>rfl,λn T e h=>by simp at h⟩
 |x::l,i,O,O',h=>by
  have e:∀n,i+1+n=i+(n+1):=λn=>by omega
  cases x with
  |dat t=>
   obtain⟨h1,h2,h3⟩:=UR Z dst l (i+1) O O' h;refine⟨h1,λj hj=>h2 j λn T y hn=>by rw[e];exact hj (n+1) T y (by simpa using hn),λn T y hn=>?_⟩;cases n with
   |zero=>simp at hn
   |succ n=>have:=h3 n T y (by simpa using hn);rwa [e] at this
  |row T0 y0=>
   simp only[Dg,PI.runs,PI.run,lb] at h;obtain⟨h1,h2,h3⟩:=UR Z dst l (i+1) _ O' h;refine⟨h1,λj hj=>?_,λn T y hn=>?_⟩
   .rw[h2 j λn T y hn=>by rw[e];exact hj (n+1) T y (by simpa using hn)];exact bF _ _ (by have:=hj 0 T0 y0 rfl;rwa [jB] at this)
   .cases n with
    |zero=>
     rw[jB,h2 _ λn T y hn=>by unfold il;omega];exact aP _ _ _
    |succ n=>have:=h3 n T y (by simpa using hn);rwa [e] at this
def EF (C:Ctx)(S:St)(dst:Nat)(f:Nat)(args:List Operand):lO:=
 (C.sig f).bind λs=>
    match s.mode,args with
    |.ob shs obs,x::xs=>
     match Me shs obs,fJ S [] x with
     |some m,.obj j ver=>
      match S.o j with
      |.row T e=>
       bif Nat.beq ver (S.ver j)&&(Nat.beq T m.1&&Ty.beq e m.2.1) then
            (lL C S [] xs).bind λu=>
             bif Ty.subs u.1 m.2.2 then some ((S.newO j (.row T e)).setR dst (.obj j (S.ver j+1)),[.call [] dst f (.o j::u.2),.setO j (.r dst),.setR dst (.con .none)]) else Option.none
       else Option.none
      |_=>Option.none
     |_,_=>Option.none
    |_,_=>Option.none
def pI (C:Ctx)(S:St)(gs:List (Nat×Bool))(dst:Nat)(x:Operand)(args:List Operand):Option (St×Sh×List PI):=
 match use C S gs x with
 |some (.fn aa r,e)=>
  match nI aa r with
  |some _=>Option.none
  |Option.none=>
  (lL C (S.fzs (cd S gs args)) gs args).bind λu=>
    bif Ty.subs u.1 aa then some (bif r.pure then S else S.fzs (cd S gs args),.dat r,[.callc gs dst e u.2]) else Option.none
 |_=>Option.none
def pO:∀(js:List Nat) (S:St),(S.fzs js).ver=S.ver/\(S.fzs js).r=S.r
 |[],S=>⟨rfl,rfl⟩
 |j::js,S=>by
  obtain⟨h1,h2⟩:=pO js (S.fz j);obtain⟨k1,k2⟩:=KJ S j;exact⟨h1.trans k1,h2.trans k2⟩
section
variable {C:Ctx} {S:St} {O:Env} {V:Im} {own:Nat->Option Nat} {hv:Nat->Value} {w0:World} {σ0:Base} {A:Nat->Prop} {a:Act} {w:World} {gs:List (Nat×Bool)} {Z:aW} {dst:Nat}
def Inv.fzs:∀(js:List Nat) {S:St} {V:Im} {own:Nat->Option Nat},Inv C S O V own hv w0 σ0 A a w->∃V' own',V.le V'/\Inv C (S.fzs js) O V' own' hv w0 σ0 A a w
 |[],S,V,own,h=>⟨V,own,.refl V,h⟩
 |j::js,S,V,own,h=>by
  obtain⟨σ1,dD,hle,h1⟩:=h.fz j;obtain⟨σ2,jS,kK,h2⟩:=Inv.fzs js h1;exact⟨σ2,jS,hle.trans kK,h2⟩
def Inv.world (h:Inv C S O V own hv w0 σ0 A a w){V':Im}{w':World}(hle:V.le V')(aC:V'.ok w')(hb:Below w.heap.size w w')(dh:∀k o x,V'.c k o=some x->V.c k o=some x\/w.heap.size<=k)
 (cS:∀k x,V'.m k=some x->V.m k=some x\/w.heap.size<=k):Inv C S O V' own hv w0 σ0 A a w':=by
 have aJ:=h.below.size;refine h.step (λ_=>False) rfl hle aC (λk o x hx=>(dh k o x hx).imp id (λe=>⟨by omega,.inr e⟩)) (λk x hx=>(cS k x hx).imp id (λe=>⟨by omega,.inr e⟩)) (hb.mono aJ) (.refl S hv) (λj _=>⟨rfl,rfl,rfl,λk hk=>⟨hk,hb.block k (h.owns k j hk).2.1⟩⟩) (λ_ hf=>hf.elim) (λk j hk=>?_) (λ_=>id) (λt=>.inl ⟨rfl,rfl,rfl⟩) (λ_ _=>rfl) (λk hk _=>hb.block k hk) (λk i hk=>.inl ⟨i,hk⟩) (λ_ hf=>hf.elim);obtain⟨g1,g2,g3,g4⟩:=h.owns k j hk;refine⟨g1,by have:=hb.size;omega,λo=>?_,?_⟩
 .cases hc:V'.c k o with
  |none=>rfl
  |some x=>rcases dh k o x hc with e|e
           .rw[g3 o] at e;cases e
           .omega
 .cases hc:V'.m k with
  |none=>rfl
  |some x=>rcases cS k x hc with e|e
           .rw[g4] at e;cases e
           .omega
def CtxOK.mono {C:Ctx}{V V':Im}(h:CtxOK C V)(hle:V.le V'):CtxOK C V':=⟨λg x hx=>(h.glob g x hx).mono hle⟩
def DJ (h:Inv C S O V own hv w0 σ0 A a w)(hC:CtxOK C σ0)(hg:holds gs O=true){xs:List Operand}{u:List Ty×List PE}{ts:List Ty}(hu:lL C S gs xs=some u)(hs:Ty.subs u.1 ts=true):qC C V ts (xs.map a.eval) (PE.evs O u.2):=by
 obtain⟨l1,l2,aU⟩:=ajz h hC hg _ _ hu;have hl:=Ty.subs_len _ _ hs;refine⟨by rw[fp];omega,by rw[PE.evs_eq,fp];omega,λi t hi=>?_⟩;obtain⟨s,fD,cA⟩:=Ty.subs_get _ _ hs i t hi;exact(aU i s fD).sub cA
def HW {o:Oper}{f:Nat}{args:Array Operand}{ts:Array TypeId}(bo:dJ C){s:Sig}(hs:C.sig f=some s)(ho:o.op=.call {callee:=.value (.func f),args:=args,argTypes:=ts}):
 (execOp a.eval o).run C.P w=.ok (.enter f (args.map a.eval)) w:=by
 obtain⟨fn,h1,h2,h3⟩:=bo.2 f s hs;obtain⟨bd,ic⟩:=ZV.1 h2;have h4:¬fn.name= "runtime.NumGoroutine" :=by simpa using h3
 simp[execOp,ho,resolve,Act.eval,Deferred.ofValue,invoke,callFunc,h1,ic,h4]
def aim {o:Oper}{x:Operand}{f:Nat}{vs:List Value}{args:Array Operand}{ts:Array TypeId}(bo:dJ C){s:Sig}(hs:C.sig f=some s)(hx:a.eval x=.func (.func f) #[] vs.toArray)(ho:o.op=.call {callee:=.value x,args:=args,argTypes:=ts}):
 (execOp a.eval o).run C.P w=.ok (.enter f (args.map a.eval++vs.toArray)) w:=by
 obtain⟨fn,h1,h2,h3⟩:=bo.2 f s hs;obtain⟨bd,ic⟩:=ZV.1 h2;have h4:¬fn.name= "runtime.NumGoroutine" :=by simpa using h3
 simp[execOp,ho,resolve,hx,Deferred.ofValue,invoke,callFunc,h1,ic,h4]
def aan (h:Inv C S O V own hv w0 σ0 A a w)(hC:CtxOK C σ0)(ht:¬A dst)(ao:dst<a.tmps.size)(ei:∀g,g∈gs->A g.1)(hg:holds gs O=true){f:Nat}{s:Sig}{js:List Nat}{vals:List Value}{ds:List D}{d:D}(l5:s.mode=.dat)(hfn:jz C f s ds d)
 (jG:∀σ1 dD,V.le σ1->Inv C (S.fzs js) O σ1 dD hv w0 σ0 A a w->qC C σ1 s.args vals ds) {K:Act->World->Prop} {Q:Exit->Act->World->Prop}
 (hK:∀a' w',Good C w0 σ0 ((bif s.res.pure then S else S.fzs js).setR dst (ke gs (.dat s.res))) (O.setR dst d) (λu=>A u\/u=dst) a' w'->a'.tmps.size=a.tmps.size->K a' w'):
 Calls C.P f vals.toArray w (λe lM=>match e with|.returned v=>K (a.put (some dst) v) lM|.panicked chain=>Q (.panic chain) a lM|.outgrown=>LetsOut Q):=by
 obtain⟨σ1,dD,mI,h1⟩:=Inv.fzs js h;have q9:=hfn σ1 w vals.toArray h1.ok (hC.mono h1.le) (by simpa using jG σ1 dD mI h1);refine q9.mono λe w' hh=>?_;obtain⟨v,V',rfl,hle,aC,hb,dh,cS,gy⟩:=hh;simp only[nr,l5] at gy;refine hK _ _ ?_ (size_put _ _ _);have hh:holds gs (O.setR dst d)=true:=by rw[FK (t:=dst) (d:=d) λg hm e=>ht (by rw[<-e];exact ei g hm)];exact hg
 have put:∀{S2:St} {σ2:Im} {jS:Nat->Option Nat},Inv C S2 O σ2 jS hv w0 σ0 A a w'->Rep C.cap σ2 s.res v d->Good C w0 σ0 (S2.setR dst (ke gs (.dat s.res))) (O.setR dst d) (λu=>A u\/u=dst) (a.put (some dst) v) w':=by
  intro S2 σ2 jS h2 hr;cases gs with
  |nil=>exact⟨_,_,_,h2.setReg ht (s:=.dat s.res) hr ao (λ_ _ e=>by cases e)⟩
  |cons g bZ=>
   refine⟨_,_,_,h2.setReg ht (s:=.opt (g::bZ) (.dat s.res)) ⟨λ_=>hr,λe=>absurd (hh.symm.trans e) (by decide)⟩ ao (λgs s e=>?_)⟩;cases e;exact⟨ei,λ_ _ e=>by cases e⟩
 cases hp:s.res.pure with
 |true=>
  simp only[zyy];exact put (h.world (.refl V) (h.ok.below hb) hb (λ_ _ _ hx=>.inl hx) (λ_ _ hx=>.inl hx)) (gy.pure hp)
 |false=>
  simp only[zyx];exact put (h1.world hle aC hb dh cS) gy
def El {o:Oper}{f:Nat}{args:Array Value}{K:Act->World->Prop}{Q:Exit->Act->World->Prop}(hd:o.dst=some dst)(hx:(execOp a.eval o).run C.P w=.ok (.enter f args) w)
 (h:Calls C.P f args w (λe lM=>match e with|.returned v=>K (a.put (some dst) v) lM|.panicked chain=>Q (.panic chain) a lM|.outgrown=>LetsOut Q)):o.wp C.P a w K Q:=by
 simp only[Oper.wp,hx,Oper.upon,hd];refine h.mono λe lM hh=>?_;cases e<;>exact hh
def alY (h:Inv C S O V own hv w0 σ0 A a w)(hC:CtxOK C σ0)(bo:dJ C)(hΦ:dw C Z)(ht:¬A dst)(ao:dst<a.tmps.size)(ei:∀g,g∈gs->A g.1)(hg:holds gs O=true){f:Nat}{args:Array Operand}{ts:Array TypeId}{r:St×Sh×List PI}
 (hr:qT C S gs dst f args.toList=some r) {o:Oper} (hd:o.dst=some dst) (ho:o.op=.call {callee:=.value (.func f),args:=args,argTypes:=ts}):ct C w0 σ0 Z S O A a w o (r.1.setR dst (ke gs r.2.1),r.2.2):=by
 simp only[qT,aA] at hr;obtain⟨s,⟨s0,hs,rn⟩,hr⟩:=hr;split at hr
 case h_2=>cases hr
 rename_i l5;simp only[aA] at hr;obtain⟨u,hu,hr⟩:=hr;cases cq:Ty.subs u.1 s.args<;>simp only[cq,zyy,zyx] at hr
 .cases hr
 cases hr;intro O' ar K Q hK;simp only[PI.runs,PI.run,hg,zyy,aA,aD] at ar;obtain⟨ρ1,⟨d,bx,rfl⟩,ar⟩:=ar;cases ar;have hfn:=alw rn l5 (hΦ f _ d bx s0 hs).1;refine El hd (HW bo hs ho) ?_;have kO:args.map a.eval=(args.toList.map a.eval).toArray:=by apply tN;rw[xJ]
 rw[kO];have iU:(λu=>A u\/o.dst=some u)=(λu=>A u\/u=dst):=by funext u;rw[hd];simp[eq_comm]
 rw[iU] at hK;exact aan h hC ht ao ei hg (js:=cd S gs args.toList) l5 hfn (λσ1 dD _ h1=>DJ h1 hC hg hu cq) hK
def alP (h:Inv C S O V own hv w0 σ0 A a w)(hC:CtxOK C σ0)(bo:dJ C)(hΦ:dw C Z)(ht:¬A dst)(ao:dst<a.tmps.size)(ei:∀g,g∈gs->A g.1)(hg:holds gs O=true){x:Operand}{args:Array Operand}{ts:Array TypeId}{r:St×Sh×List PI}
 (hr:pI C S gs dst x args.toList=some r) {o:Oper} (hd:o.dst=some dst) (ho:o.op=.call {callee:=.value x,args:=args,argTypes:=ts}):ct C w0 σ0 Z S O A a w o (r.1.setR dst (ke gs r.2.1),r.2.2):=by
 unfold pI at hr;split at hr
 case h_2=>cases hr
 rename_i aa r0 e R5;split at hr
 case h_1=>cases hr
 rename_i Rk;simp only[aA] at hr;obtain⟨u,hu,hr⟩:=hr;cases cq:Ty.subs u.1 aa<;>simp only[cq,zyy,zyx] at hr
 .cases hr
 cases hr;have hx:=cL h hC hg R5;intro O' ar K Q hK;simp only[PI.runs,PI.run,hg,zyy,aA] at ar;obtain⟨ρ1,p6,ar⟩:=ar;cases ar;split at p6
 case h_2=>cases p6
 rename_i f caps bY;simp only[aD] at p6;obtain⟨d,bx,rfl⟩:=p6;rw[bY] at hx;generalize gu:a.eval x=xv at hx;generalize br:Ty.fn aa r0=ty at hx;cases hx with
 |fn f cs vs ds hc h1 h2 aU=>
  cases br;have hs:=bo.1 f cs hc Rk;have hfn:=(hΦ f _ d bx _ hs).1 rfl;refine El hd (aim bo hs gu ho) ?_;have kO:args.map a.eval++vs.toArray=(args.toList.map a.eval++vs).toArray:=by apply tN;simp
  rw[kO];have iU:(λu=>A u\/o.dst=some u)=(λu=>A u\/u=dst):=by funext u;rw[hd];simp[eq_comm]
  rw[iU] at hK;refine aan h hC ht ao ei hg (js:=cd S gs args.toList) (s:=⟨cs.args++cs.caps,cs.res,.dat⟩) rfl hfn (λσ1 dD mI i1=>?_) hK;obtain⟨g1,g2,g3⟩:=DJ i1 hC hg hu cq;refine⟨by simp only[jW,g1,h1],by simp only[jW,g2,h2],λi t hi=>?_⟩;rw[np] at hi;split at hi
  .rename_i ao;have:=g3 i t hi;rw[aL,aL,lP (by omega),lP (by omega)];simpa [aL] using this
  .rename_i fV;have:=(aU _ t hi).mono mI;rw[aL,aL,mu (by omega),mu (by omega),g1,g2];simpa [aL] using this
def alT (h:Inv C S O V own hv w0 σ0 A a w)(hC:CtxOK C σ0)(bo:dJ C)(hΦ:dw C Z)(ht:¬A dst)(ao:dst<a.tmps.size){f:Nat}{args:Array Operand}{ts:Array TypeId}{r:St×List PI}
 (hr:EG C S dst f args.toList=some r) {o:Oper} (hd:o.dst=some dst) (ho:o.op=.call {callee:=.value (.func f),args:=args,argTypes:=ts}):ct C w0 σ0 Z S O A a w o r:=by
 simp only[EG,aA] at hr;obtain⟨s,hs,hr⟩:=hr;split at hr
 case h_2=>cases hr
 rename_i T e l5;simp only[aA] at hr;obtain⟨u,hu,hr⟩:=hr;cases cq:Ty.subs u.1 s.args<;>simp only[cq,zyy,zyx] at hr
 .cases hr
 cases hr;intro O' ar K Q hK;have yN:holds ([]:List (Nat×Bool)) O=true:=rfl;simp only[PI.runs,PI.run,yN,zyy,aA,aD] at ar;obtain⟨ρ1,⟨d,bx,rfl⟩,O2,g2,ρ3,g3,g4⟩:=ar;cases g2;cases g3;cases g4;have hfn:=(hΦ f _ d bx s hs).1 (by rw[l5];rfl);obtain⟨σ1,dD,mI,h1⟩:=Inv.fzs (cd S [] args.toList) h;have kO:args.map a.eval=(args.toList.map a.eval).toArray:=by apply tN;rw[xJ]
 refine El hd (HW bo hs ho) ?_;rw[kO];have q9:=hfn σ1 w (args.toList.map a.eval).toArray h1.ok (hC.mono h1.le) (by simpa using DJ h1 hC rfl hu cq);refine q9.mono λe' w' hh=>?_;obtain⟨v,V',rfl,hle,aC,hb,dh,cS,gy⟩:=hh;simp only[nr,l5] at gy;obtain⟨cells,xs,rfl,cH,jK,oB⟩:=gy;refine hK _ _ ?_ (size_put _ _ _);have iU:(λu=>A u\/o.dst=some u)=(λu=>A u\/u=dst):=by funext u;rw[hd];simp[eq_comm]
 rw[iU];have main:∀{S2:St} {σ1 σ2:Im} {jS:Nat->Option Nat},Inv C S2 O σ1 jS hv w0 σ0 A a w->σ1.le σ2->σ2.ok w'->(∀k o x,σ2.c k o=some x->σ1.c k o=some x\/w.heap.size<=k)->(∀k x,σ2.m k=some x->σ1.m k=some x\/w.heap.size<=k)->eW C.cap σ2 e cells xs->(∀k,v.ownBlock=some k->(∀o,σ2.c k o=none)/\σ2.m k=none)->
  Good C w0 σ0 (mkObj S2 dst (.row T e)) ((O.setO dst (.list xs)).setR dst .none) (λu=>A u\/u=dst) (a.put (some dst) v) w':=by
  intro S2 σ1 σ2 jS h2 kK RF aqe aqh apu apz;have aJ:=h1.below.size
  have mL:=h2.newOσ dst (.row T e) (.list xs) v (λk=>decide (v.ownBlock=some k)) kK RF aqe aqh hb (λk hk=>cH.lt k (by simpa using hk)) (λk hk=>apz k (by simpa using hk)) ⟨cells,xs,by simp[Env.setO,aP],by
        rw[aP];refine⟨cH.1,?_⟩;rcases cH.2 with e1|⟨g,cap,cur,e1,e2,e3⟩
        .exact .inl e1
        .exact .inr ⟨g,cap,cur,e1,by omega,e3⟩,apu,λk hk=>by rw[aP] at hk;simp[fZ,hk]⟩
  have acA:=mL.setObj ht (j:=dst) (v:=v) (aP _ _ _) ao;have e:(S2.newO dst (.row T e)).ver dst=S2.ver dst+1:=aP _ _ _;rw[e] at acA;exact⟨_,_,_,acA⟩
 have eρ:((O.setR dst (.list xs)).setO dst ((PE.r dst).ev (O.setR dst (.list xs)))).setR dst ((PE.con D.none).ev ((O.setR dst (.list xs)).setO dst ((PE.r dst).ev (O.setR dst (.list xs)))))=(O.setO dst (.list xs)).setR dst .none:=by
  have:∀d1 d2:D,cr (cr O.r dst d1) dst d2=cr O.r dst d2:=by
   intro d1 d2;funext i;simp only[fQ];split<;>rfl
  simp[Env.setR,Env.setO,PE.ev,aP,this]
 show Good C w0 σ0 _ _ _ _ _;rw[eρ];cases hp:e.pure with
 |true=>
  simp only[zyy];refine main h (.refl V) (h.ok.below hb) (λ_ _ _ hx=>.inl hx) (λ_ _ hx=>.inl hx) ?_ (λk hk=>?_)
  .obtain⟨vs,k1,k2⟩:=jK;exact⟨vs,λi x hx=>(k1 i x hx).pure hp,k2⟩
  .obtain⟨f1,f2⟩:=oB k hk;refine⟨λo=>?_,?_⟩
   .cases hc:V.c k o with
    |none=>rfl
    |some x=>have:=hle.c _ _ _ (mI.c _ _ _ hc);rw[f1 o] at this;cases this
   .cases hc:V.m k with
    |none=>rfl
    |some x=>have:=hle.m _ _ (mI.m _ _ hc);rw[f2] at this;cases this
 |false=>
  simp only[zyx];exact main h1 hle aC dh cS jK oB
def alV (h:Inv C S O V own hv w0 σ0 A a w)(hC:CtxOK C σ0)(bo:dJ C)(hΦ:dw C Z)(ht:¬A dst)(ao:dst<a.tmps.size){f:Nat}{args:Array Operand}{ts:Array TypeId}{r:St×List PI}
 (hr:EH C S dst f args.toList=some r) {o:Oper} (hd:o.dst=some dst) (ho:o.op=.call {callee:=.value (.func f),args:=args,argTypes:=ts}):ct C w0 σ0 Z S O A a w o r:=by
 simp only[EH,aA] at hr;obtain⟨s,hs,hr⟩:=hr;split at hr
 case h_2=>cases hr
 rename_i l l5;simp only[aA] at hr;obtain⟨u,hu,hr⟩:=hr;cases cq:(Ty.subs u.1 s.args&&Nat.blt dst 4096)<;>simp only[cq,zyy,zyx] at hr
 .cases hr
 cases hr;simp only[av,jC] at cq;obtain⟨cq,sP⟩:=cq;intro O' ar K Q hK;have yN:holds ([]:List (Nat×Bool)) O=true:=rfl;simp only[PI.runs,PI.run,yN,zyy,aA,aD] at ar;obtain⟨ρ1,⟨d,bx,rfl⟩,ar⟩:=ar;have hfn:=(hΦ f _ d bx s hs).1 (by rw[l5];rfl);obtain⟨σ1,dD,mI,h1⟩:=Inv.fzs (cd S [] args.toList) h;generalize S.fzs (cd S [] args.toList)=S1 at hu h1 hK ⊢;have kO:args.map a.eval=(args.toList.map a.eval).toArray:=by apply tN;rw[xJ]
 refine El hd (HW bo hs ho) ?_;rw[kO];have q9:=hfn σ1 w (args.toList.map a.eval).toArray h1.ok (hC.mono h1.le) (by simpa using DJ h1 hC rfl hu cq);refine q9.mono λe' w' hh=>?_;obtain⟨v,V',rfl,hle,aC,hb,dh,cS,gy⟩:=hh;simp only[nr,l5] at gy;obtain⟨vs,ds,ow,rfl,rfl,l1,l2,ej,uJ⟩:=gy;refine hK _ _ ?_ (size_put _ _ _);have iU:(λu=>A u\/o.dst=some u)=(λu=>A u\/u=dst):=by funext u;rw[hd];simp[eq_comm]
 rw[iU];obtain⟨r1,r2,r3⟩:=UR Z dst l 0 _ O' ar;simp only[iL] at r2 r3;have ahY:(O.setR dst (.agg ds)).r dst=.agg ds:=aP _ _ _;rw[ahY] at r3;have aJ:=h1.below.size
 let W:Nat->Prop:=λj=>∃x,jU dst l j=some x
 let own':Nat->Option Nat:=λk=>match ow k with
  |some i=>some (il dst i)
  |none=>match dD k with
   |some j=>match jU dst l j with|some _=>none|none=>some j
   |none=>none
 let hv':Nat->Value:=λj=>match jU dst l j with|some x=>vs.getD x.1 undef|none=>hv j
 have Rw:∀j,¬W j->jU dst l j=none:=λj hj=>by
  cases e:jU dst l j with
  |none=>rfl
  |some x=>exact absurd ⟨x,e⟩ hj
 have gx:∀j,¬W j->O'.o j=O.o j:=λj hj=>r2 j λn T e hn e1=>hj ⟨(n,T,e),by rw[e1];exact ahx sP hn⟩
 have yQ:∀k j,dD k=some j->ow k=none:=λk j hk=>by
  cases e:ow k with
  |none=>rfl
  |some i=>have:=uJ k i e;have:=h1.owns k j hk;omega
 have sN:Compat S1 hv ((S1.newRows dst l).setR dst (.agg (ph S1 dst l 0))) hv':=⟨λj=>by
  show S1.ver j<=(match jU dst l j with|some _=>S1.ver j+1|none=>S1.ver j);split
  .exact Nat.le_succ _
  .exact bB _,λj e=>by
  have e:(match jU dst l j with|some _=>S1.ver j+1|none=>S1.ver j)=S1.ver j:=e;show(match jU dst l j with|some x=>vs.getD x.1 undef|none=>hv j)=hv j;cases hj:jU dst l j with
  |none=>rfl
  |some x=>rw[hj] at e;simp only at e;omega⟩
 refine⟨V',own',hv',?_⟩
 refine h1.step (w':=w') W rfl hle aC (λk o x hx=>(dh k o x hx).imp id λe=>⟨by omega,.inr e⟩) (λk x hx=>(cS k x hx).imp id λe=>⟨by omega,.inr e⟩) (hb.mono aJ) sN
  (λj hj=>⟨?_,gx j hj,?_,λk hk=>⟨?_,hb.block k (h1.owns k j hk).2.1⟩⟩) (λj hj=>?_) (λk i hk=>?_) (λ_=>.inl) (λt=>?_) (λt hA=>?_) (λk hk _=>hb.block k hk) (λk i hk=>?_) (λj hj=>?_)
 .show(match jU dst l j with|some x=>Ob.row x.2.1 x.2.2|none=>S1.o j)=S1.o j;rw[Rw j hj]
 .show(match jU dst l j with|some x=>vs.getD x.1 undef|none=>hv j)=hv j;rw[Rw j hj]
 .show own' k=some j;simp only[own',yQ k j hk,hk,Rw j hj]
 .obtain⟨⟨i,T,e⟩,hx⟩:=hj;obtain⟨rfl,hi⟩:=awJ hx;show cI C _ O' V' own' hv' w' w0.heap.size (il dst i) (match jU dst l (il dst i) with|some x=>Ob.row x.2.1 x.2.2|none=>S1.o (il dst i));rw[hx];obtain⟨cells,xs,g1,g2,g3,g4⟩:=ej i _ hi;have e2:hv' (il dst i)=vs.getD i undef:=by simp only[hv',hx]
  refine⟨cells,xs,?_,?_,g3,λk hk=>?_⟩
  .rw[r3 i T e hi];simpa [D.c,D.cells] using g1
  .rw[e2];refine⟨g2.1,?_⟩;rcases g2.2 with e1|⟨g,cap,cur,e1,e3,e4⟩
   .exact .inl e1
   .exact .inr ⟨g,cap,cur,e1,by omega,e4⟩
  .rw[e2] at hk;simp only[own',g4 k hk]
 .simp only[own'] at hk;split at hk
  .rename_i i' dx;have:=uJ k i' dx;exact⟨by omega,this.2.1,this.2.2.1,this.2.2.2⟩
  .split at hk
   .rename_i j hj;obtain⟨g1,g2,g3,g4⟩:=h1.owns k j hj;refine⟨g1,by have:=hb.size;omega,λo=>?_,?_⟩
    .cases hc:V'.c k o with
     |none=>rfl
     |some x=>rcases dh k o x hc with e|e
              .rw[g3 o] at e;cases e
              .omega
    .cases hc:V'.m k with
     |none=>rfl
     |some x=>rcases cS k x hc with e|e
              .rw[g4] at e;cases e
              .omega
   .cases hk
 .by_cases hu:t=dst
  .subst hu;refine .inr ⟨?_,λgs s e=>?_⟩
   .rw[Ab];have e3:O'.r t=.agg ds:=by rw[r1];exact ahY
    simp only[St.setR,aP,ao,and_self,if_true,e3];obtain⟨q1,q2⟩:=ahy S1 t l 0;refine⟨vs,ds,rfl,rfl,by omega,by omega,λi c hc=>?_⟩;rcases q2 i c hc with⟨ty,hl,rfl⟩|⟨T,e,hl,rfl⟩
    .exact ej i _ hl
    .rw[iL];have hx:=ahx sP hl;refine⟨?_,λ_=>?_⟩
     .show S1.ver (il t i)+1<=(match jU t l (il t i) with|some _=>S1.ver (il t i)+1|none=>S1.ver (il t i));rw[hx];exact bB _
     .simp only[hv',hx]
   .simp only[St.setR,aP] at e;cases e
  .refine .inl ⟨bF _ _ hu,?_,?_⟩
   .rw[Ab];simp[hu]
   .rw[r1];exact bF _ _ hu
 .rw[r1];exact bF _ _ (λe=>ht (e▸hA))
 .simp only[own'] at hk;split at hk
  .rename_i i' dx;exact .inr (uJ k i' dx).1
  .split at hk
   .rename_i j hj;exact .inl ⟨j,hj⟩
   .cases hk
 .obtain⟨x,hx⟩:=hj;show(match jU dst l j with|some x=>Ob.row x.2.1 x.2.2|none=>S1.o j)≠.tr;rw[hx];intro e;cases e
def alR (h:Inv C S O V own hv w0 σ0 A a w)(hC:CtxOK C σ0)(bo:dJ C)(hΦ:dw C Z)(ht:¬A dst)(ao:dst<a.tmps.size){f:Nat}{args:Array Operand}{ts:Array TypeId}{r:St×List PI}
 (hr:EF C S dst f args.toList=some r) {o:Oper} (hd:o.dst=some dst) (ho:o.op=.call {callee:=.value (.func f),args:=args,argTypes:=ts}):ct C w0 σ0 Z S O A a w o r:=by
 simp only[EF,aA] at hr;obtain⟨s,hs,hr⟩:=hr;split at hr
 case h_2=>cases hr
 rename_i shs obs x xs l5 jG;split at hr
 case h_2=>cases hr
 rename_i m j ver mJ gz;split at hr
 case h_2=>cases hr
 rename_i T e eo;cases hb:(Nat.beq ver (S.ver j)&&(Nat.beq T m.1&&Ty.beq e m.2.1))<;>simp only[hb,zyy,zyx] at hr
 .cases hr
 simp only[av] at hb;have dO:=aE hb.1;have hT:=aE hb.2.1;have he:=Ty.beq_eq _ _ hb.2.2;simp only[aA] at hr;obtain⟨u,hu,hr⟩:=hr;cases cq:Ty.subs u.1 m.2.2<;>simp only[cq,zyy,zyx] at hr
 .cases hr
 cases hr;intro O' ar K Q hK;have yN:holds ([]:List (Nat×Bool)) O=true:=rfl;simp only[PI.runs,PI.run,yN,zyy,aA,aD] at ar;obtain⟨ρ1,⟨d,bx,rfl⟩,O2,g2,ρ3,g3,g4⟩:=ar;cases g2;cases g3;cases g4;have hfn:=(hΦ f _ d bx s hs).2 shs obs l5;unfold iJ at hfn;rw[mJ] at hfn;simp only at hfn;rw[<-hT,<-he] at hfn;have cK:=(tG h (gs:=[]) rfl x).1;rw[gz] at cK;have cK:=cK.2 dO;have bm:=h.objs j;rw[eo] at bm;obtain⟨cells,ys,h1,h2,h3,h4⟩:=bm;have kO:args.map a.eval=(a.eval x::xs.map a.eval).toArray:=by apply tN;rw[xJ,jG];rfl
 refine El hd (HW bo hs ho) ?_;rw[kO,cK];have aJ:=h.below.size
 have q9:=hfn w0.heap.size V w (hv j) (xs.map a.eval) ys cells (PE.evs O u.2) (by simp[PE.evs,PE.ev,h1]) h.ok (hC.mono h.le) aJ h2 h3 (λk hk=>by
  have:=h.owns k j (h4 k hk);exact this.2) (DJ h hC rfl hu cq)
 refine q9.mono λe' w' hh=>?_;obtain⟨v',kZ,dy,rfl,rfl,Fh,yQ,aqu,apt,abJ⟩:=hh;refine hK _ _ ?_ (size_put _ _ _);have iU:(λu=>A u\/o.dst=some u)=(λu=>A u\/u=dst):=by funext u;rw[hd];simp[eq_comm]
 rw[iU]
 have R8:=h.updO j (.row T e) (.list kZ) v' (λk=>decide (v'.ownBlock=some k)) Fh (λk hk aF=>yQ k hk (λe=>aF (h4 k e))) (λk hk=>by
  have bh:v'.ownBlock=some k:=by simpa using hk
  exact⟨(abJ k bh).1.imp (h4 k) id,(abJ k bh).2⟩)
  ⟨dy,kZ,by simp[Env.setO,aP],by rw[aP];exact aqu,apt,λk hk=>by rw[aP] at hk;simp[fZ,hk]⟩
 have h9:=R8.setObj ht (j:=j) (v:=v') (aP _ _ _) ao;have e1:(S.newO j (.row T e)).ver j=S.ver j+1:=aP _ _ _;rw[e1] at h9;have eρ:((O.setR dst (.list kZ)).setO j ((PE.r dst).ev (O.setR dst (.list kZ)))).setR dst ((PE.con D.none).ev ((O.setR dst (.list kZ)).setO j ((PE.r dst).ev (O.setR dst (.list kZ)))))=(O.setO j (.list kZ)).setR dst .none:=by
  have:∀d1 d2:D,cr (cr O.r dst d1) dst d2=cr O.r dst d2:=by
   intro d1 d2;funext i;simp only[fQ];split<;>rfl
  simp[Env.setR,Env.setO,PE.ev,aP,this]
 show Good C w0 σ0 _ _ _ _ _;rw[eρ];exact⟨_,_,_,h9⟩
end
def jv:Nat:=1000000013
abbrev pw:=Sh×Option (Ty×PE)
def Iw (C:Ctx)(S:St)(x:Operand):pw:=(fJ S [] x,use C S [] x)
def aap (c:Nat×Nat):pw:=(.ptr c.1 c.2 0,none)
def cT:List Nat->List Nat->Nat->Option Nat
 |i::is,j::js,k=>bif Nat.beq i k then some j else cT is js k
 |_,_,_=>none
def avh:Sh->Sh->List (Nat×Nat)
 |.obj i _,.obj j _=>[(i,j)]
 |.ptr i _ _,.ptr j _ _=>[(i,j)]
 |.fclo _ a,.fclo _ b=>(a.zip b).map λx=>(x.1.1,x.2.1)
 |_,_=>[]
def T2:List Sh->List Sh->List (Nat×Nat)
 |a::aa,b::bs=>avh a b++T2 aa bs
 |_,_=>[]
def avg:Ob->Ob->List (Nat×Nat)
 |.box _ a,.box _ b=>T2 a b
 |_,_=>[]
def adH:List (Nat×Nat)->Nat->Nat
 |[],_=>jv
 |x::l,i=>bif Nat.beq x.1 i then x.2 else adH l i
def atZ (S:St)(obs:List (Nat×Ob))(p:List (Nat×Nat)):List (Nat×Nat):=p++p.flatMap λx=>avg (eU obs x.1) (S.o x.2)
def aa2 (S:St)(shs:List Sh)(obs:List (Nat×Ob))(acts:List pw):List Nat:=obs.map λo=>adH (atZ S obs (T2 shs (acts.map (·.1)))) o.1
section
variable (ver:Nat->Nat) (is js:List Nat)
def HU:List (Nat×Nat)->Option (List (Nat×Nat))
 |[]=>some []
 |x::l=>bif Nat.beq x.2 0 then(cT is js x.1).bind λj=>(HU l).map λr=>(j,ver j)::r else none
def lJ:Sh->Option Sh
 |.dat t=>some (.dat t)
 |.none=>some .none
 |.obj i v=>bif Nat.beq v 0 then(cT is js i).map λj=>.obj j (ver j) else none
 |.ptr i v off=>bif Nat.beq v 0 then(cT is js i).map λj=>.ptr j (ver j) off else none
 |.fclo f caps=>(HU ver is js caps).map (.fclo f)
 |_=>none
def HV:List Sh->Option (List Sh)
 |[]=>some []
 |s::l=>(lJ ver is js s).bind λa=>(HV l).map (a::·)
def rU:Ob->Option Ob
 |.row T e=>some (.row T e)
 |.mp a b=>some (.mp a b)
 |.box ag shs=>(HV ver is js shs).map (.box ag)
 |_=>none
end
def EZ (c:Sh):Sh->Bool
 |.none=>true
 |.dat b=>match c with|.dat a=>Ty.sub a b|_=>false
 |x=>Sh.beq c x
def BR:List Sh->List Sh->Bool
 |[],[]=>true
 |a::aa,b::bs=>EZ a b&&BR aa bs
 |_,_=>false
def BQ:Ob->Ob->Bool
 |.box x a,.box y b=>(x==y)&&BR a b
 |.row T a,.row U b=>Nat.beq T U&&Ty.beq a b
 |.mp a b,.mp c d=>Ty.beq a c&&Ty.beq b d
 |_,_=>false
def sK (S:St)(is js:List Nat):List (Nat×Ob)->List Nat->Bool
 |[],[]=>true
 |o::obs,j::jl=>(match rU S.ver is js o.2 with|some x=>BQ (S.o j) x|none=>false)&&sK S is js obs jl
 |_,_=>false
def EX (S:St)(is js:List Nat)(a:pw)(s:Sh):Option PE:=
 match s with
 |.dat t=>(match a.2 with|some x=>bif Ty.sub x.1 t then some x.2 else none|none=>none)
 |.none=>some (.con .none)
 |s=>(match lJ S.ver is js s with|some x=>bif Sh.beq a.1 x then some (.con .none) else none|none=>none)
def v7 (S:St)(is js:List Nat):List pw->List Sh->Option (List PE)
 |[],[]=>some []
 |a::aa,s::ss=>(EX S is js a s).bind λe=>(v7 S is js aa ss).map (e::·)
 |_,_=>none
def qQ:List Sh->List Nat
 |[]=>[]
 |.obj i _::l=>i::qQ l
 |.ptr i _ _::l=>i::qQ l
 |.fclo _ c::l=>c.map (·.1)++qQ l
 |_::l=>qQ l
def aw (l:List Nat)(x:Nat):Bool:=l.any (Nat.beq x)
def xG (ver:Nat->Nat)(shs:List Sh)(is js:List Nat):Nat->Nat:=λj=>match cT js is j with|some i=>bif aw (qQ shs) i then ver j else ver j+1|none=>ver j
def St.handed (S:St)(shs:List Sh)(obs:List (Nat×Ob))(is js:List Nat):St:=
 ⟨S.r,λj=>match cT js is j with|some i=>(match rU (xG S.ver shs is js) is js (eU obs i) with|some o=>o|none=>.dead)|none=>S.o j,xG S.ver shs is js⟩
def BT (S:St):List Operand->List Sh->List Nat
 |x::xs,s::ss=>(bif oO s then cd S [] [x] else[])++BT S xs ss
 |_,_=>[]
def H0:List Nat->Nat->List PI
 |[],_=>[]
 |j::js,k=>.setO j (.tget (.o jv) k)::H0 js (k+1)
def Qk (S:St)(res:Ty)(f:Nat)(shs:List Sh)(obs:List (Nat×Ob))(acts:List pw)(is js:List Nat):Option (St×Ty×List PI):=
 (v7 S is js acts shs).bind λes=>
    bif zr shs obs&&(iu is&&iu js&&sK S is js obs js&&p9 (S.o jv)&& !aw js jv) then some (S.handed shs obs is js,res,.mcall jv f (es++js.map .o)::H0 js 1) else none
def Ql (C:Ctx)(S:St)(res:Ty)(f:Nat)(shs:List Sh)(obs:List (Nat×Ob))(acts:List pw):Option (St×Ty×List PI):=
 Qk S res f shs obs acts (obs.map (·.1)) (aa2 S shs obs acts)
def sH (C:Ctx)(S:St)(f:Nat)(args:List Operand)(caps:List (Nat×Nat)):Option (St×Ty×List PI):=
 (C.sig f).bind λs=>
    match s.mode with
    |.ob shs obs=>Ql C (S.fzs (BT S args shs)) s.res f shs obs (args.map (Iw C (S.fzs (BT S args shs)))++caps.map aap)
    |_=>none
def ac0 {l:List Nat}{x:Nat}:aw l x=true↔x∈l:=by
 unfold aw;rw[jA];exact⟨λ⟨y,hy,h⟩=>by rw[aE h];exact hy,λh=>⟨x,h,iK x⟩⟩
def adC:∀{is js:List Nat} {i j:Nat},cT is js i=some j->∃k:Nat,is[k]?=some i/\js[k]?=some j
 |[],_,i,j,h=>by cases h
 |_::_,[],i,j,h=>by cases h
 |x::is,y::js,i,j,h=>by
  simp only[cT] at h;cases hb:Nat.beq x i<;>simp only[hb,zyy,zyx] at h
  .obtain⟨k,h1,h2⟩:=adC h;exact⟨k+1,h1,h2⟩
  .cases h;exact⟨0,by rw[aE hb];rfl,rfl⟩
def L3:∀{is js:List Nat} {i j k:Nat},is.Nodup->is[k]?=some i->js[k]?=some j->cT is js i=some j
 |[],_,i,j,k,_,h,_=>by simp at h
 |_::_,[],i,j,k,_,_,h=>by simp at h
 |x::is,y::js,i,j,k,hn,h1,h2=>by
  simp only[cT];cases k with
  |zero=>simp at h1 h2;subst h1 h2;rw[iK];rfl
  |succ k=>
   simp at h1 h2;have aF:x≠i:=λe=>by subst e;exact(oh.1 hn).1 (mw h1)
   rw[eY aF];exact L3 (oh.1 hn).2 h1 h2
def L4 {is js:List Nat}(h2:js.Nodup){i j:Nat}(h:cT is js i=some j):cT js is j=some i:=by
 obtain⟨k,g1,g2⟩:=adC h;exact L3 h2 g2 g1
def arX (obs:List (Nat×Ob))(f:Nat->D):∀{is js:List Nat} {i j:Nat},is=obs.map (·.1)->cT is js i=some j->oR obs (js.map f) i=f j:=by
 induction obs with
 |nil=>intro is js i j h1 h2;subst h1;cases h2
 |cons x l ih=>
  intro is js i j h1 h2;subst h1;cases js with
  |nil=>cases h2
  |cons y js=>
   simp only[gn,cT] at h2;simp only[gn,oR];cases hb:Nat.beq x.1 i<;>simp only[hb,zyy,zyx] at h2 ⊢
   .exact ih rfl h2
   .cases h2;rfl
def ady:∀{obs:List (Nat×Ob)} {js:List Nat} {os:List D} {i j:Nat},os.length=obs.length->cT (obs.map (·.1)) js i=some j->∃k:Nat,js[k]?=some j/\oR obs os i=os.getD k .none
 |[],_,_,i,j,_,h=>by cases h
 |_::_,[],_,i,j,_,h=>by cases h
 |_::_,_::_,[],i,j,hl,h=>by simp at hl
 |x::obs,y::js,o::os,i,j,hl,h=>by
  simp only[gn,cT] at h;simp only[oR];cases hb:Nat.beq x.1 i<;>simp only[hb,zyy,zyx] at h ⊢
  .obtain⟨k,h1,h2⟩:=ady (obs:=obs) (js:=js) (os:=os) (by simpa using hl) h;exact⟨k+1,h1,by simpa using h2⟩
  .cases h;exact⟨0,rfl,rfl⟩
def adF:∀{obs:List (Nat×Ob)} {js:List Nat} {i:Nat},js.length=obs.length->cT (obs.map (·.1)) js i=none->eU obs i=.dead
 |[],_,i,_,_=>rfl
 |x::obs,[],i,hl,h=>by simp at hl
 |x::obs,y::js,i,hl,h=>by
  simp only[gn,cT] at h;simp only[eU];cases hb:Nat.beq x.1 i<;>simp only[hb,zyy,zyx] at h ⊢
  .exact adF (by simpa using hl) h
  .cases h
def aa9 {S:St}{is js:List Nat}:∀{obs:List (Nat×Ob)} {jl:List Nat},sK S is js obs jl=true->jl.length=obs.length
 |[],[],_=>rfl
 |[],_::_,h=>by simp[sK] at h
 |_::_,[],h=>by simp[sK] at h
 |o::obs,j::jl,h=>by simp only[sK,av] at h;simp[aa9 h.2]
def aa8 {S:St}{is js:List Nat}:∀{obs:List (Nat×Ob)} {jl:List Nat},sK S is js obs jl=true->∀{i j:Nat},cT (obs.map (·.1)) jl i=some j->∃x,rU S.ver is js (eU obs i)=some x/\BQ (S.o j) x=true
 |[],_,_,i,j,h=>by cases h
 |_::_,[],_,i,j,h=>by cases h
 |o::obs,y::jl,hf,i,j,h=>by
  simp only[sK,av] at hf;simp only[gn,cT] at h;simp only[eU];cases hb:Nat.beq o.1 i<;>simp only[hb,zyy,zyx] at h ⊢
  .exact aa8 hf.2 h
  .cases h;have h1:=hf.1;split at h1
   .rename_i x hx;exact⟨x,hx,h1⟩
   .cases h1
def aba:∀{a b:List Sh},BR a b=true->a.length=b.length/\∀(i:Nat) (y:Sh),b[i]?=some y->∃x,a[i]?=some x/\EZ x y=true
 |[],[],_=>⟨rfl,λi y h=>by simp at h⟩
 |[],_::_,h=>by simp[BR] at h
 |_::_,[],h=>by simp[BR] at h
 |a::aa,b::bs,h=>by
  simp only[BR,av] at h;obtain⟨g1,g2⟩:=aba h.2;refine⟨by simp[g1],λi y hy=>?_⟩;cases i with
  |zero=>simp at hy;subst hy;exact⟨a,rfl,h.1⟩
  |succ i=>simp at hy;simpa using g2 i y hy
def VX {ver:Nat->Nat}{is js:List Nat}:∀{a b:List Sh},HV ver is js a=some b->b.length=a.length/\∀(i:Nat) (x:Sh),a[i]?=some x->∃y,b[i]?=some y/\lJ ver is js x=some y
 |[],b,h=>by simp only[HV,aZ] at h;subst h;exact⟨rfl,λi x h=>by simp at h⟩
 |s::l,b,h=>by
  simp only[HV,aA,aD] at h;obtain⟨y,hy,r,hr,rfl⟩:=h;obtain⟨g1,g2⟩:=VX hr;refine⟨by simp[g1],λi x hx=>?_⟩;cases i with
  |zero=>simp at hx;subst hx;exact⟨y,rfl,hy⟩
  |succ i=>simp at hx;simpa using g2 i x hx
def NJ {ver:Nat->Nat}{is js:List Nat}:∀{a b:List (Nat×Nat)},HU ver is js a=some b->b.length=a.length/\∀(i x v:Nat),a[i]?=some (x,v)->∃j,b[i]?=some (j,ver j)/\cT is js x=some j/\v=0
 |[],b,h=>by simp only[HU,aZ] at h;subst h;exact⟨rfl,λi x v h=>by simp at h⟩
 |s::l,b,h=>by
  simp only[HU] at h;cases hb:Nat.beq s.2 0<;>simp only[hb,zyy,zyx] at h
  .cases h
  simp only[aA,aD] at h;obtain⟨y,hy,r,hr,rfl⟩:=h;obtain⟨g1,g2⟩:=NJ hr;refine⟨by simp[g1],λi x v hx=>?_⟩;cases i with
  |zero=>simp at hx;subst hx;exact⟨y,rfl,hy,aE hb⟩
  |succ i=>simp at hx;simpa using g2 i x v hx
def VW {ver:Nat->Nat}{is js:List Nat}{s x:Sh}(h:lJ ver is js s=some x):(∀gs s',s≠.opt gs s')/\∀gs s',x≠.opt gs s':=by
 cases s<;>simp only[lJ] at h
 case none=>cases h;exact⟨(λ_ _ e=>by cases e),(λ_ _ e=>by cases e)⟩
 case dat=>cases h;exact⟨(λ_ _ e=>by cases e),(λ_ _ e=>by cases e)⟩
 case obj i v=>
  cases hb:Nat.beq v 0<;>simp only[hb,zyy,zyx] at h
  .cases h
  simp only[aD] at h;obtain⟨j,_,rfl⟩:=h;exact⟨(λ_ _ e=>by cases e),(λ_ _ e=>by cases e)⟩
 case ptr i v off=>
  cases hb:Nat.beq v 0<;>simp only[hb,zyy,zyx] at h
  .cases h
  simp only[aD] at h;obtain⟨j,_,rfl⟩:=h;exact⟨(λ_ _ e=>by cases e),(λ_ _ e=>by cases e)⟩
 case fclo f caps=>
  simp only[aD] at h;obtain⟨j,_,rfl⟩:=h;exact⟨(λ_ _ e=>by cases e),(λ_ _ e=>by cases e)⟩
 all_goals cases h
section
variable {C:Ctx} {S S1:St} {O ρ1:Env} {V σ1:Im} {own dD:Nat->Option Nat} {hv aY:Nat->Value} {w0:World} {σ0:Base} {A:Nat->Prop} {a:Act} {w w1:World} {Z:aW} {dst:Nat}
 {is js:List Nat} {shs:List Sh} {obs:List (Nat×Ob)} {ρf:Env}
def ah8 (hσ:Im.leR C.cap V σ1){fE:Nat->Value}(gA:∀i j,cT is js i=some j->fE i=hv j){s x:Sh}(hr:lJ S.ver is js s=some x){v:Value}{d:D}(h:aI C S O V hv x v d):aI C (gE shs obs) ρf σ1 fE s v d:=by
 cases s<;>simp only[lJ] at hr
 case none=>trivial
 case dat=>cases hr;exact hσ.rep h
 case obj i ver=>
  cases hb:Nat.beq ver 0<;>simp only[hb,zyy,zyx] at hr
  .cases hr
  simp only[aD] at hr;obtain⟨j,hj,rfl⟩:=hr;exact⟨by rw[aE hb];exact om _,λ_=>by rw[gA i j hj];exact h.2 rfl⟩
 case ptr i ver off=>
  cases hb:Nat.beq ver 0<;>simp only[hb,zyy,zyx] at hr
  .cases hr
  simp only[aD] at hr;obtain⟨j,hj,rfl⟩:=hr;exact⟨by rw[aE hb];exact om _,λ_=>by rw[gA i j hj];exact h.2 rfl⟩
 case fclo f caps=>
  simp only[aD] at hr;obtain⟨c,hc,rfl⟩:=hr;obtain⟨g1,g2⟩:=NJ hc;obtain⟨vs,h1,h2,h3⟩:=h;refine⟨vs,h1,by omega,λi x ver hi=>?_⟩;obtain⟨j,e1,e2,e3⟩:=g2 i x ver hi;exact⟨by rw[e3];exact om _,λ_=>by rw[gA x j e2];exact(h3 i j _ e1).2 rfl⟩
 all_goals cases hr
def aw4 (hσ:V.le σ1){fE:Nat->Value}(gA:∀i j,cT is js i=some j->fE i=aY j){s x:Sh}(hr:lJ S1.ver is js s=some x){v:Value}{d:D}(h:aI C (gE shs obs) ρf V fE s v d):aI C S1 ρ1 σ1 aY x v d:=by
 cases s<;>simp only[lJ] at hr
 case none=>cases hr;trivial
 case dat=>cases hr;exact Rep.mono hσ h
 case obj i ver=>
  cases hb:Nat.beq ver 0<;>simp only[hb,zyy,zyx] at hr
  .cases hr
  simp only[aD] at hr;obtain⟨j,hj,rfl⟩:=hr;exact⟨bB _,λ_=>by rw[<-gA i j hj];exact h.2 (aE hb)⟩
 case ptr i ver off=>
  cases hb:Nat.beq ver 0<;>simp only[hb,zyy,zyx] at hr
  .cases hr
  simp only[aD] at hr;obtain⟨j,hj,rfl⟩:=hr;exact⟨bB _,λ_=>by rw[<-gA i j hj];exact h.2 (aE hb)⟩
 case fclo f caps=>
  simp only[aD] at hr;obtain⟨c,hc,rfl⟩:=hr;obtain⟨g1,g2⟩:=NJ hc;obtain⟨vs,h1,h2,h3⟩:=h;refine⟨vs,h1,by omega,λi j ver hi=>?_⟩;have ao:i<caps.length:=by have:=(fo.1 hi).1;omega
  obtain⟨j',e1,e2,e3⟩:=g2 i _ _ (bL ao);rw[hi] at e1;cases e1;exact⟨bB _,λ_=>by rw[<-gA _ j e2];exact(h3 i _ _ (bL ao)).2 e3⟩
 all_goals cases hr
def amT {c x:Sh}(hf:EZ c x=true){v:Value}{d:D}(h:aI C S O V hv c v d):aI C S O V hv x v d:=by
 cases x with
 |none=>trivial
 |dat b=>
  simp only[EZ] at hf;split at hf
  .exact Rep.sub h hf
  .cases hf
 |_=>simp only[EZ] at hf;rw[Sh.beq_eq _ _ hf] at h;exact h
def aun (hσ:Im.leR C.cap V σ1){fE:Nat->Value}{GA:Nat->Option Nat}(gA:∀i j,cT is js i=some j->fE i=hv j)(cH:∀k j i,own k=some j->cT js is j=some i->GA k=some i)(bz:js.Nodup){i j N:Nat}(dt:cT is js i=some j)(hρ:ρf.o i=O.o j){ob x:Ob}
 (hr:rU S.ver is js ob=some x) (hf:BQ (S.o j) x=true) (h:cI C S O V own hv w N j (S.o j)):cI C (gE shs obs) ρf σ1 GA fE w N i ob:=by
 have jh:=L4 bz dt;cases ob<;>simp only[rU] at hr
 case row T e=>
  cases hr;cases ho:S.o j<;>rw[ho] at hf h<;>simp only[BQ,av] at hf<;>try (cases hf;done)
  obtain⟨cells,xs,h1,h2,h3,h4⟩:=h;rw[aE hf.1,Ty.beq_eq _ _ hf.2] at*;exact⟨cells,xs,by rw[hρ];exact h1,by rw[gA i j dt];exact h2,h3.monoR hσ,λk hk=>cH k j i (h4 k (by rw[<-gA i j dt];exact hk)) jh⟩
 case mp kt et=>
  cases hr;cases ho:S.o j<;>rw[ho] at hf h<;>simp only[BQ,av] at hf<;>try (cases hf;done)
  obtain⟨k,arr,clock,es,h1,h2,h3,h4,h5,h6,h7⟩:=h;rw[Ty.beq_eq _ _ hf.1,Ty.beq_eq _ _ hf.2] at*;exact⟨k,arr,clock,es,by rw[gA i j dt];exact h1,cH k j i h2 jh,h3,by rw[hρ];exact h4,h5,h6,λn e p he hp=>⟨hσ.rep (h7 n e p he hp).1,hσ.rep (h7 n e p he hp).2⟩⟩
 case box ag cs=>
  simp only[aD] at hr;obtain⟨cs',dL,rfl⟩:=hr;cases ho:S.o j<;>rw[ho] at hf h<;>simp only[BQ,av] at hf<;>try (cases hf;done)
  obtain⟨k,vs,T,ds,h1,h2,h3,h4,h5,h6,h7⟩:=h;obtain⟨l1,g1⟩:=aba hf.2;obtain⟨l2,g2⟩:=VX dL;refine⟨k,vs,T,ds,by rw[gA i j dt];exact h1,cH k j i h2 jh,h3,by omega,by rw[hρ];exact h5,by omega,λn s hs=>?_⟩;obtain⟨y,hy,FX⟩:=g2 n s hs;obtain⟨z,hz,Fu⟩:=g1 n y hy;exact⟨(VW FX).1,ah8 hσ gA FX (amT Fu (h7 n z hz).2)⟩
 all_goals cases hr
def auo (hσ:V.le σ1){fE:Nat->Value}{GA:Nat->Option Nat}(gA:∀i j,cT is js i=some j->fE i=aY j)(cH:∀k i j,GA k=some i->cT is js i=some j->dD k=some j){i j N:Nat}(dt:cT is js i=some j)(hρ:ρ1.o j=ρf.o i){ob x:Ob}
 (hr:rU S1.ver is js ob=some x) (h:cI C (gE shs obs) ρf V GA fE w N i ob):cI C S1 ρ1 σ1 dD aY w N j x:=by
 cases ob<;>simp only[rU] at hr
 case row T e=>
  cases hr;obtain⟨cells,xs,h1,h2,h3,h4⟩:=h;exact⟨cells,xs,by rw[hρ];exact h1,by rw[<-gA i j dt];exact h2,h3.mono hσ,λk hk=>cH k i j (h4 k (by rw[gA i j dt];exact hk)) dt⟩
 case mp kt et=>
  cases hr;obtain⟨k,arr,clock,es,h1,h2,h3,h4,h5,h6,h7⟩:=h;exact⟨k,arr,clock,es,by rw[<-gA i j dt];exact h1,cH k i j h2 dt,h3,by rw[hρ];exact h4,h5,h6,λn e p he hp=>⟨(h7 n e p he hp).1.mono hσ,(h7 n e p he hp).2.mono hσ⟩⟩
 case box ag cs=>
  simp only[aD] at hr;obtain⟨cs',dL,rfl⟩:=hr;obtain⟨k,vs,T,ds,h1,h2,h3,h4,h5,h6,h7⟩:=h;obtain⟨l2,g2⟩:=VX dL;refine⟨k,vs,T,ds,by rw[<-gA i j dt];exact h1,cH k i j h2 dt,h3,by omega,by rw[hρ];exact h5,by omega,λn s hs=>?_⟩;have ao:n<cs.length:=by have:=(fo.1 hs).1;omega
  obtain⟨y,hy,FX⟩:=g2 n _ (bL ao);rw[hs] at hy;cases hy;exact⟨(VW FX).2,aw4 hσ gA FX (h7 n _ (bL ao)).2⟩
 all_goals cases hr
def aw3 {ver:Nat->Nat}{ob x:Ob}(hr:rU ver is js ob=some x):x≠.tr:=by
 cases ob<;>simp only[rU] at hr
 case row=>cases hr;intro e;cases e
 case mp=>cases hr;intro e;cases e
 case box=>
  simp only[aD] at hr;obtain⟨_,_,rfl⟩:=hr;intro e;cases e
 all_goals cases hr
def CtxOK.noM (h:CtxOK C V):CtxOK C V.noM:=⟨λg x hx=>(h.glob g x hx).noM⟩
def Ig (C:Ctx)(S:St)(O:Env)(V:Im)(hv:Nat->Value)(x:pw)(v:Value)(d:D):Prop:=aI C S O V hv x.1 v d/\∀y,x.2=some y->Rep C.cap V y.1 v (y.2.ev O)
def aa7:∀{acts:List pw} {shs:List Sh} {es:List PE},v7 S is js acts shs=some es->acts.length=shs.length/\es.length=shs.length/\∀(t:Nat) (s:Sh),shs[t]?=some s->∃x e,acts[t]?=some x/\es[t]?=some e/\EX S is js x s=some e
 |[],[],es,h=>by simp only[v7,aZ] at h;subst h;exact⟨rfl,rfl,λt s h=>by simp at h⟩
 |[],_::_,es,h=>by simp[v7] at h
 |_::_,[],es,h=>by simp[v7] at h
 |x::acts,s::shs,es,h=>by
  simp only[v7,aA,aD] at h;obtain⟨e,he,r,hr,rfl⟩:=h;obtain⟨g1,g2,g3⟩:=aa7 hr;refine⟨by simp[g1],by simp[g2],λt s' hs=>?_⟩;cases t with
  |zero=>simp at hs;subst hs;exact⟨x,e,rfl,rfl,he⟩
  |succ t=>simp at hs;simpa using g3 t s' hs
def amR (hσ:Im.leR C.cap V σ1){fE:Nat->Value}(gA:∀i j,cT is js i=some j->fE i=hv j){x:pw}{s:Sh}{e:PE}(hf:EX S is js x s=some e){v:Value}{d:D}(h:Ig C S O V hv x v d):aI C (gE shs obs) ρf σ1 fE s v (e.ev O):=by
 have gen:∀s,(match lJ S.ver is js s with|some y=>bif Sh.beq x.1 y then some (PE.con .none) else none|none=>none)=some e->oO s=false->aI C (gE shs obs) ρf σ1 fE s v (e.ev O):=by
  intro s hm hd;split at hm
  .rename_i y hy;cases hb:Sh.beq x.1 y<;>simp only[hb,zyy,zyx] at hm
   .cases hm
   have h1:=h.1;rw[Sh.beq_eq _ _ hb] at h1;have:=ah8 (shs:=shs) (obs:=obs) (ρf:=ρf) hσ gA hy h1;cases s with
   |dat t=>cases hd
   |opt gs s'=>exact absurd rfl ((VW hy).1 gs s')
   |eptr j ver size off=>simp[lJ] at hy
   |agg l=>simp[lJ] at hy
   |_=>exact this
  .cases hm
 unfold EX at hf;split at hf
 .rename_i t;split at hf
  .rename_i y hy;cases hb:Ty.sub y.1 t<;>simp only[hb,zyy,zyx] at hf
   .cases hf
   cases hf;exact hσ.rep ((h.2 y hy).sub hb)
  .cases hf
 .trivial
 .rename_i mK nF;refine gen _ hf ?_;cases s<;>first|rfl|exact absurd rfl (mK _)
def aly {fE Sa:Nat->Value}{V V':Im}{ρf Of':Env}{args:Nat->Value}{ds ds':Nat->D}(h1:∀(t:Nat) (s:Sh),shs[t]?=some s->aI C (gE shs obs) ρf V fE s (args t) (ds t))(h2:∀(t:Nat) (s:Sh),shs[t]?=some s->oO s=false->aI C (gE shs obs) Of' V' Sa s (args t) (ds' t))
 (hz:∀s,s∈shs->∃x,lJ S.ver is js s=some x) {i:Nat} (hi:i∈qQ shs):Sa i=fE i:=by
 have key:∀(l:List Sh),(∀s,s∈l->∃t:Nat,shs[t]?=some s)->i∈qQ l->Sa i=fE i:=by
  intro l
  induction l with
  |nil=>intro _ h;cases h
  |cons s l ih=>
   intro hl hi;obtain⟨t,ht⟩:=hl s (dS ..);have gQ:∀s,s∈l->∃t:Nat,shs[t]?=some s:=λs hs=>hl s (dK _ hs);obtain⟨x,hx⟩:=hz s (mw ht);have a1:=h1 t s ht;have a2:=h2 t s ht;cases s<;>simp only[qQ] at hi
   case obj j ver=>
        simp only[lJ] at hx;cases hb:Nat.beq ver 0<;>simp only[hb,zyy,zyx] at hx
        .cases hx
        rcases cQ.1 hi with e|e
        .subst e;rw[<-(a1.2 (aE hb)),<-((a2 rfl).2 (aE hb))]
        .exact ih gQ e
   case ptr j ver off=>
        simp only[lJ] at hx;cases hb:Nat.beq ver 0<;>simp only[hb,zyy,zyx] at hx
        .cases hx
        rcases cQ.1 hi with e|e
        .subst e;obtain⟨k1,e1,e2⟩:=a1.2 (aE hb);obtain⟨k2,e3,e4⟩:=(a2 rfl).2 (aE hb);rw[e2] at e4;cases e4;rw[e1,e3]
        .exact ih gQ e
   case fclo f caps=>
        simp only[lJ,aD] at hx;obtain⟨c,hc,_⟩:=hx;obtain⟨_,g2⟩:=NJ hc;rcases dR.1 hi with e|e
        .obtain⟨y,hy,e1⟩:=fq.1 e;subst e1;obtain⟨m,hm⟩:=Al hy;obtain⟨vs,b1,b2,b3⟩:=a1;obtain⟨DL,c1,c2,c3⟩:=a2 rfl;rw[b1] at c1;have jm:vs=DL:=by simpa using c1
         subst jm;obtain⟨_,_,_,Co⟩:=g2 m y.1 y.2 hm;rw[<-(b3 m y.1 y.2 hm).2 Co,<-(c3 m y.1 y.2 hm).2 Co]
        .exact ih gQ e
   all_goals exact ih gQ hi
 exact key shs (λs hs=>Al hs) hi
end
section
variable {C:Ctx} {S:St} {O:Env} {V:Im} {own:Nat->Option Nat} {hv:Nat->Value} {w0:World} {σ0:Base} {A:Nat->Prop} {a:Act} {w:World} {Z:aW} {dst:Nat}
 {is js:List Nat} {shs:List Sh} {obs:List (Nat×Ob)}
def Below.weak {B:Nat}{w w':World}(h:Below 0 w w')(hk:∀k,k<B->w'.heap[k]?=w.heap[k]?):Below B w w':=⟨h.os,h.tape,h.output,h.size,hk⟩
def qj (js is:List Nat)(own:Nat->Option Nat):Nat->Option Nat:=λk=>(own k).bind (cT js is)
def Gz (js is:List Nat)(own own':Nat->Option Nat):Nat->Option Nat:=λk=>
 match own' k with
 |some i=>cT is js i
 |none=>match own k with|some j=>(match cT js is j with|some _=>none|none=>some j)|none=>none
def handed (h:Inv C S O V own hv w0 σ0 A a w)(hC:CtxOK C σ0)(aqy:zr shs obs=true)(Fy:is=obs.map (·.1))(acm:is.Nodup)(LA:js.Nodup)(yK:sK S is js obs js=true){acts:List pw}{es:List PE}(kh:v7 S is js acts shs=some es)
 (Lf:S.o jv=.dead) (LP:jv∉js) {vals:List Value} (hvl:vals.length=acts.length) (aoW:∀(t:Nat) (x:pw),acts[t]?=some x->∃d,Ig C S O V hv x (vals.getD t undef) d) {f:Nat} {res:Ty} {d:D}
 (hfn:vH C f shs obs res (es.map (PE.ev O)++js.map O.o) d):
 Calls C.P f vals.toArray w λe w'=>∃v dr os,e=.returned v/\d=.tup (dr::os)/\os.length=js.length/\
  ∀O':Env,O'.r=O.r->(∀(k j:Nat),js[k]?=some j->O'.o j=os.getD k .none)->(∀j,j∉js->j≠jv->O'.o j=O.o j)->
   ∃σ1 dD aY,Inv C (S.handed shs obs is js) O' σ1 dD aY w0 σ0 A a w'/\Rep C.cap σ1 res v dr:=by
 obtain⟨al1,al2,jG⟩:=aa7 kh;have gO:=aa9 yK;have wH:w0.heap.size<=w.heap.size:=h.below.size;obtain⟨tr,fx,cx,hf,uM⟩:=h.frame
 let fE:Nat->Value:=λi=>match cT is js i with|some j=>hv j|none=>undef
 have gA:∀i j,cT is js i=some j->fE i=hv j:=λi j e=>by simp only[fE,e]
 have aca:Im.leR C.cap V V.noM:=⟨Rep.noM,λ_ _ _ e=>e⟩
 have FH:∀k x,V.noM.m k=some x->V.m k=some x/\x≠dg:=by
  intro k x e;by_cases hd:V.m k=some dg
  .simp[Im.noM,hd] at e
  .simp only[Im.noM,if_neg hd] at e;exact⟨e,λe2=>hd (by rw[e,e2])⟩
 have yF:(es.map (PE.ev O)++js.map O.o).drop shs.length=js.map O.o:=by rw[List.drop_append];simp[al2]
 have apE:∀t e,es[t]?=some e->(es.map (PE.ev O)++js.map O.o).getD t .none=e.ev O:=λt e he=>by
  have ao:=(fo.1 he).1;rw[aL,lP (by simpa using ao),cM,he];rfl
 have aqJ:∀s,s∈shs->∃x,lJ S.ver is js s=some x:=by
  intro s hs;obtain⟨t,ht⟩:=Al hs;obtain⟨x,e,_,_,he⟩:=jG t s ht;unfold EX at he;split at he
  .exact⟨_,rfl⟩
  .exact⟨_,rfl⟩
  .split at he
   .rename_i y hy;exact⟨y,hy⟩
   .cases he
 have ab5:∀t,aI C (gE shs obs) (nM obs (es.map (PE.ev O)++js.map O.o) ((es.map (PE.ev O)++js.map O.o).drop shs.length)) V.noM fE (shs.getD t .none) (vals.toArray.getD t undef) ((es.map (PE.ev O)++js.map O.o).getD t .none):=by
  intro t;cases hs:shs[t]? with
  |none=>rw[aL,hs];trivial
  |some s=>
   obtain⟨x,e,hx,he,Li⟩:=jG t s hs;obtain⟨d',aoX⟩:=aoW t x hx;rw[aL (l:=shs),hs,apE t e he];have e1:vals.toArray.getD t undef=vals.getD t undef:=by simp[eG,aL]
   rw[e1];exact amR aca gA Li aoX
 have apN:∀i,cI C (gE shs obs) (nM obs (es.map (PE.ev O)++js.map O.o) ((es.map (PE.ev O)++js.map O.o).drop shs.length)) V.noM (qj js is own) fE w w0.heap.size i (eU obs i):=by
  intro i;cases dt:cT is js i with
  |none=>subst Fy;rw[adF gO dt];trivial
  |some j=>
   subst Fy;obtain⟨x,hx,Ll⟩:=aa8 yK dt;refine aun aca gA (λk j' i' hk hl=>by simp only[qj,hk,lb,hl]) LA dt ?_ hx Ll (h.objs j);show oR obs _ i=_;rw[yF];exact arX obs O.o rfl dt
 have q9:=hfn w0.heap.size V.noM (qj js is own) fE w vals.toArray (λk=>(∃j,own k=some j/\cT js is j=none)\/V.m k=some dg\/(cx k)) aqy ⟨h.ok.c,λk x e=>h.ok.m k x (FH k x e).1⟩ ((hC.mono h.le).noM)
  (λk e=>(FH k _ e).2 rfl) wH (by simp;omega) (λk i hk=>by
    simp only[qj,aA] at hk;obtain⟨j,hj,_⟩:=hk;obtain⟨g1,g2,g3,g4⟩:=h.owns k j hj;exact⟨g1,g2,g3,by by_cases e:V.m k=some dg<;>simp[Im.noM,e,g4]⟩) (λk hk=>by
    rcases hk with⟨j,hj,hn⟩|hk|hk
    .obtain⟨g1,g2,g3,g4⟩:=h.owns k j hj;exact⟨g2,by simp[qj,hj,hn],g3,by by_cases e:V.m k=some dg<;>simp[Im.noM,e,g4]⟩
    .have FF:=h.ok.m k _ hk;have hn:own k=none:=by
      cases e:own k with
      |none=>rfl
      |some j=>rw[(h.owns k j e).2.2.2] at hk;cases hk
     refine⟨FF.lt,by simp[qj,hn],λo=>?_,by simp[Im.noM,hk]⟩;cases e:V.c k o with
     |none=>exact e
     |some x=>
      have c1:=h.ok.c k o x e;rcases FF with⟨m1,_⟩|⟨_,m2⟩
      .exact absurd rfl m1
      .simp[World.cell?,m2] at c1
    .have lZ:=σ0.sub _ _ _ _ hf.F k hk;have hn:own k=none:=by
      cases e:own k with
      |none=>rfl
      |some j=>exact absurd lZ (hf.own k j e)
     refine⟨σ0.lt _ _ _ _ hf.F k lZ,by simp[qj,hn],λo=>?_,?_⟩
     .cases e:V.c k o with
      |none=>exact e
      |some x=>exact absurd hk (hf.c k o x e)
     .cases e:V.m k with
      |none=>simp[Im.noM,e]
      |some x=>exact absurd hk (hf.m k x e)) ab5 apN
 refine q9.mono λe w' hh=>?_;obtain⟨v,V',own',hv',dr,os,rfl,hd,LJ,hle,aC,hb,jj,dh,cS,Lz,acw,yQ,RE,gy⟩:=hh;refine⟨v,dr,os,rfl,hd,by omega,λO' jN nG y1=>?_⟩;have LG:∀k,k<w.heap.size->own k=none->w'.heap[k]?=w.heap[k]?:=λk hk hn=>jj k hk (by simp[qj,hn]);have aqt:∀k j,own k=some j->cT js is j=none->w'.heap[k]?=w.heap[k]?:=λk j hk hn=>jj k (h.owns k j hk).2.1 (by simp[qj,hk,hn])
 have api:∀k o x,V.c k o=some x->own k=none:=λk o x e=>by
  cases e1:own k with
  |none=>rfl
  |some j=>rw[(h.owns k j e1).2.2.1 o] at e;cases e
 have aci:∀k x,V.m k=some x->own k=none:=λk x e=>by
  cases e1:own k with
  |none=>rfl
  |some j=>rw[(h.owns k j e1).2.2.2] at e;cases e
 have LI:V.ok w':=⟨λk o x e=>by rw[World.cell?_of_block (LG k (h.lt e) (api k o x e))];exact h.ok.c k o x e,λk x e=>(h.ok.m k x e).keep (LG k (h.ltm e) (aci k x e))⟩
 have mI:V.le (V'.plus V):=Im.plus_le2 aC LI;have kK:V'.le (V'.plus V):=Im.plus_le1 V' V;have dL:∀k o x,(V'.plus V).c k o=some x->V'.c k o=some x:=λk o x e=>(Im.plus_c e).elim id (λe=>hle.c k o x e)
 have Cc:∀k x,(V'.plus V).m k=some x->V'.m k=some x\/(V.m k=some x/\x=dg):=λk x e=>(Im.plus_m e).elim .inl (λe=>by
  by_cases hd:x=dg
  .exact .inr ⟨e,hd⟩
  .refine .inl (hle.m k x ?_);have:V.m k≠some dg:=λe2=>hd (by rw[e] at e2;cases e2;rfl);simp only[Im.noM,if_neg this,e])
 let aY:Nat->Value:=λj=>match cT js is j with|some i=>hv' i|none=>hv j
 have ard:∀i j,cT is js i=some j->hv' i=aY j:=λi j e=>by simp only[aY,L4 LA e]
 have apo:∀i,i∈qQ shs->hv' i=fE i:=λi hi=>aly (S:=S) (is:=is) (js:=js) (args:=λt=>vals.toArray.getD t undef) (ds:=λt=>(es.map (PE.ev O)++js.map O.o).getD t .none) (ds':=λt=>(es.map (PE.ev O)++js.map O.o).getD t .none) (λt s hs=>by
  have:=ab5 t;rw[aL (l:=shs),hs] at this;exact this) (λt s hs hd=>yQ t s hs hd) aqJ hi
 have sN:Compat S hv (S.handed shs obs is js) aY:=by
  refine⟨λj=>?_,λj e=>?_⟩
  .show S.ver j<=xG S.ver shs is js j;unfold xG;split
   .cases aw (qQ shs) _<;>simp
   .exact bB _
  .change xG S.ver shs is js j=S.ver j at e;show aY j=hv j;simp only[aY];unfold xG at e;split at e
   .rename_i i hi;cases hb:aw (qQ shs) i<;>rw[hb] at e
    .simp at e
    .try simp only[hi]
     rw[apo i (ac0.1 hb),gA i j (L4 acm hi)]
   .rename_i hi;try simp only[hi]
 have oB:∀k j,Gz js is own own' k=some j->(k<w.heap.size->own k≠none)/\w0.heap.size<=k/\k<w'.heap.size/\(∀o,V'.c k o=none)/\V'.m k=none/\V.m k≠some dg:=by
  intro k j hk;simp only[Gz] at hk;split at hk
  .rename_i i hi;obtain⟨g1,g2,g3,g4,g5⟩:=acw k i hi;have g6:k<w.heap.size->own k≠none:=λao e=>g5 ao (by simp[qj,e]);refine⟨g6,g1,g2,g3,g4,λe=>?_⟩;exact g6 (h.ltm e) (aci k _ e)
  .split at hk
   .rename_i j' bR;split at hk
    .cases hk
    .rename_i hn;obtain⟨g1,g2,g3,g4⟩:=h.owns k j' bR;have lY:(∃j,own k=some j/\cT js is j=none)\/V.m k=some dg\/(cx k):=.inl ⟨j',bR,hn⟩;refine⟨λ_ e=>(by rw[bR] at e;cases e),g1,xT g2 hb.size,λo=>?_,?_,λe=>?_⟩
     .cases e:V'.c k o with
      |none=>rfl
      |some x=>exact absurd lY (dh k o x e).2
     .cases e:V'.m k with
      |none=>rfl
      |some x=>exact absurd lY (cS k x e).2
     .rw[g4] at e;cases e
   .cases hk
 refine⟨V'.plus V,Gz js is own own',aY,⟨h.defers.mono mI,Im.plus_ok aC LI,h.le.trans mI,h.old,λk o x e=>?_,λk x e=>?_,h.below.trans (Below.weak hb λk hk=>?_),h.bw,λk j hk=>?_,λt=>?_,λj=>?_,h.opts,?_⟩,gy.mono kK⟩
 .rcases(dh k o x (dL k o x e)).1 with e1|e1
  .exact h.newc k o x e1
  .exact .inr e1
 .rcases Cc k x e with e1|e1
  .rcases(cS k x e1).1 with e2|e2
   .exact h.newm k x (FH k x e2).1
   .exact .inr e2
  .exact h.newm k x e1.1
 .have cn:k<w0.heap.size:=xT hk h.bw;refine LG k (by omega) ?_;cases e:own k with
  |none=>rfl
  |some j=>have:=(h.owns k j e).1;omega
 .obtain⟨_,g1,g2,g3,g4,g5⟩:=oB k j hk;refine⟨g1,g2,λo=>?_,?_⟩
  .cases e:(V'.plus V).c k o with
   |none=>rfl
   |some x=>have:=dL k o x e;rw[g3 o] at this;cases this
  .cases e:(V'.plus V).m k with
   |none=>rfl
   |some x=>
    rcases Cc k x e with e1|e1
    .rw[g4] at e1;cases e1
    .exact absurd (by rw[e1.1,e1.2]) g5
 .show aI C _ O' _ aY (S.r t) _ (O'.r t);rw[jN]
  exact aI.mono mI sN (λgs s e=>by
   unfold holds;rw[jN]) (λgs s e=>(h.opts t gs s e).2) (h.regs t)
 .show cI C _ O' _ _ aY w' _ j (match cT js is j with|some i=>(match rU (xG S.ver shs is js) is js (eU obs i) with|some o=>o|none=>.dead)|none=>S.o j);split
  .rename_i i hi;have dt:=L4 acm hi;split
   .rename_i x hx;refine auo (S1:=S.handed shs obs is js) kK ard (λk i' j' hk hl=>by simp only[Gz,hk,hl]) dt ?_ hx (RE i);subst Fy;obtain⟨k,bq,cn⟩:=ady (os:=os) LJ dt;show O'.o j=oR obs os i;rw[cn];exact nG k j bq
   .trivial
  .rename_i hn
   have Ry:j∉js:=λhm=>by
        obtain⟨k,hk⟩:=Al hm;have ao:k<is.length:=by
         have:=(fo.1 hk).1;rw[Fy,fp];omega
        have:=L3 LA hk (bL ao);rw[hn] at this;cases this
   by_cases Ls:j=jv
   .subst Ls;rw[Lf];trivial
   .refine(h.objs j).mono mI sN (by show aY j=hv j;simp only[aY,hn]) (y1 j Ry Ls) (λk hk=>⟨?_,aqt k j hk hn⟩);have:own' k=none:=by
     cases e:own' k with
     |none=>rfl
     |some i=>exact absurd (by simp[qj,hk,hn]) ((acw k i e).2.2.2.2 (h.owns k j hk).2.1)
    simp only[Gz,this,hk,hn]
 .refine⟨tr,fx,cx,⟨σ0.keep _ _ _ _ _ hf.F hb λk hk=>?_,λk j hk lZ=>?_,λk o x e hc=>?_,λk x e hc=>?_,λk e hB hk=>?_⟩,λj hj=>?_⟩
  .refine LG k (σ0.lt _ _ _ _ hf.F k hk) ?_;cases e:own k with
   |none=>rfl
   |some j=>exact absurd hk (hf.own k j e)
  .have ao:=σ0.lt _ _ _ _ hf.F k lZ;have:=(oB k j hk).1 ao;cases e:own k with
   |none=>exact this e
   |some j'=>exact hf.own k j' e lZ
  .exact(dh k o x (dL k o x e)).2 (.inr (.inr hc))
  .rcases Cc k x e with e1|e1
   .exact(cS k x e1).2 (.inr (.inr hc))
   .exact hf.m k x e1.1 hc
  .rcases Cc k _ e with e1|e1
   .have ao:=σ0.lt _ _ _ _ hf.F k hk;refine Lz k e1 hB ao ?_;have:own k=none:=by
     cases e:own k with
     |none=>rfl
     |some j=>exact absurd hk (hf.own k j e)
    simp[qj,this]
   .exact hf.d k e1.1 hB hk
  .change (match cT js is j with|some i=>(match rU (xG S.ver shs is js) is js (eU obs i) with|some o=>o|none=>.dead)|none=>S.o j)=.tr at hj;split at hj
   .rename_i i hi;split at hj
    .rename_i x hx;exact absurd hj (aw3 hx)
    .cases hj
   .rename_i hn
    have Ry:j∉js:=λhm=>by
     obtain⟨k,hk⟩:=Al hm;have ao:k<is.length:=by
         have:=(fo.1 hk).1;rw[Fy,fp];omega
     have:=L3 LA hk (bL ao);rw[hn] at this;cases this
    have Ls:j≠jv:=λe=>by subst e;rw[Lf] at hj;cases hj
    rw[y1 j Ry Ls];exact uM j hj
def aiu:∀(js:List Nat) (k:Nat) {O O':Env} {l:List D},PI.runs Z (H0 js k) O=some O'->O.o jv=.tup l->jv∉js->js.Nodup->
 O'.r=O.r/\(∀(i j:Nat),js[i]?=some j->O'.o j=l.getD (k+i) .none)/\∀j,j∉js->O'.o j=O.o j
 |[],k,O,O',l,h,hs,hn,hd=>by
  simp only[H0,PI.runs,aZ] at h;subst h;exact⟨rfl,λi j e=>by simp at e,λ_ _=>rfl⟩
 |x::js,k,O,O',l,h,hs,hn,hd=>by
  simp only[H0,PI.runs,PI.run,lb,PE.ev,hs,D.tget] at h;simp only[cQ,not_or] at hn;have fU:=oh.1 hd;obtain⟨g1,g2,g3⟩:=aiu js (k+1) h (by simp only[Env.setO];rw[bF _ _ hn.1];exact hs) hn.2 fU.2;refine⟨g1,λi j e=>?_,λj hj=>?_⟩
  .cases i with
   |zero=>simp at e;subst e;rw[g3 _ fU.1];simp[Env.setO,aP]
   |succ i=>simp at e;rw[g2 i j e];congr 1;omega
  .simp only[cQ,not_or] at hj;rw[g3 j hj.2];simp only[Env.setO];exact bF _ _ hj.1
def akd (h:Inv C S O V own hv w0 σ0 A a w)(hC:CtxOK C σ0)(x:Operand):∃d,Ig C S O V hv (Iw C S x) (a.eval x) d:=by
 cases x with
 |tmp t=>
  refine⟨O.r t,?_,λy hy=>cL (gs:=[]) h hC rfl hy⟩;have:=(nV (gs:=[]) h rfl t).1;simpa [Act.eval,Iw,fJ] using this
 |_=>exact⟨.none,trivial,λy hy=>cL (gs:=[]) h hC rfl hy⟩
def aaJ (h:Inv C S O V own hv w0 σ0 A a w)(hC:CtxOK C σ0)(hΦ:dw C Z){f:Nat}{args:List Operand}{caps:List (Nat×Nat)}{vs:List Value}(jm:vs.length=caps.length)
 (gM:∀(i j ver:Nat),caps[i]?=some (j,ver)->ver<=S.ver j/\(ver=S.ver j->vs.getD i undef=hv j)) (ao8:∀(i j ver:Nat),caps[i]?=some (j,ver)->ver=S.ver j->∃k,hv j=.pointer (some ⟨k,0,none⟩)) {r:St×Ty×List PI} (hr:sH C S f args caps=some r)
 {ρ1:Env} (ar:PI.runs Z r.2.2 O=some ρ1):
 Calls C.P f (args.map a.eval++vs).toArray w λe w'=>∃v σ1 dD aY,e=.returned v/\Inv C r.1 ρ1 σ1 dD aY w0 σ0 A a w'/\Rep C.cap σ1 r.2.1 v ((ρ1.o jv).tget 0):=by
 simp only[sH,aA] at hr;obtain⟨s,hs,hr⟩:=hr;split at hr
 case h_2=>cases hr
 rename_i shs obs l5;obtain⟨σ2,jS,kK,h2⟩:=Inv.fzs (BT S args shs) h;have dO:=(pO (BT S args shs) S).1;generalize S.fzs (BT S args shs)=S2 at hr h2 dO;unfold Ql Qk at hr;generalize aa2 S2 shs obs (args.map (Iw C S2)++caps.map aap)=js at hr;simp only[aA] at hr;obtain⟨es,kh,hr⟩:=hr;cases hb:(zr shs obs&&(iu (obs.map (·.1))&&iu js&&sK S2 (obs.map (·.1)) js obs js&&p9 (S2.o jv)&& !aw js jv))<;>simp only[hb,zyy,zyx] at hr
 .cases hr
 cases hr;simp only[av,jb] at hb;obtain⟨b0,⟨⟨⟨b1,b2⟩,b3⟩,b4⟩,b5⟩:=hb;have mK:=nL b1;have nF:=nL b2;have Lf:S2.o jv=.dead:=by
  cases e:S2.o jv<;>rw[e] at b4<;>first|rfl|cases b4
 have LP:jv∉js:=λhm=>by rw[ac0.2 hm] at b5;cases b5
 simp only[PI.runs,PI.run,aA,aD] at ar;obtain⟨O2,⟨d,hd,rfl⟩,ar⟩:=ar;rw[PE.evs_eq,sr,OD] at hd;have e1:js.map (PE.ev O∘PE.o)=js.map O.o:=rfl;rw[e1] at hd;have hfn:=((hΦ f _ d hd s hs).2 shs obs l5).plain b0
 have q9:=handed h2 hC b0 rfl mK nF b3 kh Lf LP (vals:=args.map a.eval++vs) (by simp[jm]) (λt x hx=>by
  rw[np] at hx;split at hx
  .rename_i ao;rw[fp] at ao;rw[cM,bL ao] at hx;cases hx;have:(args.map a.eval++vs).getD t undef=a.eval args[t]:=by
        rw[aL,lP (by simpa using ao),cM,bL ao];rfl
   rw[this];exact akd h2 hC _
  .rename_i fV;rw[fp] at fV hx;rw[cM,aD] at hx;obtain⟨c,hc,rfl⟩:=hx;obtain⟨j,ver⟩:=c;have cK:(args.map a.eval++vs).getD t undef=vs.getD (t-args.length) undef:=by
        rw[aL,mu (by simpa using fV),fp,aL]
   obtain⟨g1,g2⟩:=gM _ j ver hc;refine⟨.none,⟨by rw[dO];exact g1,λe=>?_⟩,λy hy=>by cases hy⟩;rw[dO] at e;obtain⟨k,hk⟩:=ao8 _ j ver hc e;exact⟨k,hk,by rw[cK,g2 e,hk]⟩) (hfn:=hfn)
 refine q9.mono λe w' hh=>?_;obtain⟨v,dr,os,rfl,rfl,LJ,mF⟩:=hh;obtain⟨g1,g2,g3⟩:=aiu js 1 (l:=dr::os) ar (by simp[Env.setO,aP]) LP nF
 obtain⟨σ1,dD,aY,hinv,cw⟩:=mF ρ1 g1 (λk j hk=>by
  have:=g2 k j hk;rw[D0] at this;simpa using this) (λj hj aF=>by rw[g3 j hj];simp only[Env.setO];exact bF _ _ aF)
 refine⟨v,σ1,dD,aY,rfl,hinv,?_⟩;rw[g3 jv LP];simpa [Env.setO,aP,D.tget] using cw
def rC (S:St)(dst:Option Nat)(r:St×Ty×List PI):St×List PI:=
 match dst with
 |some d=>(r.1.setR d (.dat r.2.1),r.2.2++[.setR d (.tget (.o jv) 0)])
 |none=>(r.1,r.2.2)
def axk {a b:List PI}{O:Env}:PI.runs Z (a++b) O=(PI.runs Z a O).bind (PI.runs Z b):=by
 induction a generalizing O with
 |nil=>simp[PI.runs]
 |cons x a ih=>
  simp only[Io,PI.runs];cases x.run Z O with
  |none=>rfl
  |some ρ1=>simp[ih]
def aam {o:Oper}{f:Nat}{vals:List Value}(ht:∀d,o.dst=some d->¬A d/\d<a.tmps.size){r:St×Ty×List PI}(hx:(execOp a.eval o).run C.P w=.ok (.enter f vals.toArray) w)
 (hc:∀ρ1,PI.runs Z r.2.2 O=some ρ1->Calls C.P f vals.toArray w λe w'=>∃v σ1 dD aY,e=.returned v/\Inv C r.1 ρ1 σ1 dD aY w0 σ0 A a w'/\Rep C.cap σ1 r.2.1 v ((ρ1.o jv).tget 0)):ct C w0 σ0 Z S O A a w o (rC S o.dst r):=by
 intro O' ar K Q hK;simp only[Oper.wp,hx,Oper.upon];cases hd:o.dst with
 |none=>
  rw[hd] at ar hK;refine(hc O' ar).mono λe w' hh=>?_;obtain⟨v,σ1,dD,aY,rfl,hinv,cw⟩:=hh;refine hK _ _ ⟨σ1,dD,aY,?_⟩ rfl;have:(λu=>A u\/(none:Option Nat)=some u)=A:=by funext u;simp
  rw[this];exact hinv
 |some d=>
  rw[hd] at ar hK;obtain⟨t1,t2⟩:=ht d hd;simp only[rC,axk,aA] at ar;obtain⟨ρ1,h1,h2⟩:=ar;simp[PI.runs,PI.run,PE.ev] at h2;subst h2;refine(hc ρ1 h1).mono λe w' hh=>?_;obtain⟨v,σ1,dD,aY,rfl,hinv,cw⟩:=hh;refine hK _ _ ⟨σ1,dD,aY,?_⟩ (size_put _ _ _);have:(λu=>A u\/some d=some u)=(λu=>A u\/u=d):=by funext u;simp[eq_comm]
  rw[this];exact hinv.setReg t1 (s:=.dat r.2.1) cw t2 (λ_ _ e=>by cases e)
def aaK (h:Inv C S O V own hv w0 σ0 A a w)(hC:CtxOK C σ0)(bo:dJ C)(hΦ:dw C Z){f:Nat}{args:Array Operand}{ts:Array TypeId}{r:St×Ty×List PI}{o:Oper}(ht:∀d,o.dst=some d->¬A d/\d<a.tmps.size)
 (hr:sH C S f args.toList []=some r) (ho:o.op=.call {callee:=.value (.func f),args:=args,argTypes:=ts}):ct C w0 σ0 Z S O A a w o (rC S o.dst r):=by
 have hs:∃s,C.sig f=some s:=by
  simp only[sH,aA] at hr;obtain⟨s,hs,_⟩:=hr;exact⟨s,hs⟩
 obtain⟨s,hs⟩:=hs;have hx:=HW (a:=a) (w:=w) bo hs ho;have kO:args.map a.eval=(args.toList.map a.eval++[]).toArray:=by apply tN;simp
 rw[kO] at hx;exact aam ht hx λρ1 ar=>aaJ h hC hΦ (vs:=[]) rfl (λi j ver e=>by simp at e) (λi j ver e=>by simp at e) hr ar
def At (S:St):List (Nat×Nat)->Bool
 |[]=>true
 |c::l=>Nat.beq c.2 (S.ver c.1)&&(match S.o c.1 with|.box ..=>true|_=>false)&&At S l
def aar (h:Inv C S O V own hv w0 σ0 A a w):∀{l:List (Nat×Nat)},At S l=true->∀(i j ver:Nat),l[i]?=some (j,ver)->ver=S.ver j/\∃k,hv j=.pointer (some ⟨k,0,none⟩)
 |[],_,i,j,ver,e=>by simp at e
 |c::l,hl,i,j,ver,e=>by
  simp only[At,av] at hl;cases i with
  |zero=>
   simp at e;subst e;refine⟨aE hl.1.1,?_⟩;have h1:=hl.1.2;have h2:=h.objs j;split at h1
   .rename_i ag shs eo;simp only at eo;rw[eo] at h2;obtain⟨k,cs,T,ds,g1,_⟩:=h2;exact⟨k,g1⟩
   .cases h1
  |succ i=>simp at e;exact aar h hl.2 i j ver e
def BK (C:Ctx)(S:St)(t:Nat)(args:List Operand):Option (St×Ty×List PI):=
 match lK S [] t with
 |.fclo f caps=>bif At S caps then sH C S f args caps else none
 |_=>none
def aaI (h:Inv C S O V own hv w0 σ0 A a w)(hC:CtxOK C σ0)(bo:dJ C)(hΦ:dw C Z){t:Nat}{args:Array Operand}{ts:Array TypeId}{r:St×Ty×List PI}{o:Oper}(ht:∀d,o.dst=some d->¬A d/\d<a.tmps.size)
 (hr:BK C S t args.toList=some r) (ho:o.op=.call {callee:=.value (.tmp t),args:=args,argTypes:=ts}):ct C w0 σ0 Z S O A a w o (rC S o.dst r):=by
 unfold BK at hr;split at hr
 case h_2=>cases hr
 rename_i f caps gz;cases hb:At S caps<;>simp only[hb,zyy,zyx] at hr
 .cases hr
 have gS:=(nV (gs:=[]) h rfl t).1;rw[gz] at gS;obtain⟨vs,h1,h2,h3⟩:=gS;have hs:∃s,C.sig f=some s:=by
  simp only[sH,aA] at hr;obtain⟨s,hs,_⟩:=hr;exact⟨s,hs⟩
 obtain⟨s,hs⟩:=hs;have hx:=aim (a:=a) (w:=w) (vs:=vs) (x:=.tmp t) bo hs (by simpa [Act.eval] using h1) ho;have kO:args.map a.eval++vs.toArray=(args.toList.map a.eval++vs).toArray:=by apply tN;simp
 rw[kO] at hx;exact aam ht hx λρ1 ar=>aaJ h hC hΦ h2 h3 (λi j ver e _=>(aar h hb i j ver e).2) hr ar
def En (S:St):List Operand->Option (List (Nat×Nat))
 |[]=>some []
 |x::xs=>
  match x with
  |.tmp t=>
   match lK S [] t with
   |.ptr j ver off=>bif Nat.beq ver (S.ver j)&&Nat.beq off 0 then(En S xs).map λr=>(j,ver)::r else none
   |_=>none
  |_=>none
def EK (C:Ctx)(S:St)(dst:Nat)(fn:Fn)(first caps:Array Operand):Option (St×List PI):=
 match fn,first.toList with
 |.func f,[]=>
  match C.sig f with
  |some s=>bif rv s.mode then(En S caps.toList).map λc=>(S.setR dst (.fclo f c),[.setR dst (.con .none)]) else none
  |none=>none
 |_,_=>none
def aas (h:Inv C S O V own hv w0 σ0 A a w):∀{l:List Operand} {c:List (Nat×Nat)},En S l=some c->c.length=l.length/\∀(i j ver:Nat),c[i]?=some (j,ver)->ver<=S.ver j/\(ver=S.ver j->(l.map a.eval).getD i undef=hv j)
 |[],c,e=>by simp only[En,aZ] at e;subst e;exact⟨rfl,λi j ver e=>by simp at e⟩
 |x::xs,c,e=>by
  simp only[En] at e;split at e
  case h_2=>cases e
  rename_i t;split at e
  case h_2=>cases e
  rename_i j ver off gz;cases hb:(Nat.beq ver (S.ver j)&&Nat.beq off 0)<;>simp only[hb,zyy,zyx] at e
  .cases e
  simp only[av] at hb;simp only[aD] at e;obtain⟨r,hr,rfl⟩:=e;obtain⟨g1,g2⟩:=aas h hr;have gS:=(nV (gs:=[]) h rfl t).1;rw[gz] at gS;refine⟨by simp[g1],λi j' nZ e=>?_⟩;cases i with
  |zero=>
   simp at e;obtain⟨rfl,rfl⟩:=e;refine⟨gS.1,λe=>?_⟩;obtain⟨k,k1,k2⟩:=gS.2 e;have e0:off=0:=aE hb.2;subst e0;rw[k1,<-k2];simp[Act.eval]
  |succ i=>simp at e;simpa using g2 i j' nZ e
def al8 (h:Inv C S O V own hv w0 σ0 A a w)(ht:¬A dst)(ao:dst<a.tmps.size){fn:Fn}{first caps:Array Operand}{r:St×List PI}{o:Oper}(hr:EK C S dst fn first caps=some r)(hd:o.dst=some dst)(ho:o.op=.makeFunc fn first caps):ct C w0 σ0 Z S O A a w o r:=by
 unfold EK at hr;split at hr
 case h_2=>cases hr
 rename_i f yJ;split at hr
 case h_2=>cases hr
 rename_i s hs;cases hb:rv s.mode<;>simp only[hb,zyy,zyx] at hr
 .cases hr
 simp only[aD] at hr;obtain⟨c,hc,rfl⟩:=hr;obtain⟨g1,g2⟩:=aas h hc;have uB:first=#[]:=by rw[<-vG];simpa using yJ
 refine ct.value hd λO' ar=>⟨.func (.func f) #[] (caps.toList.map a.eval).toArray,w,?_,?_⟩
 .subst uB;have e9:caps.map a.eval=(caps.toList.map a.eval).toArray:=by apply tN;rw[xJ]
  simp[execOp,ho,Instr.makeFunc,e9]
 .have hρ:O'=O.setR dst .none:=by simp[PI.runs,PI.run,PE.ev] at ar;exact ar.symm
  subst hρ;exact⟨_,_,_,h.setReg ht (s:=.fclo f c) ⟨_,rfl,by simp[g1],g2⟩ ao (λ_ _ e=>by cases e)⟩
end
end Cx
