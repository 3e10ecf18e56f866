/-
  Calls.
-/
import Derived.Test.YtefchokhgdmamaaGreatDoorMAC
set_option linter.defProp false
set_option linter.unusedSimpArgs false
set_option linter.unusedVariables false
noncomputable section
namespace Cx
open Go Go.RowKit
open Classical in
def Im.noM (V:Im):Im:=⟨V.c,λk=>if V.m k=some dw then none else V.m k⟩
def Rep.noM {cap:Nat->Option CSig}{V:Im}{t:Ty}{v:Value}{d:D}(h:Rep cap V t v d):Rep cap V.noM t v d:=by
 induction h with
 |int k n h1 h2=>exact .int k n h1 h2
 |bool b=>exact .bool b
 |str s h=>exact .str s h
 |agg ts vs ds h1 h2 _ ho ih=>exact .agg ts vs ds h1 h2 ih ho
 |tup ts vs ds h1 h2 _ ih=>exact .tup ts vs ds h1 h2 ih
 |nil e=>exact .nil e
 |emp e a=>exact .emp e a
 |nils e=>exact .nils e
 |nsl0 e=>exact .nsl0 e
 |nsl e k o n c xs _ hx ih=>exact .nsl e k o n c xs ih hx
 |slice e k o n c xs vs hn hc hm _ hv ih=>exact .slice e k o n c xs vs hn hc hm ih hv
 |mapnil kt et=>exact .mapnil kt et
 |map kt et r kB es hm hl hx hk _ lC Fy=>
  refine .map kt et r kB es ?_ hl hx lC Fy;have aB:V.m r≠some dw:=λe=>by rw[hm] at e;cases e;exact FN hl hk rfl
  simp only[Im.noM,if_neg aB,hm]
 |ref t k o v d _ hv ih=>exact .ref t k o v d ih hv
 |fn f cs vs ds hc h1 h2 _ ih=>exact .fn f cs vs ds hc h1 h2 ih
 |fnnil aa r=>exact .fnnil aa r
def Im.plus (V τ:Im):Im:=⟨λk o=>(V.c k o).or (τ.c k o),λk=>(V.m k).or (τ.m k)⟩
def Im.plus_le1 (V τ:Im):V.le (V.plus τ):=⟨λk o v h=>by simp[Im.plus,h],λk v h=>by simp[Im.plus,h]⟩
def sw.det {w:World}{k:Nat}{x y:List (Value×Value)}(h:sw w k x)(g:sw w k y):x=y:=by
 rcases h with⟨_,a,c,h1,h2⟩|⟨h1,h2⟩<;>rcases g with⟨_,a',c',g1,g2⟩|⟨g1,g2⟩
 .rw[h1] at g1;cases g1;rw[<-h2,<-g2]
 .rw[h1] at g2;cases g2
 .rw[h2] at g1;cases g1
 .rw[h1,g1]
def Im.plus_le2 {V τ:Im}{w:World}(h:V.ok w)(g:τ.ok w):τ.le (V.plus τ):=by
 refine⟨λk o v e=>?_,λk v e=>?_⟩
 .show(V.c k o).or (τ.c k o)=some v;cases hc:V.c k o with
  |none=>simpa using e
  |some u=>have:=(h.c k o u hc).symm.trans (g.c k o v e);simpa using this
 .show(V.m k).or (τ.m k)=some v;cases hc:V.m k with
  |none=>simpa using e
  |some u=>simpa using(h.m k u hc).det (g.m k v e)
def Im.plus_ok {V τ:Im}{w:World}(h:V.ok w)(g:τ.ok w):(V.plus τ).ok w:=by
 refine⟨λk o v e=>?_,λk v e=>?_⟩
 .change (V.c k o).or (τ.c k o)=some v at e;cases hc:V.c k o with
  |none=>rw[hc] at e;exact g.c k o v (by simpa using e)
  |some u=>rw[hc] at e;simp at e;subst e;exact h.c k o u hc
 .change (V.m k).or (τ.m k)=some v at e;cases hc:V.m k with
  |none=>rw[hc] at e;exact g.m k v (by simpa using e)
  |some u=>rw[hc] at e;simp at e;subst e;exact h.m k u hc
def Im.plus_c {V τ:Im}{k o:Nat}{v:Value}(h:(V.plus τ).c k o=some v):V.c k o=some v\/τ.c k o=some v:=by
 change (V.c k o).or (τ.c k o)=some v at h;cases hc:V.c k o with
 |none=>rw[hc] at h;exact .inr (by simpa using h)
 |some u=>rw[hc] at h;exact .inl (by simpa using h)
def Im.plus_m {V τ:Im}{k:Nat}{v:List (Value×Value)}(h:(V.plus τ).m k=some v):V.m k=some v\/τ.m k=some v:=by
 change (V.m k).or (τ.m k)=some v at h;cases hc:V.m k with
 |none=>rw[hc] at h;exact .inr (by simpa using h)
 |some u=>rw[hc] at h;exact .inl (by simpa using h)
def Ty.pureT:Ty->Bool
 |.int _|.bool|.str|.nils _=>true
 |_=>false
def Ty.pure:Ty->Bool
 |.tup ts=>ts.all Ty.pureT
 |.agg ts=>ts.all Ty.pureT
 |t=>Ty.pureT t
def Rep.pureT {cap:Nat->Option CSig}{V τ:Im}{t:Ty}{v:Value}{d:D}(h:Rep cap V t v d)(hp:t.pureT=true):Rep cap τ t v d:=by
 cases h<;>simp[Ty.pureT] at hp<;>constructor<;>assumption
def Rep.pure {cap:Nat->Option CSig}{V τ:Im}{t:Ty}{v:Value}{d:D}(h:Rep cap V t v d)(hp:t.pure=true):Rep cap τ t v d:=by
 cases h with
 |agg ts vs ds h1 h2 h ho=>exact .agg ts vs ds h1 h2 (λi t hi=>(h i t hi).pureT (bJ.1 hp t (lf hi))) ho
 |tup ts vs ds h1 h2 h=>exact .tup ts vs ds h1 h2 (λi t hi=>(h i t hi).pureT (bJ.1 hp t (lf hi)))
 |int k n h1 h2=>exact .int k n h1 h2
 |bool b=>exact .bool b
 |str s h=>exact .str s h
 |nils e=>exact .nils e
 |_=>simp[Ty.pure,Ty.pureT] at hp
def XW (C:Ctx)(V':Im)(B:Nat)(w':World)(ow:Nat->Option Nat)(i:Nat):RC->Value->D->Prop
 |.dat t,v,d=>t.one=true/\Rep C.cap V' t v d
 |.row T e,v,d=>∃cells xs,d=.list xs/\w'.ownsRow B T e.size v xs.length cells/\fl C.cap V' e cells xs/\∀k,v.ownBlock=some k->ow k=some i
def nk (C:Ctx)(s:Sig)(V':Im)(w w':World)(v:Value)(d:D):Prop:=
 match s.mode with
 |.dat=>Rep C.cap V' s.res v d
 |.it _=>True
 |.ob ..=>True
 |.rows l=>∃(vs:List Value) (ds:List D) (ow:Nat->Option Nat),v=.agg vs.toArray/\d=.agg ds/\vs.length=l.length/\ds.length=l.length/\(∀(i:Nat) (c:RC),l[i]?=some c->XW C V' w.heap.size w' ow i c (vs.getD i undef) (ds.getD i .none))/\
   ∀k i,ow k=some i->w.heap.size<=k/\k<w'.heap.size/\(∀o,V'.c k o=none)/\V'.m k=none
 |.row T e=>∃cells xs,d=.list xs/\w'.ownsRow w.heap.size T e.size v xs.length cells/\fl C.cap V' e cells xs/\∀k,v.ownBlock=some k->(∀o,V'.c k o=none)/\V'.m k=none
def rE (C:Ctx)(V:Im)(ts:List Ty)(args:List Value)(ds:List D):Prop:=
 args.length=ts.length/\ds.length=ts.length/\∀(i:Nat) (t:Ty),ts[i]?=some t->Rep C.cap V t (args.getD i undef) (ds.getD i .none)
def jA (C:Ctx)(f:Nat)(s:Sig)(ds:List D)(d:D):Prop:=
 ∀(V:Im) (w:World) (args:Array Value),V.ok w->CtxOK C V->rE C V s.args args.toList ds->
  Calls C.P f args w λe w'=>∃v V',e=.returned v/\V.le V'/\V'.ok w'/\Below w.heap.size w w'/\
   (∀k o x,V'.c k o=some x->V.c k o=some x\/w.heap.size<=k)/\(∀k x,V'.m k=some x->V.m k=some x\/w.heap.size<=k)/\nk C s V' w w' v d
def fh:List (Nat×Ob)->Nat->Ob
 |[],_=>.dead
 |x::l,j=>bif Nat.beq x.1 j then x.2 else fh l j
def oM:List (Nat×Ob)->List D->Nat->D
 |x::l,d::ds,j=>bif Nat.beq x.1 j then d else oM l ds j
 |_,_,_=>.none
def gO (shs:List Sh)(obs:List (Nat×Ob)):St:=⟨λt=>shs.getD t .none,λj=>fh obs j,λ_=>0⟩
def nK (obs:List (Nat×Ob))(ds os:List D):Env:=⟨λt=>ds.getD t .none,λj=>oM obs os j⟩
def oJ:Sh->Bool
 |.dat _=>true
 |_=>false
def qX:Mode->Bool
 |.ob ..=>true
 |_=>false
def uM:Sh->Bool
 |.none|.dat _|.obj ..|.ptr ..|.fclo ..=>true
 |_=>false
def L2:Ob->Bool
 |.row ..|.mp ..=>true
 |.box _ shs=>shs.all uM
 |_=>false
def y5 (shs:List Sh)(obs:List (Nat×Ob)):Bool:=shs.all uM&&obs.all λx=>L2 x.2
def LB:List Sh->List (Nat×Ob)->Option (TypeId×Ty×List Ty)
 |.obj 0 0::l,[(0,.row T e),(1,.tr)]=>(YM l).map λts=>(T,e,ts)
 |_,_=>none
def Df (C:Ctx)(f:Nat)(T:TypeId)(e:Ty)(ts:List Ty)(ds:List D)(d:D):Prop:=
 ∀(N:Nat) (V:Im) (w:World) (v:Value) (args:List Value) (xs:List D) (cells:List Value) (ds':List D),ds=.list xs::ds'->V.ok w->CtxOK C V->N<=w.heap.size->w.ownsRow N T e.size v xs.length cells->fl C.cap V e cells xs->
  (∀k,v.ownBlock=some k->k<w.heap.size/\(∀o,V.c k o=none)/\V.m k=none)->rE C V ts args ds'->
  Calls C.P f (v::args).toArray w λx w'=>∃v' lQ dK,x=.returned v'/\d=.list lQ/\Below N w w'/\(∀k,k<w.heap.size->v.ownBlock≠some k->w'.heap[k]?=w.heap[k]?)/\
   w'.ownsRow N T e.size v' lQ.length dK/\fl C.cap V e dK lQ/\∀k,v'.ownBlock=some k->(v.ownBlock=some k\/w.heap.size<=k)/\k<w'.heap.size
def vk (C:Ctx)(f:Nat)(shs:List Sh)(obs:List (Nat×Ob))(res:Ty)(ds:List D)(d:D):Prop:=
 ∀(N:Nat) (V:Im) (own:Nat->Option Nat) (hv:Nat->Value) (w:World) (args:Array Value) (cx:Nat->Prop),y5 shs obs=true->V.ok w->CtxOK C V->(∀k,V.m k≠some dw)->N<=w.heap.size->args.size=shs.length->
  (∀k j,own k=some j->N<=k/\k<w.heap.size/\(∀o,V.c k o=none)/\V.m k=none)->
  (∀k,cx k->k<w.heap.size/\own k=none/\(∀o,V.c k o=none)/\V.m k=none)->
  (∀t,aK C (gO shs obs) (nK obs ds (ds.drop shs.length)) V hv (shs.getD t .none) (args.getD t undef) (ds.getD t .none))->
  (∀j,cR C (gO shs obs) (nK obs ds (ds.drop shs.length)) V own hv w N j (fh obs j))->
  Calls C.P f args w λe w'=>∃v V' own' hv' dr os,e=.returned v/\d=.tup (dr::os)/\os.length=obs.length/\V.le V'/\V'.ok w'/\Below 0 w w'/\
   (∀k,k<w.heap.size->own k=none->w'.heap[k]?=w.heap[k]?)/\
   (∀k o x,V'.c k o=some x->(V.c k o=some x\/N<=k)/\¬cx k)/\(∀k x,V'.m k=some x->(V.m k=some x\/N<=k)/\¬cx k)/\(∀k,V'.m k=some dw->N<=k->k<w.heap.size->own k≠none)/\
   (∀k j,own' k=some j->N<=k/\k<w'.heap.size/\(∀o,V'.c k o=none)/\V'.m k=none/\(k<w.heap.size->own k≠none))/\
   (∀(t:Nat) (sh:Sh),shs[t]?=some sh->oJ sh=false->aK C (gO shs obs) (nK obs ds os) V' hv' sh (args.getD t undef) (ds.getD t .none))/\
   (∀j,cR C (gO shs obs) (nK obs ds os) V' own' hv' w' N j (fh obs j))/\Rep C.cap V' res v dr
def aK.ctx {C C':Ctx}(fH:C'.cap=C.cap){S:St}{O:Env}{V:Im}{hv:Nat->Value}{s:Sh}(hp:uM s=true){v:Value}{d:D}(h:aK C S O V hv s v d):aK C' S O V hv s v d:=by
 cases s with
 |dat t=>show Rep C'.cap V t v d;rw[fH];exact h
 |opt gs s=>cases hp
 |eptr j ver a b=>cases hp
 |yv=>cases hp
 |agg l=>cases hp
 |_=>exact h
def cR.ctx {C C':Ctx}(fH:C'.cap=C.cap){S:St}{O:Env}{V:Im}{own:Nat->Option Nat}{hv:Nat->Value}{w:World}{N j:Nat}{ob:Ob}(hp:L2 ob=true\/ob=.dead)(h:cR C S O V own hv w N j ob):cR C' S O V own hv w N j ob:=by
 rcases hp with hp|rfl
 .cases ob with
  |row T e=>obtain⟨cells,xs,h1,h2,h3,h4⟩:=h;exact⟨cells,xs,h1,h2,by rw[fH];exact h3,h4⟩
  |mp kt et=>obtain⟨k,arr,clock,es,h1,h2,h3,h4,h5,h6,h7⟩:=h;exact⟨k,arr,clock,es,h1,h2,h3,h4,h5,h6,by rw[fH];exact h7⟩
  |box ag shs=>
   obtain⟨k,cs,T,ds,h1,h2,h3,h4,h5,h6,h7⟩:=h;exact⟨k,cs,T,ds,h1,h2,h3,h4,h5,h6,λi s hs=>⟨(h7 i s hs).1,(h7 i s hs).2.ctx fH (bJ.1 hp s (lf hs))⟩⟩
  |_=>cases hp
 .trivial
def abX {obs:List (Nat×Ob)}(h:(obs.all λx=>L2 x.2)=true)(j:Nat):L2 (fh obs j)=true\/fh obs j=.dead:=by
 induction obs with
 |nil=>exact .inr rfl
 |cons x l ih=>
  simp only[rG,aq] at h;simp only[fh];cases hb:Nat.beq x.1 j
  .exact ih h.2
  .exact .inl h.1
def vk.ctx {C C':Ctx}{f:Nat}{shs:List Sh}{obs:List (Nat×Ob)}{res:Ty}{ds:List D}{d:D}(h:vk C f shs obs res ds d)(hP:C'.P=C.P)(fH:C'.cap=C.cap)(vV:C'.glob=C.glob):vk C' f shs obs res ds d:=by
 intro N V own hv w args cx hp az hC bn hN aH be l7 h1 h2;have aT:=hp;simp only[y5,aq] at aT;have ur:∀t s,shs[t]?=some s->uM s=true:=λt s hs=>bJ.1 aT.1 s (lf hs);have hC':CtxOK C V:=⟨λg x hx=>by have:=hC.glob g x (by rw[vV];exact hx);rwa [fH] at this⟩
 have:=h N V own hv w args cx hp az hC' bn hN aH be l7 (λt=>by
  cases hs:shs[t]? with
  |none=>rw[aN,hs];trivial
  |some s=>have:=h1 t;rw[aN,hs] at this ⊢;exact this.ctx fH.symm (ur t s hs)) (λj=>(h2 j).ctx fH.symm (abX aT.2 j))
 rw[hP];refine this.mono λe w' hh=>?_;obtain⟨v,V',own',hv',dr,os,g1,g2,g3,g4,g5,g6,g7,g8,g9,g10,g11,g12,g13,g14⟩:=hh;exact⟨v,V',own',hv',dr,os,g1,g2,g3,g4,g5,g6,g7,g8,g9,g10,g11,λt sh hs hd=>(g12 t sh hs hd).ctx fH (ur t sh hs),λj=>(g13 j).ctx fH (abX aT.2 j),by rw[fH];exact g14⟩
def fl.cap {c c':Nat->Option CSig}(hc:c'=c){V:Im}{e:Ty}{cells:List Value}{xs:List D}(h:fl c V e cells xs):fl c' V e cells xs:=hc▸h
def Df.ctx {C C':Ctx}{f:Nat}{T:TypeId}{e:Ty}{ts:List Ty}{ds:List D}{d:D}(h:Df C f T e ts ds d)(hP:C'.P=C.P)(fH:C'.cap=C.cap)(vV:C'.glob=C.glob):Df C' f T e ts ds d:=by
 intro N V w v args xs cells ds' h1 h2 h3 h4 h5 h6 h7 h8;rw[hP];refine(h N V w v args xs cells ds' h1 h2 ⟨λg x hx=>by have:=h3.glob g x (by rw[vV];exact hx);rwa [fH] at this⟩ h4 h5 (h6.cap fH.symm) h7 ⟨h8.1,h8.2.1,λi t hi=>by have:=h8.2.2 i t hi;rwa [fH] at this⟩).mono λx w' hh=>?_;obtain⟨v',lQ,dK,g1,g2,g3,g4,g5,g6,g7⟩:=hh;exact⟨v',lQ,dK,g1,g2,g3,g4,g5,g6.cap fH,g7⟩
def iL (C:Ctx)(f:Nat)(shs:List Sh)(obs:List (Nat×Ob))(res:Ty)(ds:List D)(d:D):Prop:=
 match LB shs obs with
 |some m=>Df C f m.1 m.2.1 m.2.2 ds d
 |none=>vk C f shs obs res ds d
def iL.ctx {C C':Ctx}{f:Nat}{shs:List Sh}{obs:List (Nat×Ob)}{res:Ty}{ds:List D}{d:D}(h:iL C f shs obs res ds d)(hP:C'.P=C.P)(fH:C'.cap=C.cap)(vV:C'.glob=C.glob):iL C' f shs obs res ds d:=by
 unfold iL at h ⊢;split at h
 .exact Df.ctx h hP fH vV
 .exact vk.ctx h hP fH vV
def acx {shs:List Sh}{obs:List (Nat×Ob)}(h:∀x,x∈obs->x.2≠.tr):LB shs obs=none:=by
 unfold LB;split
 .exact absurd rfl (h (1,.tr) (by simp))
 .rfl
def iL.of {C:Ctx}{f:Nat}{shs:List Sh}{obs:List (Nat×Ob)}{res:Ty}{ds:List D}{d:D}(ht:∀x,x∈obs->x.2≠.tr)(h:vk C f shs obs res ds d):iL C f shs obs res ds d:=by
 unfold iL;rw[acx ht];exact h
def iL.plain {C:Ctx}{f:Nat}{shs:List Sh}{obs:List (Nat×Ob)}{res:Ty}{ds:List D}{d:D}(hp:y5 shs obs=true)(h:iL C f shs obs res ds d):vk C f shs obs res ds d:=by
 unfold iL at h;rw[acx λx hx e=>?_] at h
 .exact h
 .simp only[y5,aq] at hp;have:=bJ.1 hp.2 x hx;rw[e] at this;cases this
def ei (C:Ctx)(Z:aV):Prop:=∀f ds d,Z f ds=some d->∀s,C.sig f=some s->(qX s.mode=false->jA C f s ds d)/\∀shs obs,s.mode=.ob shs obs->iL C f shs obs s.res ds d
def nF:List Ty->Ty->Option (List Ty)
 |[.fn ys .bool],.tup []=>some ys
 |_,_=>none
def eU (C:Ctx):Prop:=(∀f cs,C.cap f=some cs->nF cs.args cs.res=none->C.sig f=some ⟨cs.args++cs.caps,cs.res,.dat⟩)/\∀f s,C.sig f=some s->∃fn,C.P.funcs[f]?=some fn/\fn.body.isSome=true/\(fn.name== "runtime.NumGoroutine")=false
def xK (S:St):List AgC->List Nat
 |[]=>[]
 |.obj j ver::l=>bif Nat.beq ver (S.ver j)&&mg (S.o j) then j::xK S l else xK S l
 |_::l=>xK S l
def cj (S:St)(gs:List (Nat×Bool)):List Operand->List Nat
 |[]=>[]
 |x::xs=>
  match fO S gs x with
  |.obj j ver=>bif Nat.beq ver (S.ver j)&&mg (S.o j) then j::cj S gs xs else cj S gs xs
  |.agg l=>xK S l++cj S gs xs
  |_=>cj S gs xs
def j7 (gs:List (Nat×Bool))(s:Sh):Sh:=
 match gs with
 |[]=>s
 |_=>.opt gs s
def St.fzs (S:St)(js:List Nat):St:=js.foldl St.fz S
def m6:List RC->List Ty
 |[]=>[]
 |.dat t::l=>t::m6 l
 |.row _ e::l=>.slice e.rol::m6 l
def DP (fr:List Nat)(dst:Nat)(s:Sig):Option Sig:=
 match s.mode with
 |.rows l=>bif !(fr.any (Nat.beq (2000000+dst)))&&Ty.beq s.res (.agg (m6 l)) then some {s with mode:=.dat} else some s
 |_=>some s
def Mu:∀{l:List RC} {i:Nat} {t:Ty},(m6 l)[i]?=some t->(l[i]?=some (.dat t))\/∃T e,l[i]?=some (.row T e)/\t=.slice e.rol
 |[],i,t,h=>by simp[m6] at h
 |.dat u::l,0,t,h=>by simp[m6] at h;subst h;exact .inl rfl
 |.row T e::l,0,t,h=>by simp[m6] at h;exact .inr ⟨T,e,rfl,h.symm⟩
 |.dat u::l,i+1,t,h=>by simpa using Mu (l:=l) (i:=i) (by simpa [m6] using h)
 |.row T e::l,i+1,t,h=>by simpa using Mu (l:=l) (i:=i) (by simpa [m6] using h)
def TK:∀(l:List RC),(m6 l).length=l.length
 |[]=>rfl
 |.dat _::l=>by simp[m6,TK l]
 |.row ..::l=>by simp[m6,TK l]
def jA.asDat {C:Ctx}{f:Nat}{s:Sig}{ds:List D}{d:D}{l:List RC}(hm:s.mode=.rows l)(hr:s.res=.agg (m6 l))(h:jA C f s ds d):jA C f {s with mode:=.dat} ds d:=by
 intro V w args h1 h2 h3;refine(h V w args h1 h2 h3).mono λe w' hh=>?_;obtain⟨v,V',rfl,hle,az,hb,dD,dp,fu⟩:=hh;simp only[nk,hm] at fu;obtain⟨vs,ds,ow,rfl,rfl,l1,l2,eL,uq⟩:=fu
 have hex:∀i,∃cs:List Value,∀T e,l[i]?=some (.row T e)->∃xs,ds.getD i .none=.list xs/\w'.ownsRow w.heap.size T e.size (vs.getD i undef) xs.length cs/\fl C.cap V' e cs xs/\∀k,(vs.getD i undef).ownBlock=some k->ow k=some i:=λi=>by
  cases hl:l[i]? with
  |none=>exact⟨[],λ_ _ h=>by cases h⟩
  |some c=>
   cases c with
   |dat t=>exact⟨[],λ_ _ h=>by cases h⟩
   |row T e=>
    obtain⟨cs,xs,g1,g2,g3,g4⟩:=eL i _ hl;exact⟨cs,λT' e' h=>by cases h;exact⟨xs,g1,g2,g3,g4⟩⟩
 let cs:Nat->List Value:=λi=>Classical.choose (hex i)
 have dY:∀i T e,l[i]?=some (.row T e)->∃xs,ds.getD i .none=.list xs/\w'.ownsRow w.heap.size T e.size (vs.getD i undef) xs.length (cs i)/\fl C.cap V' e (cs i) xs/\∀k,(vs.getD i undef).ownBlock=some k->ow k=some i:=λi=>XC (hex i)
 let BW:Nat->Nat->Bool:=λi k=>decide ((vs.getD i undef).ownBlock=some k)&&(match l[i]? with|some (.row ..)=>true|_=>false)
 let τ:Im:={c:=λk o=>match ow k with|some i=>(bif BW i k then(cs i)[o]? else none)|none=>V'.c k o,m:=V'.m}
 have kO:V'.le τ:=by
  refine⟨λk o x hx=>?_,λk x hx=>hx⟩;cases hk:ow k with
  |none=>simp only[τ,hk];exact hx
  |some i=>have:=(uq k i hk).2.2.1 o;rw[this] at hx;cases hx
 have gd:∀i k,BW i k=true->∃T e,l[i]?=some (.row T e)/\(vs.getD i undef).ownBlock=some k:=λi k hk=>by
  simp only[BW,aq,decide_eq_true_eq] at hk;obtain⟨bW,bN⟩:=hk;split at bN
  .rename_i T e hl;exact⟨T,e,hl,bW⟩
  .cases bN
 refine⟨_,τ,rfl,hle.trans kO,⟨λk o x hx=>?_,az.m⟩,hb,λk o x hx=>?_,dp,?_⟩
 .simp only[τ] at hx;split at hx
  .rename_i i hi;cases hr:BW i k with
   |false=>rw[hr] at hx;cases hx
   |true=>
    rw[hr,zyx] at hx;obtain⟨T,e,hl,vP⟩:=gd i k hr;obtain⟨xs,g1,g2,g3,g4⟩:=dY i T e hl;have:=g2.cells vP o x hx;rw[tJ] at this;simpa using this
  .exact az.c k o x hx
 .simp only[τ] at hx;split at hx
  .rename_i i hi;exact .inr (uq k i hi).1
  .exact dD k o x hx
 .simp only[nk,hr];have hlen:=TK l;refine .agg (m6 l) vs ds (by omega) (by omega) (λi t hi=>?_) (λi t hi=>?_)
  .rcases Mu hi with hl|⟨T,e,hl,rfl⟩
   .exact(eL i _ hl).2.mono kO
   .obtain⟨xs,g1,g2,⟨us,g3,g4⟩,g5⟩:=dY i T e hl;rw[g1];rcases g2.2 with⟨e1,e2⟩|⟨g,cap,cur,e1,e2,e3,e4,e5,e6,e7⟩
    .rw[e1];have:xs=[]:=NR e2;subst this;exact .nil _
    .rw[e1];have vP:(vs.getD i undef).ownBlock=some g:=by rw[e1];rfl
     refine .slice e.rol g 0 xs.length cap xs us rfl e4 e5 (λi x hx=>((g3 i x hx).mono kO).unf_rol) (λj m u hj hu=>?_);rw[Ty.rol_size];have hR:BW i g=true:=by simp only[BW,vP,hl];simp
     simp only[τ,g5 g vP,hR,zyx,fR];exact g4 j m u hj hu
  .rcases Mu hi with hl|⟨T,e,hl,rfl⟩
   .exact(eL i _ hl).1
   .rfl
def ajt {C:Ctx}{fr:List Nat}{dst f:Nat}{s s':Sig}{ds:List D}{d:D}(hs:DP fr dst s=some s')(hm:s'.mode=.dat)(h:qX s.mode=false->jA C f s ds d):jA C f s' ds d:=by
 unfold DP at hs;split at hs
 .rename_i l hl;cases hb:(!(fr.any (Nat.beq (2000000+dst)))&&Ty.beq s.res (.agg (m6 l)))<;>simp only[hb,zyx,zyw] at hs
  .cases hs;rw[hl] at hm;cases hm
  .cases hs;simp only[aq] at hb;exact jA.asDat hl (Ty.beq_eq _ _ hb.2) (h (by rw[hl];rfl))
 .cases hs;exact h (by rw[hm];rfl)
def qu (C:Ctx)(S:St)(gs:List (Nat×Bool))(dst:Nat)(f:Nat)(args:List Operand):Option (St×Sh×List PI):=
 ((C.sig f).bind (DP C.fr dst)).bind λs=>
   match s.mode with
   |.dat=>
    (lN C (S.fzs (cj S gs args)) gs args).bind λu=>
      bif Ty.subs u.1 s.args then some (bif s.res.pure then S else S.fzs (cj S gs args),.dat s.res,[.call gs dst f u.2]) else Option.none
   |_=>Option.none
def DW (C:Ctx)(S:St)(dst:Nat)(f:Nat)(args:List Operand):lS:=
 (C.sig f).bind λs=>
    match s.mode with
    |.row T e=>
     (lN C (S.fzs (cj S [] args)) [] args).bind λu=>
       bif Ty.subs u.1 s.args then some (mkObj (bif e.pure then S else S.fzs (cj S [] args)) dst (.row T e),[.call [] dst f u.2,.setO dst (.r dst),.setR dst (.con .none)]) else Option.none
    |_=>Option.none
def jV (dst:Nat)(l:List RC)(j:Nat):Option (Nat×TypeId×Ty):=
 bif Nat.beq (j%4096) dst&&Nat.ble 4096 j then(match l[j/4096-1]? with|some (.row T e)=>some (j/4096-1,T,e)|_=>Option.none) else Option.none
def afg {dst i:Nat}{l:List RC}{T:TypeId}{e:Ty}(hd:dst<4096)(h:l[i]?=some (.row T e)):jV dst l (iu dst i)=some (i,T,e):=by
 unfold jV iu;have e1:(4096*(i+1)+dst)%4096=dst:=by omega
 have e2:(4096*(i+1)+dst)/4096-1=i:=by omega
 have e3:Nat.ble 4096 (4096*(i+1)+dst)=true:=Nat.ble_eq_true_of_le (by omega);rw[e1,e2,e3,h,ja];rfl
def atm {dst i j:Nat}{l:List RC}{T:TypeId}{e:Ty}(h:jV dst l j=some (i,T,e)):j=iu dst i/\l[i]?=some (.row T e):=by
 unfold jV at h;cases hb:(Nat.beq (j%4096) dst&&Nat.ble 4096 j)<;>simp only[hb,zyx,zyw] at h
 .cases h
 simp only[aq] at hb;have h1:=aA hb.1;have h2:=lg hb.2;split at h
 .rename_i hl;cases h;exact⟨by unfold iu;omega,hl⟩
 .cases h
def St.newRows (S:St)(dst:Nat)(l:List RC):St:=⟨S.r,λj=>match jV dst l j with|some x=>.row x.2.1 x.2.2|Option.none=>S.o j,λj=>match jV dst l j with|some _=>S.ver j+1|Option.none=>S.ver j⟩
def oQ (S:St)(dst:Nat):List RC->Nat->List AgC
 |[],_=>[]
 |.dat t::l,i=>.dat t::oQ S dst l (i+1)
 |.row ..::l,i=>.obj (iu dst i) (S.ver (iu dst i)+1)::oQ S dst l (i+1)
def CL (dst:Nat):List RC->Nat->List PI
 |[],_=>[]
 |.dat _::l,i=>CL dst l (i+1)
 |.row ..::l,i=>.setO (iu dst i) (.cell (.r dst) i)::CL dst l (i+1)
def DX (C:Ctx)(S:St)(dst:Nat)(f:Nat)(args:List Operand):lS:=
 (C.sig f).bind λs=>
    match s.mode with
    |.rows l=>
     (lN C (S.fzs (cj S [] args)) [] args).bind λu=>
       bif Ty.subs u.1 s.args&&Nat.blt dst 4096 then
         some (((S.fzs (cj S [] args)).newRows dst l).setR dst (.agg (oQ (S.fzs (cj S [] args)) dst l 0)),.call [] dst f u.2::CL dst l 0) else Option.none
    |_=>Option.none
def afh (S:St)(dst:Nat):∀(l:List RC) (i:Nat),(oQ S dst l i).length=l.length/\∀(n:Nat) (c:AgC),(oQ S dst l i)[n]?=some c->(∃t,l[n]?=some (.dat t)/\c=.dat t)\/∃T e,l[n]?=some (.row T e)/\c=.obj (iu dst (i+n)) (S.ver (iu dst (i+n))+1)
 |[],i=>⟨rfl,λn c h=>by simp[oQ] at h⟩
 |x::l,i=>by
  obtain⟨h1,h2⟩:=afh S dst l (i+1);have e:∀n,i+1+n=i+(n+1):=λn=>by omega
  cases x with
  |dat t=>
   refine⟨by simp[oQ,h1],λn c h=>?_⟩;cases n with
   |zero=>simp[oQ] at h;exact .inl ⟨t,rfl,h.symm⟩
   |succ n=>simp only[oQ,HR] at h ⊢;have:=h2 n c h;rwa [e] at this
  |row T y=>
   refine⟨by simp[oQ,h1],λn c h=>?_⟩;cases n with
   |zero=>simp[oQ] at h;exact .inr ⟨T,y,rfl,by rw[iZ];exact h.symm⟩
   |succ n=>simp only[oQ,HR] at h ⊢;have:=h2 n c h;rwa [e] at this
def TJ (Z:aV)(dst:Nat):∀(l:List RC) (i:Nat) (O O':Env),PI.runs Z (CL dst l i) O=some O'->O'.r=O.r/\(∀j,(∀(n:Nat) (T:TypeId) (e:Ty),l[n]?=some (.row T e)->j≠iu dst (i+n))->O'.o j=O.o j)/\
 ∀(n:Nat) (T:TypeId) (e:Ty),l[n]?=some (.row T e)->O'.o (iu dst (i+n))=(O.r dst).c (i+n)
 |[],i,O,O',h=>by
  simp only[CL,PI.runs,aS] at h;subst h;exact⟨rfl,λ_ _=>rfl,λn T e h=>by simp at h⟩
 |x::l,i,O,O',h=>by
  have e:∀n,i+1+n=i+(n+1):=λn=>by omega
  cases x with
  |dat t=>
   obtain⟨h1,h2,h3⟩:=TJ Z dst l (i+1) O O' h;refine⟨h1,λj hj=>h2 j λn T y hn=>by rw[e];exact hj (n+1) T y (by simpa using hn),λn T y hn=>?_⟩;cases n with
   |zero=>simp at hn
   |succ n=>have:=h3 n T y (by simpa using hn);rwa [e] at this
  |row T0 y0=>
   simp only[CL,PI.runs,PI.run,lh] at h;obtain⟨h1,h2,h3⟩:=TJ Z dst l (i+1) _ O' h;refine⟨h1,λj hj=>?_,λn T y hn=>?_⟩
   .rw[h2 j λn T y hn=>by rw[e];exact hj (n+1) T y (by simpa using hn)];exact bt _ _ (by have:=hj 0 T0 y0 rfl;rwa [iZ] at this)
   .cases n with
    |zero=>
     rw[iZ,h2 _ λn T y hn=>by unfold iu;omega];exact aO _ _ _
    |succ n=>have:=h3 n T y (by simpa using hn);rwa [e] at this
def DV (C:Ctx)(S:St)(dst:Nat)(f:Nat)(args:List Operand):lS:=
 (C.sig f).bind λs=>
    match s.mode,args with
    |.ob shs obs,x::xs=>
     match LB shs obs,fO S [] x with
     |some m,.obj j ver=>
      match S.o j with
      |.row T e=>
       bif Nat.beq ver (S.ver j)&&(Nat.beq T m.1&&Ty.beq e m.2.1) then
            (lN C S [] xs).bind λu=>
             bif Ty.subs u.1 m.2.2 then some ((S.newO j (.row T e)).setR dst (.obj j (S.ver j+1)),[.call [] dst f (.o j::u.2),.setO j (.r dst),.setR dst (.con .none)]) else Option.none
       else Option.none
      |_=>Option.none
     |_,_=>Option.none
    |_,_=>Option.none
def pw (C:Ctx)(S:St)(gs:List (Nat×Bool))(dst:Nat)(x:Operand)(args:List Operand):Option (St×Sh×List PI):=
 match use C S gs x with
 |some (.fn aa r,e)=>
  match nF aa r with
  |some _=>Option.none
  |Option.none=>
  (lN C (S.fzs (cj S gs args)) gs args).bind λu=>
    bif Ty.subs u.1 aa then some (bif r.pure then S else S.fzs (cj S gs args),.dat r,[.callc gs dst e u.2]) else Option.none
 |_=>Option.none
def py:∀(js:List Nat) (S:St),(S.fzs js).ver=S.ver/\(S.fzs js).r=S.r
 |[],S=>⟨rfl,rfl⟩
 |j::js,S=>by
  obtain⟨h1,h2⟩:=py js (S.fz j);obtain⟨k1,k2⟩:=J5 S j;exact⟨h1.trans k1,h2.trans k2⟩
section
variable {C:Ctx} {S:St} {O:Env} {V:Im} {own:Nat->Option Nat} {hv:Nat->Value} {w0:World} {σ0:Base} {A:Nat->Prop} {a:Act} {w:World} {gs:List (Nat×Bool)} {Z:aV} {dst:Nat}
def Inv.fzs:∀(js:List Nat) {S:St} {V:Im} {own:Nat->Option Nat},Inv C S O V own hv w0 σ0 A a w->∃V' own',V.le V'/\Inv C (S.fzs js) O V' own' hv w0 σ0 A a w
 |[],S,V,own,h=>⟨V,own,.refl V,h⟩
 |j::js,S,V,own,h=>by
  obtain⟨σ1,dP,hle,h1⟩:=h.fz j;obtain⟨σ2,jS,kO,h2⟩:=Inv.fzs js h1;exact⟨σ2,jS,hle.trans kO,h2⟩
def Inv.world (h:Inv C S O V own hv w0 σ0 A a w){V':Im}{w':World}(hle:V.le V')(az:V'.ok w')(hb:Below w.heap.size w w')(dD:∀k o x,V'.c k o=some x->V.c k o=some x\/w.heap.size<=k)
 (dp:∀k x,V'.m k=some x->V.m k=some x\/w.heap.size<=k):Inv C S O V' own hv w0 σ0 A a w':=by
 have aH:=h.below.size;refine h.step (λ_=>False) rfl hle az (λk o x hx=>(dD k o x hx).imp id (λe=>⟨by omega,.inr e⟩)) (λk x hx=>(dp k x hx).imp id (λe=>⟨by omega,.inr e⟩)) (hb.mono aH) (.refl S hv) (λj _=>⟨rfl,rfl,rfl,λk hk=>⟨hk,hb.block k (h.owns k j hk).2.1⟩⟩) (λ_ hf=>hf.elim) (λk j hk=>?_) (λ_=>id) (λt=>.inl ⟨rfl,rfl,rfl⟩) (λ_ _=>rfl) (λk hk _=>hb.block k hk) (λk i hk=>.inl ⟨i,hk⟩) (λ_ hf=>hf.elim);obtain⟨g1,g2,g3,g4⟩:=h.owns k j hk;refine⟨g1,by have:=hb.size;omega,λo=>?_,?_⟩
 .cases hc:V'.c k o with
  |none=>rfl
  |some x=>rcases dD k o x hc with e|e
           .rw[g3 o] at e;cases e
           .omega
 .cases hc:V'.m k with
  |none=>rfl
  |some x=>rcases dp k x hc with e|e
           .rw[g4] at e;cases e
           .omega
def CtxOK.mono {C:Ctx}{V V':Im}(h:CtxOK C V)(hle:V.le V'):CtxOK C V':=⟨λg x hx=>(h.glob g x hx).mono hle⟩
def C7 (h:Inv C S O V own hv w0 σ0 A a w)(hC:CtxOK C σ0)(hg:holds gs O=true){xs:List Operand}{u:List Ty×List PE}{ts:List Ty}(hu:lN C S gs xs=some u)(hs:Ty.subs u.1 ts=true):rE C V ts (xs.map a.eval) (PE.evs O u.2):=by
 obtain⟨l1,l2,aI⟩:=ahh h hC hg _ _ hu;have hl:=Ty.subs_len _ _ hs;refine⟨by rw[gp];omega,by rw[PE.evs_eq,gp];omega,λi t hi=>?_⟩;obtain⟨s,qQ,bZ⟩:=Ty.subs_get _ _ hs i t hi;exact(aI i s qQ).sub bZ
def Hc {o:Oper}{f:Nat}{args:Array Operand}{ts:Array TypeId}(aR:eU C){s:Sig}(hs:C.sig f=some s)(ho:o.op=.call {callee:=.value (.func f),args:=args,argTypes:=ts}):
 (execOp a.eval o).run C.P w=.ok (.enter f (args.map a.eval)) w:=by
 obtain⟨fn,h1,h2,h3⟩:=aR.2 f s hs;obtain⟨bd,oo⟩:=XT.1 h2;have h4:¬fn.name= "runtime.NumGoroutine" :=by simpa using h3
 simp[execOp,ho,resolve,Act.eval,Deferred.ofValue,invoke,callFunc,h1,oo,h4]
def af1 {o:Oper}{x:Operand}{f:Nat}{vs:List Value}{args:Array Operand}{ts:Array TypeId}(aR:eU C){s:Sig}(hs:C.sig f=some s)(hx:a.eval x=.func (.func f) #[] vs.toArray)(ho:o.op=.call {callee:=.value x,args:=args,argTypes:=ts}):
 (execOp a.eval o).run C.P w=.ok (.enter f (args.map a.eval++vs.toArray)) w:=by
 obtain⟨fn,h1,h2,h3⟩:=aR.2 f s hs;obtain⟨bd,oo⟩:=XT.1 h2;have h4:¬fn.name= "runtime.NumGoroutine" :=by simpa using h3
 simp[execOp,ho,resolve,hx,Deferred.ofValue,invoke,callFunc,h1,oo,h4]
def Yq (h:Inv C S O V own hv w0 σ0 A a w)(hC:CtxOK C σ0)(ht:¬A dst)(ah:dst<a.tmps.size)(eK:∀g,g∈gs->A g.1)(hg:holds gs O=true){f:Nat}{s:Sig}{js:List Nat}{vals:List Value}{ds:List D}{d:D}(mc:s.mode=.dat)(hfn:jA C f s ds d)
 (jI:∀σ1 dP,V.le σ1->Inv C (S.fzs js) O σ1 dP hv w0 σ0 A a w->rE C σ1 s.args vals ds) {K:Act->World->Prop} {Q:Exit->Act->World->Prop}
 (hK:∀a' w',Good C w0 σ0 ((bif s.res.pure then S else S.fzs js).setR dst (j7 gs (.dat s.res))) (O.setR dst d) (λu=>A u\/u=dst) a' w'->a'.tmps.size=a.tmps.size->K a' w'):
 Calls C.P f vals.toArray w (λe lO=>match e with|.returned v=>K (a.put (some dst) v) lO|.panicked chain=>Q (.panic chain) a lO|.outgrown=>LetsOut Q):=by
 obtain⟨σ1,dP,mP,h1⟩:=Inv.fzs js h;have qE:=hfn σ1 w vals.toArray h1.ok (hC.mono h1.le) (by simpa using jI σ1 dP mP h1);refine qE.mono λe w' hh=>?_;obtain⟨v,V',rfl,hle,az,hb,dD,dp,fu⟩:=hh;simp only[nk,mc] at fu;refine hK _ _ ?_ (size_put _ _ _);have hh:holds gs (O.setR dst d)=true:=by rw[E4 (t:=dst) (d:=d) λg hm e=>ht (by rw[<-e];exact eK g hm)];exact hg
 have put:∀{S2:St} {σ2:Im} {jS:Nat->Option Nat},Inv C S2 O σ2 jS hv w0 σ0 A a w'->Rep C.cap σ2 s.res v d->Good C w0 σ0 (S2.setR dst (j7 gs (.dat s.res))) (O.setR dst d) (λu=>A u\/u=dst) (a.put (some dst) v) w':=by
  intro S2 σ2 jS h2 hr;cases gs with
  |nil=>exact⟨_,_,_,h2.setReg ht (s:=.dat s.res) hr ah (λ_ _ e=>by cases e)⟩
  |cons g cd=>
   refine⟨_,_,_,h2.setReg ht (s:=.opt (g::cd) (.dat s.res)) ⟨λ_=>hr,λe=>absurd (hh.symm.trans e) (by decide)⟩ ah (λgs s e=>?_)⟩;cases e;exact⟨eK,λ_ _ e=>by cases e⟩
 cases hp:s.res.pure with
 |true=>
  simp only[zyx];exact put (h.world (.refl V) (h.ok.below hb) hb (λ_ _ _ hx=>.inl hx) (λ_ _ hx=>.inl hx)) (fu.pure hp)
 |false=>
  simp only[zyw];exact put (h1.world hle az hb dD dp) fu
def DC {o:Oper}{f:Nat}{args:Array Value}{K:Act->World->Prop}{Q:Exit->Act->World->Prop}(hd:o.dst=some dst)(hx:(execOp a.eval o).run C.P w=.ok (.enter f args) w)
 (h:Calls C.P f args w (λe lO=>match e with|.returned v=>K (a.put (some dst) v) lO|.panicked chain=>Q (.panic chain) a lO|.outgrown=>LetsOut Q)):o.wp C.P a w K Q:=by
 simp only[Oper.wp,hx,Oper.upon,hd];refine h.mono λe lO hh=>?_;cases e<;>exact hh
def ajU (h:Inv C S O V own hv w0 σ0 A a w)(hC:CtxOK C σ0)(aR:eU C)(hΦ:ei C Z)(ht:¬A dst)(ah:dst<a.tmps.size)(eK:∀g,g∈gs->A g.1)(hg:holds gs O=true){f:Nat}{args:Array Operand}{ts:Array TypeId}{r:St×Sh×List PI}
 (hr:qu C S gs dst f args.toList=some r) {o:Oper} (hd:o.dst=some dst) (ho:o.op=.call {callee:=.value (.func f),args:=args,argTypes:=ts}):cw C w0 σ0 Z S O A a w o (r.1.setR dst (j7 gs r.2.1),r.2.2):=by
 simp only[qu,aw] at hr;obtain⟨s,⟨s0,hs,kh⟩,hr⟩:=hr;split at hr
 case h_2=>cases hr
 rename_i mc;simp only[aw] at hr;obtain⟨u,hu,hr⟩:=hr;cases bU:Ty.subs u.1 s.args<;>simp only[bU,zyx,zyw] at hr
 .cases hr
 cases hr;intro O' ao K Q hK;simp only[PI.runs,PI.run,hg,zyx,aw,aC] at ao;obtain⟨ρ1,⟨d,bm,rfl⟩,ao⟩:=ao;cases ao;have hfn:=ajt kh mc (hΦ f _ d bm s0 hs).1;refine DC hd (Hc aR hs ho) ?_;have kR:args.map a.eval=(args.toList.map a.eval).toArray:=by apply tq;rw[xy]
 rw[kR];have iP:(λu=>A u\/o.dst=some u)=(λu=>A u\/u=dst):=by funext u;rw[hd];simp[eq_comm]
 rw[iP] at hK;exact Yq h hC ht ah eK hg (js:=cj S gs args.toList) mc hfn (λσ1 dP _ h1=>C7 h1 hC hg hu bU) hK
def ajL (h:Inv C S O V own hv w0 σ0 A a w)(hC:CtxOK C σ0)(aR:eU C)(hΦ:ei C Z)(ht:¬A dst)(ah:dst<a.tmps.size)(eK:∀g,g∈gs->A g.1)(hg:holds gs O=true){x:Operand}{args:Array Operand}{ts:Array TypeId}{r:St×Sh×List PI}
 (hr:pw C S gs dst x args.toList=some r) {o:Oper} (hd:o.dst=some dst) (ho:o.op=.call {callee:=.value x,args:=args,argTypes:=ts}):cw C w0 σ0 Z S O A a w o (r.1.setR dst (j7 gs r.2.1),r.2.2):=by
 unfold pw at hr;split at hr
 case h_2=>cases hr
 rename_i aa r0 e yO;split at hr
 case h_1=>cases hr
 rename_i Qw;simp only[aw] at hr;obtain⟨u,hu,hr⟩:=hr;cases bU:Ty.subs u.1 aa<;>simp only[bU,zyx,zyw] at hr
 .cases hr
 cases hr;have hx:=cQ h hC hg yO;intro O' ao K Q hK;simp only[PI.runs,PI.run,hg,zyx,aw] at ao;obtain⟨ρ1,pK,ao⟩:=ao;cases ao;split at pK
 case h_2=>cases pK
 rename_i f caps bX;simp only[aC] at pK;obtain⟨d,bm,rfl⟩:=pK;rw[bX] at hx;generalize gK:a.eval x=xv at hx;generalize bj:Ty.fn aa r0=ty at hx;cases hx with
 |fn f cs vs ds hc h1 h2 aI=>
  cases bj;have hs:=aR.1 f cs hc Qw;have hfn:=(hΦ f _ d bm _ hs).1 rfl;refine DC hd (af1 aR hs gK ho) ?_;have kR:args.map a.eval++vs.toArray=(args.toList.map a.eval++vs).toArray:=by apply tq;simp
  rw[kR];have iP:(λu=>A u\/o.dst=some u)=(λu=>A u\/u=dst):=by funext u;rw[hd];simp[eq_comm]
  rw[iP] at hK;refine Yq h hC ht ah eK hg (js:=cj S gs args.toList) (s:=⟨cs.args++cs.caps,cs.res,.dat⟩) rfl hfn (λσ1 dP mP i1=>?_) hK;obtain⟨g1,g2,g3⟩:=C7 i1 hC hg hu bU;refine⟨by simp only[jY,g1,h1],by simp only[jY,g2,h2],λi t hi=>?_⟩;rw[ni] at hi;split at hi
  .rename_i ah;have:=g3 i t hi;rw[aN,aN,lT (by omega),lT (by omega)];simpa [aN] using this
  .rename_i gx;have:=(aI _ t hi).mono mP;rw[aN,aN,jX (by omega),jX (by omega),g1,g2];simpa [aN] using this
def ajP (h:Inv C S O V own hv w0 σ0 A a w)(hC:CtxOK C σ0)(aR:eU C)(hΦ:ei C Z)(ht:¬A dst)(ah:dst<a.tmps.size){f:Nat}{args:Array Operand}{ts:Array TypeId}{r:St×List PI}
 (hr:DW C S dst f args.toList=some r) {o:Oper} (hd:o.dst=some dst) (ho:o.op=.call {callee:=.value (.func f),args:=args,argTypes:=ts}):cw C w0 σ0 Z S O A a w o r:=by
 simp only[DW,aw] at hr;obtain⟨s,hs,hr⟩:=hr;split at hr
 case h_2=>cases hr
 rename_i T e mc;simp only[aw] at hr;obtain⟨u,hu,hr⟩:=hr;cases bU:Ty.subs u.1 s.args<;>simp only[bU,zyx,zyw] at hr
 .cases hr
 cases hr;intro O' ao K Q hK;have yo:holds ([]:List (Nat×Bool)) O=true:=rfl;simp only[PI.runs,PI.run,yo,zyx,aw,aC] at ao;obtain⟨ρ1,⟨d,bm,rfl⟩,ρ2,g2,ρ3,g3,g4⟩:=ao;cases g2;cases g3;cases g4;have hfn:=(hΦ f _ d bm s hs).1 (by rw[mc];rfl);obtain⟨σ1,dP,mP,h1⟩:=Inv.fzs (cj S [] args.toList) h;have kR:args.map a.eval=(args.toList.map a.eval).toArray:=by apply tq;rw[xy]
 refine DC hd (Hc aR hs ho) ?_;rw[kR];have qE:=hfn σ1 w (args.toList.map a.eval).toArray h1.ok (hC.mono h1.le) (by simpa using C7 h1 hC rfl hu bU);refine qE.mono λe' w' hh=>?_;obtain⟨v,V',rfl,hle,az,hb,dD,dp,fu⟩:=hh;simp only[nk,mc] at fu;obtain⟨cells,xs,rfl,be,jL,ou⟩:=fu;refine hK _ _ ?_ (size_put _ _ _);have iP:(λu=>A u\/o.dst=some u)=(λu=>A u\/u=dst):=by funext u;rw[hd];simp[eq_comm]
 rw[iP];have main:∀{S2:St} {σ1 σ2:Im} {jS:Nat->Option Nat},Inv C S2 O σ1 jS hv w0 σ0 A a w->σ1.le σ2->σ2.ok w'->(∀k o x,σ2.c k o=some x->σ1.c k o=some x\/w.heap.size<=k)->(∀k x,σ2.m k=some x->σ1.m k=some x\/w.heap.size<=k)->fl C.cap σ2 e cells xs->(∀k,v.ownBlock=some k->(∀o,σ2.c k o=none)/\σ2.m k=none)->
  Good C w0 σ0 (mkObj S2 dst (.row T e)) ((O.setO dst (.list xs)).setR dst .none) (λu=>A u\/u=dst) (a.put (some dst) v) w':=by
  intro S2 σ1 σ2 jS h2 kO QV anT anV am8 anc;have aH:=h1.below.size
  have mS:=h2.newOσ dst (.row T e) (.list xs) v (λk=>decide (v.ownBlock=some k)) kO QV anT anV hb (λk hk=>be.lt k (by simpa using hk)) (λk hk=>anc k (by simpa using hk)) ⟨cells,xs,by simp[Env.setO,aO],by
        rw[aO];refine⟨be.1,?_⟩;rcases be.2 with e1|⟨g,cap,cur,e1,e2,e3⟩
        .exact .inl e1
        .exact .inr ⟨g,cap,cur,e1,by omega,e3⟩,am8,λk hk=>by rw[aO] at hk;simp[gC,hk]⟩
  have aaU:=mS.setObj ht (j:=dst) (v:=v) (aO _ _ _) ah;have e:(S2.newO dst (.row T e)).ver dst=S2.ver dst+1:=aO _ _ _;rw[e] at aaU;exact⟨_,_,_,aaU⟩
 have eρ:((O.setR dst (.list xs)).setO dst ((PE.r dst).ev (O.setR dst (.list xs)))).setR dst ((PE.con D.none).ev ((O.setR dst (.list xs)).setO dst ((PE.r dst).ev (O.setR dst (.list xs)))))=(O.setO dst (.list xs)).setR dst .none:=by
  have:∀d1 d2:D,cv (cv O.r dst d1) dst d2=cv O.r dst d2:=by
   intro d1 d2;funext i;simp only[gm];split<;>rfl
  simp[Env.setR,Env.setO,PE.ev,aO,this]
 show Good C w0 σ0 _ _ _ _ _;rw[eρ];cases hp:e.pure with
 |true=>
  simp only[zyx];refine main h (.refl V) (h.ok.below hb) (λ_ _ _ hx=>.inl hx) (λ_ _ hx=>.inl hx) ?_ (λk hk=>?_)
  .obtain⟨vs,k1,k2⟩:=jL;exact⟨vs,λi x hx=>(k1 i x hx).pure hp,k2⟩
  .obtain⟨f1,f2⟩:=ou k hk;refine⟨λo=>?_,?_⟩
   .cases hc:V.c k o with
    |none=>rfl
    |some x=>have:=hle.c _ _ _ (mP.c _ _ _ hc);rw[f1 o] at this;cases this
   .cases hc:V.m k with
    |none=>rfl
    |some x=>have:=hle.m _ _ (mP.m _ _ hc);rw[f2] at this;cases this
 |false=>
  simp only[zyw];exact main h1 hle az dD dp jL ou
def ajR (h:Inv C S O V own hv w0 σ0 A a w)(hC:CtxOK C σ0)(aR:eU C)(hΦ:ei C Z)(ht:¬A dst)(ah:dst<a.tmps.size){f:Nat}{args:Array Operand}{ts:Array TypeId}{r:St×List PI}
 (hr:DX C S dst f args.toList=some r) {o:Oper} (hd:o.dst=some dst) (ho:o.op=.call {callee:=.value (.func f),args:=args,argTypes:=ts}):cw C w0 σ0 Z S O A a w o r:=by
 simp only[DX,aw] at hr;obtain⟨s,hs,hr⟩:=hr;split at hr
 case h_2=>cases hr
 rename_i l mc;simp only[aw] at hr;obtain⟨u,hu,hr⟩:=hr;cases bU:(Ty.subs u.1 s.args&&Nat.blt dst 4096)<;>simp only[bU,zyx,zyw] at hr
 .cases hr
 cases hr;simp only[aq,jB] at bU;obtain⟨bU,sm⟩:=bU;intro O' ao K Q hK;have yo:holds ([]:List (Nat×Bool)) O=true:=rfl;simp only[PI.runs,PI.run,yo,zyx,aw,aC] at ao;obtain⟨ρ1,⟨d,bm,rfl⟩,ao⟩:=ao;have hfn:=(hΦ f _ d bm s hs).1 (by rw[mc];rfl);obtain⟨σ1,dP,mP,h1⟩:=Inv.fzs (cj S [] args.toList) h;generalize S.fzs (cj S [] args.toList)=S1 at hu h1 hK ⊢;have kR:args.map a.eval=(args.toList.map a.eval).toArray:=by apply tq;rw[xy]
 refine DC hd (Hc aR hs ho) ?_;rw[kR];have qE:=hfn σ1 w (args.toList.map a.eval).toArray h1.ok (hC.mono h1.le) (by simpa using C7 h1 hC rfl hu bU);refine qE.mono λe' w' hh=>?_;obtain⟨v,V',rfl,hle,az,hb,dD,dp,fu⟩:=hh;simp only[nk,mc] at fu;obtain⟨vs,ds,ow,rfl,rfl,l1,l2,eL,uq⟩:=fu;refine hK _ _ ?_ (size_put _ _ _);have iP:(λu=>A u\/o.dst=some u)=(λu=>A u\/u=dst):=by funext u;rw[hd];simp[eq_comm]
 rw[iP];obtain⟨r1,r2,r3⟩:=TJ Z dst l 0 _ O' ao;simp only[fR] at r2 r3;have afF:(O.setR dst (.agg ds)).r dst=.agg ds:=aO _ _ _;rw[afF] at r3;have aH:=h1.below.size
 let W:Nat->Prop:=λj=>∃x,jV dst l j=some x
 let own':Nat->Option Nat:=λk=>match ow k with
  |some i=>some (iu dst i)
  |none=>match dP k with
   |some j=>match jV dst l j with|some _=>none|none=>some j
   |none=>none
 let hv':Nat->Value:=λj=>match jV dst l j with|some x=>vs.getD x.1 undef|none=>hv j
 have QM:∀j,¬W j->jV dst l j=none:=λj hj=>by
  cases e:jV dst l j with
  |none=>rfl
  |some x=>exact absurd ⟨x,e⟩ hj
 have gM:∀j,¬W j->O'.o j=O.o j:=λj hj=>r2 j λn T e hn e1=>hj ⟨(n,T,e),by rw[e1];exact afg sm hn⟩
 have EU:∀k j,dP k=some j->ow k=none:=λk j hk=>by
  cases e:ow k with
  |none=>rfl
  |some i=>have:=uq k i e;have:=h1.owns k j hk;omega
 have sl:Compat S1 hv ((S1.newRows dst l).setR dst (.agg (oQ S1 dst l 0))) hv':=⟨λj=>by
  show S1.ver j<=(match jV dst l j with|some _=>S1.ver j+1|none=>S1.ver j);split
  .exact Nat.le_succ _
  .exact aY _,λj e=>by
  have e:(match jV dst l j with|some _=>S1.ver j+1|none=>S1.ver j)=S1.ver j:=e;show(match jV dst l j with|some x=>vs.getD x.1 undef|none=>hv j)=hv j;cases hj:jV dst l j with
  |none=>rfl
  |some x=>rw[hj] at e;simp only at e;omega⟩
 refine⟨V',own',hv',?_⟩
 refine h1.step (w':=w') W rfl hle az (λk o x hx=>(dD k o x hx).imp id λe=>⟨by omega,.inr e⟩) (λk x hx=>(dp k x hx).imp id λe=>⟨by omega,.inr e⟩) (hb.mono aH) sl
  (λj hj=>⟨?_,gM j hj,?_,λk hk=>⟨?_,hb.block k (h1.owns k j hk).2.1⟩⟩) (λj hj=>?_) (λk i hk=>?_) (λ_=>.inl) (λt=>?_) (λt hA=>?_) (λk hk _=>hb.block k hk) (λk i hk=>?_) (λj hj=>?_)
 .show(match jV dst l j with|some x=>Ob.row x.2.1 x.2.2|none=>S1.o j)=S1.o j;rw[QM j hj]
 .show(match jV dst l j with|some x=>vs.getD x.1 undef|none=>hv j)=hv j;rw[QM j hj]
 .show own' k=some j;simp only[own',EU k j hk,hk,QM j hj]
 .obtain⟨⟨i,T,e⟩,hx⟩:=hj;obtain⟨rfl,hi⟩:=atm hx;show cR C _ O' V' own' hv' w' w0.heap.size (iu dst i) (match jV dst l (iu dst i) with|some x=>Ob.row x.2.1 x.2.2|none=>S1.o (iu dst i));rw[hx];obtain⟨cells,xs,g1,g2,g3,g4⟩:=eL i _ hi;have e2:hv' (iu dst i)=vs.getD i undef:=by simp only[hv',hx]
  refine⟨cells,xs,?_,?_,g3,λk hk=>?_⟩
  .rw[r3 i T e hi];simpa [D.c,D.cells] using g1
  .rw[e2];refine⟨g2.1,?_⟩;rcases g2.2 with e1|⟨g,cap,cur,e1,e3,e4⟩
   .exact .inl e1
   .exact .inr ⟨g,cap,cur,e1,by omega,e4⟩
  .rw[e2] at hk;simp only[own',g4 k hk]
 .simp only[own'] at hk;split at hk
  .rename_i i' cN;have:=uq k i' cN;exact⟨by omega,this.2.1,this.2.2.1,this.2.2.2⟩
  .split at hk
   .rename_i j hj;obtain⟨g1,g2,g3,g4⟩:=h1.owns k j hj;refine⟨g1,by have:=hb.size;omega,λo=>?_,?_⟩
    .cases hc:V'.c k o with
     |none=>rfl
     |some x=>rcases dD k o x hc with e|e
              .rw[g3 o] at e;cases e
              .omega
    .cases hc:V'.m k with
     |none=>rfl
     |some x=>rcases dp k x hc with e|e
              .rw[g4] at e;cases e
              .omega
   .cases hk
 .by_cases hu:t=dst
  .subst hu;refine .inr ⟨?_,λgs s e=>?_⟩
   .rw[zz];have e3:O'.r t=.agg ds:=by rw[r1];exact afF
    simp only[St.setR,aO,ah,and_self,if_true,e3];obtain⟨q1,q2⟩:=afh S1 t l 0;refine⟨vs,ds,rfl,rfl,by omega,by omega,λi c hc=>?_⟩;rcases q2 i c hc with⟨ty,hl,rfl⟩|⟨T,e,hl,rfl⟩
    .exact eL i _ hl
    .rw[fR];have hx:=afg sm hl;refine⟨?_,λ_=>?_⟩
     .show S1.ver (iu t i)+1<=(match jV t l (iu t i) with|some _=>S1.ver (iu t i)+1|none=>S1.ver (iu t i));rw[hx];exact aY _
     .simp only[hv',hx]
   .simp only[St.setR,aO] at e;cases e
  .refine .inl ⟨bt _ _ hu,?_,?_⟩
   .rw[zz];simp[hu]
   .rw[r1];exact bt _ _ hu
 .rw[r1];exact bt _ _ (λe=>ht (e▸hA))
 .simp only[own'] at hk;split at hk
  .rename_i i' cN;exact .inr (uq k i' cN).1
  .split at hk
   .rename_i j hj;exact .inl ⟨j,hj⟩
   .cases hk
 .obtain⟨x,hx⟩:=hj;show(match jV dst l j with|some x=>Ob.row x.2.1 x.2.2|none=>S1.o j)≠.tr;rw[hx];intro e;cases e
def ajN (h:Inv C S O V own hv w0 σ0 A a w)(hC:CtxOK C σ0)(aR:eU C)(hΦ:ei C Z)(ht:¬A dst)(ah:dst<a.tmps.size){f:Nat}{args:Array Operand}{ts:Array TypeId}{r:St×List PI}
 (hr:DV C S dst f args.toList=some r) {o:Oper} (hd:o.dst=some dst) (ho:o.op=.call {callee:=.value (.func f),args:=args,argTypes:=ts}):cw C w0 σ0 Z S O A a w o r:=by
 simp only[DV,aw] at hr;obtain⟨s,hs,hr⟩:=hr;split at hr
 case h_2=>cases hr
 rename_i shs obs x xs mc jI;split at hr
 case h_2=>cases hr
 rename_i m j ver mQ ff;split at hr
 case h_2=>cases hr
 rename_i T e eo;cases hb:(Nat.beq ver (S.ver j)&&(Nat.beq T m.1&&Ty.beq e m.2.1))<;>simp only[hb,zyx,zyw] at hr
 .cases hr
 simp only[aq] at hb;have ed:=aA hb.1;have hT:=aA hb.2.1;have he:=Ty.beq_eq _ _ hb.2.2;simp only[aw] at hr;obtain⟨u,hu,hr⟩:=hr;cases bU:Ty.subs u.1 m.2.2<;>simp only[bU,zyx,zyw] at hr
 .cases hr
 cases hr;intro O' ao K Q hK;have yo:holds ([]:List (Nat×Bool)) O=true:=rfl;simp only[PI.runs,PI.run,yo,zyx,aw,aC] at ao;obtain⟨ρ1,⟨d,bm,rfl⟩,ρ2,g2,ρ3,g3,g4⟩:=ao;cases g2;cases g3;cases g4;have hfn:=(hΦ f _ d bm s hs).2 shs obs mc;unfold iL at hfn;rw[mQ] at hfn;simp only at hfn;rw[<-hT,<-he] at hfn;have cO:=(s9 h (gs:=[]) rfl x).1;rw[ff] at cO;have cO:=cO.2 ed;have ba:=h.objs j;rw[eo] at ba;obtain⟨cells,ys,h1,h2,h3,h4⟩:=ba;have kR:args.map a.eval=(a.eval x::xs.map a.eval).toArray:=by apply tq;rw[xy,jI];rfl
 refine DC hd (Hc aR hs ho) ?_;rw[kR,cO];have aH:=h.below.size
 have qE:=hfn w0.heap.size V w (hv j) (xs.map a.eval) ys cells (PE.evs O u.2) (by simp[PE.evs,PE.ev,h1]) h.ok (hC.mono h.le) aH h2 h3 (λk hk=>by
  have:=h.owns k j (h4 k hk);exact this.2) (C7 h hC rfl hu bU)
 refine qE.mono λe' w' hh=>?_;obtain⟨v',lQ,dK,rfl,rfl,EA,EU,an9,am7,Z5⟩:=hh;refine hK _ _ ?_ (size_put _ _ _);have iP:(λu=>A u\/o.dst=some u)=(λu=>A u\/u=dst):=by funext u;rw[hd];simp[eq_comm]
 rw[iP]
 have Rs:=h.updO j (.row T e) (.list lQ) v' (λk=>decide (v'.ownBlock=some k)) EA (λk hk aB=>EU k hk (λe=>aB (h4 k e))) (λk hk=>by
  have bM:v'.ownBlock=some k:=by simpa using hk
  exact⟨(Z5 k bM).1.imp (h4 k) id,(Z5 k bM).2⟩)
  ⟨dK,lQ,by simp[Env.setO,aO],by rw[aO];exact an9,am7,λk hk=>by rw[aO] at hk;simp[gC,hk]⟩
 have h9:=Rs.setObj ht (j:=j) (v:=v') (aO _ _ _) ah;have e1:(S.newO j (.row T e)).ver j=S.ver j+1:=aO _ _ _;rw[e1] at h9;have eρ:((O.setR dst (.list lQ)).setO j ((PE.r dst).ev (O.setR dst (.list lQ)))).setR dst ((PE.con D.none).ev ((O.setR dst (.list lQ)).setO j ((PE.r dst).ev (O.setR dst (.list lQ)))))=(O.setO j (.list lQ)).setR dst .none:=by
  have:∀d1 d2:D,cv (cv O.r dst d1) dst d2=cv O.r dst d2:=by
   intro d1 d2;funext i;simp only[gm];split<;>rfl
  simp[Env.setR,Env.setO,PE.ev,aO,this]
 show Good C w0 σ0 _ _ _ _ _;rw[eρ];exact⟨_,_,_,h9⟩
end
def jy:Nat:=1000000013
abbrev oX:=Sh×Option (Ty×PE)
def H7 (C:Ctx)(S:St)(x:Operand):oX:=(fO S [] x,use C S [] x)
def Ys (c:Nat×Nat):oX:=(.ptr c.1 c.2 0,none)
def cW:List Nat->List Nat->Nat->Option Nat
 |i::is,j::js,k=>bif Nat.beq i k then some j else cW is js k
 |_,_,_=>none
def ash:Sh->Sh->List (Nat×Nat)
 |.obj i _,.obj j _=>[(i,j)]
 |.ptr i _ _,.ptr j _ _=>[(i,j)]
 |.fclo _ a,.fclo _ b=>(a.zip b).map λx=>(x.1.1,x.2.1)
 |_,_=>[]
def SV:List Sh->List Sh->List (Nat×Nat)
 |a::aa,b::bs=>ash a b++SV aa bs
 |_,_=>[]
def asg:Ob->Ob->List (Nat×Nat)
 |.box _ a,.box _ b=>SV a b
 |_,_=>[]
def abY:List (Nat×Nat)->Nat->Nat
 |[],_=>jy
 |x::l,i=>bif Nat.beq x.1 i then x.2 else abY l i
def aqW (S:St)(obs:List (Nat×Ob))(p:List (Nat×Nat)):List (Nat×Nat):=p++p.flatMap λx=>asg (fh obs x.1) (S.o x.2)
def Zf (S:St)(shs:List Sh)(obs:List (Nat×Ob))(acts:List oX):List Nat:=obs.map λo=>abY (aqW S obs (SV shs (acts.map (·.1)))) o.1
section
variable (ver:Nat->Nat) (is js:List Nat)
def G9:List (Nat×Nat)->Option (List (Nat×Nat))
 |[]=>some []
 |x::l=>bif Nat.beq x.2 0 then(cW is js x.1).bind λj=>(G9 l).map λr=>(j,ver j)::r else none
def lL:Sh->Option Sh
 |.dat t=>some (.dat t)
 |.none=>some .none
 |.obj i v=>bif Nat.beq v 0 then(cW is js i).map λj=>.obj j (ver j) else none
 |.ptr i v off=>bif Nat.beq v 0 then(cW is js i).map λj=>.ptr j (ver j) off else none
 |.fclo f caps=>(G9 ver is js caps).map (.fclo f)
 |_=>none
def Ha:List Sh->Option (List Sh)
 |[]=>some []
 |s::l=>(lL ver is js s).bind λa=>(Ha l).map (a::·)
def rA:Ob->Option Ob
 |.row T e=>some (.row T e)
 |.mp a b=>some (.mp a b)
 |.box ag shs=>(Ha ver is js shs).map (.box ag)
 |_=>none
end
def Ef (c:Sh):Sh->Bool
 |.none=>true
 |.dat b=>match c with|.dat a=>Ty.sub a b|_=>false
 |x=>Sh.beq c x
def Bf:List Sh->List Sh->Bool
 |[],[]=>true
 |a::aa,b::bs=>Ef a b&&Bf aa bs
 |_,_=>false
def Be:Ob->Ob->Bool
 |.box x a,.box y b=>(x==y)&&Bf a b
 |.row T a,.row U b=>Nat.beq T U&&Ty.beq a b
 |.mp a b,.mp c d=>Ty.beq a c&&Ty.beq b d
 |_,_=>false
def rZ (S:St)(is js:List Nat):List (Nat×Ob)->List Nat->Bool
 |[],[]=>true
 |o::obs,j::jl=>(match rA S.ver is js o.2 with|some x=>Be (S.o j) x|none=>false)&&rZ S is js obs jl
 |_,_=>false
def Ee (S:St)(is js:List Nat)(a:oX)(s:Sh):Option PE:=
 match s with
 |.dat t=>(match a.2 with|some x=>bif Ty.sub x.1 t then some x.2 else none|none=>none)
 |.none=>some (.con .none)
 |s=>(match lL S.ver is js s with|some x=>bif Sh.beq a.1 x then some (.con .none) else none|none=>none)
def vJ (S:St)(is js:List Nat):List oX->List Sh->Option (List PE)
 |[],[]=>some []
 |a::aa,s::ss=>(Ee S is js a s).bind λe=>(vJ S is js aa ss).map (e::·)
 |_,_=>none
def qt:List Sh->List Nat
 |[]=>[]
 |.obj i _::l=>i::qt l
 |.ptr i _ _::l=>i::qt l
 |.fclo _ c::l=>c.map (·.1)++qt l
 |_::l=>qt l
def aJ (l:List Nat)(x:Nat):Bool:=l.any (Nat.beq x)
def xr (ver:Nat->Nat)(shs:List Sh)(is js:List Nat):Nat->Nat:=λj=>match cW js is j with|some i=>bif aJ (qt shs) i then ver j else ver j+1|none=>ver j
def St.handed (S:St)(shs:List Sh)(obs:List (Nat×Ob))(is js:List Nat):St:=
 ⟨S.r,λj=>match cW js is j with|some i=>(match rA (xr S.ver shs is js) is js (fh obs i) with|some o=>o|none=>.dead)|none=>S.o j,xr S.ver shs is js⟩
def Bi (S:St):List Operand->List Sh->List Nat
 |x::xs,s::ss=>(bif oJ s then cj S [] [x] else[])++Bi S xs ss
 |_,_=>[]
def Hg:List Nat->Nat->List PI
 |[],_=>[]
 |j::js,k=>.setO j (.tget (.o jy) k)::Hg js (k+1)
def Pp (S:St)(res:Ty)(f:Nat)(shs:List Sh)(obs:List (Nat×Ob))(acts:List oX)(is js:List Nat):Option (St×Ty×List PI):=
 (vJ S is js acts shs).bind λes=>
    bif y5 shs obs&&(iy is&&iy js&&rZ S is js obs js&&pP (S.o jy)&& !aJ js jy) then some (S.handed shs obs is js,res,.mcall jy f (es++js.map .o)::Hg js 1) else none
def Pq (C:Ctx)(S:St)(res:Ty)(f:Nat)(shs:List Sh)(obs:List (Nat×Ob))(acts:List oX):Option (St×Ty×List PI):=
 Pp S res f shs obs acts (obs.map (·.1)) (Zf S shs obs acts)
def rV (C:Ctx)(S:St)(f:Nat)(args:List Operand)(caps:List (Nat×Nat)):Option (St×Ty×List PI):=
 (C.sig f).bind λs=>
    match s.mode with
    |.ob shs obs=>Pq C (S.fzs (Bi S args shs)) s.res f shs obs (args.map (H7 C (S.fzs (Bi S args shs)))++caps.map Ys)
    |_=>none
def abm {l:List Nat}{x:Nat}:aJ l x=true↔x∈l:=by
 unfold aJ;rw[tz];exact⟨λ⟨y,hy,h⟩=>by rw[aA h];exact hy,λh=>⟨x,h,ja x⟩⟩
def abT:∀{is js:List Nat} {i j:Nat},cW is js i=some j->∃k:Nat,is[k]?=some i/\js[k]?=some j
 |[],_,i,j,h=>by cases h
 |_::_,[],i,j,h=>by cases h
 |x::is,y::js,i,j,h=>by
  simp only[cW] at h;cases hb:Nat.beq x i<;>simp only[hb,zyx,zyw] at h
  .obtain⟨k,h1,h2⟩:=abT h;exact⟨k+1,h1,h2⟩
  .cases h;exact⟨0,by rw[aA hb];rfl,rfl⟩
def Lq:∀{is js:List Nat} {i j k:Nat},is.Nodup->is[k]?=some i->js[k]?=some j->cW is js i=some j
 |[],_,i,j,k,_,h,_=>by simp at h
 |_::_,[],i,j,k,_,_,h=>by simp at h
 |x::is,y::js,i,j,k,hn,h1,h2=>by
  simp only[cW];cases k with
  |zero=>simp at h1 h2;subst h1 h2;rw[ja];rfl
  |succ k=>
   simp at h1 h2;have aB:x≠i:=λe=>by subst e;exact(nX.1 hn).1 (lf h1)
   rw[fS aB];exact Lq (nX.1 hn).2 h1 h2
def Lr {is js:List Nat}(h2:js.Nodup){i j:Nat}(h:cW is js i=some j):cW js is j=some i:=by
 obtain⟨k,g1,g2⟩:=abT h;exact Lq h2 g2 g1
def apy (obs:List (Nat×Ob))(f:Nat->D):∀{is js:List Nat} {i j:Nat},is=obs.map (·.1)->cW is js i=some j->oM obs (js.map f) i=f j:=by
 induction obs with
 |nil=>intro is js i j h1 h2;subst h1;cases h2
 |cons x l ih=>
  intro is js i j h1 h2;subst h1;cases js with
  |nil=>cases h2
  |cons y js=>
   simp only[gq,cW] at h2;simp only[gq,oM];cases hb:Nat.beq x.1 i<;>simp only[hb,zyx,zyw] at h2 ⊢
   .exact ih rfl h2
   .cases h2;rfl
def abQ:∀{obs:List (Nat×Ob)} {js:List Nat} {os:List D} {i j:Nat},os.length=obs.length->cW (obs.map (·.1)) js i=some j->∃k:Nat,js[k]?=some j/\oM obs os i=os.getD k .none
 |[],_,_,i,j,_,h=>by cases h
 |_::_,[],_,i,j,_,h=>by cases h
 |_::_,_::_,[],i,j,hl,h=>by simp at hl
 |x::obs,y::js,o::os,i,j,hl,h=>by
  simp only[gq,cW] at h;simp only[oM];cases hb:Nat.beq x.1 i<;>simp only[hb,zyx,zyw] at h ⊢
  .obtain⟨k,h1,h2⟩:=abQ (obs:=obs) (js:=js) (os:=os) (by simpa using hl) h;exact⟨k+1,h1,by simpa using h2⟩
  .cases h;exact⟨0,rfl,rfl⟩
def abW:∀{obs:List (Nat×Ob)} {js:List Nat} {i:Nat},js.length=obs.length->cW (obs.map (·.1)) js i=none->fh obs i=.dead
 |[],_,i,_,_=>rfl
 |x::obs,[],i,hl,h=>by simp at hl
 |x::obs,y::js,i,hl,h=>by
  simp only[gq,cW] at h;simp only[fh];cases hb:Nat.beq x.1 i<;>simp only[hb,zyx,zyw] at h ⊢
  .exact abW (by simpa using hl) h
  .cases h
def Zp {S:St}{is js:List Nat}:∀{obs:List (Nat×Ob)} {jl:List Nat},rZ S is js obs jl=true->jl.length=obs.length
 |[],[],_=>rfl
 |[],_::_,h=>by simp[rZ] at h
 |_::_,[],h=>by simp[rZ] at h
 |o::obs,j::jl,h=>by simp only[rZ,aq] at h;simp[Zp h.2]
def Zo {S:St}{is js:List Nat}:∀{obs:List (Nat×Ob)} {jl:List Nat},rZ S is js obs jl=true->∀{i j:Nat},cW (obs.map (·.1)) jl i=some j->∃x,rA S.ver is js (fh obs i)=some x/\Be (S.o j) x=true
 |[],_,_,i,j,h=>by cases h
 |_::_,[],_,i,j,h=>by cases h
 |o::obs,y::jl,hf,i,j,h=>by
  simp only[rZ,aq] at hf;simp only[gq,cW] at h;simp only[fh];cases hb:Nat.beq o.1 i<;>simp only[hb,zyx,zyw] at h ⊢
  .exact Zo hf.2 h
  .cases h;have h1:=hf.1;split at h1
   .rename_i x hx;exact⟨x,hx,h1⟩
   .cases h1
def Zq:∀{a b:List Sh},Bf a b=true->a.length=b.length/\∀(i:Nat) (y:Sh),b[i]?=some y->∃x,a[i]?=some x/\Ef x y=true
 |[],[],_=>⟨rfl,λi y h=>by simp at h⟩
 |[],_::_,h=>by simp[Bf] at h
 |_::_,[],h=>by simp[Bf] at h
 |a::aa,b::bs,h=>by
  simp only[Bf,aq] at h;obtain⟨g1,g2⟩:=Zq h.2;refine⟨by simp[g1],λi y hy=>?_⟩;cases i with
  |zero=>simp at hy;subst hy;exact⟨a,rfl,h.1⟩
  |succ i=>simp at hy;simpa using g2 i y hy
def UC {ver:Nat->Nat}{is js:List Nat}:∀{a b:List Sh},Ha ver is js a=some b->b.length=a.length/\∀(i:Nat) (x:Sh),a[i]?=some x->∃y,b[i]?=some y/\lL ver is js x=some y
 |[],b,h=>by simp only[Ha,aS] at h;subst h;exact⟨rfl,λi x h=>by simp at h⟩
 |s::l,b,h=>by
  simp only[Ha,aw,aC] at h;obtain⟨y,hy,r,hr,rfl⟩:=h;obtain⟨g1,g2⟩:=UC hr;refine⟨by simp[g1],λi x hx=>?_⟩;cases i with
  |zero=>simp at hx;subst hx;exact⟨y,rfl,hy⟩
  |succ i=>simp at hx;simpa using g2 i x hx
def M1 {ver:Nat->Nat}{is js:List Nat}:∀{a b:List (Nat×Nat)},G9 ver is js a=some b->b.length=a.length/\∀(i x v:Nat),a[i]?=some (x,v)->∃j,b[i]?=some (j,ver j)/\cW is js x=some j/\v=0
 |[],b,h=>by simp only[G9,aS] at h;subst h;exact⟨rfl,λi x v h=>by simp at h⟩
 |s::l,b,h=>by
  simp only[G9] at h;cases hb:Nat.beq s.2 0<;>simp only[hb,zyx,zyw] at h
  .cases h
  simp only[aw,aC] at h;obtain⟨y,hy,r,hr,rfl⟩:=h;obtain⟨g1,g2⟩:=M1 hr;refine⟨by simp[g1],λi x v hx=>?_⟩;cases i with
  |zero=>simp at hx;subst hx;exact⟨y,rfl,hy,aA hb⟩
  |succ i=>simp at hx;simpa using g2 i x v hx
def UB {ver:Nat->Nat}{is js:List Nat}{s x:Sh}(h:lL ver is js s=some x):(∀gs s',s≠.opt gs s')/\∀gs s',x≠.opt gs s':=by
 cases s<;>simp only[lL] at h
 case none=>cases h;exact⟨(λ_ _ e=>by cases e),(λ_ _ e=>by cases e)⟩
 case dat=>cases h;exact⟨(λ_ _ e=>by cases e),(λ_ _ e=>by cases e)⟩
 case obj i v=>
  cases hb:Nat.beq v 0<;>simp only[hb,zyx,zyw] at h
  .cases h
  simp only[aC] at h;obtain⟨j,_,rfl⟩:=h;exact⟨(λ_ _ e=>by cases e),(λ_ _ e=>by cases e)⟩
 case ptr i v off=>
  cases hb:Nat.beq v 0<;>simp only[hb,zyx,zyw] at h
  .cases h
  simp only[aC] at h;obtain⟨j,_,rfl⟩:=h;exact⟨(λ_ _ e=>by cases e),(λ_ _ e=>by cases e)⟩
 case fclo f caps=>
  simp only[aC] at h;obtain⟨j,_,rfl⟩:=h;exact⟨(λ_ _ e=>by cases e),(λ_ _ e=>by cases e)⟩
 all_goals cases h
section
variable {C:Ctx} {S S1:St} {O ρ1:Env} {V σ1:Im} {own dP:Nat->Option Nat} {hv aQ:Nat->Value} {w0:World} {σ0:Base} {A:Nat->Prop} {a:Act} {w w1:World} {Z:aV} {dst:Nat}
 {is js:List Nat} {shs:List Sh} {obs:List (Nat×Ob)} {ρf:Env}
def afP (hσ:Im.leR C.cap V σ1){fJ:Nat->Value}(gN:∀i j,cW is js i=some j->fJ i=hv j){s x:Sh}(hr:lL S.ver is js s=some x){v:Value}{d:D}(h:aK C S O V hv x v d):aK C (gO shs obs) ρf σ1 fJ s v d:=by
 cases s<;>simp only[lL] at hr
 case none=>trivial
 case dat=>cases hr;exact hσ.rep h
 case obj i ver=>
  cases hb:Nat.beq ver 0<;>simp only[hb,zyx,zyw] at hr
  .cases hr
  simp only[aC] at hr;obtain⟨j,hj,rfl⟩:=hr;exact⟨by rw[aA hb];exact pf _,λ_=>by rw[gN i j hj];exact h.2 rfl⟩
 case ptr i ver off=>
  cases hb:Nat.beq ver 0<;>simp only[hb,zyx,zyw] at hr
  .cases hr
  simp only[aC] at hr;obtain⟨j,hj,rfl⟩:=hr;exact⟨by rw[aA hb];exact pf _,λ_=>by rw[gN i j hj];exact h.2 rfl⟩
 case fclo f caps=>
  simp only[aC] at hr;obtain⟨c,hc,rfl⟩:=hr;obtain⟨g1,g2⟩:=M1 hc;obtain⟨vs,h1,h2,h3⟩:=h;refine⟨vs,h1,by omega,λi x ver hi=>?_⟩;obtain⟨j,e1,e2,e3⟩:=g2 i x ver hi;exact⟨by rw[e3];exact pf _,λ_=>by rw[gN x j e2];exact(h3 i j _ e1).2 rfl⟩
 all_goals cases hr
def atK (hσ:V.le σ1){fJ:Nat->Value}(gN:∀i j,cW is js i=some j->fJ i=aQ j){s x:Sh}(hr:lL S1.ver is js s=some x){v:Value}{d:D}(h:aK C (gO shs obs) ρf V fJ s v d):aK C S1 ρ1 σ1 aQ x v d:=by
 cases s<;>simp only[lL] at hr
 case none=>cases hr;trivial
 case dat=>cases hr;exact Rep.mono hσ h
 case obj i ver=>
  cases hb:Nat.beq ver 0<;>simp only[hb,zyx,zyw] at hr
  .cases hr
  simp only[aC] at hr;obtain⟨j,hj,rfl⟩:=hr;exact⟨aY _,λ_=>by rw[<-gN i j hj];exact h.2 (aA hb)⟩
 case ptr i ver off=>
  cases hb:Nat.beq ver 0<;>simp only[hb,zyx,zyw] at hr
  .cases hr
  simp only[aC] at hr;obtain⟨j,hj,rfl⟩:=hr;exact⟨aY _,λ_=>by rw[<-gN i j hj];exact h.2 (aA hb)⟩
 case fclo f caps=>
  simp only[aC] at hr;obtain⟨c,hc,rfl⟩:=hr;obtain⟨g1,g2⟩:=M1 hc;obtain⟨vs,h1,h2,h3⟩:=h;refine⟨vs,h1,by omega,λi j ver hi=>?_⟩;have ah:i<caps.length:=by have:=(eV.1 hi).1;omega
  obtain⟨j',e1,e2,e3⟩:=g2 i _ _ (bE ah);rw[hi] at e1;cases e1;exact⟨aY _,λ_=>by rw[<-gN _ j e2];exact(h3 i _ _ (bE ah)).2 e3⟩
 all_goals cases hr
def akJ {c x:Sh}(hf:Ef c x=true){v:Value}{d:D}(h:aK C S O V hv c v d):aK C S O V hv x v d:=by
 cases x with
 |none=>trivial
 |dat b=>
  simp only[Ef] at hf;split at hf
  .exact Rep.sub h hf
  .cases hf
 |_=>simp only[Ef] at hf;rw[Sh.beq_eq _ _ hf] at h;exact h
def ars (hσ:Im.leR C.cap V σ1){fJ:Nat->Value}{FX:Nat->Option Nat}(gN:∀i j,cW is js i=some j->fJ i=hv j)(be:∀k j i,own k=some j->cW js is j=some i->FX k=some i)(bn:js.Nodup){i j N:Nat}(cK:cW is js i=some j)(hρ:ρf.o i=O.o j){ob x:Ob}
 (hr:rA S.ver is js ob=some x) (hf:Be (S.o j) x=true) (h:cR C S O V own hv w N j (S.o j)):cR C (gO shs obs) ρf σ1 FX fJ w N i ob:=by
 have fq:=Lr bn cK;cases ob<;>simp only[rA] at hr
 case row T e=>
  cases hr;cases ho:S.o j<;>rw[ho] at hf h<;>simp only[Be,aq] at hf<;>try (cases hf;done)
  obtain⟨cells,xs,h1,h2,h3,h4⟩:=h;rw[aA hf.1,Ty.beq_eq _ _ hf.2] at*;exact⟨cells,xs,by rw[hρ];exact h1,by rw[gN i j cK];exact h2,h3.monoR hσ,λk hk=>be k j i (h4 k (by rw[<-gN i j cK];exact hk)) fq⟩
 case mp kt et=>
  cases hr;cases ho:S.o j<;>rw[ho] at hf h<;>simp only[Be,aq] at hf<;>try (cases hf;done)
  obtain⟨k,arr,clock,es,h1,h2,h3,h4,h5,h6,h7⟩:=h;rw[Ty.beq_eq _ _ hf.1,Ty.beq_eq _ _ hf.2] at*;exact⟨k,arr,clock,es,by rw[gN i j cK];exact h1,be k j i h2 fq,h3,by rw[hρ];exact h4,h5,h6,λn e p he hp=>⟨hσ.rep (h7 n e p he hp).1,hσ.rep (h7 n e p he hp).2⟩⟩
 case box ag cs=>
  simp only[aC] at hr;obtain⟨cs',dY,rfl⟩:=hr;cases ho:S.o j<;>rw[ho] at hf h<;>simp only[Be,aq] at hf<;>try (cases hf;done)
  obtain⟨k,vs,T,ds,h1,h2,h3,h4,h5,h6,h7⟩:=h;obtain⟨l1,g1⟩:=Zq hf.2;obtain⟨l2,g2⟩:=UC dY;refine⟨k,vs,T,ds,by rw[gN i j cK];exact h1,be k j i h2 fq,h3,by omega,by rw[hρ];exact h5,by omega,λn s hs=>?_⟩;obtain⟨y,hy,Fg⟩:=g2 n s hs;obtain⟨z,hz,ui⟩:=g1 n y hy;exact⟨(UB Fg).1,afP hσ gN Fg (akJ ui (h7 n z hz).2)⟩
 all_goals cases hr
def art (hσ:V.le σ1){fJ:Nat->Value}{FX:Nat->Option Nat}(gN:∀i j,cW is js i=some j->fJ i=aQ j)(be:∀k i j,FX k=some i->cW is js i=some j->dP k=some j){i j N:Nat}(cK:cW is js i=some j)(hρ:ρ1.o j=ρf.o i){ob x:Ob}
 (hr:rA S1.ver is js ob=some x) (h:cR C (gO shs obs) ρf V FX fJ w N i ob):cR C S1 ρ1 σ1 dP aQ w N j x:=by
 cases ob<;>simp only[rA] at hr
 case row T e=>
  cases hr;obtain⟨cells,xs,h1,h2,h3,h4⟩:=h;exact⟨cells,xs,by rw[hρ];exact h1,by rw[<-gN i j cK];exact h2,h3.mono hσ,λk hk=>be k i j (h4 k (by rw[gN i j cK];exact hk)) cK⟩
 case mp kt et=>
  cases hr;obtain⟨k,arr,clock,es,h1,h2,h3,h4,h5,h6,h7⟩:=h;exact⟨k,arr,clock,es,by rw[<-gN i j cK];exact h1,be k i j h2 cK,h3,by rw[hρ];exact h4,h5,h6,λn e p he hp=>⟨(h7 n e p he hp).1.mono hσ,(h7 n e p he hp).2.mono hσ⟩⟩
 case box ag cs=>
  simp only[aC] at hr;obtain⟨cs',dY,rfl⟩:=hr;obtain⟨k,vs,T,ds,h1,h2,h3,h4,h5,h6,h7⟩:=h;obtain⟨l2,g2⟩:=UC dY;refine⟨k,vs,T,ds,by rw[<-gN i j cK];exact h1,be k i j h2 cK,h3,by omega,by rw[hρ];exact h5,by omega,λn s hs=>?_⟩;have ah:n<cs.length:=by have:=(eV.1 hs).1;omega
  obtain⟨y,hy,Fg⟩:=g2 n _ (bE ah);rw[hs] at hy;cases hy;exact⟨(UB Fg).2,atK hσ gN Fg (h7 n _ (bE ah)).2⟩
 all_goals cases hr
def atJ {ver:Nat->Nat}{ob x:Ob}(hr:rA ver is js ob=some x):x≠.tr:=by
 cases ob<;>simp only[rA] at hr
 case row=>cases hr;intro e;cases e
 case mp=>cases hr;intro e;cases e
 case box=>
  simp only[aC] at hr;obtain⟨_,_,rfl⟩:=hr;intro e;cases e
 all_goals cases hr
def CtxOK.noM (h:CtxOK C V):CtxOK C V.noM:=⟨λg x hx=>(h.glob g x hx).noM⟩
def Hy (C:Ctx)(S:St)(O:Env)(V:Im)(hv:Nat->Value)(x:oX)(v:Value)(d:D):Prop:=aK C S O V hv x.1 v d/\∀y,x.2=some y->Rep C.cap V y.1 v (y.2.ev O)
def Zl:∀{acts:List oX} {shs:List Sh} {es:List PE},vJ S is js acts shs=some es->acts.length=shs.length/\es.length=shs.length/\∀(t:Nat) (s:Sh),shs[t]?=some s->∃x e,acts[t]?=some x/\es[t]?=some e/\Ee S is js x s=some e
 |[],[],es,h=>by simp only[vJ,aS] at h;subst h;exact⟨rfl,rfl,λt s h=>by simp at h⟩
 |[],_::_,es,h=>by simp[vJ] at h
 |_::_,[],es,h=>by simp[vJ] at h
 |x::acts,s::shs,es,h=>by
  simp only[vJ,aw,aC] at h;obtain⟨e,he,r,hr,rfl⟩:=h;obtain⟨g1,g2,g3⟩:=Zl hr;refine⟨by simp[g1],by simp[g2],λt s' hs=>?_⟩;cases t with
  |zero=>simp at hs;subst hs;exact⟨x,e,rfl,rfl,he⟩
  |succ t=>simp at hs;simpa using g3 t s' hs
def akI (hσ:Im.leR C.cap V σ1){fJ:Nat->Value}(gN:∀i j,cW is js i=some j->fJ i=hv j){x:oX}{s:Sh}{e:PE}(hf:Ee S is js x s=some e){v:Value}{d:D}(h:Hy C S O V hv x v d):aK C (gO shs obs) ρf σ1 fJ s v (e.ev O):=by
 have gen:∀s,(match lL S.ver is js s with|some y=>bif Sh.beq x.1 y then some (PE.con .none) else none|none=>none)=some e->oJ s=false->aK C (gO shs obs) ρf σ1 fJ s v (e.ev O):=by
  intro s hm hd;split at hm
  .rename_i y hy;cases hb:Sh.beq x.1 y<;>simp only[hb,zyx,zyw] at hm
   .cases hm
   have h1:=h.1;rw[Sh.beq_eq _ _ hb] at h1;have:=afP (shs:=shs) (obs:=obs) (ρf:=ρf) hσ gN hy h1;cases s with
   |dat t=>cases hd
   |opt gs s'=>exact absurd rfl ((UB hy).1 gs s')
   |eptr j ver size off=>simp[lL] at hy
   |agg l=>simp[lL] at hy
   |_=>exact this
  .cases hm
 unfold Ee at hf;split at hf
 .rename_i t;split at hf
  .rename_i y hy;cases hb:Ty.sub y.1 t<;>simp only[hb,zyx,zyw] at hf
   .cases hf
   cases hf;exact hσ.rep ((h.2 y hy).sub hb)
  .cases hf
 .trivial
 .rename_i mR qM;refine gen _ hf ?_;cases s<;>first|rfl|exact absurd rfl (mR _)
def ajw {fJ Ru:Nat->Value}{V V':Im}{ρf Of':Env}{args:Nat->Value}{ds ds':Nat->D}(h1:∀(t:Nat) (s:Sh),shs[t]?=some s->aK C (gO shs obs) ρf V fJ s (args t) (ds t))(h2:∀(t:Nat) (s:Sh),shs[t]?=some s->oJ s=false->aK C (gO shs obs) Of' V' Ru s (args t) (ds' t))
 (hz:∀s,s∈shs->∃x,lL S.ver is js s=some x) {i:Nat} (hi:i∈qt shs):Ru i=fJ i:=by
 have key:∀(l:List Sh),(∀s,s∈l->∃t:Nat,shs[t]?=some s)->i∈qt l->Ru i=fJ i:=by
  intro l
  induction l with
  |nil=>intro _ h;cases h
  |cons s l ih=>
   intro hl hi;obtain⟨t,ht⟩:=hl s (er ..);have fY:∀s,s∈l->∃t:Nat,shs[t]?=some s:=λs hs=>hl s (dW _ hs);obtain⟨x,hx⟩:=hz s (lf ht);have a1:=h1 t s ht;have a2:=h2 t s ht;cases s<;>simp only[qt] at hi
   case obj j ver=>
        simp only[lL] at hx;cases hb:Nat.beq ver 0<;>simp only[hb,zyx,zyw] at hx
        .cases hx
        rcases cZ.1 hi with e|e
        .subst e;rw[<-(a1.2 (aA hb)),<-((a2 rfl).2 (aA hb))]
        .exact ih fY e
   case ptr j ver off=>
        simp only[lL] at hx;cases hb:Nat.beq ver 0<;>simp only[hb,zyx,zyw] at hx
        .cases hx
        rcases cZ.1 hi with e|e
        .subst e;obtain⟨k1,e1,e2⟩:=a1.2 (aA hb);obtain⟨k2,e3,e4⟩:=(a2 rfl).2 (aA hb);rw[e2] at e4;cases e4;rw[e1,e3]
        .exact ih fY e
   case fclo f caps=>
        simp only[lL,aC] at hx;obtain⟨c,hc,_⟩:=hx;obtain⟨_,g2⟩:=M1 hc;rcases dm.1 hi with e|e
        .obtain⟨y,hy,e1⟩:=dX.1 e;subst e1;obtain⟨m,hm⟩:=zN hy;obtain⟨vs,b1,b2,b3⟩:=a1;obtain⟨C9,c1,c2,c3⟩:=a2 rfl;rw[b1] at c1;have cS:vs=C9:=by simpa using c1
         subst cS;obtain⟨_,_,_,oH⟩:=g2 m y.1 y.2 hm;rw[<-(b3 m y.1 y.2 hm).2 oH,<-(c3 m y.1 y.2 hm).2 oH]
        .exact ih fY e
   all_goals exact ih fY hi
 exact key shs (λs hs=>zN hs) hi
end
section
variable {C:Ctx} {S:St} {O:Env} {V:Im} {own:Nat->Option Nat} {hv:Nat->Value} {w0:World} {σ0:Base} {A:Nat->Prop} {a:Act} {w:World} {Z:aV} {dst:Nat}
 {is js:List Nat} {shs:List Sh} {obs:List (Nat×Ob)}
def Below.weak {B:Nat}{w w':World}(h:Below 0 w w')(hk:∀k,k<B->w'.heap[k]?=w.heap[k]?):Below B w w':=⟨h.os,h.tape,h.output,h.size,hk⟩
def pW (js is:List Nat)(own:Nat->Option Nat):Nat->Option Nat:=λk=>(own k).bind (cW js is)
def FW (js is:List Nat)(own own':Nat->Option Nat):Nat->Option Nat:=λk=>
 match own' k with
 |some i=>cW is js i
 |none=>match own k with|some j=>(match cW js is j with|some _=>none|none=>some j)|none=>none
def handed (h:Inv C S O V own hv w0 σ0 A a w)(hC:CtxOK C σ0)(aoe:y5 shs obs=true)(ES:is=obs.map (·.1))(aaG:is.Nodup)(KW:js.Nodup)(Bz:rZ S is js obs js=true){acts:List oX}{es:List PE}(ke:vJ S is js acts shs=some es)
 (KA:S.o jy=.dead) (K8:jy∉js) {vals:List Value} (hvl:vals.length=acts.length) (amy:∀(t:Nat) (x:oX),acts[t]?=some x->∃d,Hy C S O V hv x (vals.getD t undef) d) {f:Nat} {res:Ty} {d:D}
 (hfn:vk C f shs obs res (es.map (PE.ev O)++js.map O.o) d):
 Calls C.P f vals.toArray w λe w'=>∃v dr os,e=.returned v/\d=.tup (dr::os)/\os.length=js.length/\
  ∀O':Env,O'.r=O.r->(∀(k j:Nat),js[k]?=some j->O'.o j=os.getD k .none)->(∀j,j∉js->j≠jy->O'.o j=O.o j)->
   ∃σ1 dP aQ,Inv C (S.handed shs obs is js) O' σ1 dP aQ w0 σ0 A a w'/\Rep C.cap σ1 res v dr:=by
 obtain⟨al1,al2,jI⟩:=Zl ke;have fX:=Zp Bz;have wj:w0.heap.size<=w.heap.size:=h.below.size;obtain⟨tr,fx,cx,hf,yN⟩:=h.frame
 let fJ:Nat->Value:=λi=>match cW is js i with|some j=>hv j|none=>undef
 have gN:∀i j,cW is js i=some j->fJ i=hv j:=λi j e=>by simp only[fJ,e]
 have aav:Im.leR C.cap V V.noM:=⟨Rep.noM,λ_ _ _ e=>e⟩
 have E2:∀k x,V.noM.m k=some x->V.m k=some x/\x≠dw:=by
  intro k x e;by_cases hd:V.m k=some dw
  .simp[Im.noM,hd] at e
  .simp only[Im.noM,if_neg hd] at e;exact⟨e,λe2=>hd (by rw[e,e2])⟩
 have yj:(es.map (PE.ev O)++js.map O.o).drop shs.length=js.map O.o:=by rw[List.drop_append];simp[al2]
 have anj:∀t e,es[t]?=some e->(es.map (PE.ev O)++js.map O.o).getD t .none=e.ev O:=λt e he=>by
  have ah:=(eV.1 he).1;rw[aN,lT (by simpa using ah),cV,he];rfl
 have aop:∀s,s∈shs->∃x,lL S.ver is js s=some x:=by
  intro s hs;obtain⟨t,ht⟩:=zN hs;obtain⟨x,e,_,_,he⟩:=jI t s ht;unfold Ee at he;split at he
  .exact⟨_,rfl⟩
  .exact⟨_,rfl⟩
  .split at he
   .rename_i y hy;exact⟨y,hy⟩
   .cases he
 have aar:∀t,aK C (gO shs obs) (nK obs (es.map (PE.ev O)++js.map O.o) ((es.map (PE.ev O)++js.map O.o).drop shs.length)) V.noM fJ (shs.getD t .none) (vals.toArray.getD t undef) ((es.map (PE.ev O)++js.map O.o).getD t .none):=by
  intro t;cases hs:shs[t]? with
  |none=>rw[aN,hs];trivial
  |some s=>
   obtain⟨x,e,hx,he,KD⟩:=jI t s hs;obtain⟨d',amz⟩:=amy t x hx;rw[aN (l:=shs),hs,anj t e he];have e1:vals.toArray.getD t undef=vals.getD t undef:=by simp[fb,aN]
   rw[e1];exact akI aav gN KD amz
 have ans:∀i,cR C (gO shs obs) (nK obs (es.map (PE.ev O)++js.map O.o) ((es.map (PE.ev O)++js.map O.o).drop shs.length)) V.noM (pW js is own) fJ w w0.heap.size i (fh obs i):=by
  intro i;cases cK:cW is js i with
  |none=>subst ES;rw[abW fX cK];trivial
  |some j=>
   subst ES;obtain⟨x,hx,KG⟩:=Zo Bz cK;refine ars aav gN (λk j' i' hk hl=>by simp only[pW,hk,lh,hl]) KW cK ?_ hx KG (h.objs j);show oM obs _ i=_;rw[yj];exact apy obs O.o rfl cK
 have qE:=hfn w0.heap.size V.noM (pW js is own) fJ w vals.toArray (λk=>(∃j,own k=some j/\cW js is j=none)\/V.m k=some dw\/(cx k)) aoe ⟨h.ok.c,λk x e=>h.ok.m k x (E2 k x e).1⟩ ((hC.mono h.le).noM)
  (λk e=>(E2 k _ e).2 rfl) wj (by simp;omega) (λk i hk=>by
    simp only[pW,aw] at hk;obtain⟨j,hj,_⟩:=hk;obtain⟨g1,g2,g3,g4⟩:=h.owns k j hj;exact⟨g1,g2,g3,by by_cases e:V.m k=some dw<;>simp[Im.noM,e,g4]⟩) (λk hk=>by
    rcases hk with⟨j,hj,hn⟩|hk|hk
    .obtain⟨g1,g2,g3,g4⟩:=h.owns k j hj;exact⟨g2,by simp[pW,hj,hn],g3,by by_cases e:V.m k=some dw<;>simp[Im.noM,e,g4]⟩
    .have E0:=h.ok.m k _ hk;have hn:own k=none:=by
      cases e:own k with
      |none=>rfl
      |some j=>rw[(h.owns k j e).2.2.2] at hk;cases hk
     refine⟨E0.lt,by simp[pW,hn],λo=>?_,by simp[Im.noM,hk]⟩;cases e:V.c k o with
     |none=>exact e
     |some x=>
      have c1:=h.ok.c k o x e;rcases E0 with⟨m1,_⟩|⟨_,m2⟩
      .exact absurd rfl m1
      .simp[World.cell?,m2] at c1
    .have l9:=σ0.sub _ _ _ _ hf.F k hk;have hn:own k=none:=by
      cases e:own k with
      |none=>rfl
      |some j=>exact absurd l9 (hf.own k j e)
     refine⟨σ0.lt _ _ _ _ hf.F k l9,by simp[pW,hn],λo=>?_,?_⟩
     .cases e:V.c k o with
      |none=>exact e
      |some x=>exact absurd hk (hf.c k o x e)
     .cases e:V.m k with
      |none=>simp[Im.noM,e]
      |some x=>exact absurd hk (hf.m k x e)) aar ans
 refine qE.mono λe w' hh=>?_;obtain⟨v,V',own',hv',dr,os,rfl,hd,BI,hle,az,hb,gz,dD,dp,KV,aaQ,EU,QU,fu⟩:=hh;refine⟨v,dr,os,rfl,hd,by omega,λO' jO nA yG=>?_⟩;have K0:∀k,k<w.heap.size->own k=none->w'.heap[k]?=w.heap[k]?:=λk hk hn=>gz k hk (by simp[pW,hn]);have an7:∀k j,own k=some j->cW js is j=none->w'.heap[k]?=w.heap[k]?:=λk j hk hn=>gz k (h.owns k j hk).2.1 (by simp[pW,hk,hn])
 have amV:∀k o x,V.c k o=some x->own k=none:=λk o x e=>by
  cases e1:own k with
  |none=>rfl
  |some j=>rw[(h.owns k j e1).2.2.1 o] at e;cases e
 have aaD:∀k x,V.m k=some x->own k=none:=λk x e=>by
  cases e1:own k with
  |none=>rfl
  |some j=>rw[(h.owns k j e1).2.2.2] at e;cases e
 have K3:V.ok w':=⟨λk o x e=>by rw[World.cell?_of_block (K0 k (h.lt e) (amV k o x e))];exact h.ok.c k o x e,λk x e=>(h.ok.m k x e).keep (K0 k (h.ltm e) (aaD k x e))⟩
 have mP:V.le (V'.plus V):=Im.plus_le2 az K3;have kO:V'.le (V'.plus V):=Im.plus_le1 V' V;have dY:∀k o x,(V'.plus V).c k o=some x->V'.c k o=some x:=λk o x e=>(Im.plus_c e).elim id (λe=>hle.c k o x e)
 have BG:∀k x,(V'.plus V).m k=some x->V'.m k=some x\/(V.m k=some x/\x=dw):=λk x e=>(Im.plus_m e).elim .inl (λe=>by
  by_cases hd:x=dw
  .exact .inr ⟨e,hd⟩
  .refine .inl (hle.m k x ?_);have:V.m k≠some dw:=λe2=>hd (by rw[e] at e2;cases e2;rfl);simp only[Im.noM,if_neg this,e])
 let aQ:Nat->Value:=λj=>match cW js is j with|some i=>hv' i|none=>hv j
 have aoR:∀i j,cW is js i=some j->hv' i=aQ j:=λi j e=>by simp only[aQ,Lr KW e]
 have am3:∀i,i∈qt shs->hv' i=fJ i:=λi hi=>ajw (S:=S) (is:=is) (js:=js) (args:=λt=>vals.toArray.getD t undef) (ds:=λt=>(es.map (PE.ev O)++js.map O.o).getD t .none) (ds':=λt=>(es.map (PE.ev O)++js.map O.o).getD t .none) (λt s hs=>by
  have:=aar t;rw[aN (l:=shs),hs] at this;exact this) (λt s hs hd=>EU t s hs hd) aop hi
 have sl:Compat S hv (S.handed shs obs is js) aQ:=by
  refine⟨λj=>?_,λj e=>?_⟩
  .show S.ver j<=xr S.ver shs is js j;unfold xr;split
   .cases aJ (qt shs) _<;>simp
   .exact aY _
  .change xr S.ver shs is js j=S.ver j at e;show aQ j=hv j;simp only[aQ];unfold xr at e;split at e
   .rename_i i hi;cases hb:aJ (qt shs) i<;>rw[hb] at e
    .simp at e
    .try simp only[hi]
     rw[am3 i (abm.1 hb),gN i j (Lr aaG hi)]
   .rename_i hi;try simp only[hi]
 have ou:∀k j,FW js is own own' k=some j->(k<w.heap.size->own k≠none)/\w0.heap.size<=k/\k<w'.heap.size/\(∀o,V'.c k o=none)/\V'.m k=none/\V.m k≠some dw:=by
  intro k j hk;simp only[FW] at hk;split at hk
  .rename_i i hi;obtain⟨g1,g2,g3,g4,g5⟩:=aaQ k i hi;have g6:k<w.heap.size->own k≠none:=λah e=>g5 ah (by simp[pW,e]);refine⟨g6,g1,g2,g3,g4,λe=>?_⟩;exact g6 (h.ltm e) (aaD k _ e)
  .split at hk
   .rename_i j' bh;split at hk
    .cases hk
    .rename_i hn;obtain⟨g1,g2,g3,g4⟩:=h.owns k j' bh;have l7:(∃j,own k=some j/\cW js is j=none)\/V.m k=some dw\/(cx k):=.inl ⟨j',bh,hn⟩;refine⟨λ_ e=>(by rw[bh] at e;cases e),g1,xG g2 hb.size,λo=>?_,?_,λe=>?_⟩
     .cases e:V'.c k o with
      |none=>rfl
      |some x=>exact absurd l7 (dD k o x e).2
     .cases e:V'.m k with
      |none=>rfl
      |some x=>exact absurd l7 (dp k x e).2
     .rw[g4] at e;cases e
   .cases hk
 refine⟨V'.plus V,FW js is own own',aQ,⟨h.defers.mono mP,Im.plus_ok az K3,h.le.trans mP,h.old,λk o x e=>?_,λk x e=>?_,h.below.trans (Below.weak hb λk hk=>?_),h.bw,λk j hk=>?_,λt=>?_,λj=>?_,h.opts,?_⟩,fu.mono kO⟩
 .rcases(dD k o x (dY k o x e)).1 with e1|e1
  .exact h.newc k o x e1
  .exact .inr e1
 .rcases BG k x e with e1|e1
  .rcases(dp k x e1).1 with e2|e2
   .exact h.newm k x (E2 k x e2).1
   .exact .inr e2
  .exact h.newm k x e1.1
 .have bN:k<w0.heap.size:=xG hk h.bw;refine K0 k (by omega) ?_;cases e:own k with
  |none=>rfl
  |some j=>have:=(h.owns k j e).1;omega
 .obtain⟨_,g1,g2,g3,g4,g5⟩:=ou k j hk;refine⟨g1,g2,λo=>?_,?_⟩
  .cases e:(V'.plus V).c k o with
   |none=>rfl
   |some x=>have:=dY k o x e;rw[g3 o] at this;cases this
  .cases e:(V'.plus V).m k with
   |none=>rfl
   |some x=>
    rcases BG k x e with e1|e1
    .rw[g4] at e1;cases e1
    .exact absurd (by rw[e1.1,e1.2]) g5
 .show aK C _ O' _ aQ (S.r t) _ (O'.r t);rw[jO]
  exact aK.mono mP sl (λgs s e=>by
   unfold holds;rw[jO]) (λgs s e=>(h.opts t gs s e).2) (h.regs t)
 .show cR C _ O' _ _ aQ w' _ j (match cW js is j with|some i=>(match rA (xr S.ver shs is js) is js (fh obs i) with|some o=>o|none=>.dead)|none=>S.o j);split
  .rename_i i hi;have cK:=Lr aaG hi;split
   .rename_i x hx;refine art (S1:=S.handed shs obs is js) kO aoR (λk i' j' hk hl=>by simp only[FW,hk,hl]) cK ?_ hx (QU i);subst ES;obtain⟨k,bW,bN⟩:=abQ (os:=os) BI cK;show O'.o j=oM obs os i;rw[bN];exact nA k j bW
   .trivial
  .rename_i hn
   have QP:j∉js:=λhm=>by
        obtain⟨k,hk⟩:=zN hm;have ah:k<is.length:=by
         have:=(eV.1 hk).1;rw[ES,gp];omega
        have:=Lq KW hk (bE ah);rw[hn] at this;cases this
   by_cases KN:j=jy
   .subst KN;rw[KA];trivial
   .refine(h.objs j).mono mP sl (by show aQ j=hv j;simp only[aQ,hn]) (yG j QP KN) (λk hk=>⟨?_,an7 k j hk hn⟩);have:own' k=none:=by
     cases e:own' k with
     |none=>rfl
     |some i=>exact absurd (by simp[pW,hk,hn]) ((aaQ k i e).2.2.2.2 (h.owns k j hk).2.1)
    simp only[FW,this,hk,hn]
 .refine⟨tr,fx,cx,⟨σ0.keep _ _ _ _ _ hf.F hb λk hk=>?_,λk j hk l9=>?_,λk o x e hc=>?_,λk x e hc=>?_,λk e hB hk=>?_⟩,λj hj=>?_⟩
  .refine K0 k (σ0.lt _ _ _ _ hf.F k hk) ?_;cases e:own k with
   |none=>rfl
   |some j=>exact absurd hk (hf.own k j e)
  .have ah:=σ0.lt _ _ _ _ hf.F k l9;have:=(ou k j hk).1 ah;cases e:own k with
   |none=>exact this e
   |some j'=>exact hf.own k j' e l9
  .exact(dD k o x (dY k o x e)).2 (.inr (.inr hc))
  .rcases BG k x e with e1|e1
   .exact(dp k x e1).2 (.inr (.inr hc))
   .exact hf.m k x e1.1 hc
  .rcases BG k _ e with e1|e1
   .have ah:=σ0.lt _ _ _ _ hf.F k hk;refine KV k e1 hB ah ?_;have:own k=none:=by
     cases e:own k with
     |none=>rfl
     |some j=>exact absurd hk (hf.own k j e)
    simp[pW,this]
   .exact hf.d k e1.1 hB hk
  .change (match cW js is j with|some i=>(match rA (xr S.ver shs is js) is js (fh obs i) with|some o=>o|none=>.dead)|none=>S.o j)=.tr at hj;split at hj
   .rename_i i hi;split at hj
    .rename_i x hx;exact absurd hj (atJ hx)
    .cases hj
   .rename_i hn
    have QP:j∉js:=λhm=>by
     obtain⟨k,hk⟩:=zN hm;have ah:k<is.length:=by
         have:=(eV.1 hk).1;rw[ES,gp];omega
     have:=Lq KW hk (bE ah);rw[hn] at this;cases this
    have KN:j≠jy:=λe=>by subst e;rw[KA] at hj;cases hj
    rw[yG j QP KN];exact yN j hj
def agc:∀(js:List Nat) (k:Nat) {O O':Env} {l:List D},PI.runs Z (Hg js k) O=some O'->O.o jy=.tup l->jy∉js->js.Nodup->
 O'.r=O.r/\(∀(i j:Nat),js[i]?=some j->O'.o j=l.getD (k+i) .none)/\∀j,j∉js->O'.o j=O.o j
 |[],k,O,O',l,h,hs,hn,hd=>by
  simp only[Hg,PI.runs,aS] at h;subst h;exact⟨rfl,λi j e=>by simp at e,λ_ _=>rfl⟩
 |x::js,k,O,O',l,h,hs,hn,hd=>by
  simp only[Hg,PI.runs,PI.run,lh,PE.ev,hs,D.tget] at h;simp only[cZ,not_or] at hn;have fI:=nX.1 hd;obtain⟨g1,g2,g3⟩:=agc js (k+1) h (by simp only[Env.setO];rw[bt _ _ hn.1];exact hs) hn.2 fI.2;refine⟨g1,λi j e=>?_,λj hj=>?_⟩
  .cases i with
   |zero=>simp at e;subst e;rw[g3 _ fI.1];simp[Env.setO,aO]
   |succ i=>simp at e;rw[g2 i j e];congr 1;omega
  .simp only[cZ,not_or] at hj;rw[g3 j hj.2];simp only[Env.setO];exact bt _ _ hj.1
def ah2 (h:Inv C S O V own hv w0 σ0 A a w)(hC:CtxOK C σ0)(x:Operand):∃d,Hy C S O V hv (H7 C S x) (a.eval x) d:=by
 cases x with
 |tmp t=>
  refine⟨O.r t,?_,λy hy=>cQ (gs:=[]) h hC rfl hy⟩;have:=(nQ (gs:=[]) h rfl t).1;simpa [Act.eval,H7,fO] using this
 |_=>exact⟨.none,trivial,λy hy=>cQ (gs:=[]) h hC rfl hy⟩
def YQ (h:Inv C S O V own hv w0 σ0 A a w)(hC:CtxOK C σ0)(hΦ:ei C Z){f:Nat}{args:List Operand}{caps:List (Nat×Nat)}{vs:List Value}(cS:vs.length=caps.length)
 (fH:∀(i j ver:Nat),caps[i]?=some (j,ver)->ver<=S.ver j/\(ver=S.ver j->vs.getD i undef=hv j)) (amM:∀(i j ver:Nat),caps[i]?=some (j,ver)->ver=S.ver j->∃k,hv j=.pointer (some ⟨k,0,none⟩)) {r:St×Ty×List PI} (hr:rV C S f args caps=some r)
 {ρ1:Env} (ao:PI.runs Z r.2.2 O=some ρ1):
 Calls C.P f (args.map a.eval++vs).toArray w λe w'=>∃v σ1 dP aQ,e=.returned v/\Inv C r.1 ρ1 σ1 dP aQ w0 σ0 A a w'/\Rep C.cap σ1 r.2.1 v ((ρ1.o jy).tget 0):=by
 simp only[rV,aw] at hr;obtain⟨s,hs,hr⟩:=hr;split at hr
 case h_2=>cases hr
 rename_i shs obs mc;obtain⟨σ2,jS,kO,h2⟩:=Inv.fzs (Bi S args shs) h;have ed:=(py (Bi S args shs) S).1;generalize S.fzs (Bi S args shs)=S2 at hr h2 ed;unfold Pq Pp at hr;generalize Zf S2 shs obs (args.map (H7 C S2)++caps.map Ys)=js at hr;simp only[aw] at hr;obtain⟨es,ke,hr⟩:=hr;cases hb:(y5 shs obs&&(iy (obs.map (·.1))&&iy js&&rZ S2 (obs.map (·.1)) js obs js&&pP (S2.o jy)&& !aJ js jy))<;>simp only[hb,zyx,zyw] at hr
 .cases hr
 cases hr;simp only[aq,iY] at hb;obtain⟨b0,⟨⟨⟨b1,b2⟩,b3⟩,b4⟩,b5⟩:=hb;have mR:=nJ b1;have qM:=nJ b2;have KA:S2.o jy=.dead:=by
  cases e:S2.o jy<;>rw[e] at b4<;>first|rfl|cases b4
 have K8:jy∉js:=λhm=>by rw[abm.2 hm] at b5;cases b5
 simp only[PI.runs,PI.run,aw,aC] at ao;obtain⟨ρ2,⟨d,hd,rfl⟩,ao⟩:=ao;rw[PE.evs_eq,mB,NY] at hd;have e1:js.map (PE.ev O∘PE.o)=js.map O.o:=rfl;rw[e1] at hd;have hfn:=((hΦ f _ d hd s hs).2 shs obs mc).plain b0
 have qE:=handed h2 hC b0 rfl mR qM b3 ke KA K8 (vals:=args.map a.eval++vs) (by simp[cS]) (λt x hx=>by
  rw[ni] at hx;split at hx
  .rename_i ah;rw[gp] at ah;rw[cV,bE ah] at hx;cases hx;have:(args.map a.eval++vs).getD t undef=a.eval args[t]:=by
        rw[aN,lT (by simpa using ah),cV,bE ah];rfl
   rw[this];exact ah2 h2 hC _
  .rename_i gx;rw[gp] at gx hx;rw[cV,aC] at hx;obtain⟨c,hc,rfl⟩:=hx;obtain⟨j,ver⟩:=c;have cO:(args.map a.eval++vs).getD t undef=vs.getD (t-args.length) undef:=by
        rw[aN,jX (by simpa using gx),gp,aN]
   obtain⟨g1,g2⟩:=fH _ j ver hc;refine⟨.none,⟨by rw[ed];exact g1,λe=>?_⟩,λy hy=>by cases hy⟩;rw[ed] at e;obtain⟨k,hk⟩:=amM _ j ver hc e;exact⟨k,hk,by rw[cO,g2 e,hk]⟩) (hfn:=hfn)
 refine qE.mono λe w' hh=>?_;obtain⟨v,dr,os,rfl,rfl,BI,lu⟩:=hh;obtain⟨g1,g2,g3⟩:=agc js 1 (l:=dr::os) ao (by simp[Env.setO,aO]) K8 qM
 obtain⟨σ1,dP,aQ,hinv,bY⟩:=lu ρ1 g1 (λk j hk=>by
  have:=g2 k j hk;rw[Dl] at this;simpa using this) (λj hj aB=>by rw[g3 j hj];simp only[Env.setO];exact bt _ _ aB)
 refine⟨v,σ1,dP,aQ,rfl,hinv,?_⟩;rw[g3 jy K8];simpa [Env.setO,aO,D.tget] using bY
def q9 (S:St)(dst:Option Nat)(r:St×Ty×List PI):St×List PI:=
 match dst with
 |some d=>(r.1.setR d (.dat r.2.1),r.2.2++[.setR d (.tget (.o jy) 0)])
 |none=>(r.1,r.2.2)
def at4 {a b:List PI}{O:Env}:PI.runs Z (a++b) O=(PI.runs Z a O).bind (PI.runs Z b):=by
 induction a generalizing O with
 |nil=>simp[PI.runs]
 |cons x a ih=>
  simp only[HM,PI.runs];cases x.run Z O with
  |none=>rfl
  |some ρ1=>simp[ih]
def Yp {o:Oper}{f:Nat}{vals:List Value}(ht:∀d,o.dst=some d->¬A d/\d<a.tmps.size){r:St×Ty×List PI}(hx:(execOp a.eval o).run C.P w=.ok (.enter f vals.toArray) w)
 (hc:∀ρ1,PI.runs Z r.2.2 O=some ρ1->Calls C.P f vals.toArray w λe w'=>∃v σ1 dP aQ,e=.returned v/\Inv C r.1 ρ1 σ1 dP aQ w0 σ0 A a w'/\Rep C.cap σ1 r.2.1 v ((ρ1.o jy).tget 0)):cw C w0 σ0 Z S O A a w o (q9 S o.dst r):=by
 intro O' ao K Q hK;simp only[Oper.wp,hx,Oper.upon];cases hd:o.dst with
 |none=>
  rw[hd] at ao hK;refine(hc O' ao).mono λe w' hh=>?_;obtain⟨v,σ1,dP,aQ,rfl,hinv,bY⟩:=hh;refine hK _ _ ⟨σ1,dP,aQ,?_⟩ rfl;have:(λu=>A u\/(none:Option Nat)=some u)=A:=by funext u;simp
  rw[this];exact hinv
 |some d=>
  rw[hd] at ao hK;obtain⟨t1,t2⟩:=ht d hd;simp only[q9,at4,aw] at ao;obtain⟨ρ1,h1,h2⟩:=ao;simp[PI.runs,PI.run,PE.ev] at h2;subst h2;refine(hc ρ1 h1).mono λe w' hh=>?_;obtain⟨v,σ1,dP,aQ,rfl,hinv,bY⟩:=hh;refine hK _ _ ⟨σ1,dP,aQ,?_⟩ (size_put _ _ _);have:(λu=>A u\/some d=some u)=(λu=>A u\/u=d):=by funext u;simp[eq_comm]
  rw[this];exact hinv.setReg t1 (s:=.dat r.2.1) bY t2 (λ_ _ e=>by cases e)
def YR (h:Inv C S O V own hv w0 σ0 A a w)(hC:CtxOK C σ0)(aR:eU C)(hΦ:ei C Z){f:Nat}{args:Array Operand}{ts:Array TypeId}{r:St×Ty×List PI}{o:Oper}(ht:∀d,o.dst=some d->¬A d/\d<a.tmps.size)
 (hr:rV C S f args.toList []=some r) (ho:o.op=.call {callee:=.value (.func f),args:=args,argTypes:=ts}):cw C w0 σ0 Z S O A a w o (q9 S o.dst r):=by
 have hs:∃s,C.sig f=some s:=by
  simp only[rV,aw] at hr;obtain⟨s,hs,_⟩:=hr;exact⟨s,hs⟩
 obtain⟨s,hs⟩:=hs;have hx:=Hc (a:=a) (w:=w) aR hs ho;have kR:args.map a.eval=(args.toList.map a.eval++[]).toArray:=by apply tq;simp
 rw[kR] at hx;exact Yp ht hx λρ1 ao=>YQ h hC hΦ (vs:=[]) rfl (λi j ver e=>by simp at e) (λi j ver e=>by simp at e) hr ao
def zZ (S:St):List (Nat×Nat)->Bool
 |[]=>true
 |c::l=>Nat.beq c.2 (S.ver c.1)&&(match S.o c.1 with|.box ..=>true|_=>false)&&zZ S l
def Yu (h:Inv C S O V own hv w0 σ0 A a w):∀{l:List (Nat×Nat)},zZ S l=true->∀(i j ver:Nat),l[i]?=some (j,ver)->ver=S.ver j/\∃k,hv j=.pointer (some ⟨k,0,none⟩)
 |[],_,i,j,ver,e=>by simp at e
 |c::l,hl,i,j,ver,e=>by
  simp only[zZ,aq] at hl;cases i with
  |zero=>
   simp at e;subst e;refine⟨aA hl.1.1,?_⟩;have h1:=hl.1.2;have h2:=h.objs j;split at h1
   .rename_i ag shs eo;simp only at eo;rw[eo] at h2;obtain⟨k,cs,T,ds,g1,_⟩:=h2;exact⟨k,g1⟩
   .cases h1
  |succ i=>simp at e;exact Yu h hl.2 i j ver e
def Ba (C:Ctx)(S:St)(t:Nat)(args:List Operand):Option (St×Ty×List PI):=
 match lM S [] t with
 |.fclo f caps=>bif zZ S caps then rV C S f args caps else none
 |_=>none
def YP (h:Inv C S O V own hv w0 σ0 A a w)(hC:CtxOK C σ0)(aR:eU C)(hΦ:ei C Z){t:Nat}{args:Array Operand}{ts:Array TypeId}{r:St×Ty×List PI}{o:Oper}(ht:∀d,o.dst=some d->¬A d/\d<a.tmps.size)
 (hr:Ba C S t args.toList=some r) (ho:o.op=.call {callee:=.value (.tmp t),args:=args,argTypes:=ts}):cw C w0 σ0 Z S O A a w o (q9 S o.dst r):=by
 unfold Ba at hr;split at hr
 case h_2=>cases hr
 rename_i f caps ff;cases hb:zZ S caps<;>simp only[hb,zyx,zyw] at hr
 .cases hr
 have gY:=(nQ (gs:=[]) h rfl t).1;rw[ff] at gY;obtain⟨vs,h1,h2,h3⟩:=gY;have hs:∃s,C.sig f=some s:=by
  simp only[rV,aw] at hr;obtain⟨s,hs,_⟩:=hr;exact⟨s,hs⟩
 obtain⟨s,hs⟩:=hs;have hx:=af1 (a:=a) (w:=w) (vs:=vs) (x:=.tmp t) aR hs (by simpa [Act.eval] using h1) ho;have kR:args.map a.eval++vs.toArray=(args.toList.map a.eval++vs).toArray:=by apply tq;simp
 rw[kR] at hx;exact Yp ht hx λρ1 ao=>YQ h hC hΦ h2 h3 (λi j ver e _=>(Yu h hb i j ver e).2) hr ao
def DE (S:St):List Operand->Option (List (Nat×Nat))
 |[]=>some []
 |x::xs=>
  match x with
  |.tmp t=>
   match lM S [] t with
   |.ptr j ver off=>bif Nat.beq ver (S.ver j)&&Nat.beq off 0 then(DE S xs).map λr=>(j,ver)::r else none
   |_=>none
  |_=>none
def D0 (C:Ctx)(S:St)(dst:Nat)(fn:Fn)(first caps:Array Operand):Option (St×List PI):=
 match fn,first.toList with
 |.func f,[]=>
  match C.sig f with
  |some s=>bif qX s.mode then(DE S caps.toList).map λc=>(S.setR dst (.fclo f c),[.setR dst (.con .none)]) else none
  |none=>none
 |_,_=>none
def Yv (h:Inv C S O V own hv w0 σ0 A a w):∀{l:List Operand} {c:List (Nat×Nat)},DE S l=some c->c.length=l.length/\∀(i j ver:Nat),c[i]?=some (j,ver)->ver<=S.ver j/\(ver=S.ver j->(l.map a.eval).getD i undef=hv j)
 |[],c,e=>by simp only[DE,aS] at e;subst e;exact⟨rfl,λi j ver e=>by simp at e⟩
 |x::xs,c,e=>by
  simp only[DE] at e;split at e
  case h_2=>cases e
  rename_i t;split at e
  case h_2=>cases e
  rename_i j ver off ff;cases hb:(Nat.beq ver (S.ver j)&&Nat.beq off 0)<;>simp only[hb,zyx,zyw] at e
  .cases e
  simp only[aq] at hb;simp only[aC] at e;obtain⟨r,hr,rfl⟩:=e;obtain⟨g1,g2⟩:=Yv h hr;have gY:=(nQ (gs:=[]) h rfl t).1;rw[ff] at gY;refine⟨by simp[g1],λi j' nT e=>?_⟩;cases i with
  |zero=>
   simp at e;obtain⟨rfl,rfl⟩:=e;refine⟨gY.1,λe=>?_⟩;obtain⟨k,k1,k2⟩:=gY.2 e;have e0:off=0:=aA hb.2;subst e0;rw[k1,<-k2];simp[Act.eval]
  |succ i=>simp at e;simpa using g2 i j' nT e
def aj2 (h:Inv C S O V own hv w0 σ0 A a w)(ht:¬A dst)(ah:dst<a.tmps.size){fn:Fn}{first caps:Array Operand}{r:St×List PI}{o:Oper}(hr:D0 C S dst fn first caps=some r)(hd:o.dst=some dst)(ho:o.op=.makeFunc fn first caps):cw C w0 σ0 Z S O A a w o r:=by
 unfold D0 at hr;split at hr
 case h_2=>cases hr
 rename_i f EM;split at hr
 case h_2=>cases hr
 rename_i s hs;cases hb:qX s.mode<;>simp only[hb,zyx,zyw] at hr
 .cases hr
 simp only[aC] at hr;obtain⟨c,hc,rfl⟩:=hr;obtain⟨g1,g2⟩:=Yv h hc;have EJ:first=#[]:=by rw[<-vi];simpa using EM
 refine cw.value hd λO' ao=>⟨.func (.func f) #[] (caps.toList.map a.eval).toArray,w,?_,?_⟩
 .subst EJ;have e9:caps.map a.eval=(caps.toList.map a.eval).toArray:=by apply tq;rw[xy]
  simp[execOp,ho,Instr.makeFunc,e9]
 .have hρ:O'=O.setR dst .none:=by simp[PI.runs,PI.run,PE.ev] at ao;exact ao.symm
  subst hρ;exact⟨_,_,_,h.setReg ht (s:=.fclo f c) ⟨_,rfl,by simp[g1],g2⟩ ah (λ_ _ e=>by cases e)⟩
end
end Cx
