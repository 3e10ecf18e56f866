/-
  Calls.
-/
import Derived.Test.YtipjidjopglknaaGreatDoorEAC
set_option linter.unusedSimpArgs false
set_option linter.unusedVariables false
noncomputable section
namespace Cx
open Go Go.RowKit
open Classical in
def Im.noM (σ:Im):Im:=⟨σ.c,fun k=>if σ.m k=some cr then none else σ.m k⟩
theorem Rep.noM {cap:Nat→Option CSig}{σ:Im}{t:Ty}{v:Value}{d:D}(h:Rep cap σ t v d):Rep cap σ.noM t v d:=by
 induction h with
 |int k n h1 h2=>exact .int k n h1 h2
 |bool b=>exact .bool b
 |str s h=>exact .str s h
 |agg ts vs ds h1 h2 _ ho ih=>exact .agg ts vs ds h1 h2 ih ho
 |tup ts vs ds h1 h2 _ ih=>exact .tup ts vs ds h1 h2 ih
 |nil e=>exact .nil e
 |emp e a=>exact .emp e a
 |nils e=>exact .nils e
 |nsl0 e=>exact .nsl0 e
 |nsl e k o n c xs _ hx ih=>exact .nsl e k o n c xs ih hx
 |slice e k o n c xs vs hn hc hm _ hv hz ih=>
  refine .slice e k o n c xs vs hn hc hm ih hv fun e=>?_;have:=hz e;have ay:σ.m k≠some cr:=fun e'=>by rw[this] at e';exact sn (sM e')
  simp only[Im.noM,if_neg ay,this]
 |mapnil kt et=>exact .mapnil kt et
 |map kt et r fW es hm hl hx hk _ jz zh=>
  refine .map kt et r fW es ?_ hl hx jz zh;have ay:σ.m r≠some cr:=fun e=>by rw[hm] at e;cases e;exact Dc hl hk rfl
  simp only[Im.noM,if_neg ay,hm]
 |ref t k o v d _ hv ih=>exact .ref t k o v d ih hv
 |fn f cs vs ds hc h1 h2 _ ih=>exact .fn f cs vs ds hc h1 h2 ih
 |fnnil aa r=>exact .fnnil aa r
def Im.plus (σ τ:Im):Im:=⟨fun k o=>(σ.c k o).or (τ.c k o),fun k=>(σ.m k).or (τ.m k)⟩
theorem Im.plus_le1 (σ τ:Im):σ.le (σ.plus τ):=⟨fun k o v h=>by simp[Im.plus,h],fun k v h=>by simp[Im.plus,h]⟩
theorem kP.det {w:World}{k:Nat}{x y:List (Value×Value)}(h:kP w k x)(g:kP w k y):x=y:=by
 rcases h with⟨_,a,c,h1,h2⟩|⟨h1,h2⟩|⟨h1,_,_,_,h2⟩<;>rcases g with⟨_,a',c',g1,g2⟩|⟨g1,g2⟩|⟨g1,_,_,_,g2⟩
 ·rw[h1] at g1;cases g1;rw[←h2,←g2]
 ·rw[h1] at g2;cases g2
 ·rw[h1] at g2;cases g2
 ·rw[h2] at g1;cases g1
 ·rw[h1,g1]
 ·rw[h2] at g2;cases g2
 ·rw[h2] at g1;cases g1
 ·rw[h2] at g2;cases g2
 ·rw[h1,g1]
theorem Im.plus_le2 {σ τ:Im}{w:World}(h:σ.ok w)(g:τ.ok w):τ.le (σ.plus τ):=by
 refine⟨fun k o v e=>?_,fun k v e=>?_⟩
 ·show(σ.c k o).or (τ.c k o)=some v;cases hc:σ.c k o with
  |none=>simpa using e
  |some u=>have:=(h.c k o u hc).symm.trans (g.c k o v e);simpa using this
 ·show(σ.m k).or (τ.m k)=some v;cases hc:σ.m k with
  |none=>simpa using e
  |some u=>simpa using(h.m k u hc).det (g.m k v e)
theorem Im.plus_ok {σ τ:Im}{w:World}(h:σ.ok w)(g:τ.ok w):(σ.plus τ).ok w:=by
 refine⟨fun k o v e=>?_,fun k v e=>?_,fun k o v e=>?_⟩
 ·change (σ.c k o).or (τ.c k o)=some v at e;cases hc:σ.c k o with
  |none=>rw[hc] at e;exact g.c k o v (by simpa using e)
  |some u=>rw[hc] at e;simp at e;subst e;exact h.c k o u hc
 ·change (σ.m k).or (τ.m k)=some v at e;cases hc:σ.m k with
  |none=>rw[hc] at e;exact g.m k v (by simpa using e)
  |some u=>rw[hc] at e;simp at e;subst e;exact h.m k u hc
 ·change (σ.c k o).or (τ.c k o)=some _ at e;cases hc:σ.c k o with
  |none=>rw[hc] at e;exact g.f k o v (by simpa using e)
  |some u=>rw[hc] at e;simp at e;subst e;exact h.f k o v hc
theorem Im.plus_c {σ τ:Im}{k o:Nat}{v:Value}(h:(σ.plus τ).c k o=some v):σ.c k o=some v∨τ.c k o=some v:=by
 change (σ.c k o).or (τ.c k o)=some v at h;cases hc:σ.c k o with
 |none=>rw[hc] at h;exact .inr (by simpa using h)
 |some u=>rw[hc] at h;exact .inl (by simpa using h)
theorem Im.plus_m {σ τ:Im}{k:Nat}{v:List (Value×Value)}(h:(σ.plus τ).m k=some v):σ.m k=some v∨τ.m k=some v:=by
 change (σ.m k).or (τ.m k)=some v at h;cases hc:σ.m k with
 |none=>rw[hc] at h;exact .inr (by simpa using h)
 |some u=>rw[hc] at h;exact .inl (by simpa using h)
def Ty.pureT:Ty→Bool
 |.int _|.bool|.str|.nils _=>true
 |_=>false
def Ty.pure:Ty→Bool
 |.tup ts=>ts.all Ty.pureT
 |.agg ts=>ts.all Ty.pureT
 |t=>Ty.pureT t
theorem Rep.pureT {cap:Nat→Option CSig}{σ τ:Im}{t:Ty}{v:Value}{d:D}(h:Rep cap σ t v d)(hp:t.pureT=true):Rep cap τ t v d:=by
 cases h<;>simp[Ty.pureT] at hp<;>constructor<;>assumption
theorem Rep.pure {cap:Nat→Option CSig}{σ τ:Im}{t:Ty}{v:Value}{d:D}(h:Rep cap σ t v d)(hp:t.pure=true):Rep cap τ t v d:=by
 cases h with
 |agg ts vs ds h1 h2 h ho=>exact .agg ts vs ds h1 h2 (fun i t hi=>(h i t hi).pureT (bz.1 hp t (jn hi))) ho
 |tup ts vs ds h1 h2 h=>exact .tup ts vs ds h1 h2 (fun i t hi=>(h i t hi).pureT (bz.1 hp t (jn hi)))
 |int k n h1 h2=>exact .int k n h1 h2
 |bool b=>exact .bool b
 |str s h=>exact .str s h
 |nils e=>exact .nils e
 |_=>simp[Ty.pure,Ty.pureT] at hp
def SW (C:Ctx)(σ':Im)(B:Nat)(w':World)(ow:Nat→Option Nat)(i:Nat):RC→Value→D→Prop
 |.dat t,v,d=>t.one=true∧Rep C.cap σ' t v d
 |.row T e,v,d=>∃cells xs,d=.list xs∧w'.ownsRow B T e.size v xs.length cells∧dV C.cap σ' e cells xs∧∀k,v.ownBlock=some k→ow k=some i
def lf (C:Ctx)(s:Sig)(σ':Im)(w w':World)(v:Value)(d:D):Prop:=
 match s.mode with
 |.dat=>Rep C.cap σ' s.res v d
 |.it _=>True
 |.ob ..=>True
 |.rows l=>∃(vs:List Value) (ds:List D) (ow:Nat→Option Nat),v=.agg vs.toArray∧d=.agg ds∧vs.length=l.length∧ds.length=l.length∧(∀(i:Nat) (c:RC),l[i]?=some c→SW C σ' w.heap.size w' ow i c (vs.getD i undef) (ds.getD i .none))∧
   ∀k i,ow k=some i→w.heap.size≤k∧k<w'.heap.size∧(∀o,σ'.c k o=none)∧σ'.m k=none
 |.row T e=>∃cells xs,d=.list xs∧w'.ownsRow w.heap.size T e.size v xs.length cells∧dV C.cap σ' e cells xs∧∀k,v.ownBlock=some k→(∀o,σ'.c k o=none)∧σ'.m k=none
def nL (C:Ctx)(σ:Im)(ts:List Ty)(args:List Value)(ds:List D):Prop:=
 args.length=ts.length∧ds.length=ts.length∧∀(i:Nat) (t:Ty),ts[i]?=some t→Rep C.cap σ t (args.getD i undef) (ds.getD i .none)
def fH (C:Ctx)(f:Nat)(s:Sig)(ds:List D)(d:D):Prop:=
 ∀(σ:Im) (w:World) (args:Array Value),σ.ok w→CtxOK C σ→nL C σ s.args args.toList ds→
  Calls C.P f args w fun e w'=>∃v σ',e=.returned v∧σ.le σ'∧σ'.ok w'∧Below w.heap.size w w'∧
   (∀k o x,σ'.c k o=some x→σ.c k o=some x∨w.heap.size≤k)∧(∀k x,σ'.m k=some x→σ.m k=some x∨w.heap.size≤k)∧lf C s σ' w w' v d
def dT:List (Nat×Ob)→Nat→Ob
 |[],_=>.dead
 |x::l,j=>bif Nat.beq x.1 j then x.2 else dT l j
def mA:List (Nat×Ob)→List D→Nat→D
 |x::l,d::ds,j=>bif Nat.beq x.1 j then d else mA l ds j
 |_,_,_=>.none
def fC (shs:List Sh)(obs:List (Nat×Ob)):St:=⟨fun t=>shs.getD t .none,fun j=>dT obs j,fun _=>0⟩
def lJ (obs:List (Nat×Ob))(ds os:List D):Env:=⟨fun t=>ds.getD t .none,fun j=>mA obs os j⟩
def mu:Sh→Bool
 |.dat _=>true
 |_=>false
def np:Mode→Bool
 |.ob ..=>true
 |_=>false
def rT:Sh→Bool
 |.none|.dat _|.obj ..|.ptr ..|.fclo ..=>true
 |_=>false
def If:Ob→Bool
 |.row ..|.mp ..=>true
 |.box _ shs=>shs.all rT
 |_=>false
def wg (shs:List Sh)(obs:List (Nat×Ob)):Bool:=shs.all rT&&obs.all fun x=>If x.2
def HL:List Sh→List (Nat×Ob)→Option (TypeId×Ty×List Ty)
 |.obj 0 0::l,[(0,.row T e),(1,.tr)]=>(TV l).map fun ts=>(T,e,ts)
 |_,_=>none
def AH (C:Ctx)(f:Nat)(T:TypeId)(e:Ty)(ts:List Ty)(ds:List D)(d:D):Prop:=
 ∀(N:Nat) (σ:Im) (w:World) (v:Value) (args:List Value) (xs:List D) (cells:List Value) (ds':List D),ds=.list xs::ds'→σ.ok w→CtxOK C σ→N≤w.heap.size→w.ownsRow N T e.size v xs.length cells→dV C.cap σ e cells xs→
  (∀k,v.ownBlock=some k→k<w.heap.size∧(∀o,σ.c k o=none)∧σ.m k=none)→nL C σ ts args ds'→
  Calls C.P f (v::args).toArray w fun x w'=>∃v' jE cZ,x=.returned v'∧d=.list jE∧Below N w w'∧(∀k,k<w.heap.size→v.ownBlock≠some k→w'.heap[k]?=w.heap[k]?)∧
   w'.ownsRow N T e.size v' jE.length cZ∧dV C.cap σ e cZ jE∧∀k,v'.ownBlock=some k→(v.ownBlock=some k∨w.heap.size≤k)∧k<w'.heap.size
def sE (C:Ctx)(f:Nat)(shs:List Sh)(obs:List (Nat×Ob))(res:Ty)(ds:List D)(d:D):Prop:=
 ∀(N:Nat) (σ:Im) (own:Nat→Option Nat) (hv:Nat→Value) (w:World) (args:Array Value) (cx:Nat→Prop),wg shs obs=true→σ.ok w→CtxOK C σ→(∀k,σ.m k≠some cr)→N≤w.heap.size→args.size=shs.length→
  (∀k j,own k=some j→N≤k∧k<w.heap.size∧(∀o,σ.c k o=none)∧σ.m k=none)→
  (∀k,cx k→k<w.heap.size∧own k=none∧(∀o,σ.c k o=none)∧σ.m k=none)→
  (∀t,aD C (fC shs obs) (lJ obs ds (ds.drop shs.length)) σ hv (shs.getD t .none) (args.getD t undef) (ds.getD t .none))→
  (∀j,bS C (fC shs obs) (lJ obs ds (ds.drop shs.length)) σ own hv w N j (dT obs j))→
  Calls C.P f args w fun e w'=>∃v σ' own' hv' dr os,e=.returned v∧d=.tup (dr::os)∧os.length=obs.length∧σ.le σ'∧σ'.ok w'∧Below 0 w w'∧
   (∀k,k<w.heap.size→own k=none→w'.heap[k]?=w.heap[k]?)∧
   (∀k o x,σ'.c k o=some x→(σ.c k o=some x∨N≤k)∧¬cx k)∧(∀k x,σ'.m k=some x→(σ.m k=some x∨N≤k)∧¬cx k)∧(∀k,σ'.m k=some cr→N≤k→k<w.heap.size→own k≠none)∧
   (∀k j,own' k=some j→N≤k∧k<w'.heap.size∧(∀o,σ'.c k o=none)∧σ'.m k=none∧(k<w.heap.size→own k≠none))∧
   (∀(t:Nat) (sh:Sh),shs[t]?=some sh→mu sh=false→aD C (fC shs obs) (lJ obs ds os) σ' hv' sh (args.getD t undef) (ds.getD t .none))∧
   (∀j,bS C (fC shs obs) (lJ obs ds os) σ' own' hv' w' N j (dT obs j))∧Rep C.cap σ' res v dr
theorem aD.ctx {C C':Ctx}(eX:C'.cap=C.cap){S:St}{ρ:Env}{σ:Im}{hv:Nat→Value}{s:Sh}(hp:rT s=true){v:Value}{d:D}(h:aD C S ρ σ hv s v d):aD C' S ρ σ hv s v d:=by
 cases s with
 |dat t=>show Rep C'.cap σ t v d;rw[eX];exact h
 |opt gs s=>cases hp
 |eptr j ver a b=>cases hp
 |yv=>cases hp
 |agg l=>cases hp
 |_=>exact h
theorem bS.ctx {C C':Ctx}(eX:C'.cap=C.cap){S:St}{ρ:Env}{σ:Im}{own:Nat→Option Nat}{hv:Nat→Value}{w:World}{N j:Nat}{ob:Ob}(hp:If ob=true∨ob=.dead)(h:bS C S ρ σ own hv w N j ob):bS C' S ρ σ own hv w N j ob:=by
 rcases hp with hp|rfl
 ·cases ob with
  |row T e=>obtain⟨cells,xs,h1,h2,h3,h4⟩:=h;exact⟨cells,xs,h1,h2,by rw[eX];exact h3,h4⟩
  |mp kt et=>obtain⟨k,arr,clock,es,h1,h2,h3,h4,h5,h6,h7⟩:=h;exact⟨k,arr,clock,es,h1,h2,h3,h4,h5,h6,by rw[eX];exact h7⟩
  |box ag shs=>
   obtain⟨k,cs,T,ds,h1,h2,h3,h4,h5,h6,h7⟩:=h;exact⟨k,cs,T,ds,h1,h2,h3,h4,h5,h6,fun i s hs=>⟨(h7 i s hs).1,(h7 i s hs).2.ctx eX (bz.1 hp s (jn hs))⟩⟩
  |_=>cases hp
 ·trivial
theorem WX {obs:List (Nat×Ob)}(h:(obs.all fun x=>If x.2)=true)(j:Nat):If (dT obs j)=true∨dT obs j=.dead:=by
 induction obs with
 |nil=>exact .inr rfl
 |cons x l ih=>
  simp only[pB,aj] at h;simp only[dT];cases hb:Nat.beq x.1 j
  ·exact ih h.2
  ·exact .inl h.1
theorem sE.ctx {C C':Ctx}{f:Nat}{shs:List Sh}{obs:List (Nat×Ob)}{res:Ty}{ds:List D}{d:D}(h:sE C f shs obs res ds d)(hP:C'.P=C.P)(eX:C'.cap=C.cap)(p6:C'.glob=C.glob):sE C' f shs obs res ds d:=by
 intro N σ own hv w args cx hp au hC ba hN aC bR ke h1 h2;have aR:=hp;simp only[wg,aj] at aR;have rE:∀t s,shs[t]?=some s→rT s=true:=fun t s hs=>bz.1 aR.1 s (jn hs);have hC':CtxOK C σ:=⟨fun g x hx=>by have:=hC.glob g x (by rw[p6];exact hx);rwa [eX] at this,fun g x hx=>hC.mg g x (by rw[p6];exact hx)⟩
 have:=h N σ own hv w args cx hp au hC' ba hN aC bR ke (fun t=>by
  cases hs:shs[t]? with
  |none=>rw[aG,hs];trivial
  |some s=>have:=h1 t;rw[aG,hs] at this ⊢;exact this.ctx eX.symm (rE t s hs)) (fun j=>(h2 j).ctx eX.symm (WX aR.2 j))
 rw[hP];refine this.mono fun e w' hh=>?_;obtain⟨v,σ',own',hv',dr,os,g1,g2,g3,g4,g5,g6,g7,g8,g9,g10,g11,g12,g13,g14⟩:=hh;exact⟨v,σ',own',hv',dr,os,g1,g2,g3,g4,g5,g6,g7,g8,g9,g10,g11,fun t sh hs hd=>(g12 t sh hs hd).ctx eX (rE t sh hs),fun j=>(g13 j).ctx eX (WX aR.2 j),by rw[eX];exact g14⟩
theorem dV.cap {c c':Nat→Option CSig}(hc:c'=c){σ:Im}{e:Ty}{cells:List Value}{xs:List D}(h:dV c σ e cells xs):dV c' σ e cells xs:=hc▸h
theorem AH.ctx {C C':Ctx}{f:Nat}{T:TypeId}{e:Ty}{ts:List Ty}{ds:List D}{d:D}(h:AH C f T e ts ds d)(hP:C'.P=C.P)(eX:C'.cap=C.cap)(p6:C'.glob=C.glob):AH C' f T e ts ds d:=by
 intro N σ w v args xs cells ds' h1 h2 h3 h4 h5 h6 h7 h8;rw[hP];refine(h N σ w v args xs cells ds' h1 h2 ⟨fun g x hx=>by have:=h3.glob g x (by rw[p6];exact hx);rwa [eX] at this,fun g x hx=>h3.mg g x (by rw[p6];exact hx)⟩ h4 h5 (h6.cap eX.symm) h7 ⟨h8.1,h8.2.1,fun i t hi=>by have:=h8.2.2 i t hi;rwa [eX] at this⟩).mono fun x w' hh=>?_;obtain⟨v',jE,cZ,g1,g2,g3,g4,g5,g6,g7⟩:=hh;exact⟨v',jE,cZ,g1,g2,g3,g4,g5,g6.cap eX,g7⟩
def gq (C:Ctx)(f:Nat)(shs:List Sh)(obs:List (Nat×Ob))(res:Ty)(ds:List D)(d:D):Prop:=
 match HL shs obs with
 |some m=>AH C f m.1 m.2.1 m.2.2 ds d
 |none=>sE C f shs obs res ds d
theorem gq.ctx {C C':Ctx}{f:Nat}{shs:List Sh}{obs:List (Nat×Ob)}{res:Ty}{ds:List D}{d:D}(h:gq C f shs obs res ds d)(hP:C'.P=C.P)(eX:C'.cap=C.cap)(p6:C'.glob=C.glob):gq C' f shs obs res ds d:=by
 unfold gq at h ⊢;split at h
 ·exact AH.ctx h hP eX p6
 ·exact sE.ctx h hP eX p6
theorem Xr {shs:List Sh}{obs:List (Nat×Ob)}(h:∀x,x∈obs→x.2≠.tr):HL shs obs=none:=by
 unfold HL;split
 ·exact absurd rfl (h (1,.tr) (by simp))
 ·rfl
theorem gq.of {C:Ctx}{f:Nat}{shs:List Sh}{obs:List (Nat×Ob)}{res:Ty}{ds:List D}{d:D}(ht:∀x,x∈obs→x.2≠.tr)(h:sE C f shs obs res ds d):gq C f shs obs res ds d:=by
 unfold gq;rw[Xr ht];exact h
theorem gq.plain {C:Ctx}{f:Nat}{shs:List Sh}{obs:List (Nat×Ob)}{res:Ty}{ds:List D}{d:D}(hp:wg shs obs=true)(h:gq C f shs obs res ds d):sE C f shs obs res ds d:=by
 unfold gq at h;rw[Xr fun x hx e=>?_] at h
 ·exact h
 ·simp only[wg,aj] at hp;have:=bz.1 hp.2 x hx;rw[e] at this;cases this
def cL (C:Ctx)(Φ:aK):Prop:=∀f ds d,Φ f ds=some d→∀s,C.sig f=some s→(np s.mode=false→fH C f s ds d)∧∀shs obs,s.mode=.ob shs obs→gq C f shs obs s.res ds d
def jA:List Ty→Ty→Option (List Ty)
 |[.fn ys .bool],.tup []=>some ys
 |_,_=>none
def de (C:Ctx):Prop:=(∀f cs,C.cap f=some cs→jA cs.args cs.res=none→C.sig f=some ⟨cs.args++cs.caps,cs.res,.dat⟩)∧∀f s,C.sig f=some s→∃fn,C.P.funcs[f]?=some fn∧fn.body.isSome=true∧(fn.name== "runtime.NumGoroutine")=false
def uQ (S:St):List AgC→List Nat
 |[]=>[]
 |.obj j ver::l=>bif Nat.beq ver (S.ver j)&&ko (S.o j) then j::uQ S l else uQ S l
 |_::l=>uQ S l
def bJ (S:St)(gs:List (Nat×Bool)):List Operand→List Nat
 |[]=>[]
 |x::xs=>
  match eE S gs x with
  |.obj j ver=>bif Nat.beq ver (S.ver j)&&ko (S.o j) then j::bJ S gs xs else bJ S gs xs
  |.agg l=>uQ S l++bJ S gs xs
  |_=>bJ S gs xs
def iX (gs:List (Nat×Bool))(s:Sh):Sh:=
 match gs with
 |[]=>s
 |_=>.opt gs s
def St.fzs (S:St)(js:List Nat):St:=js.foldl St.fz S
def kY:List RC→List Ty
 |[]=>[]
 |.dat t::l=>t::kY l
 |.row _ e::l=>.slice e.rol::kY l
def Bv (fr:List Nat)(dst:Nat)(s:Sig):Option Sig:=
 match s.mode with
 |.rows l=>bif !(fr.any (Nat.beq (2000000+dst)))&&Ty.beq s.res (.agg (kY l)) then some {s with mode:=.dat} else some s
 |_=>some s
theorem IF:∀{l:List RC} {i:Nat} {t:Ty},(kY l)[i]?=some t→(l[i]?=some (.dat t))∨∃T e,l[i]?=some (.row T e)∧t=.slice e.rol
 |[],i,t,h=>by simp[kY] at h
 |.dat u::l,0,t,h=>by simp[kY] at h;subst h;exact .inl rfl
 |.row T e::l,0,t,h=>by simp[kY] at h;exact .inr ⟨T,e,rfl,h.symm⟩
 |.dat u::l,i+1,t,h=>by simpa using IF (l:=l) (i:=i) (by simpa [kY] using h)
 |.row T e::l,i+1,t,h=>by simpa using IF (l:=l) (i:=i) (by simpa [kY] using h)
theorem OY:∀(l:List RC),(kY l).length=l.length
 |[]=>rfl
 |.dat _::l=>by simp[kY,OY l]
 |.row ..::l=>by simp[kY,OY l]
theorem fH.asDat {C:Ctx}{f:Nat}{s:Sig}{ds:List D}{d:D}{l:List RC}(hm:s.mode=.rows l)(hr:s.res=.agg (kY l))(h:fH C f s ds d):fH C f {s with mode:=.dat} ds d:=by
 intro σ w args h1 h2 h3;refine(h σ w args h1 h2 h3).mono fun e w' hh=>?_;obtain⟨v,σ',rfl,hle,au,hb,cO,cE,du⟩:=hh;simp only[lf,hm] at du;obtain⟨vs,ds,ow,rfl,rfl,l1,l2,dD,oF⟩:=du
 have hex:∀i,∃cs:List Value,∀T e,l[i]?=some (.row T e)→∃xs,ds.getD i .none=.list xs∧w'.ownsRow w.heap.size T e.size (vs.getD i undef) xs.length cs∧dV C.cap σ' e cs xs∧∀k,(vs.getD i undef).ownBlock=some k→ow k=some i:=fun i=>by
  cases hl:l[i]? with
  |none=>exact⟨[],fun _ _ h=>by cases h⟩
  |some c=>
   cases c with
   |dat t=>exact⟨[],fun _ _ h=>by cases h⟩
   |row T e=>
    obtain⟨cs,xs,g1,g2,g3,g4⟩:=dD i _ hl;exact⟨cs,fun T' e' h=>by cases h;exact⟨xs,g1,g2,g3,g4⟩⟩
 let cs:Nat→List Value:=fun i=>Classical.choose (hex i)
 have dg:∀i T e,l[i]?=some (.row T e)→∃xs,ds.getD i .none=.list xs∧w'.ownsRow w.heap.size T e.size (vs.getD i undef) xs.length (cs i)∧dV C.cap σ' e (cs i) xs∧∀k,(vs.getD i undef).ownBlock=some k→ow k=some i:=fun i=>SA (hex i)
 let oL:Nat→Nat→Bool:=fun i k=>decide ((vs.getD i undef).ownBlock=some k)&&(match l[i]? with|some (.row ..)=>true|_=>false)
 let τ:Im:={c:=fun k o=>match ow k with|some i=>(bif oL i k then(cs i)[o]? else none)|none=>σ'.c k o,m:=fun k=>match ow k with|some i=>(bif oL i k then some gE else none)|none=>σ'.m k}
 have ju:σ'.le τ:=by
  refine⟨fun k o x hx=>?_,fun k x hx=>?_⟩
  ·cases hk:ow k with
   |none=>simp only[τ,hk];exact hx
   |some i=>have:=(oF k i hk).2.2.1 o;rw[this] at hx;cases hx
  ·cases hk:ow k with
   |none=>simp only[τ,hk];exact hx
   |some i=>have:=(oF k i hk).2.2.2;rw[this] at hx;cases hx
 have rF:∀i k,oL i k=true→∃T e,l[i]?=some (.row T e)∧(vs.getD i undef).ownBlock=some k:=fun i k hk=>by
  simp only[oL,aj,decide_eq_true_eq] at hk;obtain⟨bD,cH⟩:=hk;split at cH
  ·rename_i T e hl;exact⟨T,e,hl,bD⟩
  ·cases cH
 refine⟨_,τ,rfl,hle.trans ju,⟨fun k o x hx=>?_,fun k x hx=>?_,fun k o x hx=>?_⟩,hb,fun k o x hx=>?_,fun k x hx=>?_,?_⟩
 ·simp only[τ] at hx;split at hx
  ·rename_i i hi;cases hr:oL i k with
   |false=>rw[hr] at hx;cases hx
   |true=>
    rw[hr,cond_true] at hx;obtain⟨T,e,hl,lu⟩:=rF i k hr;obtain⟨xs,g1,g2,g3,g4⟩:=dg i T e hl;have:=g2.cells lu o x hx;rw[qW] at this;simpa using this
  ·exact au.c k o x hx
 ·simp only[τ] at hx;split at hx
  ·rename_i i hi;cases hr:oL i k with
   |false=>rw[hr] at hx;cases hx
   |true=>
    rw[hr,cond_true] at hx;cases hx;obtain⟨T,e,hl,lu⟩:=rF i k hr;obtain⟨xs,g1,g2,g3,g4⟩:=dg i T e hl;obtain⟨KX,T',fz,e'⟩:=YZ g2 lu;exact .inr (.inr ⟨rfl,KX,T',fz,e'⟩)
  ·exact au.m k x hx
 ·simp only[τ] at hx;split at hx
  ·rename_i i hi;cases hr:oL i k with
   |false=>rw[hr] at hx;cases hx
   |true=>
    obtain⟨T,e,hl,lu⟩:=rF i k hr;obtain⟨xs,g1,g2,g3,g4⟩:=dg i T e hl;exact .inr (Za g2 lu o)
  ·exact au.f k o x hx
 ·simp only[τ] at hx;split at hx
  ·rename_i i hi;exact .inr (oF k i hi).1
  ·exact cO k o x hx
 ·simp only[τ] at hx;split at hx
  ·rename_i i hi;exact .inr (oF k i hi).1
  ·exact cE k x hx
 ·simp only[lf,hr];have hlen:=OY l;refine .agg (kY l) vs ds (by omega) (by omega) (fun i t hi=>?_) (fun i t hi=>?_)
  ·rcases IF hi with hl|⟨T,e,hl,rfl⟩
   ·exact(dD i _ hl).2.mono ju
   ·obtain⟨xs,g1,g2,⟨us,g3,g4⟩,g5⟩:=dg i T e hl;rw[g1];rcases g2.2 with⟨e1,e2⟩|⟨g,cap,cur,e1,e2,e3,e4,e5,e6,e7⟩
    ·rw[e1];have:xs=[]:=JH e2;subst this;exact .nil _
    ·rw[e1];have lu:(vs.getD i undef).ownBlock=some g:=by rw[e1];rfl
     refine .slice e.rol g 0 xs.length cap xs us rfl e4 e5 (fun i x hx=>((g3 i x hx).mono ju).unf_rol) (fun j m u hj hu=>?_) (fun _=>by
      have hR:oL i g=true:=by simp only[oL,lu,hl];simp
      simp only[τ,g5 g lu,hR,cond_true])
     rw[Ty.rol_size];have hR:oL i g=true:=by simp only[oL,lu,hl];simp
     simp only[τ,g5 g lu,hR,cond_true,gw];exact g4 j m u hj hu
  ·rcases IF hi with hl|⟨T,e,hl,rfl⟩
   ·exact(dD i _ hl).1
   ·rfl
theorem aeb {C:Ctx}{fr:List Nat}{dst f:Nat}{s s':Sig}{ds:List D}{d:D}(hs:Bv fr dst s=some s')(hm:s'.mode=.dat)(h:np s.mode=false→fH C f s ds d):fH C f s' ds d:=by
 unfold Bv at hs;split at hs
 ·rename_i l hl;cases hb:(!(fr.any (Nat.beq (2000000+dst)))&&Ty.beq s.res (.agg (kY l)))<;>simp only[hb,cond_true,cond_false] at hs
  ·cases hs;rw[hl] at hm;cases hm
  ·cases hs;simp only[aj] at hb;exact fH.asDat hl (Ty.beq_eq _ _ hb.2) (h (by rw[hl];rfl))
 ·cases hs;exact h (by rw[hm];rfl)
def oe (C:Ctx)(S:St)(gs:List (Nat×Bool))(dst:Nat)(f:Nat)(args:List Operand):Option (St×Sh×List PI):=
 ((C.sig f).bind (Bv C.fr dst)).bind fun s=>
   match s.mode with
   |.dat=>
    (j2 C (S.fzs (bJ S gs args)) gs args).bind fun u=>
      bif Ty.subs u.1 s.args then some (bif s.res.pure then S else S.fzs (bJ S gs args),.dat s.res,[.call gs dst f u.2]) else Option.none
   |_=>Option.none
def BD (C:Ctx)(S:St)(dst:Nat)(f:Nat)(args:List Operand):j7:=
 (C.sig f).bind fun s=>
    match s.mode with
    |.row T e=>
     (j2 C (S.fzs (bJ S [] args)) [] args).bind fun u=>
       bif Ty.subs u.1 s.args then some (mkObj (bif e.pure then S else S.fzs (bJ S [] args)) dst (.row T e),[.call [] dst f u.2,.setO dst (.r dst),.setR dst (.con .none)]) else Option.none
    |_=>Option.none
def iQ (dst:Nat)(l:List RC)(j:Nat):Option (Nat×TypeId×Ty):=
 bif Nat.beq (j%4096) dst&&Nat.ble 4096 j then(match l[j/4096-1]? with|some (.row T e)=>some (j/4096-1,T,e)|_=>Option.none) else Option.none
theorem Z2 {dst i:Nat}{l:List RC}{T:TypeId}{e:Ty}(hd:dst<4096)(h:l[i]?=some (.row T e)):iQ dst l (gf dst i)=some (i,T,e):=by
 unfold iQ gf;have e1:(4096*(i+1)+dst)%4096=dst:=by omega
 have e2:(4096*(i+1)+dst)/4096-1=i:=by omega
 have e3:Nat.ble 4096 (4096*(i+1)+dst)=true:=Nat.ble_eq_true_of_le (by omega);rw[e1,e2,e3,h,gu];rfl
theorem am3 {dst i j:Nat}{l:List RC}{T:TypeId}{e:Ty}(h:iQ dst l j=some (i,T,e)):j=gf dst i∧l[i]?=some (.row T e):=by
 unfold iQ at h;cases hb:(Nat.beq (j%4096) dst&&Nat.ble 4096 j)<;>simp only[hb,cond_true,cond_false] at h
 ·cases h
 simp only[aj] at hb;have h1:=av hb.1;have h2:=jo hb.2;split at h
 ·rename_i hl;cases h;exact⟨by unfold gf;omega,hl⟩
 ·cases h
def St.newRows (S:St)(dst:Nat)(l:List RC):St:=⟨S.r,fun j=>match iQ dst l j with|some x=>.row x.2.1 x.2.2|Option.none=>S.o j,fun j=>match iQ dst l j with|some _=>S.ver j+1|Option.none=>S.ver j⟩
def mH (S:St)(dst:Nat):List RC→Nat→List AgC
 |[],_=>[]
 |.dat t::l,i=>.dat t::mH S dst l (i+1)
 |.row ..::l,i=>.obj (gf dst i) (S.ver (gf dst i)+1)::mH S dst l (i+1)
def z8 (dst:Nat):List RC→Nat→List PI
 |[],_=>[]
 |.dat _::l,i=>z8 dst l (i+1)
 |.row ..::l,i=>.setO (gf dst i) (.cell (.r dst) i)::z8 dst l (i+1)
def BE (C:Ctx)(S:St)(dst:Nat)(f:Nat)(args:List Operand):j7:=
 (C.sig f).bind fun s=>
    match s.mode with
    |.rows l=>
     (j2 C (S.fzs (bJ S [] args)) [] args).bind fun u=>
       bif Ty.subs u.1 s.args&&Nat.blt dst 4096 then
         some (((S.fzs (bJ S [] args)).newRows dst l).setR dst (.agg (mH (S.fzs (bJ S [] args)) dst l 0)),.call [] dst f u.2::z8 dst l 0) else Option.none
    |_=>Option.none
theorem Z3 (S:St)(dst:Nat):∀(l:List RC) (i:Nat),(mH S dst l i).length=l.length∧∀(n:Nat) (c:AgC),(mH S dst l i)[n]?=some c→(∃t,l[n]?=some (.dat t)∧c=.dat t)∨∃T e,l[n]?=some (.row T e)∧c=.obj (gf dst (i+n)) (S.ver (gf dst (i+n))+1)
 |[],i=>⟨rfl,fun n c h=>by simp[mH] at h⟩
 |x::l,i=>by
  obtain⟨h1,h2⟩:=Z3 S dst l (i+1);have e:∀n,i+1+n=i+(n+1):=fun n=>by omega
  cases x with
  |dat t=>
   refine⟨by simp[mH,h1],fun n c h=>?_⟩;cases n with
   |zero=>simp[mH] at h;exact .inl ⟨t,rfl,h.symm⟩
   |succ n=>simp only[mH,EV] at h ⊢;have:=h2 n c h;rwa [e] at this
  |row T y=>
   refine⟨by simp[mH,h1],fun n c h=>?_⟩;cases n with
   |zero=>simp[mH] at h;exact .inr ⟨T,y,rfl,by rw[ib];exact h.symm⟩
   |succ n=>simp only[mH,EV] at h ⊢;have:=h2 n c h;rwa [e] at this
theorem OX (Φ:aK)(dst:Nat):∀(l:List RC) (i:Nat) (ρ ρ':Env),PI.runs Φ (z8 dst l i) ρ=some ρ'→ρ'.r=ρ.r∧(∀j,(∀(n:Nat) (T:TypeId) (e:Ty),l[n]?=some (.row T e)→j≠gf dst (i+n))→ρ'.o j=ρ.o j)∧
 ∀(n:Nat) (T:TypeId) (e:Ty),l[n]?=some (.row T e)→ρ'.o (gf dst (i+n))=(ρ.r dst).c (i+n)
 |[],i,ρ,ρ',h=>by
  simp only[z8,PI.runs,aQ] at h;subst h;exact⟨rfl,fun _ _=>rfl,fun n T e h=>by simp at h⟩
 |x::l,i,ρ,ρ',h=>by
  have e:∀n,i+1+n=i+(n+1):=fun n=>by omega
  cases x with
  |dat t=>
   obtain⟨h1,h2,h3⟩:=OX Φ dst l (i+1) ρ ρ' h;refine⟨h1,fun j hj=>h2 j fun n T y hn=>by rw[e];exact hj (n+1) T y (by simpa using hn),fun n T y hn=>?_⟩;cases n with
   |zero=>simp at hn
   |succ n=>have:=h3 n T y (by simpa using hn);rwa [e] at this
  |row T0 y0=>
   simp only[z8,PI.runs,PI.run,jG] at h;obtain⟨h1,h2,h3⟩:=OX Φ dst l (i+1) _ ρ' h;refine⟨h1,fun j hj=>?_,fun n T y hn=>?_⟩
   ·rw[h2 j fun n T y hn=>by rw[e];exact hj (n+1) T y (by simpa using hn)];exact bf _ _ (by have:=hj 0 T0 y0 rfl;rwa [ib] at this)
   ·cases n with
    |zero=>
     rw[ib,h2 _ fun n T y hn=>by unfold gf;omega];exact aJ _ _ _
    |succ n=>have:=h3 n T y (by simpa using hn);rwa [e] at this
def BC (C:Ctx)(S:St)(dst:Nat)(f:Nat)(args:List Operand):j7:=
 (C.sig f).bind fun s=>
    match s.mode,args with
    |.ob shs obs,x::xs=>
     match HL shs obs,eE S [] x with
     |some m,.obj j ver=>
      match S.o j with
      |.row T e=>
       bif Nat.beq ver (S.ver j)&&(Nat.beq T m.1&&Ty.beq e m.2.1) then
            (j2 C S [] xs).bind fun u=>
             bif Ty.subs u.1 m.2.2 then some ((S.newO j (.row T e)).setR dst (.obj j (S.ver j+1)),[.call [] dst f (.o j::u.2),.setO j (.r dst),.setR dst (.con .none)]) else Option.none
       else Option.none
      |_=>Option.none
     |_,_=>Option.none
    |_,_=>Option.none
def mW (C:Ctx)(S:St)(gs:List (Nat×Bool))(dst:Nat)(x:Operand)(args:List Operand):Option (St×Sh×List PI):=
 match use C S gs x with
 |some (.fn aa r,e)=>
  match jA aa r with
  |some _=>Option.none
  |Option.none=>
  (j2 C (S.fzs (bJ S gs args)) gs args).bind fun u=>
    bif Ty.subs u.1 aa then some (bif r.pure then S else S.fzs (bJ S gs args),.dat r,[.callc gs dst e u.2]) else Option.none
 |_=>Option.none
theorem mY:∀(js:List Nat) (S:St),(S.fzs js).ver=S.ver∧(S.fzs js).r=S.r
 |[],S=>⟨rfl,rfl⟩
 |j::js,S=>by
  obtain⟨h1,h2⟩:=mY js (S.fz j);obtain⟨k1,k2⟩:=Gx S j;exact⟨h1.trans k1,h2.trans k2⟩
section
variable {C:Ctx} {S:St} {ρ:Env} {σ:Im} {own:Nat→Option Nat} {hv:Nat→Value} {w0:World} {σ0:Base} {A:Nat→Prop} {a:Act} {w:World} {gs:List (Nat×Bool)} {Φ:aK} {dst:Nat}
theorem Inv.fzs:∀(js:List Nat) {S:St} {σ:Im} {own:Nat→Option Nat},Inv C S ρ σ own hv w0 σ0 A a w→∃σ' own',σ.le σ'∧Inv C (S.fzs js) ρ σ' own' hv w0 σ0 A a w
 |[],S,σ,own,h=>⟨σ,own,.refl σ,h⟩
 |j::js,S,σ,own,h=>by
  obtain⟨σ1,dc,hle,h1⟩:=h.fz j;obtain⟨σ2,iN,ju,h2⟩:=Inv.fzs js h1;exact⟨σ2,iN,hle.trans ju,h2⟩
theorem Inv.world (h:Inv C S ρ σ own hv w0 σ0 A a w){σ':Im}{w':World}(hle:σ.le σ')(au:σ'.ok w')(hb:Below w.heap.size w w')(cO:∀k o x,σ'.c k o=some x→σ.c k o=some x∨w.heap.size≤k)
 (cE:∀k x,σ'.m k=some x→σ.m k=some x∨w.heap.size≤k):Inv C S ρ σ' own hv w0 σ0 A a w':=by
 have aC:=h.below.size;refine h.step (fun _=>False) rfl hle au (fun k o x hx=>(cO k o x hx).imp id (fun e=>⟨by omega,.inr e⟩)) (fun k x hx=>(cE k x hx).imp id (fun e=>⟨by omega,.inr e⟩)) (hb.mono aC) (.refl S hv) (fun j _=>⟨rfl,rfl,rfl,fun k hk=>⟨hk,hb.block k (h.owns k j hk).2.1⟩⟩) (fun _ hf=>hf.elim) (fun k j hk=>?_) (fun _=>id) (fun t=>.inl ⟨rfl,rfl,rfl⟩) (fun _ _=>rfl) (fun k hk _=>hb.block k hk) (fun k i hk=>.inl ⟨i,hk⟩) (fun _ hf=>hf.elim);obtain⟨g1,g2,g3,g4⟩:=h.owns k j hk;refine⟨g1,by have:=hb.size;omega,fun o=>?_,?_⟩
 ·cases hc:σ'.c k o with
  |none=>rfl
  |some x=>rcases cO k o x hc with e|e
           ·rw[g3 o] at e;cases e
           ·omega
 ·cases hc:σ'.m k with
  |none=>rfl
  |some x=>rcases cE k x hc with e|e
           ·rw[g4] at e;cases e
           ·omega
theorem CtxOK.mono {C:Ctx}{σ σ':Im}(h:CtxOK C σ)(hle:σ.le σ'):CtxOK C σ':=⟨fun g x hx=>(h.glob g x hx).mono hle,fun g x hx=>hle.m _ _ (h.mg g x hx)⟩
theorem Ax (h:Inv C S ρ σ own hv w0 σ0 A a w)(hC:CtxOK C σ0)(hg:holds gs ρ=true){xs:List Operand}{u:List Ty×List PE}{ts:List Ty}(hu:j2 C S gs xs=some u)(hs:Ty.subs u.1 ts=true):nL C σ ts (xs.map a.eval) (PE.evs ρ u.2):=by
 obtain⟨l1,l2,aN⟩:=abO h hC hg _ _ hu;have hl:=Ty.subs_len _ _ hs;refine⟨by rw[ed];omega,by rw[PE.evs_eq,ed];omega,fun i t hi=>?_⟩;obtain⟨s,eu,cC⟩:=Ty.subs_get _ _ hs i t hi;exact(aN i s eu).sub cC
theorem Ew {o:Oper}{f:Nat}{args:Array Operand}{ts:Array TypeId}(aV:de C){s:Sig}(hs:C.sig f=some s)(ho:o.op=.call {callee:=.value (.func f),args:=args,argTypes:=ts}):
 (execOp a.eval o).run C.P w=.ok (.enter f (args.map a.eval)) w:=by
 obtain⟨fn,h1,h2,h3⟩:=aV.2 f s hs;obtain⟨bd,gz⟩:=SU.1 h2;have h4:¬fn.name= "runtime.NumGoroutine" :=by simpa using h3
 simp[execOp,ho,resolve,Act.eval,Deferred.ofValue,invoke,callFunc,h1,gz,h4]
theorem aaC {o:Oper}{x:Operand}{f:Nat}{vs:List Value}{args:Array Operand}{ts:Array TypeId}(aV:de C){s:Sig}(hs:C.sig f=some s)(hx:a.eval x=.func (.func f) #[] vs.toArray)(ho:o.op=.call {callee:=.value x,args:=args,argTypes:=ts}):
 (execOp a.eval o).run C.P w=.ok (.enter f (args.map a.eval++vs.toArray)) w:=by
 obtain⟨fn,h1,h2,h3⟩:=aV.2 f s hs;obtain⟨bd,gz⟩:=SU.1 h2;have h4:¬fn.name= "runtime.NumGoroutine" :=by simpa using h3
 simp[execOp,ho,resolve,hx,Deferred.ofValue,invoke,callFunc,h1,gz,h4]
theorem TE (h:Inv C S ρ σ own hv w0 σ0 A a w)(hC:CtxOK C σ0)(ht:¬A dst)(af:dst<a.tmps.size)(dC:∀g,g∈gs→A g.1)(hg:holds gs ρ=true){f:Nat}{s:Sig}{js:List Nat}{vals:List Value}{ds:List D}{d:D}(ki:s.mode=.dat)(hfn:fH C f s ds d)
 (ix:∀σ1 dc,σ.le σ1→Inv C (S.fzs js) ρ σ1 dc hv w0 σ0 A a w→nL C σ1 s.args vals ds) {K:Act→World→Prop} {Q:Exit→Act→World→Prop}
 (hK:∀a' w',Good C w0 σ0 ((bif s.res.pure then S else S.fzs js).setR dst (iX gs (.dat s.res))) (ρ.setR dst d) (fun u=>A u∨u=dst) a' w'→a'.tmps.size=a.tmps.size→K a' w'):
 Calls C.P f vals.toArray w (fun e j4=>match e with|.returned v=>K (a.put (some dst) v) j4|.panicked chain=>Q (.panic chain) a j4|.outgrown=>LetsOut Q):=by
 obtain⟨σ1,dc,kK,h1⟩:=Inv.fzs js h;have oy:=hfn σ1 w vals.toArray h1.ok (hC.mono h1.le) (by simpa using ix σ1 dc kK h1);refine oy.mono fun e w' hh=>?_;obtain⟨v,σ',rfl,hle,au,hb,cO,cE,du⟩:=hh;simp only[lf,ki] at du;refine hK _ _ ?_ (size_put _ _ _);have hh:holds gs (ρ.setR dst d)=true:=by rw[CD (t:=dst) (d:=d) fun g hm e=>ht (by rw[←e];exact dC g hm)];exact hg
 have put:∀{S2:St} {σ2:Im} {iN:Nat→Option Nat},Inv C S2 ρ σ2 iN hv w0 σ0 A a w'→Rep C.cap σ2 s.res v d→Good C w0 σ0 (S2.setR dst (iX gs (.dat s.res))) (ρ.setR dst d) (fun u=>A u∨u=dst) (a.put (some dst) v) w':=by
  intro S2 σ2 iN h2 hr;cases gs with
  |nil=>exact⟨_,_,_,h2.setReg ht (s:=.dat s.res) hr af (fun _ _ e=>by cases e)⟩
  |cons g bI=>
   refine⟨_,_,_,h2.setReg ht (s:=.opt (g::bI) (.dat s.res)) ⟨fun _=>hr,fun e=>absurd (hh.symm.trans e) (by decide)⟩ af (fun gs s e=>?_)⟩;cases e;exact⟨dC,fun _ _ e=>by cases e⟩
 cases hp:s.res.pure with
 |true=>
  simp only[cond_true];exact put (h.world (.refl σ) (h.ok.below hb) hb (fun _ _ _ hx=>.inl hx) (fun _ _ hx=>.inl hx)) (du.pure hp)
 |false=>
  simp only[cond_false];exact put (h1.world hle au hb cO cE) du
theorem A7 {o:Oper}{f:Nat}{args:Array Value}{K:Act→World→Prop}{Q:Exit→Act→World→Prop}(hd:o.dst=some dst)(hx:(execOp a.eval o).run C.P w=.ok (.enter f args) w)
 (h:Calls C.P f args w (fun e j4=>match e with|.returned v=>K (a.put (some dst) v) j4|.panicked chain=>Q (.panic chain) a j4|.outgrown=>LetsOut Q)):o.wp C.P a w K Q:=by
 simp only[Oper.wp,hx,Oper.upon,hd];refine h.mono fun e j4 hh=>?_;cases e<;>exact hh
theorem aeJ (h:Inv C S ρ σ own hv w0 σ0 A a w)(hC:CtxOK C σ0)(aV:de C)(hΦ:cL C Φ)(ht:¬A dst)(af:dst<a.tmps.size)(dC:∀g,g∈gs→A g.1)(hg:holds gs ρ=true){f:Nat}{args:Array Operand}{ts:Array TypeId}{r:St×Sh×List PI}
 (hr:oe C S gs dst f args.toList=some r) {o:Oper} (hd:o.dst=some dst) (ho:o.op=.call {callee:=.value (.func f),args:=args,argTypes:=ts}):bO C w0 σ0 Φ S ρ A a w o (r.1.setR dst (iX gs r.2.1),r.2.2):=by
 simp only[oe,aq] at hr;obtain⟨s,⟨s0,hs,oH⟩,hr⟩:=hr;split at hr
 case h_2=>cases hr
 rename_i ki;simp only[aq] at hr;obtain⟨u,hu,hr⟩:=hr;cases bM:Ty.subs u.1 s.args<;>simp only[bM,cond_true,cond_false] at hr
 ·cases hr
 cases hr;intro ρ' ah K Q hK;simp only[PI.runs,PI.run,hg,cond_true,aq,ax] at ah;obtain⟨ρ1,⟨d,aZ,rfl⟩,ah⟩:=ah;cases ah;have hfn:=aeb oH ki (hΦ f _ d aZ s0 hs).1;refine A7 hd (Ew aV hs ho) ?_;have jy:args.map a.eval=(args.toList.map a.eval).toArray:=by apply qJ;rw[uA]
 rw[jy];have gA:(fun u=>A u∨o.dst=some u)=(fun u=>A u∨u=dst):=by funext u;rw[hd];simp[eq_comm]
 rw[gA] at hK;exact TE h hC ht af dC hg (js:=bJ S gs args.toList) ki hfn (fun σ1 dc _ h1=>Ax h1 hC hg hu bM) hK
theorem aeA (h:Inv C S ρ σ own hv w0 σ0 A a w)(hC:CtxOK C σ0)(aV:de C)(hΦ:cL C Φ)(ht:¬A dst)(af:dst<a.tmps.size)(dC:∀g,g∈gs→A g.1)(hg:holds gs ρ=true){x:Operand}{args:Array Operand}{ts:Array TypeId}{r:St×Sh×List PI}
 (hr:mW C S gs dst x args.toList=some r) {o:Oper} (hd:o.dst=some dst) (ho:o.op=.call {callee:=.value x,args:=args,argTypes:=ts}):bO C w0 σ0 Φ S ρ A a w o (r.1.setR dst (iX gs r.2.1),r.2.2):=by
 unfold mW at hr;split at hr
 case h_2=>cases hr
 rename_i aa r0 e MT;split at hr
 case h_1=>cases hr
 rename_i L0;simp only[aq] at hr;obtain⟨u,hu,hr⟩:=hr;cases bM:Ty.subs u.1 aa<;>simp only[bM,cond_true,cond_false] at hr
 ·cases hr
 cases hr;have hx:=cf h hC hg MT;intro ρ' ah K Q hK;simp only[PI.runs,PI.run,hg,cond_true,aq] at ah;obtain⟨ρ1,nj,ah⟩:=ah;cases ah;split at nj
 case h_2=>cases nj
 rename_i f caps bF;simp only[ax] at nj;obtain⟨d,aZ,rfl⟩:=nj;rw[bF] at hx;generalize fo:a.eval x=xv at hx;generalize aX:Ty.fn aa r0=ty at hx;cases hx with
 |fn f cs vs ds hc h1 h2 aN=>
  cases aX;have hs:=aV.1 f cs hc L0;have hfn:=(hΦ f _ d aZ _ hs).1 rfl;refine A7 hd (aaC aV hs fo ho) ?_;have jy:args.map a.eval++vs.toArray=(args.toList.map a.eval++vs).toArray:=by apply qJ;simp
  rw[jy];have gA:(fun u=>A u∨o.dst=some u)=(fun u=>A u∨u=dst):=by funext u;rw[hd];simp[eq_comm]
  rw[gA] at hK;refine TE h hC ht af dC hg (js:=bJ S gs args.toList) (s:=⟨cs.args++cs.caps,cs.res,.dat⟩) rfl hfn (fun σ1 dc kK i1=>?_) hK;obtain⟨g1,g2,g3⟩:=Ax i1 hC hg hu bM;refine⟨by simp only[kF,g1,h1],by simp only[kF,g2,h2],fun i t hi=>?_⟩;rw[ld] at hi;split at hi
  ·rename_i af;have:=g3 i t hi;rw[aG,aG,jF (by omega),jF (by omega)];simpa [aG] using this
  ·rename_i eY;have:=(aN _ t hi).mono kK;rw[aG,aG,kE (by omega),kE (by omega),g1,g2];simpa [aG] using this
theorem aeE (h:Inv C S ρ σ own hv w0 σ0 A a w)(hC:CtxOK C σ0)(aV:de C)(hΦ:cL C Φ)(ht:¬A dst)(af:dst<a.tmps.size){f:Nat}{args:Array Operand}{ts:Array TypeId}{r:St×List PI}
 (hr:BD C S dst f args.toList=some r) {o:Oper} (hd:o.dst=some dst) (ho:o.op=.call {callee:=.value (.func f),args:=args,argTypes:=ts}):bO C w0 σ0 Φ S ρ A a w o r:=by
 simp only[BD,aq] at hr;obtain⟨s,hs,hr⟩:=hr;split at hr
 case h_2=>cases hr
 rename_i T e ki;simp only[aq] at hr;obtain⟨u,hu,hr⟩:=hr;cases bM:Ty.subs u.1 s.args<;>simp only[bM,cond_true,cond_false] at hr
 ·cases hr
 cases hr;intro ρ' ah K Q hK;have Ck:holds ([]:List (Nat×Bool)) ρ=true:=rfl;simp only[PI.runs,PI.run,Ck,cond_true,aq,ax] at ah;obtain⟨ρ1,⟨d,aZ,rfl⟩,ρ2,g2,ρ3,g3,g4⟩:=ah;cases g2;cases g3;cases g4;have hfn:=(hΦ f _ d aZ s hs).1 (by rw[ki];rfl);obtain⟨σ1,dc,kK,h1⟩:=Inv.fzs (bJ S [] args.toList) h;have jy:args.map a.eval=(args.toList.map a.eval).toArray:=by apply qJ;rw[uA]
 refine A7 hd (Ew aV hs ho) ?_;rw[jy];have oy:=hfn σ1 w (args.toList.map a.eval).toArray h1.ok (hC.mono h1.le) (by simpa using Ax h1 hC rfl hu bM);refine oy.mono fun e' w' hh=>?_;obtain⟨v,σ',rfl,hle,au,hb,cO,cE,du⟩:=hh;simp only[lf,ki] at du;obtain⟨cells,xs,rfl,bR,iZ,mf⟩:=du;refine hK _ _ ?_ (size_put _ _ _);have gA:(fun u=>A u∨o.dst=some u)=(fun u=>A u∨u=dst):=by funext u;rw[hd];simp[eq_comm]
 rw[gA];have main:∀{S2:St} {σ1 σ2:Im} {iN:Nat→Option Nat},Inv C S2 ρ σ1 iN hv w0 σ0 A a w→σ1.le σ2→σ2.ok w'→(∀k o x,σ2.c k o=some x→σ1.c k o=some x∨w.heap.size≤k)→(∀k x,σ2.m k=some x→σ1.m k=some x∨w.heap.size≤k)→dV C.cap σ2 e cells xs→(∀k,v.ownBlock=some k→(∀o,σ2.c k o=none)∧σ2.m k=none)→
  Good C w0 σ0 (mkObj S2 dst (.row T e)) ((ρ.setO dst (.list xs)).setR dst .none) (fun u=>A u∨u=dst) (a.put (some dst) v) w':=by
  intro S2 σ1 σ2 iN h2 ju Mp aiq aiu ahE ahI;have aC:=h1.below.size
  have kN:=h2.newOσ dst (.row T e) (.list xs) v (fun k=>decide (v.ownBlock=some k)) ju Mp aiq aiu hb (fun k hk=>bR.lt k (by simpa using hk)) (fun k hk=>ahI k (by simpa using hk)) ⟨cells,xs,by simp[Env.setO,aJ],by
        rw[aJ];refine⟨bR.1,?_⟩;rcases bR.2 with e1|⟨g,cap,cur,e1,e2,e3⟩
        ·exact .inl e1
        ·exact .inr ⟨g,cap,cur,e1,by omega,e3⟩,ahE,fun k hk=>by rw[aJ] at hk;simp[ff,hk]⟩
  have VY:=kN.setObj ht (j:=dst) (v:=v) (aJ _ _ _) af;have e:(S2.newO dst (.row T e)).ver dst=S2.ver dst+1:=aJ _ _ _;rw[e] at VY;exact⟨_,_,_,VY⟩
 have eρ:((ρ.setR dst (.list xs)).setO dst ((PE.r dst).ev (ρ.setR dst (.list xs)))).setR dst ((PE.con D.none).ev ((ρ.setR dst (.list xs)).setO dst ((PE.r dst).ev (ρ.setR dst (.list xs)))))=(ρ.setO dst (.list xs)).setR dst .none:=by
  have:∀d1 d2:D,bN (bN ρ.r dst d1) dst d2=bN ρ.r dst d2:=by
   intro d1 d2;funext i;simp only[eR];split<;>rfl
  simp[Env.setR,Env.setO,PE.ev,aJ,this]
 show Good C w0 σ0 _ _ _ _ _;rw[eρ];cases hp:e.pure with
 |true=>
  simp only[cond_true];refine main h (.refl σ) (h.ok.below hb) (fun _ _ _ hx=>.inl hx) (fun _ _ hx=>.inl hx) ?_ (fun k hk=>?_)
  ·obtain⟨vs,k1,k2⟩:=iZ;exact⟨vs,fun i x hx=>(k1 i x hx).pure hp,k2⟩
  ·obtain⟨f1,f2⟩:=mf k hk;refine⟨fun o=>?_,?_⟩
   ·cases hc:σ.c k o with
    |none=>rfl
    |some x=>have:=hle.c _ _ _ (kK.c _ _ _ hc);rw[f1 o] at this;cases this
   ·cases hc:σ.m k with
    |none=>rfl
    |some x=>have:=hle.m _ _ (kK.m _ _ hc);rw[f2] at this;cases this
 |false=>
  simp only[cond_false];exact main h1 hle au cO cE iZ mf
theorem aeG (h:Inv C S ρ σ own hv w0 σ0 A a w)(hC:CtxOK C σ0)(aV:de C)(hΦ:cL C Φ)(ht:¬A dst)(af:dst<a.tmps.size){f:Nat}{args:Array Operand}{ts:Array TypeId}{r:St×List PI}
 (hr:BE C S dst f args.toList=some r) {o:Oper} (hd:o.dst=some dst) (ho:o.op=.call {callee:=.value (.func f),args:=args,argTypes:=ts}):bO C w0 σ0 Φ S ρ A a w o r:=by
 simp only[BE,aq] at hr;obtain⟨s,hs,hr⟩:=hr;split at hr
 case h_2=>cases hr
 rename_i l ki;simp only[aq] at hr;obtain⟨u,hu,hr⟩:=hr;cases bM:(Ty.subs u.1 s.args&&Nat.blt dst 4096)<;>simp only[bM,cond_true,cond_false] at hr
 ·cases hr
 cases hr;simp only[aj,ic] at bM;obtain⟨bM,p5⟩:=bM;intro ρ' ah K Q hK;have Ck:holds ([]:List (Nat×Bool)) ρ=true:=rfl;simp only[PI.runs,PI.run,Ck,cond_true,aq,ax] at ah;obtain⟨ρ1,⟨d,aZ,rfl⟩,ah⟩:=ah;have hfn:=(hΦ f _ d aZ s hs).1 (by rw[ki];rfl);obtain⟨σ1,dc,kK,h1⟩:=Inv.fzs (bJ S [] args.toList) h;generalize S.fzs (bJ S [] args.toList)=S1 at hu h1 hK ⊢;have jy:args.map a.eval=(args.toList.map a.eval).toArray:=by apply qJ;rw[uA]
 refine A7 hd (Ew aV hs ho) ?_;rw[jy];have oy:=hfn σ1 w (args.toList.map a.eval).toArray h1.ok (hC.mono h1.le) (by simpa using Ax h1 hC rfl hu bM);refine oy.mono fun e' w' hh=>?_;obtain⟨v,σ',rfl,hle,au,hb,cO,cE,du⟩:=hh;simp only[lf,ki] at du;obtain⟨vs,ds,ow,rfl,rfl,l1,l2,dD,oF⟩:=du;refine hK _ _ ?_ (size_put _ _ _);have gA:(fun u=>A u∨o.dst=some u)=(fun u=>A u∨u=dst):=by funext u;rw[hd];simp[eq_comm]
 rw[gA];obtain⟨r1,r2,r3⟩:=OX Φ dst l 0 _ ρ' ah;simp only[gw] at r2 r3;have aaf:(ρ.setR dst (.agg ds)).r dst=.agg ds:=aJ _ _ _;rw[aaf] at r3;have aC:=h1.below.size
 let W:Nat→Prop:=fun j=>∃x,iQ dst l j=some x
 let own':Nat→Option Nat:=fun k=>match ow k with
  |some i=>some (gf dst i)
  |none=>match dc k with
   |some j=>match iQ dst l j with|some _=>none|none=>some j
   |none=>none
 let hv':Nat→Value:=fun j=>match iQ dst l j with|some x=>vs.getD x.1 undef|none=>hv j
 have Me:∀j,¬W j→iQ dst l j=none:=fun j hj=>by
  cases e:iQ dst l j with
  |none=>rfl
  |some x=>exact absurd ⟨x,e⟩ hj
 have fu:∀j,¬W j→ρ'.o j=ρ.o j:=fun j hj=>r2 j fun n T e hn e1=>hj ⟨(n,T,e),by rw[e1];exact Z2 p5 hn⟩
 have vx:∀k j,dc k=some j→ow k=none:=fun k j hk=>by
  cases e:ow k with
  |none=>rfl
  |some i=>have:=oF k i e;have:=h1.owns k j hk;omega
 have pZ:Compat S1 hv ((S1.newRows dst l).setR dst (.agg (mH S1 dst l 0))) hv':=⟨fun j=>by
  show S1.ver j≤(match iQ dst l j with|some _=>S1.ver j+1|none=>S1.ver j);split
  ·exact Nat.le_succ _
  ·exact aW _,fun j e=>by
  have e:(match iQ dst l j with|some _=>S1.ver j+1|none=>S1.ver j)=S1.ver j:=e;show(match iQ dst l j with|some x=>vs.getD x.1 undef|none=>hv j)=hv j;cases hj:iQ dst l j with
  |none=>rfl
  |some x=>rw[hj] at e;simp only at e;omega⟩
 refine⟨σ',own',hv',?_⟩
 refine h1.step (w':=w') W rfl hle au (fun k o x hx=>(cO k o x hx).imp id fun e=>⟨by omega,.inr e⟩) (fun k x hx=>(cE k x hx).imp id fun e=>⟨by omega,.inr e⟩) (hb.mono aC) pZ
  (fun j hj=>⟨?_,fu j hj,?_,fun k hk=>⟨?_,hb.block k (h1.owns k j hk).2.1⟩⟩) (fun j hj=>?_) (fun k i hk=>?_) (fun _=>.inl) (fun t=>?_) (fun t hA=>?_) (fun k hk _=>hb.block k hk) (fun k i hk=>?_) (fun j hj=>?_)
 ·show(match iQ dst l j with|some x=>Ob.row x.2.1 x.2.2|none=>S1.o j)=S1.o j;rw[Me j hj]
 ·show(match iQ dst l j with|some x=>vs.getD x.1 undef|none=>hv j)=hv j;rw[Me j hj]
 ·show own' k=some j;simp only[own',vx k j hk,hk,Me j hj]
 ·obtain⟨⟨i,T,e⟩,hx⟩:=hj;obtain⟨rfl,hi⟩:=am3 hx;show bS C _ ρ' σ' own' hv' w' w0.heap.size (gf dst i) (match iQ dst l (gf dst i) with|some x=>Ob.row x.2.1 x.2.2|none=>S1.o (gf dst i));rw[hx];obtain⟨cells,xs,g1,g2,g3,g4⟩:=dD i _ hi;have e2:hv' (gf dst i)=vs.getD i undef:=by simp only[hv',hx]
  refine⟨cells,xs,?_,?_,g3,fun k hk=>?_⟩
  ·rw[r3 i T e hi];simpa [D.c,D.cells] using g1
  ·rw[e2];refine⟨g2.1,?_⟩;rcases g2.2 with e1|⟨g,cap,cur,e1,e3,e4⟩
   ·exact .inl e1
   ·exact .inr ⟨g,cap,cur,e1,by omega,e4⟩
  ·rw[e2] at hk;simp only[own',g4 k hk]
 ·simp only[own'] at hk;split at hk
  ·rename_i i' cU;have:=oF k i' cU;exact⟨by omega,this.2.1,this.2.2.1,this.2.2.2⟩
  ·split at hk
   ·rename_i j hj;obtain⟨g1,g2,g3,g4⟩:=h1.owns k j hj;refine⟨g1,by have:=hb.size;omega,fun o=>?_,?_⟩
    ·cases hc:σ'.c k o with
     |none=>rfl
     |some x=>rcases cO k o x hc with e|e
              ·rw[g3 o] at e;cases e
              ·omega
    ·cases hc:σ'.m k with
     |none=>rfl
     |some x=>rcases cE k x hc with e|e
              ·rw[g4] at e;cases e
              ·omega
   ·cases hk
 ·by_cases hu:t=dst
  ·subst hu;refine .inr ⟨?_,fun gs s e=>?_⟩
   ·rw[wX];have e3:ρ'.r t=.agg ds:=by rw[r1];exact aaf
    simp only[St.setR,aJ,af,and_self,if_true,e3];obtain⟨q1,q2⟩:=Z3 S1 t l 0;refine⟨vs,ds,rfl,rfl,by omega,by omega,fun i c hc=>?_⟩;rcases q2 i c hc with⟨ty,hl,rfl⟩|⟨T,e,hl,rfl⟩
    ·exact dD i _ hl
    ·rw[gw];have hx:=Z2 p5 hl;refine⟨?_,fun _=>?_⟩
     ·show S1.ver (gf t i)+1≤(match iQ t l (gf t i) with|some _=>S1.ver (gf t i)+1|none=>S1.ver (gf t i));rw[hx];exact aW _
     ·simp only[hv',hx]
   ·simp only[St.setR,aJ] at e;cases e
  ·refine .inl ⟨bf _ _ hu,?_,?_⟩
   ·rw[wX];simp[hu]
   ·rw[r1];exact bf _ _ hu
 ·rw[r1];exact bf _ _ (fun e=>ht (e▸hA))
 ·simp only[own'] at hk;split at hk
  ·rename_i i' cU;exact .inr (oF k i' cU).1
  ·split at hk
   ·rename_i j hj;exact .inl ⟨j,hj⟩
   ·cases hk
 ·obtain⟨x,hx⟩:=hj;show(match iQ dst l j with|some x=>Ob.row x.2.1 x.2.2|none=>S1.o j)≠.tr;rw[hx];intro e;cases e
theorem aeC (h:Inv C S ρ σ own hv w0 σ0 A a w)(hC:CtxOK C σ0)(aV:de C)(hΦ:cL C Φ)(ht:¬A dst)(af:dst<a.tmps.size){f:Nat}{args:Array Operand}{ts:Array TypeId}{r:St×List PI}
 (hr:BC C S dst f args.toList=some r) {o:Oper} (hd:o.dst=some dst) (ho:o.op=.call {callee:=.value (.func f),args:=args,argTypes:=ts}):bO C w0 σ0 Φ S ρ A a w o r:=by
 simp only[BC,aq] at hr;obtain⟨s,hs,hr⟩:=hr;split at hr
 case h_2=>cases hr
 rename_i shs obs x xs ki ix;split at hr
 case h_2=>cases hr
 rename_i m j ver kL fw;split at hr
 case h_2=>cases hr
 rename_i T e eo;cases hb:(Nat.beq ver (S.ver j)&&(Nat.beq T m.1&&Ty.beq e m.2.1))<;>simp only[hb,cond_true,cond_false] at hr
 ·cases hr
 simp only[aj] at hb;have dm:=av hb.1;have hT:=av hb.2.1;have he:=Ty.beq_eq _ _ hb.2.2;simp only[aq] at hr;obtain⟨u,hu,hr⟩:=hr;cases bM:Ty.subs u.1 m.2.2<;>simp only[bM,cond_true,cond_false] at hr
 ·cases hr
 cases hr;intro ρ' ah K Q hK;have Ck:holds ([]:List (Nat×Bool)) ρ=true:=rfl;simp only[PI.runs,PI.run,Ck,cond_true,aq,ax] at ah;obtain⟨ρ1,⟨d,aZ,rfl⟩,ρ2,g2,ρ3,g3,g4⟩:=ah;cases g2;cases g3;cases g4;have hfn:=(hΦ f _ d aZ s hs).2 shs obs ki;unfold gq at hfn;rw[kL] at hfn;simp only at hfn;rw[←hT,←he] at hfn;have bX:=(qB h (gs:=[]) rfl x).1;rw[fw] at bX;have bX:=bX.2 dm;have aU:=h.objs j;rw[eo] at aU;obtain⟨cells,ys,h1,h2,h3,h4⟩:=aU;have jy:args.map a.eval=(a.eval x::xs.map a.eval).toArray:=by apply qJ;rw[uA,ix];rfl
 refine A7 hd (Ew aV hs ho) ?_;rw[jy,bX];have aC:=h.below.size
 have oy:=hfn w0.heap.size σ w (hv j) (xs.map a.eval) ys cells (PE.evs ρ u.2) (by simp[PE.evs,PE.ev,h1]) h.ok (hC.mono h.le) aC h2 h3 (fun k hk=>by
  have:=h.owns k j (h4 k hk);exact this.2) (Ax h hC rfl hu bM)
 refine oy.mono fun e' w' hh=>?_;obtain⟨v',jE,cZ,rfl,rfl,Ca,vx,aiG,ahD,GQ⟩:=hh;refine hK _ _ ?_ (size_put _ _ _);have gA:(fun u=>A u∨o.dst=some u)=(fun u=>A u∨u=dst):=by funext u;rw[hd];simp[eq_comm]
 rw[gA]
 have MV:=h.updO j (.row T e) (.list jE) v' (fun k=>decide (v'.ownBlock=some k)) Ca (fun k hk ay=>vx k hk (fun e=>ay (h4 k e))) (fun k hk=>by
  have bm:v'.ownBlock=some k:=by simpa using hk
  exact⟨(GQ k bm).1.imp (h4 k) id,(GQ k bm).2⟩)
  ⟨cZ,jE,by simp[Env.setO,aJ],by rw[aJ];exact aiG,ahD,fun k hk=>by rw[aJ] at hk;simp[ff,hk]⟩
 have h9:=MV.setObj ht (j:=j) (v:=v') (aJ _ _ _) af;have e1:(S.newO j (.row T e)).ver j=S.ver j+1:=aJ _ _ _;rw[e1] at h9;have eρ:((ρ.setR dst (.list jE)).setO j ((PE.r dst).ev (ρ.setR dst (.list jE)))).setR dst ((PE.con D.none).ev ((ρ.setR dst (.list jE)).setO j ((PE.r dst).ev (ρ.setR dst (.list jE)))))=(ρ.setO j (.list jE)).setR dst .none:=by
  have:∀d1 d2:D,bN (bN ρ.r dst d1) dst d2=bN ρ.r dst d2:=by
   intro d1 d2;funext i;simp only[eR];split<;>rfl
  simp[Env.setR,Env.setO,PE.ev,aJ,this]
 show Good C w0 σ0 _ _ _ _ _;rw[eρ];exact⟨_,_,_,h9⟩
end
def gZ:Nat:=1000000013
abbrev mM:=Sh×Option (Ty×PE)
def E4 (C:Ctx)(S:St)(x:Operand):mM:=(eE S [] x,use C S [] x)
def TG (c:Nat×Nat):mM:=(.ptr c.1 c.2 0,none)
def cw:List Nat→List Nat→Nat→Option Nat
 |i::is,j::js,k=>bif Nat.beq i k then some j else cw is js k
 |_,_,_=>none
def amp:Sh→Sh→List (Nat×Nat)
 |.obj i _,.obj j _=>[(i,j)]
 |.ptr i _ _,.ptr j _ _=>[(i,j)]
 |.fclo _ a,.fclo _ b=>(a.zip b).map fun x=>(x.1.1,x.2.1)
 |_,_=>[]
def Od:List Sh→List Sh→List (Nat×Nat)
 |a::aa,b::bs=>amp a b++Od aa bs
 |_,_=>[]
def amo:Ob→Ob→List (Nat×Nat)
 |.box _ a,.box _ b=>Od a b
 |_,_=>[]
def WY:List (Nat×Nat)→Nat→Nat
 |[],_=>gZ
 |x::l,i=>bif Nat.beq x.1 i then x.2 else WY l i
def alh (S:St)(obs:List (Nat×Ob))(p:List (Nat×Nat)):List (Nat×Nat):=p++p.flatMap fun x=>amo (dT obs x.1) (S.o x.2)
def Up (S:St)(shs:List Sh)(obs:List (Nat×Ob))(acts:List mM):List Nat:=obs.map fun o=>WY (alh S obs (Od shs (acts.map (·.1)))) o.1
section
variable (ver:Nat→Nat) (is js:List Nat)
def Et:List (Nat×Nat)→Option (List (Nat×Nat))
 |[]=>some []
 |x::l=>bif Nat.beq x.2 0 then(cw is js x.1).bind fun j=>(Et l).map fun r=>(j,ver j)::r else none
def j0:Sh→Option Sh
 |.dat t=>some (.dat t)
 |.none=>some .none
 |.obj i v=>bif Nat.beq v 0 then(cw is js i).map fun j=>.obj j (ver j) else none
 |.ptr i v off=>bif Nat.beq v 0 then(cw is js i).map fun j=>.ptr j (ver j) off else none
 |.fclo f caps=>(Et ver is js caps).map (.fclo f)
 |_=>none
def Eu:List Sh→Option (List Sh)
 |[]=>some []
 |s::l=>(j0 ver is js s).bind fun a=>(Eu l).map (a::·)
def pv:Ob→Option Ob
 |.row T e=>some (.row T e)
 |.mp a b=>some (.mp a b)
 |.box ag shs=>(Eu ver is js shs).map (.box ag)
 |_=>none
end
def BT (c:Sh):Sh→Bool
 |.none=>true
 |.dat b=>match c with|.dat a=>Ty.sub a b|_=>false
 |x=>Sh.beq c x
def yA:List Sh→List Sh→Bool
 |[],[]=>true
 |a::aa,b::bs=>BT a b&&yA aa bs
 |_,_=>false
def yz:Ob→Ob→Bool
 |.box x a,.box y b=>(x==y)&&yA a b
 |.row T a,.row U b=>Nat.beq T U&&Ty.beq a b
 |.mp a b,.mp c d=>Ty.beq a c&&Ty.beq b d
 |_,_=>false
def pW (S:St)(is js:List Nat):List (Nat×Ob)→List Nat→Bool
 |[],[]=>true
 |o::obs,j::jl=>(match pv S.ver is js o.2 with|some x=>yz (S.o j) x|none=>false)&&pW S is js obs jl
 |_,_=>false
def BR (S:St)(is js:List Nat)(a:mM)(s:Sh):Option PE:=
 match s with
 |.dat t=>(match a.2 with|some x=>bif Ty.sub x.1 t then some x.2 else none|none=>none)
 |.none=>some (.con .none)
 |s=>(match j0 S.ver is js s with|some x=>bif Sh.beq a.1 x then some (.con .none) else none|none=>none)
def sX (S:St)(is js:List Nat):List mM→List Sh→Option (List PE)
 |[],[]=>some []
 |a::aa,s::ss=>(BR S is js a s).bind fun e=>(sX S is js aa ss).map (e::·)
 |_,_=>none
def od:List Sh→List Nat
 |[]=>[]
 |.obj i _::l=>i::od l
 |.ptr i _ _::l=>i::od l
 |.fclo _ c::l=>c.map (·.1)++od l
 |_::l=>od l
def aL (l:List Nat)(x:Nat):Bool:=l.any (Nat.beq x)
def ux (ver:Nat→Nat)(shs:List Sh)(is js:List Nat):Nat→Nat:=fun j=>match cw js is j with|some i=>bif aL (od shs) i then ver j else ver j+1|none=>ver j
def St.handed (S:St)(shs:List Sh)(obs:List (Nat×Ob))(is js:List Nat):St:=
 ⟨S.r,fun j=>match cw js is j with|some i=>(match pv (ux S.ver shs is js) is js (dT obs i) with|some o=>o|none=>.dead)|none=>S.o j,ux S.ver shs is js⟩
def yC (S:St):List Operand→List Sh→List Nat
 |x::xs,s::ss=>(bif mu s then bJ S [] [x] else[])++yC S xs ss
 |_,_=>[]
def EA:List Nat→Nat→List PI
 |[],_=>[]
 |j::js,k=>.setO j (.tget (.o gZ) k)::EA js (k+1)
def K1 (S:St)(res:Ty)(f:Nat)(shs:List Sh)(obs:List (Nat×Ob))(acts:List mM)(is js:List Nat):Option (St×Ty×List PI):=
 (sX S is js acts shs).bind fun es=>
    bif wg shs obs&&(gj is&&gj js&&pW S is js obs js&&nm (S.o gZ)&& !aL js gZ) then some (S.handed shs obs is js,res,.mcall gZ f (es++js.map .o)::EA js 1) else none
def K4 (C:Ctx)(S:St)(res:Ty)(f:Nat)(shs:List Sh)(obs:List (Nat×Ob))(acts:List mM):Option (St×Ty×List PI):=
 K1 S res f shs obs acts (obs.map (·.1)) (Up S shs obs acts)
def pP (C:Ctx)(S:St)(f:Nat)(args:List Operand)(caps:List (Nat×Nat)):Option (St×Ty×List PI):=
 (C.sig f).bind fun s=>
    match s.mode with
    |.ob shs obs=>K4 C (S.fzs (yC S args shs)) s.res f shs obs (args.map (E4 C (S.fzs (yC S args shs)))++caps.map TG)
    |_=>none
theorem Wo {l:List Nat}{x:Nat}:aL l x=true↔x∈l:=by
 unfold aL;rw[uE];exact⟨fun⟨y,hy,h⟩=>by rw[av h];exact hy,fun h=>⟨x,h,gu x⟩⟩
theorem WT:∀{is js:List Nat} {i j:Nat},cw is js i=some j→∃k:Nat,is[k]?=some i∧js[k]?=some j
 |[],_,i,j,h=>by cases h
 |_::_,[],i,j,h=>by cases h
 |x::is,y::js,i,j,h=>by
  simp only[cw] at h;cases hb:Nat.beq x i<;>simp only[hb,cond_true,cond_false] at h
  ·obtain⟨k,h1,h2⟩:=WT h;exact⟨k+1,h1,h2⟩
  ·cases h;exact⟨0,by rw[av hb];rfl,rfl⟩
theorem HC:∀{is js:List Nat} {i j k:Nat},is.Nodup→is[k]?=some i→js[k]?=some j→cw is js i=some j
 |[],_,i,j,k,_,h,_=>by simp at h
 |_::_,[],i,j,k,_,_,h=>by simp at h
 |x::is,y::js,i,j,k,hn,h1,h2=>by
  simp only[cw];cases k with
  |zero=>simp at h1 h2;subst h1 h2;rw[gu];rfl
  |succ k=>
   simp at h1 h2;have ay:x≠i:=fun e=>by subst e;exact(l0.1 hn).1 (jn h1)
   rw[dY ay];exact HC (l0.1 hn).2 h1 h2
theorem HD {is js:List Nat}(h2:js.Nodup){i j:Nat}(h:cw is js i=some j):cw js is j=some i:=by
 obtain⟨k,g1,g2⟩:=WT h;exact HC h2 g2 g1
theorem aj2 (obs:List (Nat×Ob))(f:Nat→D):∀{is js:List Nat} {i j:Nat},is=obs.map (·.1)→cw is js i=some j→mA obs (js.map f) i=f j:=by
 induction obs with
 |nil=>intro is js i j h1 h2;subst h1;cases h2
 |cons x l ih=>
  intro is js i j h1 h2;subst h1;cases js with
  |nil=>cases h2
  |cons y js=>
   simp only[gr,cw] at h2;simp only[gr,mA];cases hb:Nat.beq x.1 i<;>simp only[hb,cond_true,cond_false] at h2 ⊢
   ·exact ih rfl h2
   ·cases h2;rfl
theorem WR:∀{obs:List (Nat×Ob)} {js:List Nat} {os:List D} {i j:Nat},os.length=obs.length→cw (obs.map (·.1)) js i=some j→∃k:Nat,js[k]?=some j∧mA obs os i=os.getD k .none
 |[],_,_,i,j,_,h=>by cases h
 |_::_,[],_,i,j,_,h=>by cases h
 |_::_,_::_,[],i,j,hl,h=>by simp at hl
 |x::obs,y::js,o::os,i,j,hl,h=>by
  simp only[gr,cw] at h;simp only[mA];cases hb:Nat.beq x.1 i<;>simp only[hb,cond_true,cond_false] at h ⊢
  ·obtain⟨k,h1,h2⟩:=WR (obs:=obs) (js:=js) (os:=os) (by simpa using hl) h;exact⟨k+1,h1,by simpa using h2⟩
  ·cases h;exact⟨0,rfl,rfl⟩
theorem WW:∀{obs:List (Nat×Ob)} {js:List Nat} {i:Nat},js.length=obs.length→cw (obs.map (·.1)) js i=none→dT obs i=.dead
 |[],_,i,_,_=>rfl
 |x::obs,[],i,hl,h=>by simp at hl
 |x::obs,y::js,i,hl,h=>by
  simp only[gr,cw] at h;simp only[dT];cases hb:Nat.beq x.1 i<;>simp only[hb,cond_true,cond_false] at h ⊢
  ·exact WW (by simpa using hl) h
  ·cases h
theorem Uy {S:St}{is js:List Nat}:∀{obs:List (Nat×Ob)} {jl:List Nat},pW S is js obs jl=true→jl.length=obs.length
 |[],[],_=>rfl
 |[],_::_,h=>by simp[pW] at h
 |_::_,[],h=>by simp[pW] at h
 |o::obs,j::jl,h=>by simp only[pW,aj] at h;simp[Uy h.2]
theorem Ux {S:St}{is js:List Nat}:∀{obs:List (Nat×Ob)} {jl:List Nat},pW S is js obs jl=true→∀{i j:Nat},cw (obs.map (·.1)) jl i=some j→∃x,pv S.ver is js (dT obs i)=some x∧yz (S.o j) x=true
 |[],_,_,i,j,h=>by cases h
 |_::_,[],_,i,j,h=>by cases h
 |o::obs,y::jl,hf,i,j,h=>by
  simp only[pW,aj] at hf;simp only[gr,cw] at h;simp only[dT];cases hb:Nat.beq o.1 i<;>simp only[hb,cond_true,cond_false] at h ⊢
  ·exact Ux hf.2 h
  ·cases h;have h1:=hf.1;split at h1
   ·rename_i x hx;exact⟨x,hx,h1⟩
   ·cases h1
theorem Uz:∀{a b:List Sh},yA a b=true→a.length=b.length∧∀(i:Nat) (y:Sh),b[i]?=some y→∃x,a[i]?=some x∧BT x y=true
 |[],[],_=>⟨rfl,fun i y h=>by simp at h⟩
 |[],_::_,h=>by simp[yA] at h
 |_::_,[],h=>by simp[yA] at h
 |a::aa,b::bs,h=>by
  simp only[yA,aj] at h;obtain⟨g1,g2⟩:=Uz h.2;refine⟨by simp[g1],fun i y hy=>?_⟩;cases i with
  |zero=>simp at hy;subst hy;exact⟨a,rfl,h.1⟩
  |succ i=>simp at hy;simpa using g2 i y hy
theorem PR {ver:Nat→Nat}{is js:List Nat}:∀{a b:List Sh},Eu ver is js a=some b→b.length=a.length∧∀(i:Nat) (x:Sh),a[i]?=some x→∃y,b[i]?=some y∧j0 ver is js x=some y
 |[],b,h=>by simp only[Eu,aQ] at h;subst h;exact⟨rfl,fun i x h=>by simp at h⟩
 |s::l,b,h=>by
  simp only[Eu,aq,ax] at h;obtain⟨y,hy,r,hr,rfl⟩:=h;obtain⟨g1,g2⟩:=PR hr;refine⟨by simp[g1],fun i x hx=>?_⟩;cases i with
  |zero=>simp at hx;subst hx;exact⟨y,rfl,hy⟩
  |succ i=>simp at hx;simpa using g2 i x hx
theorem I2 {ver:Nat→Nat}{is js:List Nat}:∀{a b:List (Nat×Nat)},Et ver is js a=some b→b.length=a.length∧∀(i x v:Nat),a[i]?=some (x,v)→∃j,b[i]?=some (j,ver j)∧cw is js x=some j∧v=0
 |[],b,h=>by simp only[Et,aQ] at h;subst h;exact⟨rfl,fun i x v h=>by simp at h⟩
 |s::l,b,h=>by
  simp only[Et] at h;cases hb:Nat.beq s.2 0<;>simp only[hb,cond_true,cond_false] at h
  ·cases h
  simp only[aq,ax] at h;obtain⟨y,hy,r,hr,rfl⟩:=h;obtain⟨g1,g2⟩:=I2 hr;refine⟨by simp[g1],fun i x v hx=>?_⟩;cases i with
  |zero=>simp at hx;subst hx;exact⟨y,rfl,hy,av hb⟩
  |succ i=>simp at hx;simpa using g2 i x v hx
theorem PQ {ver:Nat→Nat}{is js:List Nat}{s x:Sh}(h:j0 ver is js s=some x):(∀gs s',s≠.opt gs s')∧∀gs s',x≠.opt gs s':=by
 cases s<;>simp only[j0] at h
 case none=>cases h;exact⟨(fun _ _ e=>by cases e),(fun _ _ e=>by cases e)⟩
 case dat=>cases h;exact⟨(fun _ _ e=>by cases e),(fun _ _ e=>by cases e)⟩
 case obj i v=>
  cases hb:Nat.beq v 0<;>simp only[hb,cond_true,cond_false] at h
  ·cases h
  simp only[ax] at h;obtain⟨j,_,rfl⟩:=h;exact⟨(fun _ _ e=>by cases e),(fun _ _ e=>by cases e)⟩
 case ptr i v off=>
  cases hb:Nat.beq v 0<;>simp only[hb,cond_true,cond_false] at h
  ·cases h
  simp only[ax] at h;obtain⟨j,_,rfl⟩:=h;exact⟨(fun _ _ e=>by cases e),(fun _ _ e=>by cases e)⟩
 case fclo f caps=>
  simp only[ax] at h;obtain⟨j,_,rfl⟩:=h;exact⟨(fun _ _ e=>by cases e),(fun _ _ e=>by cases e)⟩
 all_goals cases h
section
variable {C:Ctx} {S S1:St} {ρ ρ1:Env} {σ σ1:Im} {own dc:Nat→Option Nat} {hv aO:Nat→Value} {w0:World} {σ0:Base} {A:Nat→Prop} {a:Act} {w w1:World} {Φ:aK} {dst:Nat}
 {is js:List Nat} {shs:List Sh} {obs:List (Nat×Ob)} {ρf:Env}
theorem aao (hσ:Im.leR C.cap σ σ1){ew:Nat→Value}(fy:∀i j,cw is js i=some j→ew i=hv j){s x:Sh}(hr:j0 S.ver is js s=some x){v:Value}{d:D}(h:aD C S ρ σ hv x v d):aD C (fC shs obs) ρf σ1 ew s v d:=by
 cases s<;>simp only[j0] at hr
 case none=>trivial
 case dat=>cases hr;exact hσ.rep h
 case obj i ver=>
  cases hb:Nat.beq ver 0<;>simp only[hb,cond_true,cond_false] at hr
  ·cases hr
  simp only[ax] at hr;obtain⟨j,hj,rfl⟩:=hr;exact⟨by rw[av hb];exact nS _,fun _=>by rw[fy i j hj];exact h.2 rfl⟩
 case ptr i ver off=>
  cases hb:Nat.beq ver 0<;>simp only[hb,cond_true,cond_false] at hr
  ·cases hr
  simp only[ax] at hr;obtain⟨j,hj,rfl⟩:=hr;exact⟨by rw[av hb];exact nS _,fun _=>by rw[fy i j hj];exact h.2 rfl⟩
 case fclo f caps=>
  simp only[ax] at hr;obtain⟨c,hc,rfl⟩:=hr;obtain⟨g1,g2⟩:=I2 hc;obtain⟨vs,h1,h2,h3⟩:=h;refine⟨vs,h1,by omega,fun i x ver hi=>?_⟩;obtain⟨j,e1,e2,e3⟩:=g2 i x ver hi;exact⟨by rw[e3];exact nS _,fun _=>by rw[fy x j e2];exact(h3 i j _ e1).2 rfl⟩
 all_goals cases hr
theorem anw (hσ:σ.le σ1){ew:Nat→Value}(fy:∀i j,cw is js i=some j→ew i=aO j){s x:Sh}(hr:j0 S1.ver is js s=some x){v:Value}{d:D}(h:aD C (fC shs obs) ρf σ ew s v d):aD C S1 ρ1 σ1 aO x v d:=by
 cases s<;>simp only[j0] at hr
 case none=>cases hr;trivial
 case dat=>cases hr;exact Rep.mono hσ h
 case obj i ver=>
  cases hb:Nat.beq ver 0<;>simp only[hb,cond_true,cond_false] at hr
  ·cases hr
  simp only[ax] at hr;obtain⟨j,hj,rfl⟩:=hr;exact⟨aW _,fun _=>by rw[←fy i j hj];exact h.2 (av hb)⟩
 case ptr i ver off=>
  cases hb:Nat.beq ver 0<;>simp only[hb,cond_true,cond_false] at hr
  ·cases hr
  simp only[ax] at hr;obtain⟨j,hj,rfl⟩:=hr;exact⟨aW _,fun _=>by rw[←fy i j hj];exact h.2 (av hb)⟩
 case fclo f caps=>
  simp only[ax] at hr;obtain⟨c,hc,rfl⟩:=hr;obtain⟨g1,g2⟩:=I2 hc;obtain⟨vs,h1,h2,h3⟩:=h;refine⟨vs,h1,by omega,fun i j ver hi=>?_⟩;have af:i<caps.length:=by have:=(eT.1 hi).1;omega
  obtain⟨j',e1,e2,e3⟩:=g2 i _ _ (bq af);rw[hi] at e1;cases e1;exact⟨aW _,fun _=>by rw[←fy _ j e2];exact(h3 i _ _ (bq af)).2 e3⟩
 all_goals cases hr
theorem afy {c x:Sh}(hf:BT c x=true){v:Value}{d:D}(h:aD C S ρ σ hv c v d):aD C S ρ σ hv x v d:=by
 cases x with
 |none=>trivial
 |dat b=>
  simp only[BT] at hf;split at hf
  ·exact Rep.sub h hf
  ·cases hf
 |_=>simp only[BT] at hf;rw[Sh.beq_eq _ _ hf] at h;exact h
theorem alB (hσ:Im.leR C.cap σ σ1){ew:Nat→Value}{Dl:Nat→Option Nat}(fy:∀i j,cw is js i=some j→ew i=hv j)(bR:∀k j i,own k=some j→cw js is j=some i→Dl k=some i)(ba:js.Nodup){i j N:Nat}(da:cw is js i=some j)(hρ:ρf.o i=ρ.o j){ob x:Ob}
 (hr:pv S.ver is js ob=some x) (hf:yz (S.o j) x=true) (h:bS C S ρ σ own hv w N j (S.o j)):bS C (fC shs obs) ρf σ1 Dl ew w N i ob:=by
 have gP:=HD ba da;cases ob<;>simp only[pv] at hr
 case row T e=>
  cases hr;cases ho:S.o j<;>rw[ho] at hf h<;>simp only[yz,aj] at hf<;>try (cases hf;done)
  obtain⟨cells,xs,h1,h2,h3,h4⟩:=h;rw[av hf.1,Ty.beq_eq _ _ hf.2] at*;exact⟨cells,xs,by rw[hρ];exact h1,by rw[fy i j da];exact h2,h3.monoR hσ,fun k hk=>bR k j i (h4 k (by rw[←fy i j da];exact hk)) gP⟩
 case mp kt et=>
  cases hr;cases ho:S.o j<;>rw[ho] at hf h<;>simp only[yz,aj] at hf<;>try (cases hf;done)
  obtain⟨k,arr,clock,es,h1,h2,h3,h4,h5,h6,h7⟩:=h;rw[Ty.beq_eq _ _ hf.1,Ty.beq_eq _ _ hf.2] at*;exact⟨k,arr,clock,es,by rw[fy i j da];exact h1,bR k j i h2 gP,h3,by rw[hρ];exact h4,h5,h6,fun n e p he hp=>⟨hσ.rep (h7 n e p he hp).1,hσ.rep (h7 n e p he hp).2⟩⟩
 case box ag cs=>
  simp only[ax] at hr;obtain⟨KX,dg,rfl⟩:=hr;cases ho:S.o j<;>rw[ho] at hf h<;>simp only[yz,aj] at hf<;>try (cases hf;done)
  obtain⟨k,vs,T,ds,h1,h2,h3,h4,h5,h6,h7⟩:=h;obtain⟨l1,g1⟩:=Uz hf.2;obtain⟨l2,g2⟩:=PR dg;refine⟨k,vs,T,ds,by rw[fy i j da];exact h1,bR k j i h2 gP,h3,by omega,by rw[hρ];exact h5,by omega,fun n s hs=>?_⟩;obtain⟨y,hy,CP⟩:=g2 n s hs;obtain⟨z,hz,yW⟩:=g1 n y hy;exact⟨(PQ CP).1,aao hσ fy CP (afy yW (h7 n z hz).2)⟩
 all_goals cases hr
theorem alC (hσ:σ.le σ1){ew:Nat→Value}{Dl:Nat→Option Nat}(fy:∀i j,cw is js i=some j→ew i=aO j)(bR:∀k i j,Dl k=some i→cw is js i=some j→dc k=some j){i j N:Nat}(da:cw is js i=some j)(hρ:ρ1.o j=ρf.o i){ob x:Ob}
 (hr:pv S1.ver is js ob=some x) (h:bS C (fC shs obs) ρf σ Dl ew w N i ob):bS C S1 ρ1 σ1 dc aO w N j x:=by
 cases ob<;>simp only[pv] at hr
 case row T e=>
  cases hr;obtain⟨cells,xs,h1,h2,h3,h4⟩:=h;exact⟨cells,xs,by rw[hρ];exact h1,by rw[←fy i j da];exact h2,h3.mono hσ,fun k hk=>bR k i j (h4 k (by rw[fy i j da];exact hk)) da⟩
 case mp kt et=>
  cases hr;obtain⟨k,arr,clock,es,h1,h2,h3,h4,h5,h6,h7⟩:=h;exact⟨k,arr,clock,es,by rw[←fy i j da];exact h1,bR k i j h2 da,h3,by rw[hρ];exact h4,h5,h6,fun n e p he hp=>⟨(h7 n e p he hp).1.mono hσ,(h7 n e p he hp).2.mono hσ⟩⟩
 case box ag cs=>
  simp only[ax] at hr;obtain⟨KX,dg,rfl⟩:=hr;obtain⟨k,vs,T,ds,h1,h2,h3,h4,h5,h6,h7⟩:=h;obtain⟨l2,g2⟩:=PR dg;refine⟨k,vs,T,ds,by rw[←fy i j da];exact h1,bR k i j h2 da,h3,by omega,by rw[hρ];exact h5,by omega,fun n s hs=>?_⟩;have af:n<cs.length:=by have:=(eT.1 hs).1;omega
  obtain⟨y,hy,CP⟩:=g2 n _ (bq af);rw[hs] at hy;cases hy;exact⟨(PQ CP).2,anw hσ fy CP (h7 n _ (bq af)).2⟩
 all_goals cases hr
theorem anv {ver:Nat→Nat}{ob x:Ob}(hr:pv ver is js ob=some x):x≠.tr:=by
 cases ob<;>simp only[pv] at hr
 case row=>cases hr;intro e;cases e
 case mp=>cases hr;intro e;cases e
 case box=>
  simp only[ax] at hr;obtain⟨_,_,rfl⟩:=hr;intro e;cases e
 all_goals cases hr
theorem CtxOK.noM (h:CtxOK C σ):CtxOK C σ.noM:=⟨fun g x hx=>(h.glob g x hx).noM,fun g x hx=>by
 have:=h.mg g x hx;have ay:σ.m g≠some cr:=fun e'=>by rw[this] at e';exact sn (sM e')
 simp only[Im.noM,if_neg ay,this]⟩
def EP (C:Ctx)(S:St)(ρ:Env)(σ:Im)(hv:Nat→Value)(x:mM)(v:Value)(d:D):Prop:=aD C S ρ σ hv x.1 v d∧∀y,x.2=some y→Rep C.cap σ y.1 v (y.2.ev ρ)
theorem Uw:∀{acts:List mM} {shs:List Sh} {es:List PE},sX S is js acts shs=some es→acts.length=shs.length∧es.length=shs.length∧∀(t:Nat) (s:Sh),shs[t]?=some s→∃x e,acts[t]?=some x∧es[t]?=some e∧BR S is js x s=some e
 |[],[],es,h=>by simp only[sX,aQ] at h;subst h;exact⟨rfl,rfl,fun t s h=>by simp at h⟩
 |[],_::_,es,h=>by simp[sX] at h
 |_::_,[],es,h=>by simp[sX] at h
 |x::acts,s::shs,es,h=>by
  simp only[sX,aq,ax] at h;obtain⟨e,he,r,hr,rfl⟩:=h;obtain⟨g1,g2,g3⟩:=Uw hr;refine⟨by simp[g1],by simp[g2],fun t s' hs=>?_⟩;cases t with
  |zero=>simp at hs;subst hs;exact⟨x,e,rfl,rfl,he⟩
  |succ t=>simp at hs;simpa using g3 t s' hs
theorem afw (hσ:Im.leR C.cap σ σ1){ew:Nat→Value}(fy:∀i j,cw is js i=some j→ew i=hv j){x:mM}{s:Sh}{e:PE}(hf:BR S is js x s=some e){v:Value}{d:D}(h:EP C S ρ σ hv x v d):aD C (fC shs obs) ρf σ1 ew s v (e.ev ρ):=by
 have gen:∀s,(match j0 S.ver is js s with|some y=>bif Sh.beq x.1 y then some (PE.con .none) else none|none=>none)=some e→mu s=false→aD C (fC shs obs) ρf σ1 ew s v (e.ev ρ):=by
  intro s hm hd;split at hm
  ·rename_i y hy;cases hb:Sh.beq x.1 y<;>simp only[hb,cond_true,cond_false] at hm
   ·cases hm
   have h1:=h.1;rw[Sh.beq_eq _ _ hb] at h1;have:=aao (shs:=shs) (obs:=obs) (ρf:=ρf) hσ fy hy h1;cases s with
   |dat t=>cases hd
   |opt gs s'=>exact absurd rfl ((PQ hy).1 gs s')
   |eptr j ver size off=>simp[j0] at hy
   |agg l=>simp[j0] at hy
   |_=>exact this
  ·cases hm
 unfold BR at hf;split at hf
 ·rename_i t;split at hf
  ·rename_i y hy;cases hb:Ty.sub y.1 t<;>simp only[hb,cond_true,cond_false] at hf
   ·cases hf
   cases hf;exact hσ.rep ((h.2 y hy).sub hb)
  ·cases hf
 ·trivial
 ·rename_i kM tq;refine gen _ hf ?_;cases s<;>first|rfl|exact absurd rfl (kM _)
theorem aek {ew MX:Nat→Value}{σ σ':Im}{ρf ρf':Env}{args:Nat→Value}{ds ds':Nat→D}(h1:∀(t:Nat) (s:Sh),shs[t]?=some s→aD C (fC shs obs) ρf σ ew s (args t) (ds t))(h2:∀(t:Nat) (s:Sh),shs[t]?=some s→mu s=false→aD C (fC shs obs) ρf' σ' MX s (args t) (ds' t))
 (hz:∀s,s∈shs→∃x,j0 S.ver is js s=some x) {i:Nat} (hi:i∈od shs):MX i=ew i:=by
 have key:∀(l:List Sh),(∀s,s∈l→∃t:Nat,shs[t]?=some s)→i∈od l→MX i=ew i:=by
  intro l
  induction l with
  |nil=>intro _ h;cases h
  |cons s l ih=>
   intro hl hi;obtain⟨t,ht⟩:=hl s (dp ..);have y3:∀s,s∈l→∃t:Nat,shs[t]?=some s:=fun s hs=>hl s (dk _ hs);obtain⟨x,hx⟩:=hz s (jn ht);have a1:=h1 t s ht;have a2:=h2 t s ht;cases s<;>simp only[od] at hi
   case obj j ver=>
        simp only[j0] at hx;cases hb:Nat.beq ver 0<;>simp only[hb,cond_true,cond_false] at hx
        ·cases hx
        rcases cM.1 hi with e|e
        ·subst e;rw[←(a1.2 (av hb)),←((a2 rfl).2 (av hb))]
        ·exact ih y3 e
   case ptr j ver off=>
        simp only[j0] at hx;cases hb:Nat.beq ver 0<;>simp only[hb,cond_true,cond_false] at hx
        ·cases hx
        rcases cM.1 hi with e|e
        ·subst e;obtain⟨k1,e1,e2⟩:=a1.2 (av hb);obtain⟨k2,e3,e4⟩:=(a2 rfl).2 (av hb);rw[e2] at e4;cases e4;rw[e1,e3]
        ·exact ih y3 e
   case fclo f caps=>
        simp only[j0,ax] at hx;obtain⟨c,hc,_⟩:=hx;obtain⟨_,g2⟩:=I2 hc;rcases dy.1 hi with e|e
        ·obtain⟨y,hy,e1⟩:=dP.1 e;subst e1;obtain⟨m,hm⟩:=xk hy;obtain⟨vs,b1,b2,b3⟩:=a1;obtain⟨qG,c1,c2,c3⟩:=a2 rfl;rw[b1] at c1;have gU:vs=qG:=by simpa using c1
         subst gU;obtain⟨_,_,_,zg⟩:=g2 m y.1 y.2 hm;rw[←(b3 m y.1 y.2 hm).2 zg,←(c3 m y.1 y.2 hm).2 zg]
        ·exact ih y3 e
   all_goals exact ih y3 hi
 exact key shs (fun s hs=>xk hs) hi
end
section
variable {C:Ctx} {S:St} {ρ:Env} {σ:Im} {own:Nat→Option Nat} {hv:Nat→Value} {w0:World} {σ0:Base} {A:Nat→Prop} {a:Act} {w:World} {Φ:aK} {dst:Nat}
 {is js:List Nat} {shs:List Sh} {obs:List (Nat×Ob)}
theorem Below.weak {B:Nat}{w w':World}(h:Below 0 w w')(hk:∀k,k<B→w'.heap[k]?=w.heap[k]?):Below B w w':=⟨h.os,h.tape,h.output,h.size,hk⟩
def nw (js is:List Nat)(own:Nat→Option Nat):Nat→Option Nat:=fun k=>(own k).bind (cw js is)
def Dk (js is:List Nat)(own own':Nat→Option Nat):Nat→Option Nat:=fun k=>
 match own' k with
 |some i=>cw is js i
 |none=>match own k with|some j=>(match cw js is j with|some _=>none|none=>some j)|none=>none
theorem handed (h:Inv C S ρ σ own hv w0 σ0 A a w)(hC:CtxOK C σ0)(aiL:wg shs obs=true)(Cn:is=obs.map (·.1))(VN:is.Nodup)(He:js.Nodup)(G0:pW S is js obs js=true){acts:List mM}{es:List PE}(ja:sX S is js acts shs=some es)
 (GW:S.o gZ=.dead) (Ho:gZ∉js) {vals:List Value} (hvl:vals.length=acts.length) (ag4:∀(t:Nat) (x:mM),acts[t]?=some x→∃d,EP C S ρ σ hv x (vals.getD t undef) d) {f:Nat} {res:Ty} {d:D}
 (hfn:sE C f shs obs res (es.map (PE.ev ρ)++js.map ρ.o) d):
 Calls C.P f vals.toArray w fun e w'=>∃v dr os,e=.returned v∧d=.tup (dr::os)∧os.length=js.length∧
  ∀ρ':Env,ρ'.r=ρ.r→(∀(k j:Nat),js[k]?=some j→ρ'.o j=os.getD k .none)→(∀j,j∉js→j≠gZ→ρ'.o j=ρ.o j)→
   ∃σ1 dc aO,Inv C (S.handed shs obs is js) ρ' σ1 dc aO w0 σ0 A a w'∧Rep C.cap σ1 res v dr:=by
 obtain⟨al1,al2,ix⟩:=Uw ja;have fN:=Uy G0;have tC:w0.heap.size≤w.heap.size:=h.below.size;obtain⟨tr,fx,cx,hf,rG⟩:=h.frame
 let ew:Nat→Value:=fun i=>match cw is js i with|some j=>hv j|none=>undef
 have fy:∀i j,cw is js i=some j→ew i=hv j:=fun i j e=>by simp only[ew,e]
 have VE:Im.leR C.cap σ σ.noM:=⟨Rep.noM,fun _ _ _ e=>e⟩
 have CA:∀k x,σ.noM.m k=some x→σ.m k=some x∧x≠cr:=by
  intro k x e;by_cases hd:σ.m k=some cr
  ·simp[Im.noM,hd] at e
  ·simp only[Im.noM,if_neg hd] at e;exact⟨e,fun e2=>hd (by rw[e,e2])⟩
 have vp:(es.map (PE.ev ρ)++js.map ρ.o).drop shs.length=js.map ρ.o:=by rw[List.drop_append];simp[al2]
 have ahN:∀t e,es[t]?=some e→(es.map (PE.ev ρ)++js.map ρ.o).getD t .none=e.ev ρ:=fun t e he=>by
  have af:=(eT.1 he).1;rw[aG,jF (by simpa using af),cg,he];rfl
 have aiX:∀s,s∈shs→∃x,j0 S.ver is js s=some x:=by
  intro s hs;obtain⟨t,ht⟩:=xk hs;obtain⟨x,e,_,_,he⟩:=ix t s ht;unfold BR at he;split at he
  ·exact⟨_,rfl⟩
  ·exact⟨_,rfl⟩
  ·split at he
   ·rename_i y hy;exact⟨y,hy⟩
   ·cases he
 have Vy:∀t,aD C (fC shs obs) (lJ obs (es.map (PE.ev ρ)++js.map ρ.o) ((es.map (PE.ev ρ)++js.map ρ.o).drop shs.length)) σ.noM ew (shs.getD t .none) (vals.toArray.getD t undef) ((es.map (PE.ev ρ)++js.map ρ.o).getD t .none):=by
  intro t;cases hs:shs[t]? with
  |none=>rw[aG,hs];trivial
  |some s=>
   obtain⟨x,e,hx,he,GZ⟩:=ix t s hs;obtain⟨d',ag5⟩:=ag4 t x hx;rw[aG (l:=shs),hs,ahN t e he];have e1:vals.toArray.getD t undef=vals.getD t undef:=by simp[dH,aG]
   rw[e1];exact afw VE fy GZ ag5
 have ahZ:∀i,bS C (fC shs obs) (lJ obs (es.map (PE.ev ρ)++js.map ρ.o) ((es.map (PE.ev ρ)++js.map ρ.o).drop shs.length)) σ.noM (nw js is own) ew w w0.heap.size i (dT obs i):=by
  intro i;cases da:cw is js i with
  |none=>subst Cn;rw[WW fN da];trivial
  |some j=>
   subst Cn;obtain⟨x,hx,G1⟩:=Ux G0 da;refine alB VE fy (fun k j' i' hk hl=>by simp only[nw,hk,jG,hl]) He da ?_ hx G1 (h.objs j);show mA obs _ i=_;rw[vp];exact aj2 obs ρ.o rfl da
 have oy:=hfn w0.heap.size σ.noM (nw js is own) ew w vals.toArray (fun k=>(∃j,own k=some j∧cw js is j=none)∨σ.m k=some cr∨(cx k)) aiL ⟨h.ok.c,fun k x e=>h.ok.m k x (CA k x e).1,h.ok.f⟩ ((hC.mono h.le).noM)
  (fun k e=>(CA k _ e).2 rfl) tC (by simp;omega) (fun k i hk=>by
    simp only[nw,aq] at hk;obtain⟨j,hj,_⟩:=hk;obtain⟨g1,g2,g3,g4⟩:=h.owns k j hj;exact⟨g1,g2,g3,by by_cases e:σ.m k=some cr<;>simp[Im.noM,e,g4]⟩) (fun k hk=>by
    rcases hk with⟨j,hj,hn⟩|hk|hk
    ·obtain⟨g1,g2,g3,g4⟩:=h.owns k j hj;exact⟨g2,by simp[nw,hj,hn],g3,by by_cases e:σ.m k=some cr<;>simp[Im.noM,e,g4]⟩
    ·have Cw:=h.ok.m k _ hk;have hn:own k=none:=by
      cases e:own k with
      |none=>rfl
      |some j=>rw[(h.owns k j e).2.2.2] at hk;cases hk
     refine⟨Cw.lt,by simp[nw,hn],fun o=>?_,by simp[Im.noM,hk]⟩;cases e:σ.c k o with
     |none=>exact e
     |some x=>
      have c1:=h.ok.c k o x e;rcases Cw with⟨m1,_⟩|⟨_,m2⟩|⟨m3,_⟩
      ·exact absurd rfl m1
      ·simp[World.cell?,m2] at c1
      ·exact absurd m3.symm sn
    ·have kg:=σ0.sub _ _ _ _ hf.F k hk;have hn:own k=none:=by
      cases e:own k with
      |none=>rfl
      |some j=>exact absurd kg (hf.own k j e)
     refine⟨σ0.lt _ _ _ _ hf.F k kg,by simp[nw,hn],fun o=>?_,?_⟩
     ·cases e:σ.c k o with
      |none=>exact e
      |some x=>exact absurd hk (hf.c k o x e)
     ·cases e:σ.m k with
      |none=>simp[Im.noM,e]
      |some x=>exact absurd hk (hf.m k x e)) Vy ahZ
 refine oy.mono fun e w' hh=>?_;obtain⟨v,σ',own',hv',dr,os,rfl,hd,Mq,hle,au,hb,iK,cO,cE,tp,VU,vx,Mn,du⟩:=hh;refine⟨v,dr,os,rfl,hd,by omega,fun ρ' iJ lz vF=>?_⟩;have CB:∀k,k<w.heap.size→own k=none→w'.heap[k]?=w.heap[k]?:=fun k hk hn=>iK k hk (by simp[nw,hn]);have aiF:∀k j,own k=some j→cw js is j=none→w'.heap[k]?=w.heap[k]?:=fun k j hk hn=>iK k (h.owns k j hk).2.1 (by simp[nw,hk,hn])
 have Ve:∀k o x,σ.c k o=some x→own k=none:=fun k o x e=>by
  cases e1:own k with
  |none=>rfl
  |some j=>rw[(h.owns k j e1).2.2.1 o] at e;cases e
 have VL:∀k x,σ.m k=some x→own k=none:=fun k x e=>by
  cases e1:own k with
  |none=>rfl
  |some j=>rw[(h.owns k j e1).2.2.2] at e;cases e
 have Hj:σ.ok w':=⟨fun k o x e=>by rw[World.cell?_of_block (CB k (h.lt e) (Ve k o x e))];exact h.ok.c k o x e,fun k x e=>(h.ok.m k x e).keep (CB k (h.ltm e) (VL k x e)),h.ok.fz fun k o x e=>CB k (h.lt e) (Ve k o x e)⟩
 have kK:σ.le (σ'.plus σ):=Im.plus_le2 au Hj;have ju:σ'.le (σ'.plus σ):=Im.plus_le1 σ' σ;have dg:∀k o x,(σ'.plus σ).c k o=some x→σ'.c k o=some x:=fun k o x e=>(Im.plus_c e).elim id (fun e=>hle.c k o x e)
 have y4:∀k x,(σ'.plus σ).m k=some x→σ'.m k=some x∨(σ.m k=some x∧x=cr):=fun k x e=>(Im.plus_m e).elim .inl (fun e=>by
  by_cases hd:x=cr
  ·exact .inr ⟨e,hd⟩
  ·refine .inl (hle.m k x ?_);have:σ.m k≠some cr:=fun e2=>hd (by rw[e] at e2;cases e2;rfl);simp only[Im.noM,if_neg this,e])
 let aO:Nat→Value:=fun j=>match cw js is j with|some i=>hv' i|none=>hv j
 have aju:∀i j,cw is js i=some j→hv' i=aO j:=fun i j e=>by simp only[aO,HD He e]
 have ahz:∀i,i∈od shs→hv' i=ew i:=fun i hi=>aek (S:=S) (is:=is) (js:=js) (args:=fun t=>vals.toArray.getD t undef) (ds:=fun t=>(es.map (PE.ev ρ)++js.map ρ.o).getD t .none) (ds':=fun t=>(es.map (PE.ev ρ)++js.map ρ.o).getD t .none) (fun t s hs=>by
  have:=Vy t;rw[aG (l:=shs),hs] at this;exact this) (fun t s hs hd=>vx t s hs hd) aiX hi
 have pZ:Compat S hv (S.handed shs obs is js) aO:=by
  refine⟨fun j=>?_,fun j e=>?_⟩
  ·show S.ver j≤ux S.ver shs is js j;unfold ux;split
   ·cases aL (od shs) _<;>simp
   ·exact aW _
  ·change ux S.ver shs is js j=S.ver j at e;show aO j=hv j;simp only[aO];unfold ux at e;split at e
   ·rename_i i hi;cases hb:aL (od shs) i<;>rw[hb] at e
    ·simp at e
    ·try simp only[hi]
     rw[ahz i (Wo.1 hb),fy i j (HD VN hi)]
   ·rename_i hi;try simp only[hi]
 have mf:∀k j,Dk js is own own' k=some j→(k<w.heap.size→own k≠none)∧w0.heap.size≤k∧k<w'.heap.size∧(∀o,σ'.c k o=none)∧σ'.m k=none∧σ.m k≠some cr:=by
  intro k j hk;simp only[Dk] at hk;split at hk
  ·rename_i i hi;obtain⟨g1,g2,g3,g4,g5⟩:=VU k i hi;have g6:k<w.heap.size→own k≠none:=fun af e=>g5 af (by simp[nw,e]);refine⟨g6,g1,g2,g3,g4,fun e=>?_⟩;exact g6 (h.ltm e) (VL k _ e)
  ·split at hk
   ·rename_i j' bG;split at hk
    ·cases hk
    ·rename_i hn;obtain⟨g1,g2,g3,g4⟩:=h.owns k j' bG;have ke:(∃j,own k=some j∧cw js is j=none)∨σ.m k=some cr∨(cx k):=.inl ⟨j',bG,hn⟩;refine⟨fun _ e=>(by rw[bG] at e;cases e),g1,qO g2 hb.size,fun o=>?_,?_,fun e=>?_⟩
     ·cases e:σ'.c k o with
      |none=>rfl
      |some x=>exact absurd ke (cO k o x e).2
     ·cases e:σ'.m k with
      |none=>rfl
      |some x=>exact absurd ke (cE k x e).2
     ·rw[g4] at e;cases e
   ·cases hk
 refine⟨σ'.plus σ,Dk js is own own',aO,⟨h.defers.mono kK,Im.plus_ok au Hj,h.le.trans kK,h.old,fun k o x e=>?_,fun k x e=>?_,h.below.trans (Below.weak hb fun k hk=>?_),h.bw,fun k j hk=>?_,fun t=>?_,fun j=>?_,h.opts,?_⟩,du.mono ju⟩
 ·rcases(cO k o x (dg k o x e)).1 with e1|e1
  ·exact h.newc k o x e1
  ·exact .inr e1
 ·rcases y4 k x e with e1|e1
  ·rcases(cE k x e1).1 with e2|e2
   ·exact h.newm k x (CA k x e2).1
   ·exact .inr e2
  ·exact h.newm k x e1.1
 ·have cH:k<w0.heap.size:=qO hk h.bw;refine CB k (by omega) ?_;cases e:own k with
  |none=>rfl
  |some j=>have:=(h.owns k j e).1;omega
 ·obtain⟨_,g1,g2,g3,g4,g5⟩:=mf k j hk;refine⟨g1,g2,fun o=>?_,?_⟩
  ·cases e:(σ'.plus σ).c k o with
   |none=>rfl
   |some x=>have:=dg k o x e;rw[g3 o] at this;cases this
  ·cases e:(σ'.plus σ).m k with
   |none=>rfl
   |some x=>
    rcases y4 k x e with e1|e1
    ·rw[g4] at e1;cases e1
    ·exact absurd (by rw[e1.1,e1.2]) g5
 ·show aD C _ ρ' _ aO (S.r t) _ (ρ'.r t);rw[iJ]
  exact aD.mono kK pZ (fun gs s e=>by
   unfold holds;rw[iJ]) (fun gs s e=>(h.opts t gs s e).2) (h.regs t)
 ·show bS C _ ρ' _ _ aO w' _ j (match cw js is j with|some i=>(match pv (ux S.ver shs is js) is js (dT obs i) with|some o=>o|none=>.dead)|none=>S.o j);split
  ·rename_i i hi;have da:=HD VN hi;split
   ·rename_i x hx;refine alC (S1:=S.handed shs obs is js) ju aju (fun k i' j' hk hl=>by simp only[Dk,hk,hl]) da ?_ hx (Mn i);subst Cn;obtain⟨k,bD,cH⟩:=WR (os:=os) Mq da;show ρ'.o j=mA obs os i;rw[cH];exact lz k j bD
   ·trivial
  ·rename_i hn
   have Mg:j∉js:=fun hm=>by
        obtain⟨k,hk⟩:=xk hm;have af:k<is.length:=by
         have:=(eT.1 hk).1;rw[Cn,ed];omega
        have:=HC He hk (bq af);rw[hn] at this;cases this
   by_cases G7:j=gZ
   ·subst G7;rw[GW];trivial
   ·refine(h.objs j).mono kK pZ (by show aO j=hv j;simp only[aO,hn]) (vF j Mg G7) (fun k hk=>⟨?_,aiF k j hk hn⟩);have:own' k=none:=by
     cases e:own' k with
     |none=>rfl
     |some i=>exact absurd (by simp[nw,hk,hn]) ((VU k i e).2.2.2.2 (h.owns k j hk).2.1)
    simp only[Dk,this,hk,hn]
 ·refine⟨tr,fx,cx,⟨σ0.keep _ _ _ _ _ hf.F hb fun k hk=>?_,fun k j hk kg=>?_,fun k o x e hc=>?_,fun k x e hc=>?_,fun k e hB hk=>?_⟩,fun j hj=>?_⟩
  ·refine CB k (σ0.lt _ _ _ _ hf.F k hk) ?_;cases e:own k with
   |none=>rfl
   |some j=>exact absurd hk (hf.own k j e)
  ·have af:=σ0.lt _ _ _ _ hf.F k kg;have:=(mf k j hk).1 af;cases e:own k with
   |none=>exact this e
   |some j'=>exact hf.own k j' e kg
  ·exact(cO k o x (dg k o x e)).2 (.inr (.inr hc))
  ·rcases y4 k x e with e1|e1
   ·exact(cE k x e1).2 (.inr (.inr hc))
   ·exact hf.m k x e1.1 hc
  ·rcases y4 k _ e with e1|e1
   ·have af:=σ0.lt _ _ _ _ hf.F k hk;refine tp k e1 hB af ?_;have:own k=none:=by
     cases e:own k with
     |none=>rfl
     |some j=>exact absurd hk (hf.own k j e)
    simp[nw,this]
   ·exact hf.d k e1.1 hB hk
  ·change (match cw js is j with|some i=>(match pv (ux S.ver shs is js) is js (dT obs i) with|some o=>o|none=>.dead)|none=>S.o j)=.tr at hj;split at hj
   ·rename_i i hi;split at hj
    ·rename_i x hx;exact absurd hj (anv hx)
    ·cases hj
   ·rename_i hn
    have Mg:j∉js:=fun hm=>by
     obtain⟨k,hk⟩:=xk hm;have af:k<is.length:=by
         have:=(eT.1 hk).1;rw[Cn,ed];omega
     have:=HC He hk (bq af);rw[hn] at this;cases this
    have G7:j≠gZ:=fun e=>by subst e;rw[GW] at hj;cases hj
    rw[vF j Mg G7];exact rG j hj
theorem aaJ:∀(js:List Nat) (k:Nat) {ρ ρ':Env} {l:List D},PI.runs Φ (EA js k) ρ=some ρ'→ρ.o gZ=.tup l→gZ∉js→js.Nodup→
 ρ'.r=ρ.r∧(∀(i j:Nat),js[i]?=some j→ρ'.o j=l.getD (k+i) .none)∧∀j,j∉js→ρ'.o j=ρ.o j
 |[],k,ρ,ρ',l,h,hs,hn,hd=>by
  simp only[EA,PI.runs,aQ] at h;subst h;exact⟨rfl,fun i j e=>by simp at e,fun _ _=>rfl⟩
 |x::js,k,ρ,ρ',l,h,hs,hn,hd=>by
  simp only[EA,PI.runs,PI.run,jG,PE.ev,hs,D.tget] at h;simp only[cM,not_or] at hn;have fp:=l0.1 hd;obtain⟨g1,g2,g3⟩:=aaJ js (k+1) h (by simp only[Env.setO];rw[bf _ _ hn.1];exact hs) hn.2 fp.2;refine⟨g1,fun i j e=>?_,fun j hj=>?_⟩
  ·cases i with
   |zero=>simp at e;subst e;rw[g3 _ fp.1];simp[Env.setO,aJ]
   |succ i=>simp at e;rw[g2 i j e];congr 1;omega
  ·simp only[cM,not_or] at hj;rw[g3 j hj.2];simp only[Env.setO];exact bf _ _ hj.1
theorem acA (h:Inv C S ρ σ own hv w0 σ0 A a w)(hC:CtxOK C σ0)(x:Operand):∃d,EP C S ρ σ hv (E4 C S x) (a.eval x) d:=by
 cases x with
 |tmp t=>
  refine⟨ρ.r t,?_,fun y hy=>cf (gs:=[]) h hC rfl hy⟩;have:=(lP (gs:=[]) h rfl t).1;simpa [Act.eval,E4,eE] using this
 |_=>exact⟨.none,trivial,fun y hy=>cf (gs:=[]) h hC rfl hy⟩
theorem T6 (h:Inv C S ρ σ own hv w0 σ0 A a w)(hC:CtxOK C σ0)(hΦ:cL C Φ){f:Nat}{args:List Operand}{caps:List (Nat×Nat)}{vs:List Value}(gU:vs.length=caps.length)
 (eX:∀(i j ver:Nat),caps[i]?=some (j,ver)→ver≤S.ver j∧(ver=S.ver j→vs.getD i undef=hv j)) (ahh:∀(i j ver:Nat),caps[i]?=some (j,ver)→ver=S.ver j→∃k,hv j=.pointer (some ⟨k,0,none⟩)) {r:St×Ty×List PI} (hr:pP C S f args caps=some r)
 {ρ1:Env} (ah:PI.runs Φ r.2.2 ρ=some ρ1):
 Calls C.P f (args.map a.eval++vs).toArray w fun e w'=>∃v σ1 dc aO,e=.returned v∧Inv C r.1 ρ1 σ1 dc aO w0 σ0 A a w'∧Rep C.cap σ1 r.2.1 v ((ρ1.o gZ).tget 0):=by
 simp only[pP,aq] at hr;obtain⟨s,hs,hr⟩:=hr;split at hr
 case h_2=>cases hr
 rename_i shs obs ki;obtain⟨σ2,iN,ju,h2⟩:=Inv.fzs (yC S args shs) h;have dm:=(mY (yC S args shs) S).1;generalize S.fzs (yC S args shs)=S2 at hr h2 dm;unfold K4 K1 at hr;generalize Up S2 shs obs (args.map (E4 C S2)++caps.map TG)=js at hr;simp only[aq] at hr;obtain⟨es,ja,hr⟩:=hr;cases hb:(wg shs obs&&(gj (obs.map (·.1))&&gj js&&pW S2 (obs.map (·.1)) js obs js&&nm (S2.o gZ)&& !aL js gZ))<;>simp only[hb,cond_true,cond_false] at hr
 ·cases hr
 cases hr;simp only[aj,hZ] at hb;obtain⟨b0,⟨⟨⟨b1,b2⟩,b3⟩,b4⟩,b5⟩:=hb;have kM:=kQ b1;have tq:=kQ b2;have GW:S2.o gZ=.dead:=by
  cases e:S2.o gZ<;>rw[e] at b4<;>first|rfl|cases b4
 have Ho:gZ∉js:=fun hm=>by rw[Wo.2 hm] at b5;cases b5
 simp only[PI.runs,PI.run,aq,ax] at ah;obtain⟨ρ2,⟨d,hd,rfl⟩,ah⟩:=ah;rw[PE.evs_eq,nO,EX] at hd;have e1:js.map (PE.ev ρ∘PE.o)=js.map ρ.o:=rfl;rw[e1] at hd;have hfn:=((hΦ f _ d hd s hs).2 shs obs ki).plain b0
 have oy:=handed h2 hC b0 rfl kM tq b3 ja GW Ho (vals:=args.map a.eval++vs) (by simp[gU]) (fun t x hx=>by
  rw[ld] at hx;split at hx
  ·rename_i af;rw[ed] at af;rw[cg,bq af] at hx;cases hx;have:(args.map a.eval++vs).getD t undef=a.eval args[t]:=by
        rw[aG,jF (by simpa using af),cg,bq af];rfl
   rw[this];exact acA h2 hC _
  ·rename_i eY;rw[ed] at eY hx;rw[cg,ax] at hx;obtain⟨c,hc,rfl⟩:=hx;obtain⟨j,ver⟩:=c;have bX:(args.map a.eval++vs).getD t undef=vs.getD (t-args.length) undef:=by
        rw[aG,kE (by simpa using eY),ed,aG]
   obtain⟨g1,g2⟩:=eX _ j ver hc;refine⟨.none,⟨by rw[dm];exact g1,fun e=>?_⟩,fun y hy=>by cases hy⟩;rw[dm] at e;obtain⟨k,hk⟩:=ahh _ j ver hc e;exact⟨k,hk,by rw[bX,g2 e,hk]⟩) (hfn:=hfn)
 refine oy.mono fun e w' hh=>?_;obtain⟨v,dr,os,rfl,rfl,Mq,me⟩:=hh;obtain⟨g1,g2,g3⟩:=aaJ js 1 (l:=dr::os) ah (by simp[Env.setO,aJ]) Ho tq
 obtain⟨σ1,dc,aO,hinv,bH⟩:=me ρ1 g1 (fun k j hk=>by
  have:=g2 k j hk;rw[AN] at this;simpa using this) (fun j hj ay=>by rw[g3 j hj];simp only[Env.setO];exact bf _ _ ay)
 refine⟨v,σ1,dc,aO,rfl,hinv,?_⟩;rw[g3 gZ Ho];simpa [Env.setO,aJ,D.tget] using bH
def oQ (S:St)(dst:Option Nat)(r:St×Ty×List PI):St×List PI:=
 match dst with
 |some d=>(r.1.setR d (.dat r.2.1),r.2.2++[.setR d (.tget (.o gZ) 0)])
 |none=>(r.1,r.2.2)
theorem anL {a b:List PI}{ρ:Env}:PI.runs Φ (a++b) ρ=(PI.runs Φ a ρ).bind (PI.runs Φ b):=by
 induction a generalizing ρ with
 |nil=>simp[PI.runs]
 |cons x a ih=>
  simp only[EU,PI.runs];cases x.run Φ ρ with
  |none=>rfl
  |some ρ1=>simp[ih]
theorem TD {o:Oper}{f:Nat}{vals:List Value}(ht:∀d,o.dst=some d→¬A d∧d<a.tmps.size){r:St×Ty×List PI}(hx:(execOp a.eval o).run C.P w=.ok (.enter f vals.toArray) w)
 (hc:∀ρ1,PI.runs Φ r.2.2 ρ=some ρ1→Calls C.P f vals.toArray w fun e w'=>∃v σ1 dc aO,e=.returned v∧Inv C r.1 ρ1 σ1 dc aO w0 σ0 A a w'∧Rep C.cap σ1 r.2.1 v ((ρ1.o gZ).tget 0)):bO C w0 σ0 Φ S ρ A a w o (oQ S o.dst r):=by
 intro ρ' ah K Q hK;simp only[Oper.wp,hx,Oper.upon];cases hd:o.dst with
 |none=>
  rw[hd] at ah hK;refine(hc ρ' ah).mono fun e w' hh=>?_;obtain⟨v,σ1,dc,aO,rfl,hinv,bH⟩:=hh;refine hK _ _ ⟨σ1,dc,aO,?_⟩ rfl;have:(fun u=>A u∨(none:Option Nat)=some u)=A:=by funext u;simp
  rw[this];exact hinv
 |some d=>
  rw[hd] at ah hK;obtain⟨t1,t2⟩:=ht d hd;simp only[oQ,anL,aq] at ah;obtain⟨ρ1,h1,h2⟩:=ah;simp[PI.runs,PI.run,PE.ev] at h2;subst h2;refine(hc ρ1 h1).mono fun e w' hh=>?_;obtain⟨v,σ1,dc,aO,rfl,hinv,bH⟩:=hh;refine hK _ _ ⟨σ1,dc,aO,?_⟩ (size_put _ _ _);have:(fun u=>A u∨some d=some u)=(fun u=>A u∨u=d):=by funext u;simp[eq_comm]
  rw[this];exact hinv.setReg t1 (s:=.dat r.2.1) bH t2 (fun _ _ e=>by cases e)
theorem T7 (h:Inv C S ρ σ own hv w0 σ0 A a w)(hC:CtxOK C σ0)(aV:de C)(hΦ:cL C Φ){f:Nat}{args:Array Operand}{ts:Array TypeId}{r:St×Ty×List PI}{o:Oper}(ht:∀d,o.dst=some d→¬A d∧d<a.tmps.size)
 (hr:pP C S f args.toList []=some r) (ho:o.op=.call {callee:=.value (.func f),args:=args,argTypes:=ts}):bO C w0 σ0 Φ S ρ A a w o (oQ S o.dst r):=by
 have hs:∃s,C.sig f=some s:=by
  simp only[pP,aq] at hr;obtain⟨s,hs,_⟩:=hr;exact⟨s,hs⟩
 obtain⟨s,hs⟩:=hs;have hx:=Ew (a:=a) (w:=w) aV hs ho;have jy:args.map a.eval=(args.toList.map a.eval++[]).toArray:=by apply qJ;simp
 rw[jy] at hx;exact TD ht hx fun ρ1 ah=>T6 h hC hΦ (vs:=[]) rfl (fun i j ver e=>by simp at e) (fun i j ver e=>by simp at e) hr ah
def xu (S:St):List (Nat×Nat)→Bool
 |[]=>true
 |c::l=>Nat.beq c.2 (S.ver c.1)&&(match S.o c.1 with|.box ..=>true|_=>false)&&xu S l
theorem TI (h:Inv C S ρ σ own hv w0 σ0 A a w):∀{l:List (Nat×Nat)},xu S l=true→∀(i j ver:Nat),l[i]?=some (j,ver)→ver=S.ver j∧∃k,hv j=.pointer (some ⟨k,0,none⟩)
 |[],_,i,j,ver,e=>by simp at e
 |c::l,hl,i,j,ver,e=>by
  simp only[xu,aj] at hl;cases i with
  |zero=>
   simp at e;subst e;refine⟨av hl.1.1,?_⟩;have h1:=hl.1.2;have h2:=h.objs j;split at h1
   ·rename_i ag shs eo;simp only at eo;rw[eo] at h2;obtain⟨k,cs,T,ds,g1,_⟩:=h2;exact⟨k,g1⟩
   ·cases h1
  |succ i=>simp at e;exact TI h hl.2 i j ver e
def yt (C:Ctx)(S:St)(t:Nat)(args:List Operand):Option (St×Ty×List PI):=
 match j1 S [] t with
 |.fclo f caps=>bif xu S caps then pP C S f args caps else none
 |_=>none
theorem T5 (h:Inv C S ρ σ own hv w0 σ0 A a w)(hC:CtxOK C σ0)(aV:de C)(hΦ:cL C Φ){t:Nat}{args:Array Operand}{ts:Array TypeId}{r:St×Ty×List PI}{o:Oper}(ht:∀d,o.dst=some d→¬A d∧d<a.tmps.size)
 (hr:yt C S t args.toList=some r) (ho:o.op=.call {callee:=.value (.tmp t),args:=args,argTypes:=ts}):bO C w0 σ0 Φ S ρ A a w o (oQ S o.dst r):=by
 unfold yt at hr;split at hr
 case h_2=>cases hr
 rename_i f caps fw;cases hb:xu S caps<;>simp only[hb,cond_true,cond_false] at hr
 ·cases hr
 have fO:=(lP (gs:=[]) h rfl t).1;rw[fw] at fO;obtain⟨vs,h1,h2,h3⟩:=fO;have hs:∃s,C.sig f=some s:=by
  simp only[pP,aq] at hr;obtain⟨s,hs,_⟩:=hr;exact⟨s,hs⟩
 obtain⟨s,hs⟩:=hs;have hx:=aaC (a:=a) (w:=w) (vs:=vs) (x:=.tmp t) aV hs (by simpa [Act.eval] using h1) ho;have jy:args.map a.eval++vs.toArray=(args.toList.map a.eval++vs).toArray:=by apply qJ;simp
 rw[jy] at hx;exact TD ht hx fun ρ1 ah=>T6 h hC hΦ h2 h3 (fun i j ver e _=>(TI h hb i j ver e).2) hr ah
def Ba (S:St):List Operand→Option (List (Nat×Nat))
 |[]=>some []
 |x::xs=>
  match x with
  |.tmp t=>
   match j1 S [] t with
   |.ptr j ver off=>bif Nat.beq ver (S.ver j)&&Nat.beq off 0 then(Ba S xs).map fun r=>(j,ver)::r else none
   |_=>none
  |_=>none
def BH (C:Ctx)(S:St)(dst:Nat)(fn:Fn)(first caps:Array Operand):Option (St×List PI):=
 match fn,first.toList with
 |.func f,[]=>
  match C.sig f with
  |some s=>bif np s.mode then(Ba S caps.toList).map fun c=>(S.setR dst (.fclo f c),[.setR dst (.con .none)]) else none
  |none=>none
 |_,_=>none
theorem TJ (h:Inv C S ρ σ own hv w0 σ0 A a w):∀{l:List Operand} {c:List (Nat×Nat)},Ba S l=some c→c.length=l.length∧∀(i j ver:Nat),c[i]?=some (j,ver)→ver≤S.ver j∧(ver=S.ver j→(l.map a.eval).getD i undef=hv j)
 |[],c,e=>by simp only[Ba,aQ] at e;subst e;exact⟨rfl,fun i j ver e=>by simp at e⟩
 |x::xs,c,e=>by
  simp only[Ba] at e;split at e
  case h_2=>cases e
  rename_i t;split at e
  case h_2=>cases e
  rename_i j ver off fw;cases hb:(Nat.beq ver (S.ver j)&&Nat.beq off 0)<;>simp only[hb,cond_true,cond_false] at e
  ·cases e
  simp only[aj] at hb;simp only[ax] at e;obtain⟨r,hr,rfl⟩:=e;obtain⟨g1,g2⟩:=TJ h hr;have fO:=(lP (gs:=[]) h rfl t).1;rw[fw] at fO;refine⟨by simp[g1],fun i j' lU e=>?_⟩;cases i with
  |zero=>
   simp at e;obtain⟨rfl,rfl⟩:=e;refine⟨fO.1,fun e=>?_⟩;obtain⟨k,k1,k2⟩:=fO.2 e;have e0:off=0:=av hb.2;subst e0;rw[k1,←k2];simp[Act.eval]
  |succ i=>simp at e;simpa using g2 i j' lU e
theorem aeR (h:Inv C S ρ σ own hv w0 σ0 A a w)(ht:¬A dst)(af:dst<a.tmps.size){fn:Fn}{first caps:Array Operand}{r:St×List PI}{o:Oper}(hr:BH C S dst fn first caps=some r)(hd:o.dst=some dst)(ho:o.op=.makeFunc fn first caps):bO C w0 σ0 Φ S ρ A a w o r:=by
 unfold BH at hr;split at hr
 case h_2=>cases hr
 rename_i f LU;split at hr
 case h_2=>cases hr
 rename_i s hs;cases hb:np s.mode<;>simp only[hb,cond_true,cond_false] at hr
 ·cases hr
 simp only[ax] at hr;obtain⟨c,hc,rfl⟩:=hr;obtain⟨g1,g2⟩:=TJ h hc;have Ci:first=#[]:=by rw[←sB];simpa using LU
 refine bO.value hd fun ρ' ah=>⟨.func (.func f) #[] (caps.toList.map a.eval).toArray,w,?_,?_⟩
 ·subst Ci;have e9:caps.map a.eval=(caps.toList.map a.eval).toArray:=by apply qJ;rw[uA]
  simp[execOp,ho,Instr.makeFunc,e9]
 ·have hρ:ρ'=ρ.setR dst .none:=by simp[PI.runs,PI.run,PE.ev] at ah;exact ah.symm
  subst hρ;exact⟨_,_,_,h.setReg ht (s:=.fclo f c) ⟨_,rfl,by simp[g1],g2⟩ af (fun _ _ e=>by cases e)⟩
end
end Cx
