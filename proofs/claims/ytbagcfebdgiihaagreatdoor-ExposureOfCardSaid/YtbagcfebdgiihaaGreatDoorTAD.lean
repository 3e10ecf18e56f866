/-
  Shared texts of this claim.
-/
import Derived.Test.YtbagcfebdgiihaaGreatDoorTAC
set_option linter.unusedSimpArgs false
set_option linter.unusedVariables false
noncomputable section
namespace Cx
open Go Go.RowKit
open Classical in
def Im.noM (σ:Im):Im:=⟨σ.c,fun k=>if σ.m k=some cL then none else σ.m k⟩
theorem Rep.noM {cap:Nat→Option CSig}{σ:Im}{t:Ty}{v:Value}{d:D}(h:Rep cap σ t v d):Rep cap σ.noM t v d:=by
 induction h with
 |int k n h1 h2=>exact .int k n h1 h2
 |bool b=>exact .bool b
 |str s h=>exact .str s h
 |agg ts vs ds h1 h2 _ ho ih=>exact .agg ts vs ds h1 h2 ih ho
 |tup ts vs ds h1 h2 _ ih=>exact .tup ts vs ds h1 h2 ih
 |nil e=>exact .nil e
 |emp e a=>exact .emp e a
 |nils e=>exact .nils e
 |nsl0 e=>exact .nsl0 e
 |nsl e k o n c xs _ hx ih=>exact .nsl e k o n c xs ih hx
 |slice e k o n c xs vs hn hc hm _ hv ih=>exact .slice e k o n c xs vs hn hc hm ih hv
 |mapnil kt et=>exact .mapnil kt et
 |map kt et r gV es hm hl hx hk _ iX B7=>
  refine .map kt et r gV es ?_ hl hx iX B7;have az:σ.m r≠some cL:=fun e=>by rw[hm] at e;cases e;exact Ck hl hk rfl
  simp only[Im.noM,if_neg az,hm]
 |ref t k o v d _ hv ih=>exact .ref t k o v d ih hv
 |fn f cs vs ds hc h1 h2 _ ih=>exact .fn f cs vs ds hc h1 h2 ih
 |fnnil aa r=>exact .fnnil aa r
def Im.plus (σ τ:Im):Im:=⟨fun k o=>(σ.c k o).or (τ.c k o),fun k=>(σ.m k).or (τ.m k)⟩
theorem Im.plus_le1 (σ τ:Im):σ.le (σ.plus τ):=⟨fun k o v h=>by simp[Im.plus,h],fun k v h=>by simp[Im.plus,h]⟩
theorem oQ.det {w:World}{k:Nat}{x y:List (Value×Value)}(h:oQ w k x)(g:oQ w k y):x=y:=by
 rcases h with⟨_,a,c,h1,h2⟩|⟨h1,h2⟩<;>rcases g with⟨_,a',c',g1,g2⟩|⟨g1,g2⟩
 ·rw[h1] at g1;cases g1;rw[←h2,←g2]
 ·rw[h1] at g2;cases g2
 ·rw[h2] at g1;cases g1
 ·rw[h1,g1]
theorem Im.plus_le2 {σ τ:Im}{w:World}(h:σ.ok w)(g:τ.ok w):τ.le (σ.plus τ):=by
 refine⟨fun k o v e=>?_,fun k v e=>?_⟩
 ·show(σ.c k o).or (τ.c k o)=some v;cases hc:σ.c k o with
  |none=>simpa using e
  |some u=>have:=(h.c k o u hc).symm.trans (g.c k o v e);simpa using this
 ·show(σ.m k).or (τ.m k)=some v;cases hc:σ.m k with
  |none=>simpa using e
  |some u=>simpa using(h.m k u hc).det (g.m k v e)
theorem Im.plus_ok {σ τ:Im}{w:World}(h:σ.ok w)(g:τ.ok w):(σ.plus τ).ok w:=by
 refine⟨fun k o v e=>?_,fun k v e=>?_⟩
 ·change (σ.c k o).or (τ.c k o)=some v at e;cases hc:σ.c k o with
  |none=>rw[hc] at e;exact g.c k o v (by simpa using e)
  |some u=>rw[hc] at e;simp at e;subst e;exact h.c k o u hc
 ·change (σ.m k).or (τ.m k)=some v at e;cases hc:σ.m k with
  |none=>rw[hc] at e;exact g.m k v (by simpa using e)
  |some u=>rw[hc] at e;simp at e;subst e;exact h.m k u hc
theorem Im.plus_c {σ τ:Im}{k o:Nat}{v:Value}(h:(σ.plus τ).c k o=some v):σ.c k o=some v∨τ.c k o=some v:=by
 change (σ.c k o).or (τ.c k o)=some v at h;cases hc:σ.c k o with
 |none=>rw[hc] at h;exact .inr (by simpa using h)
 |some u=>rw[hc] at h;exact .inl (by simpa using h)
theorem Im.plus_m {σ τ:Im}{k:Nat}{v:List (Value×Value)}(h:(σ.plus τ).m k=some v):σ.m k=some v∨τ.m k=some v:=by
 change (σ.m k).or (τ.m k)=some v at h;cases hc:σ.m k with
 |none=>rw[hc] at h;exact .inr (by simpa using h)
 |some u=>rw[hc] at h;exact .inl (by simpa using h)
def Ty.pureT:Ty→Bool
 |.int _|.bool|.str|.nils _=>true
 |_=>false
def Ty.pure:Ty→Bool
 |.tup ts=>ts.all Ty.pureT
 |.agg ts=>ts.all Ty.pureT
 |t=>Ty.pureT t
theorem Rep.pureT {cap:Nat→Option CSig}{σ τ:Im}{t:Ty}{v:Value}{d:D}(h:Rep cap σ t v d)(hp:t.pureT=true):Rep cap τ t v d:=by
 cases h<;>simp[Ty.pureT] at hp<;>constructor<;>assumption
theorem Rep.pure {cap:Nat→Option CSig}{σ τ:Im}{t:Ty}{v:Value}{d:D}(h:Rep cap σ t v d)(hp:t.pure=true):Rep cap τ t v d:=by
 cases h with
 |agg ts vs ds h1 h2 h ho=>exact .agg ts vs ds h1 h2 (fun i t hi=>(h i t hi).pureT (db.1 hp t (jm hi))) ho
 |tup ts vs ds h1 h2 h=>exact .tup ts vs ds h1 h2 (fun i t hi=>(h i t hi).pureT (db.1 hp t (jm hi)))
 |int k n h1 h2=>exact .int k n h1 h2
 |bool b=>exact .bool b
 |str s h=>exact .str s h
 |nils e=>exact .nils e
 |_=>simp[Ty.pure,Ty.pureT] at hp
def mR (C:Ctx)(s:Sig)(σ':Im)(w w':World)(v:Value)(d:D):Prop:=
 match s.mode with
 |.dat=>Rep C.cap σ' s.res v d
 |.it _=>True
 |.ob ..=>True
 |.row T e=>∃cells xs,d=.list xs∧w'.ownsRow w.heap.size T e.size v xs.length cells∧dL C.cap σ' e cells xs∧∀k,v.ownBlock=some k→(∀o,σ'.c k o=none)∧σ'.m k=none
def mH (C:Ctx)(σ:Im)(ts:List Ty)(args:List Value)(ds:List D):Prop:=
 args.length=ts.length∧ds.length=ts.length∧∀(i:Nat) (t:Ty),ts[i]?=some t→Rep C.cap σ t (args.getD i undef) (ds.getD i .none)
def jP (C:Ctx)(f:Nat)(s:Sig)(ds:List D)(d:D):Prop:=
 ∀(σ:Im) (w:World) (args:Array Value),σ.ok w→CtxOK C σ→mH C σ s.args args.toList ds→
  Calls C.P f args w fun e w'=>∃v σ',e=.returned v∧σ.le σ'∧σ'.ok w'∧Below w.heap.size w w'∧
   (∀k o x,σ'.c k o=some x→σ.c k o=some x∨w.heap.size≤k)∧(∀k x,σ'.m k=some x→σ.m k=some x∨w.heap.size≤k)∧mR C s σ' w w' v d
def dB:List (Nat×Ob)→Nat→Ob
 |[],_=>.dead
 |x::l,j=>bif Nat.beq x.1 j then x.2 else dB l j
def lI:List (Nat×Ob)→List D→Nat→D
 |x::l,d::ds,j=>bif Nat.beq x.1 j then d else lI l ds j
 |_,_,_=>.none
def eR (shs:List Sh)(obs:List (Nat×Ob)):St:=⟨fun t=>shs.getD t .none,fun j=>dB obs j,fun _=>0⟩
def kF (obs:List (Nat×Ob))(ds os:List D):Env:=⟨fun t=>ds.getD t .none,fun j=>lI obs os j⟩
def oP:Sh→Bool
 |.dat _=>true
 |_=>false
def oR:Mode→Bool
 |.ob ..=>true
 |_=>false
def qN:Sh→Bool
 |.none|.dat _|.obj ..|.ptr ..|.fclo ..=>true
 |_=>false
def HI:Ob→Bool
 |.row ..|.mp ..=>true
 |.box _ shs=>shs.all qN
 |_=>false
def va (shs:List Sh)(obs:List (Nat×Ob)):Bool:=shs.all qN&&obs.all fun x=>HI x.2
def Hc:List Sh→List (Nat×Ob)→Option (TypeId×Ty×List Ty)
 |.obj 0 0::l,[(0,.row T e),(1,.tr)]=>(T4 l).map fun ts=>(T,e,ts)
 |_,_=>none
def v8 (C:Ctx)(f:Nat)(T:TypeId)(e:Ty)(ts:List Ty)(ds:List D)(d:D):Prop:=
 ∀(N:Nat) (σ:Im) (w:World) (v:Value) (args:List Value) (xs:List D) (cells:List Value) (ds':List D),ds=.list xs::ds'→σ.ok w→CtxOK C σ→N≤w.heap.size→w.ownsRow N T e.size v xs.length cells→dL C.cap σ e cells xs→
  (∀k,v.ownBlock=some k→k<w.heap.size∧(∀o,σ.c k o=none)∧σ.m k=none)→mH C σ ts args ds'→
  Calls C.P f (v::args).toArray w fun x w'=>∃v' fK dc,x=.returned v'∧d=.list fK∧Below N w w'∧(∀k,k<w.heap.size→v.ownBlock≠some k→w'.heap[k]?=w.heap[k]?)∧
   w'.ownsRow N T e.size v' fK.length dc∧dL C.cap σ e dc fK∧∀k,v'.ownBlock=some k→(v.ownBlock=some k∨w.heap.size≤k)∧k<w'.heap.size
def pG (C:Ctx)(f:Nat)(shs:List Sh)(obs:List (Nat×Ob))(res:Ty)(ds:List D)(d:D):Prop:=
 ∀(N:Nat) (σ:Im) (own:Nat→Option Nat) (hv:Nat→Value) (w:World) (args:Array Value) (cx:Nat→Prop),va shs obs=true→σ.ok w→CtxOK C σ→(∀k,σ.m k≠some cL)→N≤w.heap.size→args.size=shs.length→
  (∀k j,own k=some j→N≤k∧k<w.heap.size∧(∀o,σ.c k o=none)∧σ.m k=none)→
  (∀k,cx k→k<w.heap.size∧own k=none∧(∀o,σ.c k o=none)∧σ.m k=none)→
  (∀t,aF C (eR shs obs) (kF obs ds (ds.drop shs.length)) σ hv (shs.getD t .none) (args.getD t undef) (ds.getD t .none))→
  (∀j,bU C (eR shs obs) (kF obs ds (ds.drop shs.length)) σ own hv w N j (dB obs j))→
  Calls C.P f args w fun e w'=>∃v σ' own' hv' dr os,e=.returned v∧d=.tup (dr::os)∧os.length=obs.length∧σ.le σ'∧σ'.ok w'∧Below 0 w w'∧
   (∀k,k<w.heap.size→own k=none→w'.heap[k]?=w.heap[k]?)∧
   (∀k o x,σ'.c k o=some x→(σ.c k o=some x∨N≤k)∧¬cx k)∧(∀k x,σ'.m k=some x→(σ.m k=some x∨N≤k)∧¬cx k)∧(∀k,σ'.m k=some cL→N≤k→k<w.heap.size→own k≠none)∧
   (∀k j,own' k=some j→N≤k∧k<w'.heap.size∧(∀o,σ'.c k o=none)∧σ'.m k=none∧(k<w.heap.size→own k≠none))∧
   (∀(t:Nat) (sh:Sh),shs[t]?=some sh→oP sh=false→aF C (eR shs obs) (kF obs ds os) σ' hv' sh (args.getD t undef) (ds.getD t .none))∧
   (∀j,bU C (eR shs obs) (kF obs ds os) σ' own' hv' w' N j (dB obs j))∧Rep C.cap σ' res v dr
theorem aF.ctx {C C':Ctx}(ew:C'.cap=C.cap){S:St}{ρ:Env}{σ:Im}{hv:Nat→Value}{s:Sh}(hp:qN s=true){v:Value}{d:D}(h:aF C S ρ σ hv s v d):aF C' S ρ σ hv s v d:=by
 cases s with
 |dat t=>show Rep C'.cap σ t v d;rw[ew];exact h
 |opt gs s=>cases hp
 |eptr j ver a b=>cases hp
 |yv=>cases hp
 |agg l=>cases hp
 |_=>exact h
theorem bU.ctx {C C':Ctx}(ew:C'.cap=C.cap){S:St}{ρ:Env}{σ:Im}{own:Nat→Option Nat}{hv:Nat→Value}{w:World}{N j:Nat}{ob:Ob}(hp:HI ob=true∨ob=.dead)(h:bU C S ρ σ own hv w N j ob):bU C' S ρ σ own hv w N j ob:=by
 rcases hp with hp|rfl
 ·cases ob with
  |row T e=>obtain⟨cells,xs,h1,h2,h3,h4⟩:=h;exact⟨cells,xs,h1,h2,by rw[ew];exact h3,h4⟩
  |mp kt et=>obtain⟨k,arr,clock,es,h1,h2,h3,h4,h5,h6,h7⟩:=h;exact⟨k,arr,clock,es,h1,h2,h3,h4,h5,h6,by rw[ew];exact h7⟩
  |box ag shs=>
   obtain⟨k,cs,T,ds,h1,h2,h3,h4,h5,h6,h7⟩:=h;exact⟨k,cs,T,ds,h1,h2,h3,h4,h5,h6,fun i s hs=>⟨(h7 i s hs).1,(h7 i s hs).2.ctx ew (db.1 hp s (jm hs))⟩⟩
  |_=>cases hp
 ·trivial
theorem WW {obs:List (Nat×Ob)}(h:(obs.all fun x=>HI x.2)=true)(j:Nat):HI (dB obs j)=true∨dB obs j=.dead:=by
 induction obs with
 |nil=>exact .inr rfl
 |cons x l ih=>
  simp only[nS,aq] at h;simp only[dB];cases hb:Nat.beq x.1 j
  ·exact ih h.2
  ·exact .inl h.1
theorem pG.ctx {C C':Ctx}{f:Nat}{shs:List Sh}{obs:List (Nat×Ob)}{res:Ty}{ds:List D}{d:D}(h:pG C f shs obs res ds d)(hP:C'.P=C.P)(ew:C'.cap=C.cap)(rO:C'.glob=C.glob):pG C' f shs obs res ds d:=by
 intro N σ own hv w args cx hp ar hC bm hN aL bt fP h1 h2;have aR:=hp;simp only[va,aq] at aR;have qz:∀t s,shs[t]?=some s→qN s=true:=fun t s hs=>db.1 aR.1 s (jm hs);have hC':CtxOK C σ:=⟨fun g x hx=>by have:=hC.glob g x (by rw[rO];exact hx);rwa [ew] at this⟩
 have:=h N σ own hv w args cx hp ar hC' bm hN aL bt fP (fun t=>by
  cases hs:shs[t]? with
  |none=>rw[aI,hs];trivial
  |some s=>have:=h1 t;rw[aI,hs] at this ⊢;exact this.ctx ew.symm (qz t s hs)) (fun j=>(h2 j).ctx ew.symm (WW aR.2 j))
 rw[hP];refine this.mono fun e w' hh=>?_;obtain⟨v,σ',own',hv',dr,os,g1,g2,g3,g4,g5,g6,g7,g8,g9,g10,g11,g12,g13,g14⟩:=hh;exact⟨v,σ',own',hv',dr,os,g1,g2,g3,g4,g5,g6,g7,g8,g9,g10,g11,fun t sh hs hd=>(g12 t sh hs hd).ctx ew (qz t sh hs),fun j=>(g13 j).ctx ew (WW aR.2 j),by rw[ew];exact g14⟩
theorem dL.cap {c c':Nat→Option CSig}(hc:c'=c){σ:Im}{e:Ty}{cells:List Value}{xs:List D}(h:dL c σ e cells xs):dL c' σ e cells xs:=hc▸h
theorem v8.ctx {C C':Ctx}{f:Nat}{T:TypeId}{e:Ty}{ts:List Ty}{ds:List D}{d:D}(h:v8 C f T e ts ds d)(hP:C'.P=C.P)(ew:C'.cap=C.cap)(rO:C'.glob=C.glob):v8 C' f T e ts ds d:=by
 intro N σ w v args xs cells ds' h1 h2 h3 h4 h5 h6 h7 h8;rw[hP];refine(h N σ w v args xs cells ds' h1 h2 ⟨fun g x hx=>by have:=h3.glob g x (by rw[rO];exact hx);rwa [ew] at this⟩ h4 h5 (h6.cap ew.symm) h7 ⟨h8.1,h8.2.1,fun i t hi=>by have:=h8.2.2 i t hi;rwa [ew] at this⟩).mono fun x w' hh=>?_;obtain⟨v',fK,dc,g1,g2,g3,g4,g5,g6,g7⟩:=hh;exact⟨v',fK,dc,g1,g2,g3,g4,g5,g6.cap ew,g7⟩
def eH (C:Ctx)(f:Nat)(shs:List Sh)(obs:List (Nat×Ob))(res:Ty)(ds:List D)(d:D):Prop:=
 match Hc shs obs with
 |some m=>v8 C f m.1 m.2.1 m.2.2 ds d
 |none=>pG C f shs obs res ds d
theorem eH.ctx {C C':Ctx}{f:Nat}{shs:List Sh}{obs:List (Nat×Ob)}{res:Ty}{ds:List D}{d:D}(h:eH C f shs obs res ds d)(hP:C'.P=C.P)(ew:C'.cap=C.cap)(rO:C'.glob=C.glob):eH C' f shs obs res ds d:=by
 unfold eH at h ⊢;split at h
 ·exact v8.ctx h hP ew rO
 ·exact pG.ctx h hP ew rO
theorem Xu {shs:List Sh}{obs:List (Nat×Ob)}(h:∀x,x∈obs→x.2≠.tr):Hc shs obs=none:=by
 unfold Hc;split
 ·exact absurd rfl (h (1,.tr) (by simp))
 ·rfl
theorem eH.of {C:Ctx}{f:Nat}{shs:List Sh}{obs:List (Nat×Ob)}{res:Ty}{ds:List D}{d:D}(ht:∀x,x∈obs→x.2≠.tr)(h:pG C f shs obs res ds d):eH C f shs obs res ds d:=by
 unfold eH;rw[Xu ht];exact h
theorem eH.plain {C:Ctx}{f:Nat}{shs:List Sh}{obs:List (Nat×Ob)}{res:Ty}{ds:List D}{d:D}(hp:va shs obs=true)(h:eH C f shs obs res ds d):pG C f shs obs res ds d:=by
 unfold eH at h;rw[Xu fun x hx e=>?_] at h
 ·exact h
 ·simp only[va,aq] at hp;have:=db.1 hp.2 x hx;rw[e] at this;cases this
def cW (C:Ctx)(Φ:aJ):Prop:=∀f ds d,Φ f ds=some d→∀s,C.sig f=some s→(oR s.mode=false→jP C f s ds d)∧∀shs obs,s.mode=.ob shs obs→eH C f shs obs s.res ds d
def lE:List Ty→Ty→Option (List Ty)
 |[.fn ys .bool],.tup []=>some ys
 |_,_=>none
def du (C:Ctx):Prop:=(∀f cs,C.cap f=some cs→lE cs.args cs.res=none→C.sig f=some ⟨cs.args++cs.caps,cs.res,.dat⟩)∧∀f s,C.sig f=some s→∃fn,C.P.funcs[f]?=some fn∧fn.body.isSome=true∧(fn.name== "runtime.NumGoroutine")=false
def D8 (S:St):List AgC→List Nat
 |[]=>[]
 |.obj j ver::l=>bif Nat.beq ver (S.ver j)&&kD (S.o j) then j::D8 S l else D8 S l
 |_::l=>D8 S l
def dw (S:St)(gs:List (Nat×Bool)):List Operand→List Nat
 |[]=>[]
 |x::xs=>
  match gD S gs x with
  |.obj j ver=>bif Nat.beq ver (S.ver j)&&kD (S.o j) then j::dw S gs xs else dw S gs xs
  |.agg l=>D8 S l++dw S gs xs
  |_=>dw S gs xs
def qp (gs:List (Nat×Bool))(s:Sh):Sh:=
 match gs with
 |[]=>s
 |_=>.opt gs s
def St.fzs (S:St)(js:List Nat):St:=js.foldl St.fz S
def xy (C:Ctx)(S:St)(gs:List (Nat×Bool))(dst:Nat)(f:Nat)(args:List Operand):Option (St×Sh×List PI):=
 (C.sig f).bind fun s=>
    match s.mode with
    |.dat=>
     (nQ C (S.fzs (dw S gs args)) gs args).bind fun u=>
       bif Ty.subs u.1 s.args then some (bif s.res.pure then S else S.fzs (dw S gs args),.dat s.res,[.call gs dst f u.2]) else Option.none
    |_=>Option.none
def AB (C:Ctx)(S:St)(dst:Nat)(f:Nat)(args:List Operand):jO:=
 (C.sig f).bind fun s=>
    match s.mode with
    |.row T e=>
     (nQ C (S.fzs (dw S [] args)) [] args).bind fun u=>
       bif Ty.subs u.1 s.args then some (mkObj (bif e.pure then S else S.fzs (dw S [] args)) dst (.row T e),[.call [] dst f u.2,.setO dst (.r dst),.setR dst (.con .none)]) else Option.none
    |_=>Option.none
def AA (C:Ctx)(S:St)(dst:Nat)(f:Nat)(args:List Operand):jO:=
 (C.sig f).bind fun s=>
    match s.mode,args with
    |.ob shs obs,x::xs=>
     match Hc shs obs,gD S [] x with
     |some m,.obj j ver=>
      match S.o j with
      |.row T e=>
       bif Nat.beq ver (S.ver j)&&(Nat.beq T m.1&&Ty.beq e m.2.1) then
            (nQ C S [] xs).bind fun u=>
             bif Ty.subs u.1 m.2.2 then some ((S.newO j (.row T e)).setR dst (.obj j (S.ver j+1)),[.call [] dst f (.o j::u.2),.setO j (.r dst),.setR dst (.con .none)]) else Option.none
       else Option.none
      |_=>Option.none
     |_,_=>Option.none
    |_,_=>Option.none
def tT (C:Ctx)(S:St)(gs:List (Nat×Bool))(dst:Nat)(x:Operand)(args:List Operand):Option (St×Sh×List PI):=
 match use C S gs x with
 |some (.fn aa r,e)=>
  match lE aa r with
  |some _=>Option.none
  |Option.none=>
  (nQ C (S.fzs (dw S gs args)) gs args).bind fun u=>
    bif Ty.subs u.1 aa then some (bif r.pure then S else S.fzs (dw S gs args),.dat r,[.callc gs dst e u.2]) else Option.none
 |_=>Option.none
theorem oA:∀(js:List Nat) (S:St),(S.fzs js).ver=S.ver∧(S.fzs js).r=S.r
 |[],S=>⟨rfl,rfl⟩
 |j::js,S=>by
  obtain⟨h1,h2⟩:=oA js (S.fz j);obtain⟨k1,k2⟩:=FO S j;exact⟨h1.trans k1,h2.trans k2⟩
section
variable {C:Ctx} {S:St} {ρ:Env} {σ:Im} {own:Nat→Option Nat} {hv:Nat→Value} {w0:World} {σ0:Base} {A:Nat→Prop} {a:Act} {w:World} {gs:List (Nat×Bool)} {Φ:aJ} {dst:Nat}
theorem Inv.fzs:∀(js:List Nat) {S:St} {σ:Im} {own:Nat→Option Nat},Inv C S ρ σ own hv w0 σ0 A a w→∃σ' own',σ.le σ'∧Inv C (S.fzs js) ρ σ' own' hv w0 σ0 A a w
 |[],S,σ,own,h=>⟨σ,own,.refl σ,h⟩
 |j::js,S,σ,own,h=>by
  obtain⟨σ1,dj,hle,h1⟩:=h.fz j;obtain⟨σ2,gC,ky,h2⟩:=Inv.fzs js h1;exact⟨σ2,gC,hle.trans ky,h2⟩
theorem Inv.world (h:Inv C S ρ σ own hv w0 σ0 A a w){σ':Im}{w':World}(hle:σ.le σ')(ar:σ'.ok w')(hb:Below w.heap.size w w')(dv:∀k o x,σ'.c k o=some x→σ.c k o=some x∨w.heap.size≤k)
 (cP:∀k x,σ'.m k=some x→σ.m k=some x∨w.heap.size≤k):Inv C S ρ σ' own hv w0 σ0 A a w':=by
 have aL:=h.below.size;refine h.step (fun _=>False) rfl hle ar (fun k o x hx=>(dv k o x hx).imp id (fun e=>⟨by omega,.inr e⟩)) (fun k x hx=>(cP k x hx).imp id (fun e=>⟨by omega,.inr e⟩)) (hb.mono aL) (.refl S hv) (fun j _=>⟨rfl,rfl,rfl,fun k hk=>⟨hk,hb.block k (h.owns k j hk).2.1⟩⟩) (fun _ hf=>hf.elim) (fun k j hk=>?_) (fun _=>id) (fun t=>.inl ⟨rfl,rfl,rfl⟩) (fun _ _=>rfl) (fun k hk _=>hb.block k hk) (fun k i hk=>.inl ⟨i,hk⟩) (fun _ hf=>hf.elim);obtain⟨g1,g2,g3,g4⟩:=h.owns k j hk;refine⟨g1,by have:=hb.size;omega,fun o=>?_,?_⟩
 ·cases hc:σ'.c k o with
  |none=>rfl
  |some x=>rcases dv k o x hc with e|e
           ·rw[g3 o] at e;cases e
           ·omega
 ·cases hc:σ'.m k with
  |none=>rfl
  |some x=>rcases cP k x hc with e|e
           ·rw[g4] at e;cases e
           ·omega
theorem CtxOK.mono {C:Ctx}{σ σ':Im}(h:CtxOK C σ)(hle:σ.le σ'):CtxOK C σ':=⟨fun g x hx=>(h.glob g x hx).mono hle⟩
theorem DK (h:Inv C S ρ σ own hv w0 σ0 A a w)(hC:CtxOK C σ0)(hg:holds gs ρ=true){xs:List Operand}{u:List Ty×List PE}{ts:List Ty}(hu:nQ C S gs xs=some u)(hs:Ty.subs u.1 ts=true):mH C σ ts (xs.map a.eval) (PE.evs ρ u.2):=by
 obtain⟨l1,l2,aP⟩:=abk h hC hg _ _ hu;have hl:=Ty.subs_len _ _ hs;refine⟨by rw[dM];omega,by rw[PE.evs_eq,dM];omega,fun i t hi=>?_⟩;obtain⟨s,jz,cQ⟩:=Ty.subs_get _ _ hs i t hi;exact(aP i s jz).sub cQ
theorem IM {o:Oper}{f:Nat}{args:Array Operand}{ts:Array TypeId}(aV:du C){s:Sig}(hs:C.sig f=some s)(ho:o.op=.call {callee:=.value (.func f),args:=args,argTypes:=ts}):
 (execOp a.eval o).run C.P w=.ok (.enter f (args.map a.eval)) w:=by
 obtain⟨fn,h1,h2,h3⟩:=aV.2 f s hs;obtain⟨bd,jU⟩:=S7.1 h2;have h4:¬fn.name= "runtime.NumGoroutine" :=by simpa using h3
 simp[execOp,ho,resolve,Act.eval,Deferred.ofValue,invoke,callFunc,h1,jU,h4]
theorem aaJ {o:Oper}{x:Operand}{f:Nat}{vs:List Value}{args:Array Operand}{ts:Array TypeId}(aV:du C){s:Sig}(hs:C.sig f=some s)(hx:a.eval x=.func (.func f) #[] vs.toArray)(ho:o.op=.call {callee:=.value x,args:=args,argTypes:=ts}):
 (execOp a.eval o).run C.P w=.ok (.enter f (args.map a.eval++vs.toArray)) w:=by
 obtain⟨fn,h1,h2,h3⟩:=aV.2 f s hs;obtain⟨bd,jU⟩:=S7.1 h2;have h4:¬fn.name= "runtime.NumGoroutine" :=by simpa using h3
 simp[execOp,ho,resolve,hx,Deferred.ofValue,invoke,callFunc,h1,jU,h4]
theorem TK (h:Inv C S ρ σ own hv w0 σ0 A a w)(hC:CtxOK C σ0)(ht:¬A dst)(af:dst<a.tmps.size)(dy:∀g,g∈gs→A g.1)(hg:holds gs ρ=true){f:Nat}{s:Sig}{js:List Nat}{vals:List Value}{ds:List D}{d:D}(ls:s.mode=.dat)(hfn:jP C f s ds d)
 (gu:∀σ1 dj,σ.le σ1→Inv C (S.fzs js) ρ σ1 dj hv w0 σ0 A a w→mH C σ1 s.args vals ds) {K:Act→World→Prop} {Q:Exit→Act→World→Prop}
 (hK:∀a' w',Good C w0 σ0 ((bif s.res.pure then S else S.fzs js).setR dst (qp gs (.dat s.res))) (ρ.setR dst d) (fun u=>A u∨u=dst) a' w'→a'.tmps.size=a.tmps.size→K a' w'):
 Calls C.P f vals.toArray w (fun e je=>match e with|.returned v=>K (a.put (some dst) v) je|.panicked chain=>Q (.panic chain) a je|.outgrown=>LetsOut Q):=by
 obtain⟨σ1,dj,ku,h1⟩:=Inv.fzs js h;have jW:=hfn σ1 w vals.toArray h1.ok (hC.mono h1.le) (by simpa using gu σ1 dj ku h1);refine jW.mono fun e w' hh=>?_;obtain⟨v,σ',rfl,hle,ar,hb,dv,cP,j4⟩:=hh;simp only[mR,ls] at j4;refine hK _ _ ?_ (size_put _ _ _);have hh:holds gs (ρ.setR dst d)=true:=by rw[BG (t:=dst) (d:=d) fun g hm e=>ht (by rw[←e];exact dy g hm)];exact hg
 have put:∀{S2:St} {σ2:Im} {gC:Nat→Option Nat},Inv C S2 ρ σ2 gC hv w0 σ0 A a w'→Rep C.cap σ2 s.res v d→Good C w0 σ0 (S2.setR dst (qp gs (.dat s.res))) (ρ.setR dst d) (fun u=>A u∨u=dst) (a.put (some dst) v) w':=by
  intro S2 σ2 gC h2 hr;cases gs with
  |nil=>exact⟨_,_,_,h2.setReg ht (s:=.dat s.res) hr af (fun _ _ e=>by cases e)⟩
  |cons g bI=>
   refine⟨_,_,_,h2.setReg ht (s:=.opt (g::bI) (.dat s.res)) ⟨fun _=>hr,fun e=>absurd (hh.symm.trans e) (by decide)⟩ af (fun gs s e=>?_)⟩;cases e;exact⟨dy,fun _ _ e=>by cases e⟩
 cases hp:s.res.pure with
 |true=>
  simp only[cond_true];exact put (h.world (.refl σ) (h.ok.below hb) hb (fun _ _ _ hx=>.inl hx) (fun _ _ hx=>.inl hx)) (j4.pure hp)
 |false=>
  simp only[cond_false];exact put (h1.world hle ar hb dv cP) j4
theorem Ek {o:Oper}{f:Nat}{args:Array Value}{K:Act→World→Prop}{Q:Exit→Act→World→Prop}(hd:o.dst=some dst)(hx:(execOp a.eval o).run C.P w=.ok (.enter f args) w)
 (h:Calls C.P f args w (fun e je=>match e with|.returned v=>K (a.put (some dst) v) je|.panicked chain=>Q (.panic chain) a je|.outgrown=>LetsOut Q)):o.wp C.P a w K Q:=by
 simp only[Oper.wp,hx,Oper.upon,hd];refine h.mono fun e je hh=>?_;cases e<;>exact hh
theorem ael (h:Inv C S ρ σ own hv w0 σ0 A a w)(hC:CtxOK C σ0)(aV:du C)(hΦ:cW C Φ)(ht:¬A dst)(af:dst<a.tmps.size)(dy:∀g,g∈gs→A g.1)(hg:holds gs ρ=true){f:Nat}{args:Array Operand}{ts:Array TypeId}{r:St×Sh×List PI}
 (hr:xy C S gs dst f args.toList=some r) {o:Oper} (hd:o.dst=some dst) (ho:o.op=.call {callee:=.value (.func f),args:=args,argTypes:=ts}):bR C w0 σ0 Φ S ρ A a w o (r.1.setR dst (qp gs r.2.1),r.2.2):=by
 simp only[xy,au] at hr;obtain⟨s,hs,hr⟩:=hr;split at hr
 case h_2=>cases hr
 rename_i ls;simp only[au] at hr;obtain⟨u,hu,hr⟩:=hr;cases cj:Ty.subs u.1 s.args<;>simp only[cj,cond_true,cond_false] at hr
 ·cases hr
 cases hr;intro ρ' aj K Q hK;simp only[PI.runs,PI.run,hg,cond_true,au,ax] at aj;obtain⟨ρ1,⟨d,bh,rfl⟩,aj⟩:=aj;cases aj;have hfn:=(hΦ f _ d bh s hs).1 (by rw[ls];rfl);refine Ek hd (IM aV hs ho) ?_;have jB:args.map a.eval=(args.toList.map a.eval).toArray:=by apply tg;rw[vV]
 rw[jB];have jw:(fun u=>A u∨o.dst=some u)=(fun u=>A u∨u=dst):=by funext u;rw[hd];simp[eq_comm]
 rw[jw] at hK;exact TK h hC ht af dy hg (js:=dw S gs args.toList) ls hfn (fun σ1 dj _ h1=>DK h1 hC hg hu cj) hK
theorem aef (h:Inv C S ρ σ own hv w0 σ0 A a w)(hC:CtxOK C σ0)(aV:du C)(hΦ:cW C Φ)(ht:¬A dst)(af:dst<a.tmps.size)(dy:∀g,g∈gs→A g.1)(hg:holds gs ρ=true){x:Operand}{args:Array Operand}{ts:Array TypeId}{r:St×Sh×List PI}
 (hr:tT C S gs dst x args.toList=some r) {o:Oper} (hd:o.dst=some dst) (ho:o.op=.call {callee:=.value x,args:=args,argTypes:=ts}):bR C w0 σ0 Φ S ρ A a w o (r.1.setR dst (qp gs r.2.1),r.2.2):=by
 unfold tT at hr;split at hr
 case h_2=>cases hr
 rename_i aa r0 e Wa;split at hr
 case h_1=>cases hr
 rename_i LL;simp only[au] at hr;obtain⟨u,hu,hr⟩:=hr;cases cj:Ty.subs u.1 aa<;>simp only[cj,cond_true,cond_false] at hr
 ·cases hr
 cases hr;have hx:=bW h hC hg Wa;intro ρ' aj K Q hK;simp only[PI.runs,PI.run,hg,cond_true,au] at aj;obtain⟨ρ1,rV,aj⟩:=aj;cases aj;split at rV
 case h_2=>cases rV
 rename_i f caps bK;simp only[ax] at rV;obtain⟨d,bh,rfl⟩:=rV;rw[bK] at hx;generalize fb:a.eval x=xv at hx;generalize aT:Ty.fn aa r0=ty at hx;cases hx with
 |fn f cs vs ds hc h1 h2 aP=>
  cases aT;have hs:=aV.1 f cs hc LL;have hfn:=(hΦ f _ d bh _ hs).1 rfl;refine Ek hd (aaJ aV hs fb ho) ?_;have jB:args.map a.eval++vs.toArray=(args.toList.map a.eval++vs).toArray:=by apply tg;simp
  rw[jB];have jw:(fun u=>A u∨o.dst=some u)=(fun u=>A u∨u=dst):=by funext u;rw[hd];simp[eq_comm]
  rw[jw] at hK;refine TK h hC ht af dy hg (js:=dw S gs args.toList) (s:=⟨cs.args++cs.caps,cs.res,.dat⟩) rfl hfn (fun σ1 dj ku i1=>?_) hK;obtain⟨g1,g2,g3⟩:=DK i1 hC hg hu cj;refine⟨by simp only[kV,g1,h1],by simp only[kV,g2,h2],fun i t hi=>?_⟩;rw[kh] at hi;split at hi
  ·rename_i af;have:=g3 i t hi;rw[aI,aI,lS (by omega),lS (by omega)];simpa [aI] using this
  ·rename_i gf;have:=(aP _ t hi).mono ku;rw[aI,aI,lT (by omega),lT (by omega),g1,g2];simpa [aI] using this
theorem aej (h:Inv C S ρ σ own hv w0 σ0 A a w)(hC:CtxOK C σ0)(aV:du C)(hΦ:cW C Φ)(ht:¬A dst)(af:dst<a.tmps.size){f:Nat}{args:Array Operand}{ts:Array TypeId}{r:St×List PI}
 (hr:AB C S dst f args.toList=some r) {o:Oper} (hd:o.dst=some dst) (ho:o.op=.call {callee:=.value (.func f),args:=args,argTypes:=ts}):bR C w0 σ0 Φ S ρ A a w o r:=by
 simp only[AB,au] at hr;obtain⟨s,hs,hr⟩:=hr;split at hr
 case h_2=>cases hr
 rename_i T e ls;simp only[au] at hr;obtain⟨u,hu,hr⟩:=hr;cases cj:Ty.subs u.1 s.args<;>simp only[cj,cond_true,cond_false] at hr
 ·cases hr
 cases hr;intro ρ' aj K Q hK;have LI:holds ([]:List (Nat×Bool)) ρ=true:=rfl;simp only[PI.runs,PI.run,LI,cond_true,au,ax] at aj;obtain⟨ρ1,⟨d,bh,rfl⟩,ρ2,g2,ρ3,g3,g4⟩:=aj;cases g2;cases g3;cases g4;have hfn:=(hΦ f _ d bh s hs).1 (by rw[ls];rfl);obtain⟨σ1,dj,ku,h1⟩:=Inv.fzs (dw S [] args.toList) h;have jB:args.map a.eval=(args.toList.map a.eval).toArray:=by apply tg;rw[vV]
 refine Ek hd (IM aV hs ho) ?_;rw[jB];have jW:=hfn σ1 w (args.toList.map a.eval).toArray h1.ok (hC.mono h1.le) (by simpa using DK h1 hC rfl hu cj);refine jW.mono fun e' w' hh=>?_;obtain⟨v,σ',rfl,hle,ar,hb,dv,cP,j4⟩:=hh;simp only[mR,ls] at j4;obtain⟨cells,xs,rfl,bt,fe,ll⟩:=j4;refine hK _ _ ?_ (size_put _ _ _);have jw:(fun u=>A u∨o.dst=some u)=(fun u=>A u∨u=dst):=by funext u;rw[hd];simp[eq_comm]
 rw[jw];have main:∀{S2:St} {σ1 σ2:Im} {gC:Nat→Option Nat},Inv C S2 ρ σ1 gC hv w0 σ0 A a w→σ1.le σ2→σ2.ok w'→(∀k o x,σ2.c k o=some x→σ1.c k o=some x∨w.heap.size≤k)→(∀k x,σ2.m k=some x→σ1.m k=some x∨w.heap.size≤k)→dL C.cap σ2 e cells xs→(∀k,v.ownBlock=some k→(∀o,σ2.c k o=none)∧σ2.m k=none)→
  Good C w0 σ0 (mkObj S2 dst (.row T e)) ((ρ.setO dst (.list xs)).setR dst .none) (fun u=>A u∨u=dst) (a.put (some dst) v) w':=by
  intro S2 σ1 σ2 gC h2 ky L8 aij ain ahy ahF;have aL:=h1.below.size
  have j1:=h2.newOσ dst (.row T e) (.list xs) v (fun k=>decide (v.ownBlock=some k)) ky L8 aij ain hb (fun k hk=>bt.lt k (by simpa using hk)) (fun k hk=>ahF k (by simpa using hk)) ⟨cells,xs,by simp[Env.setO,aK],by
        rw[aK];refine⟨bt.1,?_⟩;rcases bt.2 with e1|⟨g,cap,cur,e1,e2,e3⟩
        ·exact .inl e1
        ·exact .inr ⟨g,cap,cur,e1,by omega,e3⟩,ahy,fun k hk=>by rw[aK] at hk;simp[eT,hk]⟩
  have VZ:=j1.setObj ht (j:=dst) (v:=v) (aK _ _ _) af;have e:(S2.newO dst (.row T e)).ver dst=S2.ver dst+1:=aK _ _ _;rw[e] at VZ;exact⟨_,_,_,VZ⟩
 have eρ:((ρ.setR dst (.list xs)).setO dst ((PE.r dst).ev (ρ.setR dst (.list xs)))).setR dst ((PE.con D.none).ev ((ρ.setR dst (.list xs)).setO dst ((PE.r dst).ev (ρ.setR dst (.list xs)))))=(ρ.setO dst (.list xs)).setR dst .none:=by
  have:∀d1 d2:D,bT (bT ρ.r dst d1) dst d2=bT ρ.r dst d2:=by
   intro d1 d2;funext i;simp only[eX];split<;>rfl
  simp[Env.setR,Env.setO,PE.ev,aK,this]
 show Good C w0 σ0 _ _ _ _ _;rw[eρ];cases hp:e.pure with
 |true=>
  simp only[cond_true];refine main h (.refl σ) (h.ok.below hb) (fun _ _ _ hx=>.inl hx) (fun _ _ hx=>.inl hx) ?_ (fun k hk=>?_)
  ·obtain⟨vs,k1,k2⟩:=fe;exact⟨vs,fun i x hx=>(k1 i x hx).pure hp,k2⟩
  ·obtain⟨f1,f2⟩:=ll k hk;refine⟨fun o=>?_,?_⟩
   ·cases hc:σ.c k o with
    |none=>rfl
    |some x=>have:=hle.c _ _ _ (ku.c _ _ _ hc);rw[f1 o] at this;cases this
   ·cases hc:σ.m k with
    |none=>rfl
    |some x=>have:=hle.m _ _ (ku.m _ _ hc);rw[f2] at this;cases this
 |false=>
  simp only[cond_false];exact main h1 hle ar dv cP fe ll
theorem aeh (h:Inv C S ρ σ own hv w0 σ0 A a w)(hC:CtxOK C σ0)(aV:du C)(hΦ:cW C Φ)(ht:¬A dst)(af:dst<a.tmps.size){f:Nat}{args:Array Operand}{ts:Array TypeId}{r:St×List PI}
 (hr:AA C S dst f args.toList=some r) {o:Oper} (hd:o.dst=some dst) (ho:o.op=.call {callee:=.value (.func f),args:=args,argTypes:=ts}):bR C w0 σ0 Φ S ρ A a w o r:=by
 simp only[AA,au] at hr;obtain⟨s,hs,hr⟩:=hr;split at hr
 case h_2=>cases hr
 rename_i shs obs x xs ls gu;split at hr
 case h_2=>cases hr
 rename_i m j ver jY ma;split at hr
 case h_2=>cases hr
 rename_i T e eo;cases hb:(Nat.beq ver (S.ver j)&&(Nat.beq T m.1&&Ty.beq e m.2.1))<;>simp only[hb,cond_true,cond_false] at hr
 ·cases hr
 simp only[aq] at hb;have dp:=aw hb.1;have hT:=aw hb.2.1;have he:=Ty.beq_eq _ _ hb.2.2;simp only[au] at hr;obtain⟨u,hu,hr⟩:=hr;cases cj:Ty.subs u.1 m.2.2<;>simp only[cj,cond_true,cond_false] at hr
 ·cases hr
 cases hr;intro ρ' aj K Q hK;have LI:holds ([]:List (Nat×Bool)) ρ=true:=rfl;simp only[PI.runs,PI.run,LI,cond_true,au,ax] at aj;obtain⟨ρ1,⟨d,bh,rfl⟩,ρ2,g2,ρ3,g3,g4⟩:=aj;cases g2;cases g3;cases g4;have hfn:=(hΦ f _ d bh s hs).2 shs obs ls;unfold eH at hfn;rw[jY] at hfn;simp only at hfn;rw[←hT,←he] at hfn;have bY:=(sS h (gs:=[]) rfl x).1;rw[ma] at bY;have bY:=bY.2 dp;have aW:=h.objs j;rw[eo] at aW;obtain⟨cells,ys,h1,h2,h3,h4⟩:=aW;have jB:args.map a.eval=(a.eval x::xs.map a.eval).toArray:=by apply tg;rw[vV,gu];rfl
 refine Ek hd (IM aV hs ho) ?_;rw[jB,bY];have aL:=h.below.size
 have jW:=hfn w0.heap.size σ w (hv j) (xs.map a.eval) ys cells (PE.evs ρ u.2) (by simp[PE.evs,PE.ev,h1]) h.ok (hC.mono h.le) aL h2 h3 (fun k hk=>by
  have:=h.owns k j (h4 k hk);exact this.2) (DK h hC rfl hu cj)
 refine jW.mono fun e' w' hh=>?_;obtain⟨v',fK,dc,rfl,rfl,rI,Bt,aiA,ahx,Ba⟩:=hh;refine hK _ _ ?_ (size_put _ _ _);have jw:(fun u=>A u∨o.dst=some u)=(fun u=>A u∨u=dst):=by funext u;rw[hd];simp[eq_comm]
 rw[jw]
 have My:=h.updO j (.row T e) (.list fK) v' (fun k=>decide (v'.ownBlock=some k)) rI (fun k hk az=>Bt k hk (fun e=>az (h4 k e))) (fun k hk=>by
  have bL:v'.ownBlock=some k:=by simpa using hk
  exact⟨(Ba k bL).1.imp (h4 k) id,(Ba k bL).2⟩)
  ⟨dc,fK,by simp[Env.setO,aK],by rw[aK];exact aiA,ahx,fun k hk=>by rw[aK] at hk;simp[eT,hk]⟩
 have h9:=My.setObj ht (j:=j) (v:=v') (aK _ _ _) af;have e1:(S.newO j (.row T e)).ver j=S.ver j+1:=aK _ _ _;rw[e1] at h9;have eρ:((ρ.setR dst (.list fK)).setO j ((PE.r dst).ev (ρ.setR dst (.list fK)))).setR dst ((PE.con D.none).ev ((ρ.setR dst (.list fK)).setO j ((PE.r dst).ev (ρ.setR dst (.list fK)))))=(ρ.setO j (.list fK)).setR dst .none:=by
  have:∀d1 d2:D,bT (bT ρ.r dst d1) dst d2=bT ρ.r dst d2:=by
   intro d1 d2;funext i;simp only[eX];split<;>rfl
  simp[Env.setR,Env.setO,PE.ev,aK,this]
 show Good C w0 σ0 _ _ _ _ _;rw[eρ];exact⟨_,_,_,h9⟩
end
def gm:Nat:=1000000013
abbrev lR:=Sh×Option (Ty×PE)
def D7 (C:Ctx)(S:St)(x:Operand):lR:=(gD S [] x,use C S [] x)
def TM (c:Nat×Nat):lR:=(.ptr c.1 c.2 0,none)
def cv:List Nat→List Nat→Nat→Option Nat
 |i::is,j::js,k=>bif Nat.beq i k then some j else cv is js k
 |_,_,_=>none
def anb:Sh→Sh→List (Nat×Nat)
 |.obj i _,.obj j _=>[(i,j)]
 |.ptr i _ _,.ptr j _ _=>[(i,j)]
 |.fclo _ a,.fclo _ b=>(a.zip b).map fun x=>(x.1.1,x.2.1)
 |_,_=>[]
def Ou:List Sh→List Sh→List (Nat×Nat)
 |a::aa,b::bs=>anb a b++Ou aa bs
 |_,_=>[]
def ana:Ob→Ob→List (Nat×Nat)
 |.box _ a,.box _ b=>Ou a b
 |_,_=>[]
def WX:List (Nat×Nat)→Nat→Nat
 |[],_=>gm
 |x::l,i=>bif Nat.beq x.1 i then x.2 else WX l i
def amj (S:St)(obs:List (Nat×Ob))(p:List (Nat×Nat)):List (Nat×Nat):=p++p.flatMap fun x=>ana (dB obs x.1) (S.o x.2)
def Uy (S:St)(shs:List Sh)(obs:List (Nat×Ob))(acts:List lR):List Nat:=obs.map fun o=>WX (amj S obs (Ou shs (acts.map (·.1)))) o.1
section
variable (ver:Nat→Nat) (is js:List Nat)
def Dr:List (Nat×Nat)→Option (List (Nat×Nat))
 |[]=>some []
 |x::l=>bif Nat.beq x.2 0 then(cv is js x.1).bind fun j=>(Dr l).map fun r=>(j,ver j)::r else none
def jc:Sh→Option Sh
 |.dat t=>some (.dat t)
 |.none=>some .none
 |.obj i v=>bif Nat.beq v 0 then(cv is js i).map fun j=>.obj j (ver j) else none
 |.ptr i v off=>bif Nat.beq v 0 then(cv is js i).map fun j=>.ptr j (ver j) off else none
 |.fclo f caps=>(Dr ver is js caps).map (.fclo f)
 |_=>none
def Ds:List Sh→Option (List Sh)
 |[]=>some []
 |s::l=>(jc ver is js s).bind fun a=>(Ds l).map (a::·)
def nM:Ob→Option Ob
 |.row T e=>some (.row T e)
 |.mp a b=>some (.mp a b)
 |.box ag shs=>(Ds ver is js shs).map (.box ag)
 |_=>none
end
def AT (c:Sh):Sh→Bool
 |.none=>true
 |.dat b=>match c with|.dat a=>Ty.sub a b|_=>false
 |x=>Sh.beq c x
def xH:List Sh→List Sh→Bool
 |[],[]=>true
 |a::aa,b::bs=>AT a b&&xH aa bs
 |_,_=>false
def xG:Ob→Ob→Bool
 |.box x a,.box y b=>(x==y)&&xH a b
 |.row T a,.row U b=>Nat.beq T U&&Ty.beq a b
 |.mp a b,.mp c d=>Ty.beq a c&&Ty.beq b d
 |_,_=>false
def oz (S:St)(is js:List Nat):List (Nat×Ob)→List Nat→Bool
 |[],[]=>true
 |o::obs,j::jl=>(match nM S.ver is js o.2 with|some x=>xG (S.o j) x|none=>false)&&oz S is js obs jl
 |_,_=>false
def AS (S:St)(is js:List Nat)(a:lR)(s:Sh):Option PE:=
 match s with
 |.dat t=>(match a.2 with|some x=>bif Ty.sub x.1 t then some x.2 else none|none=>none)
 |.none=>some (.con .none)
 |s=>(match jc S.ver is js s with|some x=>bif Sh.beq a.1 x then some (.con .none) else none|none=>none)
def rE (S:St)(is js:List Nat):List lR→List Sh→Option (List PE)
 |[],[]=>some []
 |a::aa,s::ss=>(AS S is js a s).bind fun e=>(rE S is js aa ss).map (e::·)
 |_,_=>none
def m4:List Sh→List Nat
 |[]=>[]
 |.obj i _::l=>i::m4 l
 |.ptr i _ _::l=>i::m4 l
 |.fclo _ c::l=>c.map (·.1)++m4 l
 |_::l=>m4 l
def aD (l:List Nat)(x:Nat):Bool:=l.any (Nat.beq x)
def tc (ver:Nat→Nat)(shs:List Sh)(is js:List Nat):Nat→Nat:=fun j=>match cv js is j with|some i=>bif aD (m4 shs) i then ver j else ver j+1|none=>ver j
def St.handed (S:St)(shs:List Sh)(obs:List (Nat×Ob))(is js:List Nat):St:=
 ⟨S.r,fun j=>match cv js is j with|some i=>(match nM (tc S.ver shs is js) is js (dB obs i) with|some o=>o|none=>.dead)|none=>S.o j,tc S.ver shs is js⟩
def xI (S:St):List Operand→List Sh→List Nat
 |x::xs,s::ss=>(bif oP s then dw S [] [x] else[])++xI S xs ss
 |_,_=>[]
def Dz:List Nat→Nat→List PI
 |[],_=>[]
 |j::js,k=>.setO j (.tget (.o gm) k)::Dz js (k+1)
def KJ (S:St)(res:Ty)(f:Nat)(shs:List Sh)(obs:List (Nat×Ob))(acts:List lR)(is js:List Nat):Option (St×Ty×List PI):=
 (rE S is js acts shs).bind fun es=>
    bif va shs obs&&(iI is&&iI js&&oz S is js obs js&&mf (S.o gm)&& !aD js gm) then some (S.handed shs obs is js,res,.mcall gm f (es++js.map .o)::Dz js 1) else none
def KK (C:Ctx)(S:St)(res:Ty)(f:Nat)(shs:List Sh)(obs:List (Nat×Ob))(acts:List lR):Option (St×Ty×List PI):=
 KJ S res f shs obs acts (obs.map (·.1)) (Uy S shs obs acts)
def oq (C:Ctx)(S:St)(f:Nat)(args:List Operand)(caps:List (Nat×Nat)):Option (St×Ty×List PI):=
 (C.sig f).bind fun s=>
    match s.mode with
    |.ob shs obs=>KK C (S.fzs (xI S args shs)) s.res f shs obs (args.map (D7 C (S.fzs (xI S args shs)))++caps.map TM)
    |_=>none
theorem Wm {l:List Nat}{x:Nat}:aD l x=true↔x∈l:=by
 unfold aD;rw[zD];exact⟨fun⟨y,hy,h⟩=>by rw[aw h];exact hy,fun h=>⟨x,h,jn x⟩⟩
theorem WS:∀{is js:List Nat} {i j:Nat},cv is js i=some j→∃k:Nat,is[k]?=some i∧js[k]?=some j
 |[],_,i,j,h=>by cases h
 |_::_,[],i,j,h=>by cases h
 |x::is,y::js,i,j,h=>by
  simp only[cv] at h;cases hb:Nat.beq x i<;>simp only[hb,cond_true,cond_false] at h
  ·obtain⟨k,h1,h2⟩:=WS h;exact⟨k+1,h1,h2⟩
  ·cases h;exact⟨0,by rw[aw hb];rfl,rfl⟩
theorem G2:∀{is js:List Nat} {i j k:Nat},is.Nodup→is[k]?=some i→js[k]?=some j→cv is js i=some j
 |[],_,i,j,k,_,h,_=>by simp at h
 |_::_,[],i,j,k,_,_,h=>by simp at h
 |x::is,y::js,i,j,k,hn,h1,h2=>by
  simp only[cv];cases k with
  |zero=>simp at h1 h2;subst h1 h2;rw[jn];rfl
  |succ k=>
   simp at h1 h2;have az:x≠i:=fun e=>by subst e;exact(mM.1 hn).1 (jm h1)
   rw[eJ az];exact G2 (mM.1 hn).2 h1 h2
theorem G3 {is js:List Nat}(h2:js.Nodup){i j:Nat}(h:cv is js i=some j):cv js is j=some i:=by
 obtain⟨k,g1,g2⟩:=WS h;exact G2 h2 g2 g1
theorem aj1 (obs:List (Nat×Ob))(f:Nat→D):∀{is js:List Nat} {i j:Nat},is=obs.map (·.1)→cv is js i=some j→lI obs (js.map f) i=f j:=by
 induction obs with
 |nil=>intro is js i j h1 h2;subst h1;cases h2
 |cons x l ih=>
  intro is js i j h1 h2;subst h1;cases js with
  |nil=>cases h2
  |cons y js=>
   simp only[fo,cv] at h2;simp only[fo,lI];cases hb:Nat.beq x.1 i<;>simp only[hb,cond_true,cond_false] at h2 ⊢
   ·exact ih rfl h2
   ·cases h2;rfl
theorem WN:∀{obs:List (Nat×Ob)} {js:List Nat} {os:List D} {i j:Nat},os.length=obs.length→cv (obs.map (·.1)) js i=some j→∃k:Nat,js[k]?=some j∧lI obs os i=os.getD k .none
 |[],_,_,i,j,_,h=>by cases h
 |_::_,[],_,i,j,_,h=>by cases h
 |_::_,_::_,[],i,j,hl,h=>by simp at hl
 |x::obs,y::js,o::os,i,j,hl,h=>by
  simp only[fo,cv] at h;simp only[lI];cases hb:Nat.beq x.1 i<;>simp only[hb,cond_true,cond_false] at h ⊢
  ·obtain⟨k,h1,h2⟩:=WN (obs:=obs) (js:=js) (os:=os) (by simpa using hl) h;exact⟨k+1,h1,by simpa using h2⟩
  ·cases h;exact⟨0,rfl,rfl⟩
theorem WV:∀{obs:List (Nat×Ob)} {js:List Nat} {i:Nat},js.length=obs.length→cv (obs.map (·.1)) js i=none→dB obs i=.dead
 |[],_,i,_,_=>rfl
 |x::obs,[],i,hl,h=>by simp at hl
 |x::obs,y::js,i,hl,h=>by
  simp only[fo,cv] at h;simp only[dB];cases hb:Nat.beq x.1 i<;>simp only[hb,cond_true,cond_false] at h ⊢
  ·exact WV (by simpa using hl) h
  ·cases h
theorem UD {S:St}{is js:List Nat}:∀{obs:List (Nat×Ob)} {jl:List Nat},oz S is js obs jl=true→jl.length=obs.length
 |[],[],_=>rfl
 |[],_::_,h=>by simp[oz] at h
 |_::_,[],h=>by simp[oz] at h
 |o::obs,j::jl,h=>by simp only[oz,aq] at h;simp[UD h.2]
theorem UC {S:St}{is js:List Nat}:∀{obs:List (Nat×Ob)} {jl:List Nat},oz S is js obs jl=true→∀{i j:Nat},cv (obs.map (·.1)) jl i=some j→∃x,nM S.ver is js (dB obs i)=some x∧xG (S.o j) x=true
 |[],_,_,i,j,h=>by cases h
 |_::_,[],_,i,j,h=>by cases h
 |o::obs,y::jl,hf,i,j,h=>by
  simp only[oz,aq] at hf;simp only[fo,cv] at h;simp only[dB];cases hb:Nat.beq o.1 i<;>simp only[hb,cond_true,cond_false] at h ⊢
  ·exact UC hf.2 h
  ·cases h;have h1:=hf.1;split at h1
   ·rename_i x hx;exact⟨x,hx,h1⟩
   ·cases h1
theorem UE:∀{a b:List Sh},xH a b=true→a.length=b.length∧∀(i:Nat) (y:Sh),b[i]?=some y→∃x,a[i]?=some x∧AT x y=true
 |[],[],_=>⟨rfl,fun i y h=>by simp at h⟩
 |[],_::_,h=>by simp[xH] at h
 |_::_,[],h=>by simp[xH] at h
 |a::aa,b::bs,h=>by
  simp only[xH,aq] at h;obtain⟨g1,g2⟩:=UE h.2;refine⟨by simp[g1],fun i y hy=>?_⟩;cases i with
  |zero=>simp at hy;subst hy;exact⟨a,rfl,h.1⟩
  |succ i=>simp at hy;simpa using g2 i y hy
theorem PW {ver:Nat→Nat}{is js:List Nat}:∀{a b:List Sh},Ds ver is js a=some b→b.length=a.length∧∀(i:Nat) (x:Sh),a[i]?=some x→∃y,b[i]?=some y∧jc ver is js x=some y
 |[],b,h=>by simp only[Ds,aS] at h;subst h;exact⟨rfl,fun i x h=>by simp at h⟩
 |s::l,b,h=>by
  simp only[Ds,au,ax] at h;obtain⟨y,hy,r,hr,rfl⟩:=h;obtain⟨g1,g2⟩:=PW hr;refine⟨by simp[g1],fun i x hx=>?_⟩;cases i with
  |zero=>simp at hx;subst hx;exact⟨y,rfl,hy⟩
  |succ i=>simp at hx;simpa using g2 i x hx
theorem IG {ver:Nat→Nat}{is js:List Nat}:∀{a b:List (Nat×Nat)},Dr ver is js a=some b→b.length=a.length∧∀(i x v:Nat),a[i]?=some (x,v)→∃j,b[i]?=some (j,ver j)∧cv is js x=some j∧v=0
 |[],b,h=>by simp only[Dr,aS] at h;subst h;exact⟨rfl,fun i x v h=>by simp at h⟩
 |s::l,b,h=>by
  simp only[Dr] at h;cases hb:Nat.beq s.2 0<;>simp only[hb,cond_true,cond_false] at h
  ·cases h
  simp only[au,ax] at h;obtain⟨y,hy,r,hr,rfl⟩:=h;obtain⟨g1,g2⟩:=IG hr;refine⟨by simp[g1],fun i x v hx=>?_⟩;cases i with
  |zero=>simp at hx;subst hx;exact⟨y,rfl,hy,aw hb⟩
  |succ i=>simp at hx;simpa using g2 i x v hx
theorem PV {ver:Nat→Nat}{is js:List Nat}{s x:Sh}(h:jc ver is js s=some x):(∀gs s',s≠.opt gs s')∧∀gs s',x≠.opt gs s':=by
 cases s<;>simp only[jc] at h
 case none=>cases h;exact⟨(fun _ _ e=>by cases e),(fun _ _ e=>by cases e)⟩
 case dat=>cases h;exact⟨(fun _ _ e=>by cases e),(fun _ _ e=>by cases e)⟩
 case obj i v=>
  cases hb:Nat.beq v 0<;>simp only[hb,cond_true,cond_false] at h
  ·cases h
  simp only[ax] at h;obtain⟨j,_,rfl⟩:=h;exact⟨(fun _ _ e=>by cases e),(fun _ _ e=>by cases e)⟩
 case ptr i v off=>
  cases hb:Nat.beq v 0<;>simp only[hb,cond_true,cond_false] at h
  ·cases h
  simp only[ax] at h;obtain⟨j,_,rfl⟩:=h;exact⟨(fun _ _ e=>by cases e),(fun _ _ e=>by cases e)⟩
 case fclo f caps=>
  simp only[ax] at h;obtain⟨j,_,rfl⟩:=h;exact⟨(fun _ _ e=>by cases e),(fun _ _ e=>by cases e)⟩
 all_goals cases h
section
variable {C:Ctx} {S S1:St} {ρ ρ1:Env} {σ σ1:Im} {own dj:Nat→Option Nat} {hv aQ:Nat→Value} {w0:World} {σ0:Base} {A:Nat→Prop} {a:Act} {w w1:World} {Φ:aJ} {dst:Nat}
 {is js:List Nat} {shs:List Sh} {obs:List (Nat×Ob)} {ρf:Env}
theorem aay (hσ:Im.leR C.cap σ σ1){dR:Nat→Value}(eM:∀i j,cv is js i=some j→dR i=hv j){s x:Sh}(hr:jc S.ver is js s=some x){v:Value}{d:D}(h:aF C S ρ σ hv x v d):aF C (eR shs obs) ρf σ1 dR s v d:=by
 cases s<;>simp only[jc] at hr
 case none=>trivial
 case dat=>cases hr;exact hσ.rep h
 case obj i ver=>
  cases hb:Nat.beq ver 0<;>simp only[hb,cond_true,cond_false] at hr
  ·cases hr
  simp only[ax] at hr;obtain⟨j,hj,rfl⟩:=hr;exact⟨by rw[aw hb];exact mQ _,fun _=>by rw[eM i j hj];exact h.2 rfl⟩
 case ptr i ver off=>
  cases hb:Nat.beq ver 0<;>simp only[hb,cond_true,cond_false] at hr
  ·cases hr
  simp only[ax] at hr;obtain⟨j,hj,rfl⟩:=hr;exact⟨by rw[aw hb];exact mQ _,fun _=>by rw[eM i j hj];exact h.2 rfl⟩
 case fclo f caps=>
  simp only[ax] at hr;obtain⟨c,hc,rfl⟩:=hr;obtain⟨g1,g2⟩:=IG hc;obtain⟨vs,h1,h2,h3⟩:=h;refine⟨vs,h1,by omega,fun i x ver hi=>?_⟩;obtain⟨j,e1,e2,e3⟩:=g2 i x ver hi;exact⟨by rw[e3];exact mQ _,fun _=>by rw[eM x j e2];exact(h3 i j _ e1).2 rfl⟩
 all_goals cases hr
theorem aon (hσ:σ.le σ1){dR:Nat→Value}(eM:∀i j,cv is js i=some j→dR i=aQ j){s x:Sh}(hr:jc S1.ver is js s=some x){v:Value}{d:D}(h:aF C (eR shs obs) ρf σ dR s v d):aF C S1 ρ1 σ1 aQ x v d:=by
 cases s<;>simp only[jc] at hr
 case none=>cases hr;trivial
 case dat=>cases hr;exact Rep.mono hσ h
 case obj i ver=>
  cases hb:Nat.beq ver 0<;>simp only[hb,cond_true,cond_false] at hr
  ·cases hr
  simp only[ax] at hr;obtain⟨j,hj,rfl⟩:=hr;exact⟨aU _,fun _=>by rw[←eM i j hj];exact h.2 (aw hb)⟩
 case ptr i ver off=>
  cases hb:Nat.beq ver 0<;>simp only[hb,cond_true,cond_false] at hr
  ·cases hr
  simp only[ax] at hr;obtain⟨j,hj,rfl⟩:=hr;exact⟨aU _,fun _=>by rw[←eM i j hj];exact h.2 (aw hb)⟩
 case fclo f caps=>
  simp only[ax] at hr;obtain⟨c,hc,rfl⟩:=hr;obtain⟨g1,g2⟩:=IG hc;obtain⟨vs,h1,h2,h3⟩:=h;refine⟨vs,h1,by omega,fun i j ver hi=>?_⟩;have af:i<caps.length:=by have:=(dX.1 hi).1;omega
  obtain⟨j',e1,e2,e3⟩:=g2 i _ _ (aZ af);rw[hi] at e1;cases e1;exact⟨aU _,fun _=>by rw[←eM _ j e2];exact(h3 i _ _ (aZ af)).2 e3⟩
 all_goals cases hr
theorem afq {c x:Sh}(hf:AT c x=true){v:Value}{d:D}(h:aF C S ρ σ hv c v d):aF C S ρ σ hv x v d:=by
 cases x with
 |none=>trivial
 |dat b=>
  simp only[AT] at hf;split at hf
  ·exact Rep.sub h hf
  ·cases hf
 |_=>simp only[AT] at hf;rw[Sh.beq_eq _ _ hf] at h;exact h
theorem amC (hσ:Im.leR C.cap σ σ1){dR:Nat→Value}{Cs:Nat→Option Nat}(eM:∀i j,cv is js i=some j→dR i=hv j)(bt:∀k j i,own k=some j→cv js is j=some i→Cs k=some i)(bm:js.Nodup){i j N:Nat}(dz:cv is js i=some j)(hρ:ρf.o i=ρ.o j){ob x:Ob}
 (hr:nM S.ver is js ob=some x) (hf:xG (S.o j) x=true) (h:bU C S ρ σ own hv w N j (S.o j)):bU C (eR shs obs) ρf σ1 Cs dR w N i ob:=by
 have iu:=G3 bm dz;cases ob<;>simp only[nM] at hr
 case row T e=>
  cases hr;cases ho:S.o j<;>rw[ho] at hf h<;>simp only[xG,aq] at hf<;>try (cases hf;done)
  obtain⟨cells,xs,h1,h2,h3,h4⟩:=h;rw[aw hf.1,Ty.beq_eq _ _ hf.2] at*;exact⟨cells,xs,by rw[hρ];exact h1,by rw[eM i j dz];exact h2,h3.monoR hσ,fun k hk=>bt k j i (h4 k (by rw[←eM i j dz];exact hk)) iu⟩
 case mp kt et=>
  cases hr;cases ho:S.o j<;>rw[ho] at hf h<;>simp only[xG,aq] at hf<;>try (cases hf;done)
  obtain⟨k,arr,clock,es,h1,h2,h3,h4,h5,h6,h7⟩:=h;rw[Ty.beq_eq _ _ hf.1,Ty.beq_eq _ _ hf.2] at*;exact⟨k,arr,clock,es,by rw[eM i j dz];exact h1,bt k j i h2 iu,h3,by rw[hρ];exact h4,h5,h6,fun n e p he hp=>⟨hσ.rep (h7 n e p he hp).1,hσ.rep (h7 n e p he hp).2⟩⟩
 case box ag cs=>
  simp only[ax] at hr;obtain⟨cs',cY,rfl⟩:=hr;cases ho:S.o j<;>rw[ho] at hf h<;>simp only[xG,aq] at hf<;>try (cases hf;done)
  obtain⟨k,vs,T,ds,h1,h2,h3,h4,h5,h6,h7⟩:=h;obtain⟨l1,g1⟩:=UE hf.2;obtain⟨l2,g2⟩:=PW cY;refine⟨k,vs,T,ds,by rw[eM i j dz];exact h1,bt k j i h2 iu,h3,by omega,by rw[hρ];exact h5,by omega,fun n s hs=>?_⟩;obtain⟨y,hy,BS⟩:=g2 n s hs;obtain⟨z,hz,Bn⟩:=g1 n y hy;exact⟨(PV BS).1,aay hσ eM BS (afq Bn (h7 n z hz).2)⟩
 all_goals cases hr
theorem amD (hσ:σ.le σ1){dR:Nat→Value}{Cs:Nat→Option Nat}(eM:∀i j,cv is js i=some j→dR i=aQ j)(bt:∀k i j,Cs k=some i→cv is js i=some j→dj k=some j){i j N:Nat}(dz:cv is js i=some j)(hρ:ρ1.o j=ρf.o i){ob x:Ob}
 (hr:nM S1.ver is js ob=some x) (h:bU C (eR shs obs) ρf σ Cs dR w N i ob):bU C S1 ρ1 σ1 dj aQ w N j x:=by
 cases ob<;>simp only[nM] at hr
 case row T e=>
  cases hr;obtain⟨cells,xs,h1,h2,h3,h4⟩:=h;exact⟨cells,xs,by rw[hρ];exact h1,by rw[←eM i j dz];exact h2,h3.mono hσ,fun k hk=>bt k i j (h4 k (by rw[eM i j dz];exact hk)) dz⟩
 case mp kt et=>
  cases hr;obtain⟨k,arr,clock,es,h1,h2,h3,h4,h5,h6,h7⟩:=h;exact⟨k,arr,clock,es,by rw[←eM i j dz];exact h1,bt k i j h2 dz,h3,by rw[hρ];exact h4,h5,h6,fun n e p he hp=>⟨(h7 n e p he hp).1.mono hσ,(h7 n e p he hp).2.mono hσ⟩⟩
 case box ag cs=>
  simp only[ax] at hr;obtain⟨cs',cY,rfl⟩:=hr;obtain⟨k,vs,T,ds,h1,h2,h3,h4,h5,h6,h7⟩:=h;obtain⟨l2,g2⟩:=PW cY;refine⟨k,vs,T,ds,by rw[←eM i j dz];exact h1,bt k i j h2 dz,h3,by omega,by rw[hρ];exact h5,by omega,fun n s hs=>?_⟩;have af:n<cs.length:=by have:=(dX.1 hs).1;omega
  obtain⟨y,hy,BS⟩:=g2 n _ (aZ af);rw[hs] at hy;cases hy;exact⟨(PV BS).2,aon hσ eM BS (h7 n _ (aZ af)).2⟩
 all_goals cases hr
theorem aom {ver:Nat→Nat}{ob x:Ob}(hr:nM ver is js ob=some x):x≠.tr:=by
 cases ob<;>simp only[nM] at hr
 case row=>cases hr;intro e;cases e
 case mp=>cases hr;intro e;cases e
 case box=>
  simp only[ax] at hr;obtain⟨_,_,rfl⟩:=hr;intro e;cases e
 all_goals cases hr
theorem CtxOK.noM (h:CtxOK C σ):CtxOK C σ.noM:=⟨fun g x hx=>(h.glob g x hx).noM⟩
def zu (C:Ctx)(S:St)(ρ:Env)(σ:Im)(hv:Nat→Value)(x:lR)(v:Value)(d:D):Prop:=aF C S ρ σ hv x.1 v d∧∀y,x.2=some y→Rep C.cap σ y.1 v (y.2.ev ρ)
theorem UB:∀{acts:List lR} {shs:List Sh} {es:List PE},rE S is js acts shs=some es→acts.length=shs.length∧es.length=shs.length∧∀(t:Nat) (s:Sh),shs[t]?=some s→∃x e,acts[t]?=some x∧es[t]?=some e∧AS S is js x s=some e
 |[],[],es,h=>by simp only[rE,aS] at h;subst h;exact⟨rfl,rfl,fun t s h=>by simp at h⟩
 |[],_::_,es,h=>by simp[rE] at h
 |_::_,[],es,h=>by simp[rE] at h
 |x::acts,s::shs,es,h=>by
  simp only[rE,au,ax] at h;obtain⟨e,he,r,hr,rfl⟩:=h;obtain⟨g1,g2,g3⟩:=UB hr;refine⟨by simp[g1],by simp[g2],fun t s' hs=>?_⟩;cases t with
  |zero=>simp at hs;subst hs;exact⟨x,e,rfl,rfl,he⟩
  |succ t=>simp at hs;simpa using g3 t s' hs
theorem afp (hσ:Im.leR C.cap σ σ1){dR:Nat→Value}(eM:∀i j,cv is js i=some j→dR i=hv j){x:lR}{s:Sh}{e:PE}(hf:AS S is js x s=some e){v:Value}{d:D}(h:zu C S ρ σ hv x v d):aF C (eR shs obs) ρf σ1 dR s v (e.ev ρ):=by
 have gen:∀s,(match jc S.ver is js s with|some y=>bif Sh.beq x.1 y then some (PE.con .none) else none|none=>none)=some e→oP s=false→aF C (eR shs obs) ρf σ1 dR s v (e.ev ρ):=by
  intro s hm hd;split at hm
  ·rename_i y hy;cases hb:Sh.beq x.1 y<;>simp only[hb,cond_true,cond_false] at hm
   ·cases hm
   have h1:=h.1;rw[Sh.beq_eq _ _ hb] at h1;have:=aay (shs:=shs) (obs:=obs) (ρf:=ρf) hσ eM hy h1;cases s with
   |dat t=>cases hd
   |opt gs s'=>exact absurd rfl ((PV hy).1 gs s')
   |eptr j ver size off=>simp[jc] at hy
   |agg l=>simp[jc] at hy
   |_=>exact this
  ·cases hm
 unfold AS at hf;split at hf
 ·rename_i t;split at hf
  ·rename_i y hy;cases hb:Ty.sub y.1 t<;>simp only[hb,cond_true,cond_false] at hf
   ·cases hf
   cases hf;exact hσ.rep ((h.2 y hy).sub hb)
  ·cases hf
 ·trivial
 ·rename_i j0 nk;refine gen _ hf ?_;cases s<;>first|rfl|exact absurd rfl (j0 _)
theorem ad0 {dR MA:Nat→Value}{σ σ':Im}{ρf ρf':Env}{args:Nat→Value}{ds ds':Nat→D}(h1:∀(t:Nat) (s:Sh),shs[t]?=some s→aF C (eR shs obs) ρf σ dR s (args t) (ds t))(h2:∀(t:Nat) (s:Sh),shs[t]?=some s→oP s=false→aF C (eR shs obs) ρf' σ' MA s (args t) (ds' t))
 (hz:∀s,s∈shs→∃x,jc S.ver is js s=some x) {i:Nat} (hi:i∈m4 shs):MA i=dR i:=by
 have key:∀(l:List Sh),(∀s,s∈l→∃t:Nat,shs[t]?=some s)→i∈m4 l→MA i=dR i:=by
  intro l
  induction l with
  |nil=>intro _ h;cases h
  |cons s l ih=>
   intro hl hi;obtain⟨t,ht⟩:=hl s (ej ..);have yb:∀s,s∈l→∃t:Nat,shs[t]?=some s:=fun s hs=>hl s (dY _ hs);obtain⟨x,hx⟩:=hz s (jm ht);have a1:=h1 t s ht;have a2:=h2 t s ht;cases s<;>simp only[m4] at hi
   case obj j ver=>
        simp only[jc] at hx;cases hb:Nat.beq ver 0<;>simp only[hb,cond_true,cond_false] at hx
        ·cases hx
        rcases cG.1 hi with e|e
        ·subst e;rw[←(a1.2 (aw hb)),←((a2 rfl).2 (aw hb))]
        ·exact ih yb e
   case ptr j ver off=>
        simp only[jc] at hx;cases hb:Nat.beq ver 0<;>simp only[hb,cond_true,cond_false] at hx
        ·cases hx
        rcases cG.1 hi with e|e
        ·subst e;obtain⟨k1,e1,e2⟩:=a1.2 (aw hb);obtain⟨k2,e3,e4⟩:=(a2 rfl).2 (aw hb);rw[e2] at e4;cases e4;rw[e1,e3]
        ·exact ih yb e
   case fclo f caps=>
        simp only[jc,ax] at hx;obtain⟨c,hc,_⟩:=hx;obtain⟨_,g2⟩:=IG hc;rcases cS.1 hi with e|e
        ·obtain⟨y,hy,e1⟩:=cX.1 e;subst e1;obtain⟨m,hm⟩:=ri hy;obtain⟨vs,b1,b2,b3⟩:=a1;obtain⟨zq,c1,c2,c3⟩:=a2 rfl;rw[b1] at c1;have gi:vs=zq:=by simpa using c1
         subst gi;obtain⟨_,_,_,yp⟩:=g2 m y.1 y.2 hm;rw[←(b3 m y.1 y.2 hm).2 yp,←(c3 m y.1 y.2 hm).2 yp]
        ·exact ih yb e
   all_goals exact ih yb hi
 exact key shs (fun s hs=>ri hs) hi
end
section
variable {C:Ctx} {S:St} {ρ:Env} {σ:Im} {own:Nat→Option Nat} {hv:Nat→Value} {w0:World} {σ0:Base} {A:Nat→Prop} {a:Act} {w:World} {Φ:aJ} {dst:Nat}
 {is js:List Nat} {shs:List Sh} {obs:List (Nat×Ob)}
theorem Below.weak {B:Nat}{w w':World}(h:Below 0 w w')(hk:∀k,k<B→w'.heap[k]?=w.heap[k]?):Below B w w':=⟨h.os,h.tape,h.output,h.size,hk⟩
def mj (js is:List Nat)(own:Nat→Option Nat):Nat→Option Nat:=fun k=>(own k).bind (cv js is)
def Cr (js is:List Nat)(own own':Nat→Option Nat):Nat→Option Nat:=fun k=>
 match own' k with
 |some i=>cv is js i
 |none=>match own k with|some j=>(match cv js is j with|some _=>none|none=>some j)|none=>none
theorem handed (h:Inv C S ρ σ own hv w0 σ0 A a w)(hC:CtxOK C σ0)(Mf:va shs obs=true)(Br:is=obs.map (·.1))(VO:is.Nodup)(GC:js.Nodup)(Gm:oz S is js obs js=true){acts:List lR}{es:List PE}(gI:rE S is js acts shs=some es)
 (Gj:S.o gm=.dead) (GN:gm∉js) {vals:List Value} (hvl:vals.length=acts.length) (agW:∀(t:Nat) (x:lR),acts[t]?=some x→∃d,zu C S ρ σ hv x (vals.getD t undef) d) {f:Nat} {res:Ty} {d:D}
 (hfn:pG C f shs obs res (es.map (PE.ev ρ)++js.map ρ.o) d):
 Calls C.P f vals.toArray w fun e w'=>∃v dr os,e=.returned v∧d=.tup (dr::os)∧os.length=js.length∧
  ∀ρ':Env,ρ'.r=ρ.r→(∀(k j:Nat),js[k]?=some j→ρ'.o j=os.getD k .none)→(∀j,j∉js→j≠gm→ρ'.o j=ρ.o j)→
   ∃σ1 dj aQ,Inv C (S.handed shs obs is js) ρ' σ1 dj aQ w0 σ0 A a w'∧Rep C.cap σ1 res v dr:=by
 obtain⟨al1,al2,gu⟩:=UB gI;have fC:=UD Gm;have rW:w0.heap.size≤w.heap.size:=h.below.size;obtain⟨tr,fx,cx,hf,qA⟩:=h.frame
 let dR:Nat→Value:=fun i=>match cv is js i with|some j=>hv j|none=>undef
 have eM:∀i j,cv is js i=some j→dR i=hv j:=fun i j e=>by simp only[dR,e]
 have VG:Im.leR C.cap σ σ.noM:=⟨Rep.noM,fun _ _ _ e=>e⟩
 have BE:∀k x,σ.noM.m k=some x→σ.m k=some x∧x≠cL:=by
  intro k x e;by_cases hd:σ.m k=some cL
  ·simp[Im.noM,hd] at e
  ·simp only[Im.noM,if_neg hd] at e;exact⟨e,fun e2=>hd (by rw[e,e2])⟩
 have qs:(es.map (PE.ev ρ)++js.map ρ.o).drop shs.length=js.map ρ.o:=by rw[List.drop_append];simp[al2]
 have ahK:∀t e,es[t]?=some e→(es.map (PE.ev ρ)++js.map ρ.o).getD t .none=e.ev ρ:=fun t e he=>by
  have af:=(dX.1 he).1;rw[aI,lS (by simpa using af),cf,he];rfl
 have aiO:∀s,s∈shs→∃x,jc S.ver is js s=some x:=by
  intro s hs;obtain⟨t,ht⟩:=ri hs;obtain⟨x,e,_,_,he⟩:=gu t s ht;unfold AS at he;split at he
  ·exact⟨_,rfl⟩
  ·exact⟨_,rfl⟩
  ·split at he
   ·rename_i y hy;exact⟨y,hy⟩
   ·cases he
 have VA:∀t,aF C (eR shs obs) (kF obs (es.map (PE.ev ρ)++js.map ρ.o) ((es.map (PE.ev ρ)++js.map ρ.o).drop shs.length)) σ.noM dR (shs.getD t .none) (vals.toArray.getD t undef) ((es.map (PE.ev ρ)++js.map ρ.o).getD t .none):=by
  intro t;cases hs:shs[t]? with
  |none=>rw[aI,hs];trivial
  |some s=>
   obtain⟨x,e,hx,he,Gl⟩:=gu t s hs;obtain⟨d',agX⟩:=agW t x hx;rw[aI (l:=shs),hs,ahK t e he];have e1:vals.toArray.getD t undef=vals.getD t undef:=by simp[eY,aI]
   rw[e1];exact afp VG eM Gl agX
 have ahW:∀i,bU C (eR shs obs) (kF obs (es.map (PE.ev ρ)++js.map ρ.o) ((es.map (PE.ev ρ)++js.map ρ.o).drop shs.length)) σ.noM (mj js is own) dR w w0.heap.size i (dB obs i):=by
  intro i;cases dz:cv is js i with
  |none=>subst Br;rw[WV fC dz];trivial
  |some j=>
   subst Br;obtain⟨x,hx,Gn⟩:=UC Gm dz;refine amC VG eM (fun k j' i' hk hl=>by simp only[mj,hk,nY,hl]) GC dz ?_ hx Gn (h.objs j);show lI obs _ i=_;rw[qs];exact aj1 obs ρ.o rfl dz
 have jW:=hfn w0.heap.size σ.noM (mj js is own) dR w vals.toArray (fun k=>(∃j,own k=some j∧cv js is j=none)∨σ.m k=some cL∨(cx k)) Mf ⟨h.ok.c,fun k x e=>h.ok.m k x (BE k x e).1⟩ ((hC.mono h.le).noM)
  (fun k e=>(BE k _ e).2 rfl) rW (by simp;omega) (fun k i hk=>by
    simp only[mj,au] at hk;obtain⟨j,hj,_⟩:=hk;obtain⟨g1,g2,g3,g4⟩:=h.owns k j hj;exact⟨g1,g2,g3,by by_cases e:σ.m k=some cL<;>simp[Im.noM,e,g4]⟩) (fun k hk=>by
    rcases hk with⟨j,hj,hn⟩|hk|hk
    ·obtain⟨g1,g2,g3,g4⟩:=h.owns k j hj;exact⟨g2,by simp[mj,hj,hn],g3,by by_cases e:σ.m k=some cL<;>simp[Im.noM,e,g4]⟩
    ·have BB:=h.ok.m k _ hk;have hn:own k=none:=by
      cases e:own k with
      |none=>rfl
      |some j=>rw[(h.owns k j e).2.2.2] at hk;cases hk
     refine⟨BB.lt,by simp[mj,hn],fun o=>?_,by simp[Im.noM,hk]⟩;cases e:σ.c k o with
     |none=>exact e
     |some x=>
      have c1:=h.ok.c k o x e;rcases BB with⟨m1,_⟩|⟨_,m2⟩
      ·exact absurd rfl m1
      ·simp[World.cell?,m2] at c1
    ·have gJ:=σ0.sub _ _ _ _ hf.F k hk;have hn:own k=none:=by
      cases e:own k with
      |none=>rfl
      |some j=>exact absurd gJ (hf.own k j e)
     refine⟨σ0.lt _ _ _ _ hf.F k gJ,by simp[mj,hn],fun o=>?_,?_⟩
     ·cases e:σ.c k o with
      |none=>exact e
      |some x=>exact absurd hk (hf.c k o x e)
     ·cases e:σ.m k with
      |none=>simp[Im.noM,e]
      |some x=>exact absurd hk (hf.m k x e)) VA ahW
 refine jW.mono fun e w' hh=>?_;obtain⟨v,σ',own',hv',dr,os,rfl,hd,Ma,hle,ar,hb,gz,dv,cP,GB,VW,Bt,L7,j4⟩:=hh;refine⟨v,dr,os,rfl,hd,by omega,fun ρ' j3 oL uC=>?_⟩;have GG:∀k,k<w.heap.size→own k=none→w'.heap[k]?=w.heap[k]?:=fun k hk hn=>gz k hk (by simp[mj,hn]);have aiz:∀k j,own k=some j→cv js is j=none→w'.heap[k]?=w.heap[k]?:=fun k j hk hn=>gz k (h.owns k j hk).2.1 (by simp[mj,hk,hn])
 have ahn:∀k o x,σ.c k o=some x→own k=none:=fun k o x e=>by
  cases e1:own k with
  |none=>rfl
  |some j=>rw[(h.owns k j e1).2.2.1 o] at e;cases e
 have VN:∀k x,σ.m k=some x→own k=none:=fun k x e=>by
  cases e1:own k with
  |none=>rfl
  |some j=>rw[(h.owns k j e1).2.2.2] at e;cases e
 have VS:σ.ok w':=⟨fun k o x e=>by rw[World.cell?_of_block (GG k (h.lt e) (ahn k o x e))];exact h.ok.c k o x e,fun k x e=>(h.ok.m k x e).keep (GG k (h.ltm e) (VN k x e))⟩
 have ku:σ.le (σ'.plus σ):=Im.plus_le2 ar VS;have ky:σ'.le (σ'.plus σ):=Im.plus_le1 σ' σ;have cY:∀k o x,(σ'.plus σ).c k o=some x→σ'.c k o=some x:=fun k o x e=>(Im.plus_c e).elim id (fun e=>hle.c k o x e)
 have yc:∀k x,(σ'.plus σ).m k=some x→σ'.m k=some x∨(σ.m k=some x∧x=cL):=fun k x e=>(Im.plus_m e).elim .inl (fun e=>by
  by_cases hd:x=cL
  ·exact .inr ⟨e,hd⟩
  ·refine .inl (hle.m k x ?_);have:σ.m k≠some cL:=fun e2=>hd (by rw[e] at e2;cases e2;rfl);simp only[Im.noM,if_neg this,e])
 let aQ:Nat→Value:=fun j=>match cv js is j with|some i=>hv' i|none=>hv j
 have ajp:∀i j,cv is js i=some j→hv' i=aQ j:=fun i j e=>by simp only[aQ,G3 GC e]
 have aht:∀i,i∈m4 shs→hv' i=dR i:=fun i hi=>ad0 (S:=S) (is:=is) (js:=js) (args:=fun t=>vals.toArray.getD t undef) (ds:=fun t=>(es.map (PE.ev ρ)++js.map ρ.o).getD t .none) (ds':=fun t=>(es.map (PE.ev ρ)++js.map ρ.o).getD t .none) (fun t s hs=>by
  have:=VA t;rw[aI (l:=shs),hs] at this;exact this) (fun t s hs hd=>Bt t s hs hd) aiO hi
 have rK:Compat S hv (S.handed shs obs is js) aQ:=by
  refine⟨fun j=>?_,fun j e=>?_⟩
  ·show S.ver j≤tc S.ver shs is js j;unfold tc;split
   ·cases aD (m4 shs) _<;>simp
   ·exact aU _
  ·change tc S.ver shs is js j=S.ver j at e;show aQ j=hv j;simp only[aQ];unfold tc at e;split at e
   ·rename_i i hi;cases hb:aD (m4 shs) i<;>rw[hb] at e
    ·simp at e
    ·try simp only[hi]
     rw[aht i (Wm.1 hb),eM i j (G3 VO hi)]
   ·rename_i hi;try simp only[hi]
 have ll:∀k j,Cr js is own own' k=some j→(k<w.heap.size→own k≠none)∧w0.heap.size≤k∧k<w'.heap.size∧(∀o,σ'.c k o=none)∧σ'.m k=none∧σ.m k≠some cL:=by
  intro k j hk;simp only[Cr] at hk;split at hk
  ·rename_i i hi;obtain⟨g1,g2,g3,g4,g5⟩:=VW k i hi;have g6:k<w.heap.size→own k≠none:=fun af e=>g5 af (by simp[mj,e]);refine⟨g6,g1,g2,g3,g4,fun e=>?_⟩;exact g6 (h.ltm e) (VN k _ e)
  ·split at hk
   ·rename_i j' cC;split at hk
    ·cases hk
    ·rename_i hn;obtain⟨g1,g2,g3,g4⟩:=h.owns k j' cC;have fP:(∃j,own k=some j∧cv js is j=none)∨σ.m k=some cL∨(cx k):=.inl ⟨j',cC,hn⟩;refine⟨fun _ e=>(by rw[cC] at e;cases e),g1,pH g2 hb.size,fun o=>?_,?_,fun e=>?_⟩
     ·cases e:σ'.c k o with
      |none=>rfl
      |some x=>exact absurd fP (dv k o x e).2
     ·cases e:σ'.m k with
      |none=>rfl
      |some x=>exact absurd fP (cP k x e).2
     ·rw[g4] at e;cases e
   ·cases hk
 refine⟨σ'.plus σ,Cr js is own own',aQ,⟨h.defers.mono ku,Im.plus_ok ar VS,h.le.trans ku,h.old,fun k o x e=>?_,fun k x e=>?_,h.below.trans (Below.weak hb fun k hk=>?_),h.bw,fun k j hk=>?_,fun t=>?_,fun j=>?_,h.opts,?_⟩,j4.mono ky⟩
 ·rcases(dv k o x (cY k o x e)).1 with e1|e1
  ·exact h.newc k o x e1
  ·exact .inr e1
 ·rcases yc k x e with e1|e1
  ·rcases(cP k x e1).1 with e2|e2
   ·exact h.newm k x (BE k x e2).1
   ·exact .inr e2
  ·exact h.newm k x e1.1
 ·have cn:k<w0.heap.size:=pH hk h.bw;refine GG k (by omega) ?_;cases e:own k with
  |none=>rfl
  |some j=>have:=(h.owns k j e).1;omega
 ·obtain⟨_,g1,g2,g3,g4,g5⟩:=ll k j hk;refine⟨g1,g2,fun o=>?_,?_⟩
  ·cases e:(σ'.plus σ).c k o with
   |none=>rfl
   |some x=>have:=cY k o x e;rw[g3 o] at this;cases this
  ·cases e:(σ'.plus σ).m k with
   |none=>rfl
   |some x=>
    rcases yc k x e with e1|e1
    ·rw[g4] at e1;cases e1
    ·exact absurd (by rw[e1.1,e1.2]) g5
 ·show aF C _ ρ' _ aQ (S.r t) _ (ρ'.r t);rw[j3]
  exact aF.mono ku rK (fun gs s e=>by
   unfold holds;rw[j3]) (fun gs s e=>(h.opts t gs s e).2) (h.regs t)
 ·show bU C _ ρ' _ _ aQ w' _ j (match cv js is j with|some i=>(match nM (tc S.ver shs is js) is js (dB obs i) with|some o=>o|none=>.dead)|none=>S.o j);split
  ·rename_i i hi;have dz:=G3 VO hi;split
   ·rename_i x hx;refine amD (S1:=S.handed shs obs is js) ky ajp (fun k i' j' hk hl=>by simp only[Cr,hk,hl]) dz ?_ hx (L7 i);subst Br;obtain⟨k,bP,cn⟩:=WN (os:=os) Ma dz;show ρ'.o j=lI obs os i;rw[cn];exact oL k j bP
   ·trivial
  ·rename_i hn
   have LZ:j∉js:=fun hm=>by
        obtain⟨k,hk⟩:=ri hm;have af:k<is.length:=by
         have:=(dX.1 hk).1;rw[Br,dM];omega
        have:=G2 GC hk (aZ af);rw[hn] at this;cases this
   by_cases Gv:j=gm
   ·subst Gv;rw[Gj];trivial
   ·refine(h.objs j).mono ku rK (by show aQ j=hv j;simp only[aQ,hn]) (uC j LZ Gv) (fun k hk=>⟨?_,aiz k j hk hn⟩);have:own' k=none:=by
     cases e:own' k with
     |none=>rfl
     |some i=>exact absurd (by simp[mj,hk,hn]) ((VW k i e).2.2.2.2 (h.owns k j hk).2.1)
    simp only[Cr,this,hk,hn]
 ·refine⟨tr,fx,cx,⟨σ0.keep _ _ _ _ _ hf.F hb fun k hk=>?_,fun k j hk gJ=>?_,fun k o x e hc=>?_,fun k x e hc=>?_,fun k e hB hk=>?_⟩,fun j hj=>?_⟩
  ·refine GG k (σ0.lt _ _ _ _ hf.F k hk) ?_;cases e:own k with
   |none=>rfl
   |some j=>exact absurd hk (hf.own k j e)
  ·have af:=σ0.lt _ _ _ _ hf.F k gJ;have:=(ll k j hk).1 af;cases e:own k with
   |none=>exact this e
   |some j'=>exact hf.own k j' e gJ
  ·exact(dv k o x (cY k o x e)).2 (.inr (.inr hc))
  ·rcases yc k x e with e1|e1
   ·exact(cP k x e1).2 (.inr (.inr hc))
   ·exact hf.m k x e1.1 hc
  ·rcases yc k _ e with e1|e1
   ·have af:=σ0.lt _ _ _ _ hf.F k hk;refine GB k e1 hB af ?_;have:own k=none:=by
     cases e:own k with
     |none=>rfl
     |some j=>exact absurd hk (hf.own k j e)
    simp[mj,this]
   ·exact hf.d k e1.1 hB hk
  ·change (match cv js is j with|some i=>(match nM (tc S.ver shs is js) is js (dB obs i) with|some o=>o|none=>.dead)|none=>S.o j)=.tr at hj;split at hj
   ·rename_i i hi;split at hj
    ·rename_i x hx;exact absurd hj (aom hx)
    ·cases hj
   ·rename_i hn
    have LZ:j∉js:=fun hm=>by
     obtain⟨k,hk⟩:=ri hm;have af:k<is.length:=by
         have:=(dX.1 hk).1;rw[Br,dM];omega
     have:=G2 GC hk (aZ af);rw[hn] at this;cases this
    have Gv:j≠gm:=fun e=>by subst e;rw[Gj] at hj;cases hj
    rw[uC j LZ Gv];exact qA j hj
theorem aaQ:∀(js:List Nat) (k:Nat) {ρ ρ':Env} {l:List D},PI.runs Φ (Dz js k) ρ=some ρ'→ρ.o gm=.tup l→gm∉js→js.Nodup→
 ρ'.r=ρ.r∧(∀(i j:Nat),js[i]?=some j→ρ'.o j=l.getD (k+i) .none)∧∀j,j∉js→ρ'.o j=ρ.o j
 |[],k,ρ,ρ',l,h,hs,hn,hd=>by
  simp only[Dz,PI.runs,aS] at h;subst h;exact⟨rfl,fun i j e=>by simp at e,fun _ _=>rfl⟩
 |x::js,k,ρ,ρ',l,h,hs,hn,hd=>by
  simp only[Dz,PI.runs,PI.run,nY,PE.ev,hs,D.tget] at h;simp only[cG,not_or] at hn;have fB:=mM.1 hd;obtain⟨g1,g2,g3⟩:=aaQ js (k+1) h (by simp only[Env.setO];rw[bp _ _ hn.1];exact hs) hn.2 fB.2;refine⟨g1,fun i j e=>?_,fun j hj=>?_⟩
  ·cases i with
   |zero=>simp at e;subst e;rw[g3 _ fB.1];simp[Env.setO,aK]
   |succ i=>simp at e;rw[g2 i j e];congr 1;omega
  ·simp only[cG,not_or] at hj;rw[g3 j hj.2];simp only[Env.setO];exact bp _ _ hj.1
theorem ab3 (h:Inv C S ρ σ own hv w0 σ0 A a w)(hC:CtxOK C σ0)(x:Operand):∃d,zu C S ρ σ hv (D7 C S x) (a.eval x) d:=by
 cases x with
 |tmp t=>
  refine⟨ρ.r t,?_,fun y hy=>bW (gs:=[]) h hC rfl hy⟩;have:=(mC (gs:=[]) h rfl t).1;simpa [Act.eval,D7,gD] using this
 |_=>exact⟨.none,trivial,fun y hy=>bW (gs:=[]) h hC rfl hy⟩
theorem Ub (h:Inv C S ρ σ own hv w0 σ0 A a w)(hC:CtxOK C σ0)(hΦ:cW C Φ){f:Nat}{args:List Operand}{caps:List (Nat×Nat)}{vs:List Value}(gi:vs.length=caps.length)
 (ew:∀(i j ver:Nat),caps[i]?=some (j,ver)→ver≤S.ver j∧(ver=S.ver j→vs.getD i undef=hv j)) (ahd:∀(i j ver:Nat),caps[i]?=some (j,ver)→ver=S.ver j→∃k,hv j=.pointer (some ⟨k,0,none⟩)) {r:St×Ty×List PI} (hr:oq C S f args caps=some r)
 {ρ1:Env} (aj:PI.runs Φ r.2.2 ρ=some ρ1):
 Calls C.P f (args.map a.eval++vs).toArray w fun e w'=>∃v σ1 dj aQ,e=.returned v∧Inv C r.1 ρ1 σ1 dj aQ w0 σ0 A a w'∧Rep C.cap σ1 r.2.1 v ((ρ1.o gm).tget 0):=by
 simp only[oq,au] at hr;obtain⟨s,hs,hr⟩:=hr;split at hr
 case h_2=>cases hr
 rename_i shs obs ls;obtain⟨σ2,gC,ky,h2⟩:=Inv.fzs (xI S args shs) h;have dp:=(oA (xI S args shs) S).1;generalize S.fzs (xI S args shs)=S2 at hr h2 dp;unfold KK KJ at hr;generalize Uy S2 shs obs (args.map (D7 C S2)++caps.map TM)=js at hr;simp only[au] at hr;obtain⟨es,gI,hr⟩:=hr;cases hb:(va shs obs&&(iI (obs.map (·.1))&&iI js&&oz S2 (obs.map (·.1)) js obs js&&mf (S2.o gm)&& !aD js gm))<;>simp only[hb,cond_true,cond_false] at hr
 ·cases hr
 cases hr;simp only[aq,jf] at hb;obtain⟨b0,⟨⟨⟨b1,b2⟩,b3⟩,b4⟩,b5⟩:=hb;have j0:=nz b1;have nk:=nz b2;have Gj:S2.o gm=.dead:=by
  cases e:S2.o gm<;>rw[e] at b4<;>first|rfl|cases b4
 have GN:gm∉js:=fun hm=>by rw[Wm.2 hm] at b5;cases b5
 simp only[PI.runs,PI.run,au,ax] at aj;obtain⟨ρ2,⟨d,hd,rfl⟩,aj⟩:=aj;rw[PE.evs_eq,ki,wj] at hd;have e1:js.map (PE.ev ρ∘PE.o)=js.map ρ.o:=rfl;rw[e1] at hd;have hfn:=((hΦ f _ d hd s hs).2 shs obs ls).plain b0
 have jW:=handed h2 hC b0 rfl j0 nk b3 gI Gj GN (vals:=args.map a.eval++vs) (by simp[gi]) (fun t x hx=>by
  rw[kh] at hx;split at hx
  ·rename_i af;rw[dM] at af;rw[cf,aZ af] at hx;cases hx;have:(args.map a.eval++vs).getD t undef=a.eval args[t]:=by
        rw[aI,lS (by simpa using af),cf,aZ af];rfl
   rw[this];exact ab3 h2 hC _
  ·rename_i gf;rw[dM] at gf hx;rw[cf,ax] at hx;obtain⟨c,hc,rfl⟩:=hx;obtain⟨j,ver⟩:=c;have bY:(args.map a.eval++vs).getD t undef=vs.getD (t-args.length) undef:=by
        rw[aI,lT (by simpa using gf),dM,aI]
   obtain⟨g1,g2⟩:=ew _ j ver hc;refine⟨.none,⟨by rw[dp];exact g1,fun e=>?_⟩,fun y hy=>by cases hy⟩;rw[dp] at e;obtain⟨k,hk⟩:=ahd _ j ver hc e;exact⟨k,hk,by rw[bY,g2 e,hk]⟩) (hfn:=hfn)
 refine jW.mono fun e w' hh=>?_;obtain⟨v,dr,os,rfl,rfl,Ma,lj⟩:=hh;obtain⟨g1,g2,g3⟩:=aaQ js 1 (l:=dr::os) aj (by simp[Env.setO,aK]) GN nk
 obtain⟨σ1,dj,aQ,hinv,bF⟩:=lj ρ1 g1 (fun k j hk=>by
  have:=g2 k j hk;rw[zH] at this;simpa using this) (fun j hj az=>by rw[g3 j hj];simp only[Env.setO];exact bp _ _ az)
 refine⟨v,σ1,dj,aQ,rfl,hinv,?_⟩;rw[g3 gm GN];simpa [Env.setO,aK,D.tget] using bF
def nA (S:St)(dst:Option Nat)(r:St×Ty×List PI):St×List PI:=
 match dst with
 |some d=>(r.1.setR d (.dat r.2.1),r.2.2++[.setR d (.tget (.o gm) 0)])
 |none=>(r.1,r.2.2)
theorem aoE {a b:List PI}{ρ:Env}:PI.runs Φ (a++b) ρ=(PI.runs Φ a ρ).bind (PI.runs Φ b):=by
 induction a generalizing ρ with
 |nil=>simp[PI.runs]
 |cons x a ih=>
  simp only[DS,PI.runs];cases x.run Φ ρ with
  |none=>rfl
  |some ρ1=>simp[ih]
theorem TJ {o:Oper}{f:Nat}{vals:List Value}(ht:∀d,o.dst=some d→¬A d∧d<a.tmps.size){r:St×Ty×List PI}(hx:(execOp a.eval o).run C.P w=.ok (.enter f vals.toArray) w)
 (hc:∀ρ1,PI.runs Φ r.2.2 ρ=some ρ1→Calls C.P f vals.toArray w fun e w'=>∃v σ1 dj aQ,e=.returned v∧Inv C r.1 ρ1 σ1 dj aQ w0 σ0 A a w'∧Rep C.cap σ1 r.2.1 v ((ρ1.o gm).tget 0)):bR C w0 σ0 Φ S ρ A a w o (nA S o.dst r):=by
 intro ρ' aj K Q hK;simp only[Oper.wp,hx,Oper.upon];cases hd:o.dst with
 |none=>
  rw[hd] at aj hK;refine(hc ρ' aj).mono fun e w' hh=>?_;obtain⟨v,σ1,dj,aQ,rfl,hinv,bF⟩:=hh;refine hK _ _ ⟨σ1,dj,aQ,?_⟩ rfl;have:(fun u=>A u∨(none:Option Nat)=some u)=A:=by funext u;simp
  rw[this];exact hinv
 |some d=>
  rw[hd] at aj hK;obtain⟨t1,t2⟩:=ht d hd;simp only[nA,aoE,au] at aj;obtain⟨ρ1,h1,h2⟩:=aj;simp[PI.runs,PI.run,PE.ev] at h2;subst h2;refine(hc ρ1 h1).mono fun e w' hh=>?_;obtain⟨v,σ1,dj,aQ,rfl,hinv,bF⟩:=hh;refine hK _ _ ⟨σ1,dj,aQ,?_⟩ (size_put _ _ _);have:(fun u=>A u∨some d=some u)=(fun u=>A u∨u=d):=by funext u;simp[eq_comm]
  rw[this];exact hinv.setReg t1 (s:=.dat r.2.1) bF t2 (fun _ _ e=>by cases e)
theorem Uc (h:Inv C S ρ σ own hv w0 σ0 A a w)(hC:CtxOK C σ0)(aV:du C)(hΦ:cW C Φ){f:Nat}{args:Array Operand}{ts:Array TypeId}{r:St×Ty×List PI}{o:Oper}(ht:∀d,o.dst=some d→¬A d∧d<a.tmps.size)
 (hr:oq C S f args.toList []=some r) (ho:o.op=.call {callee:=.value (.func f),args:=args,argTypes:=ts}):bR C w0 σ0 Φ S ρ A a w o (nA S o.dst r):=by
 have hs:∃s,C.sig f=some s:=by
  simp only[oq,au] at hr;obtain⟨s,hs,_⟩:=hr;exact⟨s,hs⟩
 obtain⟨s,hs⟩:=hs;have hx:=IM (a:=a) (w:=w) aV hs ho;have jB:args.map a.eval=(args.toList.map a.eval++[]).toArray:=by apply tg;simp
 rw[jB] at hx;exact TJ ht hx fun ρ1 aj=>Ub h hC hΦ (vs:=[]) rfl (fun i j ver e=>by simp at e) (fun i j ver e=>by simp at e) hr aj
def wA (S:St):List (Nat×Nat)→Bool
 |[]=>true
 |c::l=>Nat.beq c.2 (S.ver c.1)&&(match S.o c.1 with|.box ..=>true|_=>false)&&wA S l
theorem TO (h:Inv C S ρ σ own hv w0 σ0 A a w):∀{l:List (Nat×Nat)},wA S l=true→∀(i j ver:Nat),l[i]?=some (j,ver)→ver=S.ver j∧∃k,hv j=.pointer (some ⟨k,0,none⟩)
 |[],_,i,j,ver,e=>by simp at e
 |c::l,hl,i,j,ver,e=>by
  simp only[wA,aq] at hl;cases i with
  |zero=>
   simp at e;subst e;refine⟨aw hl.1.1,?_⟩;have h1:=hl.1.2;have h2:=h.objs j;split at h1
   ·rename_i ag shs eo;simp only at eo;rw[eo] at h2;obtain⟨k,cs,T,ds,g1,_⟩:=h2;exact⟨k,g1⟩
   ·cases h1
  |succ i=>simp at e;exact TO h hl.2 i j ver e
def xz (C:Ctx)(S:St)(t:Nat)(args:List Operand):Option (St×Ty×List PI):=
 match lO S [] t with
 |.fclo f caps=>bif wA S caps then oq C S f args caps else none
 |_=>none
theorem Ua (h:Inv C S ρ σ own hv w0 σ0 A a w)(hC:CtxOK C σ0)(aV:du C)(hΦ:cW C Φ){t:Nat}{args:Array Operand}{ts:Array TypeId}{r:St×Ty×List PI}{o:Oper}(ht:∀d,o.dst=some d→¬A d∧d<a.tmps.size)
 (hr:xz C S t args.toList=some r) (ho:o.op=.call {callee:=.value (.tmp t),args:=args,argTypes:=ts}):bR C w0 σ0 Φ S ρ A a w o (nA S o.dst r):=by
 unfold xz at hr;split at hr
 case h_2=>cases hr
 rename_i f caps ma;cases hb:wA S caps<;>simp only[hb,cond_true,cond_false] at hr
 ·cases hr
 have ix:=(mC (gs:=[]) h rfl t).1;rw[ma] at ix;obtain⟨vs,h1,h2,h3⟩:=ix;have hs:∃s,C.sig f=some s:=by
  simp only[oq,au] at hr;obtain⟨s,hs,_⟩:=hr;exact⟨s,hs⟩
 obtain⟨s,hs⟩:=hs;have hx:=aaJ (a:=a) (w:=w) (vs:=vs) (x:=.tmp t) aV hs (by simpa [Act.eval] using h1) ho;have jB:args.map a.eval++vs.toArray=(args.toList.map a.eval++vs).toArray:=by apply tg;simp
 rw[jB] at hx;exact TJ ht hx fun ρ1 aj=>Ub h hC hΦ h2 h3 (fun i j ver e _=>(TO h hb i j ver e).2) hr aj
def Ad (S:St):List Operand→Option (List (Nat×Nat))
 |[]=>some []
 |x::xs=>
  match x with
  |.tmp t=>
   match lO S [] t with
   |.ptr j ver off=>bif Nat.beq ver (S.ver j)&&Nat.beq off 0 then(Ad S xs).map fun r=>(j,ver)::r else none
   |_=>none
  |_=>none
def AF (C:Ctx)(S:St)(dst:Nat)(fn:Fn)(first caps:Array Operand):Option (St×List PI):=
 match fn,first.toList with
 |.func f,[]=>
  match C.sig f with
  |some s=>bif oR s.mode then(Ad S caps.toList).map fun c=>(S.setR dst (.fclo f c),[.setR dst (.con .none)]) else none
  |none=>none
 |_,_=>none
theorem TP (h:Inv C S ρ σ own hv w0 σ0 A a w):∀{l:List Operand} {c:List (Nat×Nat)},Ad S l=some c→c.length=l.length∧∀(i j ver:Nat),c[i]?=some (j,ver)→ver≤S.ver j∧(ver=S.ver j→(l.map a.eval).getD i undef=hv j)
 |[],c,e=>by simp only[Ad,aS] at e;subst e;exact⟨rfl,fun i j ver e=>by simp at e⟩
 |x::xs,c,e=>by
  simp only[Ad] at e;split at e
  case h_2=>cases e
  rename_i t;split at e
  case h_2=>cases e
  rename_i j ver off ma;cases hb:(Nat.beq ver (S.ver j)&&Nat.beq off 0)<;>simp only[hb,cond_true,cond_false] at e
  ·cases e
  simp only[aq] at hb;simp only[ax] at e;obtain⟨r,hr,rfl⟩:=e;obtain⟨g1,g2⟩:=TP h hr;have ix:=(mC (gs:=[]) h rfl t).1;rw[ma] at ix;refine⟨by simp[g1],fun i j' mF e=>?_⟩;cases i with
  |zero=>
   simp at e;obtain⟨rfl,rfl⟩:=e;refine⟨ix.1,fun e=>?_⟩;obtain⟨k,k1,k2⟩:=ix.2 e;have e0:off=0:=aw hb.2;subst e0;rw[k1,←k2];simp[Act.eval]
  |succ i=>simp at e;simpa using g2 i j' mF e
theorem aet (h:Inv C S ρ σ own hv w0 σ0 A a w)(ht:¬A dst)(af:dst<a.tmps.size){fn:Fn}{first caps:Array Operand}{r:St×List PI}{o:Oper}(hr:AF C S dst fn first caps=some r)(hd:o.dst=some dst)(ho:o.op=.makeFunc fn first caps):bR C w0 σ0 Φ S ρ A a w o r:=by
 unfold AF at hr;split at hr
 case h_2=>cases hr
 rename_i f Bm;split at hr
 case h_2=>cases hr
 rename_i s hs;cases hb:oR s.mode<;>simp only[hb,cond_true,cond_false] at hr
 ·cases hr
 simp only[ax] at hr;obtain⟨c,hc,rfl⟩:=hr;obtain⟨g1,g2⟩:=TP h hc;have LB:first=#[]:=by rw[←re];simpa using Bm
 refine bR.value hd fun ρ' aj=>⟨.func (.func f) #[] (caps.toList.map a.eval).toArray,w,?_,?_⟩
 ·subst LB;have e9:caps.map a.eval=(caps.toList.map a.eval).toArray:=by apply tg;rw[vV]
  simp[execOp,ho,Instr.makeFunc,e9]
 ·have hρ:ρ'=ρ.setR dst .none:=by simp[PI.runs,PI.run,PE.ev] at aj;exact aj.symm
  subst hρ;exact⟨_,_,_,h.setReg ht (s:=.fclo f c) ⟨_,rfl,by simp[g1],g2⟩ af (fun _ _ e=>by cases e)⟩
end
end Cx
namespace Cx
open Go Go.RowKit
inductive Gh where
 |fz (j:Nat)|fbox (b:Nat)|rereg (t j:Nat)|recell (b i j:Nat)|home (b i j:Nat) (T:TypeId)
def Gh.run (C:Ctx)(S:St):Gh→Option (St×List PI)
 |.fz j=>some (S.fz j,[])
 |.fbox b=>AW S b
 |.rereg t j=>Dq S t j
 |.recell b i j=>Dp S b i j
 |.home b i j T=>BH C S b i j T
def lb (C:Ctx):List Gh→St→Option (St×List PI)
 |[],S=>some (S,[])
 |g::gs,S=>(g.run C S).bind fun r=>(lb C gs r.1).map fun q=>(q.1,r.2++q.2)
theorem px {Φ:aJ}:∀{a b:List PI} {ρ:Env},PI.runs Φ (a++b) ρ=(PI.runs Φ a ρ).bind (PI.runs Φ b)
 |[],b,ρ=>by simp[PI.runs]
 |x::a,b,ρ=>by
  simp only[DS,PI.runs];cases x.run Φ ρ with
  |none=>rfl
  |some ρ1=>simp[px (a:=a) (b:=b)]
def xK (S:St)(ops:Array Oper)(o:Oper):Option (List (Nat×Bool)):=
 match o.guard with
 |none=>some []
 |some (j,want)=>
  match(ops[j]?).bind (·.dst) with
  |some t=>
   match S.r t with
   |.dat .bool=>some [(t,want)]
   |.opt gs (.dat .bool)=>some ((t,want)::gs)
   |_=>none
  |none=>none
def ans (S:St)(gs:List (Nat×Bool)):Op→List Nat
 |.build _ ps=>dw S gs (ps.toList.map (·.2))
 |.buildSlice _ _ ps=>dw S gs (ps.toList.map (·.2))
 |.box _ x=>dw S gs [x]
 |.pick _ x y=>dw S gs [x,y]
 |.slice _ x _ _ _=>dw S gs [x]
 |.mapUpdate _ _ k v=>dw S gs [k,v]
 |.insert _ _ k v=>dw S gs [k,v]
 |.store _ x v=>match gD S gs x with|.eptr ..=>dw S gs [v]|_=>[]
 |_=>[]
def Ae:List Sh→List Nat
 |[]=>[]
 |.obj j _::r=>j::Ae r
 |_::r=>Ae r
def El (S:St)(gs:List (Nat×Bool)):List Operand→List Nat
 |[]=>[]
 |x::xs=>
  match gD S gs x with
  |.ptr j ver off=>bif Nat.beq ver (S.ver j)&&(match S.o j with|.box ..=>true|_=>false) then j::El S gs xs else El S gs xs
  |_=>El S gs xs
def XC (C:Ctx):Fn→Bool
 |.func f=>(match C.sig f with|some s=>oR s.mode|none=>false)
 |_=>false
theorem amf {α:Type}{b:Bool}{x:α}{l:List α}(h:x∈bif b then[] else l):x∈l:=by
 cases b with
 |true=>cases h
 |false=>exact h
def pre (C:Ctx)(S:St)(gs:List (Nat×Bool))(op:Op):List Gh:=
 match op with
 |.makeFunc fn _ caps=>
  bif XC C fn then[] else(El S gs caps.toList).flatMap fun b=>(match S.o b with|.box _ shs=>(Ae shs).map .fz|_=>[])++[.fbox b]
 |.load T x=>
  match gD S gs x,nr C.P T,C.P.info? T with
  |.ptr j _ off,some true,some inf=>bif agB C j then[] else(match S.o j with|.box _ shs=>(Ae ((shs.drop off).take inf.size)).map .fz|_=>[])
  |_,_,_=>[]
 |op=>(ans S gs op).map .fz
def OB (C:Ctx)(S:St)(gs:List (Nat×Bool))(o:Oper):List Gh:=
 match o.op,o.dst with
 |.assign x,some t=>bif C.fr.any (Nat.beq t) then(dw S gs [x]).map .fz else[]
 |_,_=>[]
def Kv (P:Program):Nat→TypeId→List (Option TypeId)
 |0,_=>[]
 |n+1,t=>
  match P.underlying t with
  |some (.struct fs)=>fs.toList.flatMap fun f=>Kv P n f.type
  |some (.array len e)=>(List.replicate len (Kv P n e)).flatten
  |some (.slice e)=>[some e]
  |_=>[none]
def homes (P:Program)(b off:Nat)(T:TypeId):List Gh:=
 ((Kv P 12 T).zipIdx).filterMap fun x=>x.1.map fun e=>.home b (off+x.2) (VU b (off+x.2)) e
def GX (nh:List Nat)(l:List Gh):List Gh:=l.filter fun g=>match g with|.home _ _ j _=> !(nh.any (Nat.beq j))|_=>true
def aax (b off n:Nat):List Gh:=(List.range n).map fun i=>.recell b (off+i) (VU b (off+i))
def post (C:Ctx)(S:St)(o:Oper):List Gh:=
 match o.op,o.dst with
 |.assign _,some t=>[.rereg t t]
 |.alloc T,some t=>GX C.nh (homes C.P t 0 T)
 |.store T x _,_=>
  match gD S [] x with
  |.ptr j _ off=>GX C.nh (homes C.P j off T)++aax j off (match C.P.info? T with|some i=>i.size|none=>0)
  |_=>[]
 |_,_=>[]
def Hh:Sh→Bool
 |.opt ..=>false
 |_=>true
def rB (C:Ctx)(S:St)(dst:Nat)(T:TypeId)(x:Operand):jO:=
 match x with
 |.const v=>(mE C.P T).bind fun t=>(mG t).bind fun z=>bif gX t v then some (S.setR dst (.dat z.1),[.setR dst (.con z.2)]) else none
 |_=>none
def core (C:Ctx)(S:St)(gs:List (Nat×Bool))(o:Oper):Option (St×List PI):=
 match o.dst with
 |some dst=>
  match HB C S gs dst o.op with
  |some r=>bif Hh r.1 then some (S.setR dst (qp gs r.1),r.2) else none
  |none=>
   match o.op,gs with
   |.assign x,[]=>
    bif C.fr.any (Nat.beq dst) then
          match vc C S [] dst x with
          |some r=>some (S.setR dst r.1,r.2)
          |none=>rB C S dst o.type x
    else
    match AG C S dst o.type x with
    |some r=>some r
    |none=>
     match vc C S [] dst x with
     |some r=>some (S.setR dst r.1,r.2)
     |none=>rB C S dst o.type x
   |.alloc T,[]=>Aw C S dst T
   |.box T x,[]=>Ay C S dst T x
   |.buildSlice T n ps,gs=>
    match gs with
    |[]=>tS C S [] dst T n ps.toList
    |_=>xA C S gs dst T n ps.toList
   |.makeSlice T l c,[]=>AE C S dst T l c
   |.makeMap T r,[]=>AD C S dst T r
   |.range T x,[]=>AH C S dst T x
   |.convert T U x,[]=>Az C S dst T U x
   |.call c,gs=>
    match c.callee,gs with
    |.builtin .append,[]=>
     match c.args.toList,c.argTypes.toList with
     |[s,x],[T,T']=>bif Nat.beq T T' then Ax C S dst T s x else none
     |_,_=>none
    |.value (.func f),gs=>
     match xy C S gs dst f c.args.toList with
     |some r=>some (r.1.setR dst (qp gs r.2.1),r.2.2)
     |none=>
      match gs with
      |[]=>
       match AB C S dst f c.args.toList with
       |some r=>some r
       |none=>
        match AA C S dst f c.args.toList with
        |some r=>some r
        |none=>(oq C S f c.args.toList []).map (nA S (some dst))
      |_=>none
    |.value x,gs=>
     match tT C S gs dst x c.args.toList with
     |some r=>some (r.1.setR dst (qp gs r.2.1),r.2.2)
     |none=>
      match x,gs with
      |.tmp t,[]=>(xz C S t c.args.toList).map (nA S (some dst))
      |_,_=>none
    |_,_=>none
   |.makeFunc fn first caps,[]=>AF C S dst fn first caps
   |_,_=>none
 |none=>
  match o.op,gs with
  |.store T x v,[]=>AI C S T x v
  |.mapUpdate T m k v,[]=>xB C S T m k v
  |.insert T m k v,[]=>xB C S T m k v
  |.panic _,[]=>some (S,[.chk (.nt (.con (.bool true)))])
  |.call c,[]=>
   match c.callee with
   |.value (.func f)=>(oq C S f c.args.toList []).map (nA S none)
   |.value (.tmp t)=>(xz C S t c.args.toList).map (nA S none)
   |_=>none
  |_,_=>none
def YY (dst:Nat)(l:List PI):Bool:=l.all fun p=>p.modR.all (Nat.beq dst)&&p.modO.isEmpty
def FV (gs:List (Nat×Bool))(dst:Option Nat)(l:List PI):Bool:=
 match gs,dst with
 |[],_=>true
 |_,some d=>YY d l
 |_,none=>false
def Fw (C:Ctx)(S:St)(ops:Array Oper)(o:Oper):Option (St×List PI):=
 (xK S ops o).bind fun gs=>
 (lb C (pre C S gs o.op++OB C S gs o) S).bind fun r1=>
 (core C r1.1 gs o).bind fun r2=>
 (lb C (post C r2.1 o) r2.1).bind fun r3=>
 bif FV gs o.dst r2.2 then some (r3.1,r1.2++r2.2++r3.2) else none
def DE:PI:=.chk (.con (.v (.bool false)))
def Ar (C:Ctx)(S:St)(ops:Array Oper)(o:Oper):Option (St×List PI):=
 match Fw C S ops o with
 |some r=>some r
 |none=>some (match o.dst with|some d=>S.setR d .none|none=>S,[DE])
section
variable {C:Ctx} {S:St} {ρ:Env} {σ:Im} {own:Nat→Option Nat} {hv:Nat→Value} {w0:World} {σ0:Base} {A:Nat→Prop} {a:Act} {w:World} {gs:List (Nat×Bool)} {Φ:aJ} {dst:Nat}
theorem Gh.sound {g:Gh}{r:St×List PI}(h:Good C w0 σ0 S ρ A a w)(hr:g.run C S=some r):zC C w0 σ0 Φ S ρ A a w r:=by
 obtain⟨σ,own,hv,h⟩:=h;cases g with
 |fz j=>
  simp only[Gh.run,aS] at hr;subst hr;intro ρ' aj;rw[mB aj];obtain⟨σ',own',_,h'⟩:=h.fz j;exact⟨σ',own',hv,h'⟩
 |fbox b=>exact agp h hr
 |rereg t j=>exact aol h hr
 |recell b i j=>exact aok h hr
 |home b i j T=>exact aix h hr
theorem La:∀(l:List Gh) {S:St} {ρ ρ':Env} {r:St×List PI},Good C w0 σ0 S ρ A a w→lb C l S=some r→PI.runs Φ r.2 ρ=some ρ'→Good C w0 σ0 r.1 ρ' A a w
 |[],S,ρ,ρ',r,h,hr,aj=>by
  simp only[lb,aS] at hr;subst hr;rw[mB aj];exact h
 |g::l,S,ρ,ρ',r,h,hr,aj=>by
  simp only[lb,au,ax] at hr;obtain⟨q,hq,q2,gM,rfl⟩:=hr;simp only[px,au] at aj;obtain⟨ρ1,h1,h2⟩:=aj;exact La (r:=q2) l (Gh.sound (Φ:=Φ) h hq ρ1 h1) gM h2
theorem UR (h:Good C w0 σ0 S ρ A a w){ops:Array Oper}{o:Oper}(hg:xK S ops o=some gs):Region.wanted o (yielded ops a.tmps)=holds gs ρ:=by
 obtain⟨σ,own,hv,h⟩:=h;unfold xK at hg;unfold Region.wanted;split at hg
 ·rename_i e;cases hg;simp[e,holds]
 ·rename_i j want e;simp only[e];split at hg
  case h_2=>cases hg
  rename_i t ht;have ix:=h.regs t;have hy:∀v,a.tmps.getD t undef=v→(∀b,v=.bool b→yielded ops a.tmps j=some b)∧(v=undef→yielded ops a.tmps j=none):=by
   intro v hv';unfold yielded;rw[ht];simp only[nY];rw[eY] at hv';cases rM:a.tmps[t]? with
   |none=>rw[rM] at hv';simp at hv';subst hv';exact⟨fun b e=>absurd e (by simp[undef]),fun _=>rfl⟩
   |some u=>rw[rM] at hv';simp at hv';subst hv';exact⟨fun b e=>by subst e;rfl,fun e=>by subst e;rfl⟩
  split at hg
  ·rename_i es;cases hg;rw[es] at ix;obtain⟨b,ij,fc⟩:=Rep.bool_inv ix;rw[(hy _ ij).1 b rfl];simp[holds,fc,D.b_bool]
  ·rename_i bI es;cases hg;rw[es] at ix;simp only[holds,nS];cases hh:holds bI ρ with
   |true=>
    obtain⟨b,ij,fc⟩:=Rep.bool_inv (ix.1 hh);rw[(hy _ ij).1 b rfl];unfold holds at hh;rw[hh,fc];simp[D.b_bool]
   |false=>
    rw[(hy _ (ix.2 hh)).2 rfl];unfold holds at hh;rw[hh];simp
  ·cases hg
theorem UQ (h:Good C w0 σ0 S ρ A a w){ops:Array Oper}{o:Oper}(hg:xK S ops o=some gs)(hj:∀j want t,o.guard=some (j,want)→(ops[j]?).bind (·.dst)=some t→A t):∀g,g∈gs→A g.1:=by
 obtain⟨σ,own,hv,h⟩:=h;unfold xK at hg;split at hg
 ·cases hg;simp
 ·rename_i j want e;split at hg
  case h_2=>cases hg
  rename_i t ht;have hA:=hj j want t e ht;split at hg
  ·cases hg;intro g hm;simp at hm;subst hm;exact hA
  ·rename_i bI es;cases hg;intro g hm;rcases cG.1 hm with e'|eA
   ·subst e';exact hA
   ·exact(h.opts t bI _ es).1 g eA
  ·cases hg
theorem amU (h:Inv C S ρ σ own hv w0 σ0 A a w)(hC:CtxOK C σ0)(hg:holds gs ρ=true){o:Oper}{r:Sh×List PI}(hr:HB C S gs dst o.op=some r):dF C S ρ σ hv Φ dst a w o r:=by
 unfold HB at hr;split at hr
 ·rename_i x e;exact Za h hC hg hr (.inl e)
 ·rename_i c x y e;exact amT h hC hg hr e
 ·rename_i op T x y T' e;exact amG h hC hg hr e
 ·rename_i op T x e;exact amW h hC hg hr e
 ·rename_i s d x e;exact amI h hC hg hr e
 ·rename_i T x e;exact Hz h hC hg hr e
 ·rename_i T x i e;exact amK h hC hg hr e
 ·rename_i T x i e;exact amL h hC hg hr e
 ·rename_i T x i e;exact amN h hC hg hr e
 ·rename_i T x i e;exact amO h hC hg hr e
 ·rename_i x i e;exact amJ h hC hg hr e
 ·rename_i T m k ok e;exact amR h hC hg hr e
 ·rename_i T x lo hi mx e;exact amV h hC hg hr e
 ·rename_i f a b e;exact amM h hC hg hr e
 ·rename_i T ps e;exact amH h hC hg hr e
 ·rename_i x e;exact amS h hC hg hr e
 ·cases hr;intro ρ' aj;have:=(P4 hg aj).1;cases this
 ·rename_i c e;split at hr
  ·rename_i x T hc ha ht;refine amP h hC hg hr ?_;rw[e];cases c with|mk callee args argTypes=>
   simp only at hc ha ht;have h1:args=#[x]:=by rw[←re];exact ha
   have h2:argTypes=#[T]:=by rw[←re];exact ht
   rw[hc,h1,h2]
  ·rename_i x y hc ha;refine YZ (ts:=c.argTypes) h hC hg hr ?_;rw[e];cases c with|mk callee args argTypes=>
   simp only at hc ha;have h1:args=#[x,y]:=by rw[←re];exact ha
   rw[hc,h1];rfl
  ·rename_i x y hc ha;refine YZ (ts:=c.argTypes) h hC hg hr ?_;rw[e];cases c with|mk callee args argTypes=>
   simp only at hc ha;have h1:args=#[x,y]:=by rw[←re];exact ha
   rw[hc,h1];rfl
  ·cases hr
 ·cases hr
theorem aeB (h:Inv C S ρ σ own hv w0 σ0 A a w)(ht:¬A dst)(af:dst<a.tmps.size){T:TypeId}{x:Operand}{r:St×List PI}(hr:rB C S dst T x=some r){o:Oper}(hd:o.dst=some dst)(ho:o.op=.assign x):bR C w0 σ0 Φ S ρ A a w o r:=by
 unfold rB at hr;split at hr
 case h_2=>cases hr
 rename_i v;simp only[au] at hr;obtain⟨t,_,z,hz,hr⟩:=hr;cases hc:gX t v<;>simp only[hc,cond_true,cond_false] at hr
 ·cases hr
 cases hr;have bF:=(vU (cap:=C.cap) (σ:=σ) hz hc).1;refine bR.value hd fun ρ' aj=>⟨v,w,by simp[execOp,ho,Act.eval],?_⟩
 have hρ:ρ'=ρ.setR dst z.2:=by simp[PI.runs,PI.run,PE.ev] at aj;exact aj.symm
 subst hρ;exact⟨_,_,_,h.setReg ht (s:=.dat z.1) bF af (fun _ _ e=>by cases e)⟩
theorem adK (h:Inv C S ρ σ own hv w0 σ0 A a w)(hC:CtxOK C σ0)(aV:du C)(hΦ:cW C Φ){o:Oper}(ht:∀d,o.dst=some d→¬A d∧d<a.tmps.size)(dy:∀g,g∈gs→A g.1)(hg:holds gs ρ=true){r:St×List PI}
 (hr:core C S gs o=some r):bR C w0 σ0 Φ S ρ A a w o r:=by
 unfold core at hr;split at hr
 ·rename_i dst hd;obtain⟨fF,fG⟩:=ht dst hd;split at hr
  ·rename_i q hq;cases eB:Hh q.1<;>simp only[eB,cond_true,cond_false] at hr
   ·cases hr
   cases hr;have V0:=amU (Φ:=Φ) h hC hg hq;cases gs with
   |nil=>exact V0.eff h fF fG hd
   |cons g bI=>exact V0.effG h fF fG dy hg hd
  ·rename_i L1;clear L1;split at hr
   ·rename_i x e
    have mv:∀r,(match vc C S [] dst x with|some r=>some (S.setR dst r.1,r.2)|none=>rB C S dst o.type x)=some r→bR C w0 σ0 Φ S ρ A a w o r:=by
     intro r hr;split at hr
     ·rename_i q hq;cases hr;exact(Za (Φ:=Φ) h hC hg hq (.inr e)).eff h fF fG hd
     ·exact aeB h fF fG hr hd e
    cases dx:C.fr.any (Nat.beq dst)<;>simp only[dx,cond_true,cond_false] at hr
    ·split at hr
     ·rename_i q hq;cases hr;exact aev h hC fF fG hq hd e
     ·exact mv r hr
    ·exact mv r hr
   ·rename_i T e;exact ad5 h fF fG hr hd e
   ·rename_i T x e;exact ad9 h hC fF fG hr hd e
   ·rename_i T n ps e;split at hr
    ·exact aeb h hC fF fG hr hd e
    ·exact aen h hC fF fG dy hg hr hd e
   ·rename_i T l c e;exact aer h hC fF fG hr hd e
   ·rename_i T m e;exact aep h fF fG hr hd e
   ·rename_i T x e;exact aex h fF fG hr hd e
   ·rename_i T U x e;exact aed h hC fF fG hr hd e
   ·rename_i c e;cases c with|mk callee args argTypes=>
    split at hr
    ·rename_i hc;simp only at hc;split at hr
     ·rename_i s x T T' ha Mw;simp only at ha Mw;cases hT:Nat.beq T T'<;>simp only[hT,cond_true,cond_false] at hr
      ·cases hr
      have xN:=aw hT;subst xN;refine ad7 h hC fF fG hr hd ?_;have h1:args=#[s,x]:=by rw[←re];exact ha
      have h2:argTypes=#[T,T]:=by rw[←re];exact Mw
      rw[e,hc,h1,h2]
     ·cases hr
    ·rename_i f hc;simp only at hc;split at hr
     ·rename_i q hq;cases hr;exact ael h hC aV hΦ fF fG dy hg hq hd (by rw[e,hc])
     ·split at hr
      ·split at hr
       ·rename_i q hq;cases hr;exact aej h hC aV hΦ fF fG hq hd (by rw[e,hc])
       ·split at hr
        ·rename_i q hq;cases hr;exact aeh h hC aV hΦ fF fG hq hd (by rw[e,hc])
        ·simp only[ax] at hr;obtain⟨q,hq,rfl⟩:=hr;rw[←hd];exact Uc h hC aV hΦ ht hq (by rw[e,hc])
      ·cases hr
    ·rename_i x hnf hc;simp only at hc;split at hr
     ·rename_i q hq;cases hr;exact aef h hC aV hΦ fF fG dy hg hq hd (by rw[e,hc])
     ·split at hr
      ·simp only[ax] at hr;obtain⟨q,hq,rfl⟩:=hr;rw[←hd];exact Ua h hC aV hΦ ht hq (by rw[e,hc])
      ·cases hr
    ·cases hr
   ·rename_i fn first caps e;exact aet h fF fG hr hd e
   ·cases hr
 ·rename_i hd;split at hr
  ·rename_i T x v e;exact aez h hC hr hd e
  ·rename_i T m k v e;exact Ue h hC hr hd (.inl e)
  ·rename_i T m k v e;exact Ue h hC hr hd (.inr e)
  ·cases hr;intro ρ' aj;simp[PI.runs,PI.run,PE.ev,D.bool,D.b] at aj
  ·rename_i c e;cases c with|mk callee args argTypes=>
   split at hr
   ·rename_i f hc;simp only at hc;simp only[ax] at hr;obtain⟨q,hq,rfl⟩:=hr;rw[←hd];exact Uc h hC aV hΦ ht hq (by rw[e,hc])
   ·rename_i t hc;simp only at hc;simp only[ax] at hr;obtain⟨q,hq,rfl⟩:=hr;rw[←hd];exact Ua h hC aV hΦ ht hq (by rw[e,hc])
   ·cases hr
  ·cases hr
theorem adI {g:Nat×Bool}{bI:List (Nat×Bool)}{o:Oper}{r:St×List PI}(hr:core C S (g::bI) o=some r):
 ∃dst S2 s,o.dst=some dst∧r.1=S2.setR dst (.opt (g::bI) s)∧((∃js,S2=S.fzs js)∨∃j,S2=S.newO j .dead)∧(∀gs s',s≠.opt gs s')∧(∀x,o.op≠.assign x)∧(∀T,o.op≠.alloc T)∧∀T x v,o.op≠.store T x v:=by
 unfold core at hr;split at hr
 ·rename_i dst hd;split at hr
  ·rename_i q hq;cases eB:Hh q.1<;>simp only[eB,cond_true,cond_false] at hr
   ·cases hr
   cases hr;refine⟨dst,S,q.1,hd,rfl,.inl ⟨[],rfl⟩,(fun gs s' e=>by rw[e] at eB;cases eB),fun x e=>?_,fun T e=>?_,fun T x v e=>?_⟩<;>(rw[e] at hq;simp[HB] at hq)
  ·rename_i L1;clear L1;split at hr
   case h_4=>
        rename_i T n ps e;split at hr
        ·rename_i hx;cases hx
        ·unfold xA at hr;split at hr
         case h_2=>cases hr
         simp only[au] at hr;obtain⟨e0,he0,hr⟩:=hr;split at hr
         ·cases hr;exact⟨dst,_,.dat (.slice e0.rol),hd,rfl,.inr ⟨dst,rfl⟩,(fun _ _ e=>by cases e),(fun x e'=>by rw[e] at e';cases e'),(fun x e'=>by rw[e] at e';cases e'),(fun _ _ _ e'=>by rw[e] at e';cases e')⟩
         ·cases hr
   case h_9=>
        rename_i c e;split at hr
        ·rename_i hx;cases hx
        ·rename_i f hc;split at hr
         ·rename_i q hq;cases hr;simp only[xy,au] at hq;obtain⟨s,hs,hq⟩:=hq;split at hq
          case h_2=>cases hq
          simp only[au] at hq;obtain⟨u,hu,hq⟩:=hq;cases cj:Ty.subs u.1 s.args<;>simp only[cj,cond_true,cond_false] at hq
          ·cases hq
          cases hq;refine⟨dst,_,.dat s.res,hd,rfl,?_,(fun _ _ e=>by cases e),(fun x e'=>by rw[e] at e';cases e'),(fun x e'=>by rw[e] at e';cases e'),(fun _ _ _ e'=>by rw[e] at e';cases e')⟩;left;cases s.res.pure
          ·exact⟨_,rfl⟩
          ·exact⟨[],rfl⟩
         ·cases hr
        ·rename_i x hnf hc;have hr:∃q,tT C S (g::bI) dst x c.args.toList=some q∧(q.1.setR dst (qp (g::bI) q.2.1),q.2.2)=r:=by
          split at hr
          ·rename_i q hq;cases hr;exact⟨q,hq,rfl⟩
          ·split at hr
           all_goals (first|(cases hr;done)|(rename_i hx;cases hx;done)|(rename_i hx _;cases hx;done)|(rename_i hx _ _;cases hx;done)|(rename_i hx;exact absurd hx (by simp)))
         obtain⟨q,hq,rfl⟩:=hr;unfold tT at hq;split at hq
         case h_2=>cases hq
         rename_i aa r0 ee Wa;split at hq
         case h_1=>cases hq
         simp only[au] at hq;obtain⟨u,hu,hq⟩:=hq;cases cj:Ty.subs u.1 aa<;>simp only[cj,cond_true,cond_false] at hq
         ·cases hq
         cases hq;refine⟨dst,_,.dat r0,hd,rfl,?_,(fun _ _ e=>by cases e),(fun x e'=>by rw[e] at e';cases e'),(fun x e'=>by rw[e] at e';cases e'),(fun _ _ _ e'=>by rw[e] at e';cases e')⟩;left;cases r0.pure
         ·exact⟨_,rfl⟩
         ·exact⟨[],rfl⟩
        ·cases hr
   all_goals (first|(cases hr;done)|(rename_i hx;cases hx;done)|(rename_i hx _;cases hx;done))
 ·split at hr
  all_goals (first|(cases hr;done)|(rename_i hx;cases hx;done)|(rename_i hx _;cases hx;done))
theorem VT {ρ ρ1:Env}:∀{l:List (Nat×Bool)},(∀g,g∈l→ρ1.r g.1=ρ.r g.1)→holds l ρ1=holds l ρ
 |[],_=>rfl
 |x::l,h=>by
  have ih:=VT (l:=l) fun y hy=>h y (dY _ hy);unfold holds at ih ⊢;simp only[nS];rw[ih,h x (ej ..)]
theorem UK:∀(l:List Gh) {S:St} {r:St×List PI},lb C l S=some r→∀t,t∉r.2.flatMap PI.modR
 |[],S,r,hr=>by simp only[lb,aS] at hr;subst hr;simp
 |g::l,S,r,hr=>by
  simp only[lb,au,ax] at hr;obtain⟨q,hq,q2,gM,rfl⟩:=hr;have ih:=UK l gM;have hg:∀t,t∉q.2.flatMap PI.modR:=by
   cases g with
   |fz j=>simp only[Gh.run,aS] at hq;subst hq;simp
   |fbox b=>
    simp only[Gh.run,AW] at hq;split at hq
    case h_2=>cases hq
    simp only[au] at hq;obtain⟨x,hx,hq⟩:=hq;rename_i ag shs eo;cases ag<;>simp only[cond_true,cond_false] at hq
    ·split at hq
     ·cases hq;simp[PI.modR]
     ·cases hq
    ·cases hq;simp[PI.modR]
   |rereg t j=>
    simp only[Gh.run,Dq] at hq;split at hq
    ·rename_i j' ver es;cases hb:(Nat.beq ver (S.ver j')&&kD (S.o j')&& !Nat.beq j' j)<;>simp only[hb,cond_true,cond_false] at hq<;>cases hq<;>simp[PI.modR]
    ·cases hq;simp
   |recell b i j=>
    simp only[Gh.run,Dp] at hq;split at hq
    ·split at hq
     ·rename_i ag shs eo j' ver es;cases hb:(Nat.beq ver (S.ver j')&&kD (S.o j')&& !Nat.beq j' j&& !Nat.beq b j&& !Nat.beq b j')<;>simp only[hb,cond_true,cond_false] at hq<;>cases hq<;>simp[PI.modR]
     ·cases hq;simp
    ·cases hq;simp
   |home b i j T=>
    simp only[Gh.run,BH] at hq;split at hq
    ·split at hq
     ·cases hb:(!Nat.beq b j)<;>simp only[hb,cond_true,cond_false] at hq<;>cases hq<;>simp[PI.modR]
     ·cases hq;simp
    ·cases hq;simp
  intro t hm;rw[List.flatMap_append,cS] at hm;exact hm.elim (hg t) (ih t)
theorem ady (h:Good C w0 σ0 S ρ A a w)(hC:CtxOK C σ0)(aV:du C)(hΦ:cW C Φ){ops:Array Oper}{o:Oper}(ht:∀d,o.dst=some d→¬A d∧d<a.tmps.size)
 (hj:∀j want t,o.guard=some (j,want)→(ops[j]?).bind (·.dst)=some t→A t) {r:St×List PI} (hr:Fw C S ops o=some r) {ρ':Env} (aj:PI.runs Φ r.2 ρ=some ρ')
 {K:Act→World→Prop} {Q:Exit→Act→World→Prop} (hK:∀a' w',Good C w0 σ0 r.1 ρ' (fun u=>A u∨o.dst=some u) a' w'→a'.tmps.size=a.tmps.size→K a' w'):
 if Region.wanted o (yielded ops a.tmps) then o.wp C.P a w K Q else K (a.put o.dst undef) w:=by
 simp only[Fw,au] at hr;obtain⟨gs,dy,r1,j3,r2,oL,r3,uC,hr⟩:=hr;have xW:=UQ h dy hj;rw[UR h dy];cases hc:FV gs o.dst r2.2<;>simp only[hc,cond_true,cond_false] at hr
 ·cases hr
 cases hr;simp only[px,au] at aj;obtain⟨ρ2,⟨ρ1,hρ1,hρ2⟩,hρ3⟩:=aj;have h1:=La _ h j3 hρ1;have cN:=h1;obtain⟨σ1,dj,aQ,i1⟩:=cN;have Gp:holds gs ρ1=holds gs ρ:=by
  cases gs with
  |nil=>rfl
  |cons g bI=>
   have hb:=(PI.runs_but hρ1).r
   have:∀x,x∈(g::bI)→ρ1.r x.1=ρ.r x.1:=fun x hm=>hb x.1 (by
        intro cO;exact UK _ j3 x.1 cO)
   exact VT this
 cases hh:holds gs ρ with
 |true=>
  simp only[if_true];rw[hh] at Gp;refine adK i1 hC aV hΦ ht xW Gp oL ρ2 hρ2 K Q (fun a' w' jx aL=>?_);exact hK a' w' (La (r:=r3) _ jx uC hρ3) aL
 |false=>
  simp only[vX,if_false];rw[hh] at Gp;cases gs with
  |nil=>simp[holds] at hh
  |cons g bI=>
   obtain⟨dst,S2,s,hd,hS,xM,hns,n1,n2,n3⟩:=adI oL;obtain⟨t1,t2⟩:=ht dst hd;have nm:post C r2.1 o=[]:=by
        unfold post;split
        ·rename_i x t e _;exact absurd e (n1 x)
        ·rename_i T t e _;exact absurd e (n2 T)
        ·rename_i T x v e;exact absurd e (n3 T x v)
        ·rfl
   rw[nm] at uC;simp only[lb,aS] at uC;subst uC;have:=mB hρ3;subst this;obtain⟨σ2,gC,i2⟩:∃σ2 gC,Inv C S2 ρ1 σ2 gC aQ w0 σ0 A a w:=by
        rcases xM with⟨js,rfl⟩|⟨j,rfl⟩
        ·obtain⟨σ2,gC,_,i2⟩:=Inv.fzs js i1;exact⟨σ2,gC,i2⟩
        ·exact⟨σ1,dj,i1.kill j⟩
   have BK:=i2.passed t1 t2 xW Gp (s:=s) hns (ρ'.r dst);have hρe:ρ1.setR dst (ρ'.r dst)=ρ':=by
        have hb:=PI.runs_but hρ2;simp only[FV,hd] at hc;unfold YY at hc;rw[db] at hc
        have e1:∀t,t≠dst→ρ'.r t=ρ1.r t:=fun t az=>hb.r t (fun hm=>by
         obtain⟨p,hp,rS⟩:=DY.1 hm;have:=hc p hp;simp only[aq] at this;have:=db.1 this.1 t rS;exact az (aw this).symm)
        have e2:∀t,ρ'.o t=ρ1.o t:=fun t=>hb.o t (fun hm=>by
         obtain⟨p,hp,rS⟩:=DY.1 hm;have:=hc p hp;simp only[aq] at this;have h9:=SU.1 this.2;rw[h9] at rS;cases rS)
        have r1:bT ρ1.r dst (ρ'.r dst)=ρ'.r:=by
         funext t;rw[eX];split
         ·rename_i e;subst e;rfl
         ·rename_i az;exact(e1 t az).symm
        have r2:ρ1.o=ρ'.o:=funext fun t=>(e2 t).symm;cases ρ' with|mk a b=>simp only[Env.setR] at r1 r2 ⊢;rw[r1,r2]
   rw[hρe] at BK;have jw:(fun u=>A u∨o.dst=some u)=(fun u=>A u∨u=dst):=by funext u;rw[hd];simp[eq_comm]
   rw[jw] at hK;rw[hd];refine hK _ _ ?_ (size_put _ _ _);simp only;rw[hS];exact⟨_,_,_,BK⟩
theorem adA (h:Good C w0 σ0 S ρ A a w)(hC:CtxOK C σ0)(aV:du C)(hΦ:cW C Φ){ops:Array Oper}{o:Oper}(ht:∀d,o.dst=some d→¬A d∧d<a.tmps.size)
 (hj:∀j want t,o.guard=some (j,want)→(ops[j]?).bind (·.dst)=some t→A t) {r:St×List PI} (hr:Ar C S ops o=some r) {ρ':Env} (aj:PI.runs Φ r.2 ρ=some ρ')
 {K:Act→World→Prop} {Q:Exit→Act→World→Prop} (hK:∀a' w',Good C w0 σ0 r.1 ρ' (fun u=>A u∨o.dst=some u) a' w'→a'.tmps.size=a.tmps.size→K a' w'):
 if Region.wanted o (yielded ops a.tmps) then o.wp C.P a w K Q else K (a.put o.dst undef) w:=by
 unfold Ar at hr;split at hr
 ·rename_i q hq;cases hr;exact ady h hC aV hΦ ht hj hq aj hK
 ·cases hr;simp[PI.runs,PI.run,DE,PE.ev,D.b_bool] at aj
end
end Cx
