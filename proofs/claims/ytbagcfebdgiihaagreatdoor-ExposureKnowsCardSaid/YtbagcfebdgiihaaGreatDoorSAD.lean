/-
  Shared texts of this claim.
-/
import Derived.Test.YtbagcfebdgiihaaGreatDoorSAC
set_option linter.unusedSimpArgs false
set_option linter.unusedVariables false
noncomputable section
namespace Cx
open Go Go.RowKit
open Classical in
def Im.noM (σ:Im):Im:=⟨σ.c,fun k=>if σ.m k=some cL then none else σ.m k⟩
theorem Rep.noM {cap:Nat→Option CSig}{σ:Im}{t:Ty}{v:Value}{d:D}(h:Rep cap σ t v d):Rep cap σ.noM t v d:=by
 induction h with
 |int k n h1 h2=>exact .int k n h1 h2
 |bool b=>exact .bool b
 |str s h=>exact .str s h
 |agg ts vs ds h1 h2 _ ho ih=>exact .agg ts vs ds h1 h2 ih ho
 |tup ts vs ds h1 h2 _ ih=>exact .tup ts vs ds h1 h2 ih
 |nil e=>exact .nil e
 |emp e a=>exact .emp e a
 |nils e=>exact .nils e
 |nsl0 e=>exact .nsl0 e
 |nsl e k o n c xs _ hx ih=>exact .nsl e k o n c xs ih hx
 |slice e k o n c xs vs hn hc hm _ hv ih=>exact .slice e k o n c xs vs hn hc hm ih hv
 |mapnil kt et=>exact .mapnil kt et
 |map kt et r ij es hm hl hx hk _ jn Co=>
  refine .map kt et r ij es ?_ hl hx jn Co;have az:σ.m r≠some cL:=fun e=>by rw[hm] at e;cases e;exact CC hl hk rfl
  simp only[Im.noM,if_neg az,hm]
 |ref t k o v d _ hv ih=>exact .ref t k o v d ih hv
 |fn f cs vs ds hc h1 h2 _ ih=>exact .fn f cs vs ds hc h1 h2 ih
 |fnnil aa r=>exact .fnnil aa r
def Im.plus (σ τ:Im):Im:=⟨fun k o=>(σ.c k o).or (τ.c k o),fun k=>(σ.m k).or (τ.m k)⟩
theorem Im.plus_le1 (σ τ:Im):σ.le (σ.plus τ):=⟨fun k o v h=>by simp[Im.plus,h],fun k v h=>by simp[Im.plus,h]⟩
theorem pD.det {w:World}{k:Nat}{x y:List (Value×Value)}(h:pD w k x)(g:pD w k y):x=y:=by
 rcases h with⟨_,a,c,h1,h2⟩|⟨h1,h2⟩<;>rcases g with⟨_,a',c',g1,g2⟩|⟨g1,g2⟩
 ·rw[h1] at g1;cases g1;rw[←h2,←g2]
 ·rw[h1] at g2;cases g2
 ·rw[h2] at g1;cases g1
 ·rw[h1,g1]
theorem Im.plus_le2 {σ τ:Im}{w:World}(h:σ.ok w)(g:τ.ok w):τ.le (σ.plus τ):=by
 refine⟨fun k o v e=>?_,fun k v e=>?_⟩
 ·show(σ.c k o).or (τ.c k o)=some v;cases hc:σ.c k o with
  |none=>simpa using e
  |some u=>have:=(h.c k o u hc).symm.trans (g.c k o v e);simpa using this
 ·show(σ.m k).or (τ.m k)=some v;cases hc:σ.m k with
  |none=>simpa using e
  |some u=>simpa using(h.m k u hc).det (g.m k v e)
theorem Im.plus_ok {σ τ:Im}{w:World}(h:σ.ok w)(g:τ.ok w):(σ.plus τ).ok w:=by
 refine⟨fun k o v e=>?_,fun k v e=>?_⟩
 ·change (σ.c k o).or (τ.c k o)=some v at e;cases hc:σ.c k o with
  |none=>rw[hc] at e;exact g.c k o v (by simpa using e)
  |some u=>rw[hc] at e;simp at e;subst e;exact h.c k o u hc
 ·change (σ.m k).or (τ.m k)=some v at e;cases hc:σ.m k with
  |none=>rw[hc] at e;exact g.m k v (by simpa using e)
  |some u=>rw[hc] at e;simp at e;subst e;exact h.m k u hc
theorem Im.plus_c {σ τ:Im}{k o:Nat}{v:Value}(h:(σ.plus τ).c k o=some v):σ.c k o=some v∨τ.c k o=some v:=by
 change (σ.c k o).or (τ.c k o)=some v at h;cases hc:σ.c k o with
 |none=>rw[hc] at h;exact .inr (by simpa using h)
 |some u=>rw[hc] at h;exact .inl (by simpa using h)
theorem Im.plus_m {σ τ:Im}{k:Nat}{v:List (Value×Value)}(h:(σ.plus τ).m k=some v):σ.m k=some v∨τ.m k=some v:=by
 change (σ.m k).or (τ.m k)=some v at h;cases hc:σ.m k with
 |none=>rw[hc] at h;exact .inr (by simpa using h)
 |some u=>rw[hc] at h;exact .inl (by simpa using h)
def Ty.pureT:Ty→Bool
 |.int _|.bool|.str|.nils _=>true
 |_=>false
def Ty.pure:Ty→Bool
 |.tup ts=>ts.all Ty.pureT
 |.agg ts=>ts.all Ty.pureT
 |t=>Ty.pureT t
theorem Rep.pureT {cap:Nat→Option CSig}{σ τ:Im}{t:Ty}{v:Value}{d:D}(h:Rep cap σ t v d)(hp:t.pureT=true):Rep cap τ t v d:=by
 cases h<;>simp[Ty.pureT] at hp<;>constructor<;>assumption
theorem Rep.pure {cap:Nat→Option CSig}{σ τ:Im}{t:Ty}{v:Value}{d:D}(h:Rep cap σ t v d)(hp:t.pure=true):Rep cap τ t v d:=by
 cases h with
 |agg ts vs ds h1 h2 h ho=>exact .agg ts vs ds h1 h2 (fun i t hi=>(h i t hi).pureT (df.1 hp t (jB hi))) ho
 |tup ts vs ds h1 h2 h=>exact .tup ts vs ds h1 h2 (fun i t hi=>(h i t hi).pureT (df.1 hp t (jB hi)))
 |int k n h1 h2=>exact .int k n h1 h2
 |bool b=>exact .bool b
 |str s h=>exact .str s h
 |nils e=>exact .nils e
 |_=>simp[Ty.pure,Ty.pureT] at hp
def nq (C:Ctx)(s:Sig)(σ':Im)(w w':World)(v:Value)(d:D):Prop:=
 match s.mode with
 |.dat=>Rep C.cap σ' s.res v d
 |.it _=>True
 |.ob ..=>True
 |.row T e=>∃cells xs,d=.list xs∧w'.ownsRow w.heap.size T e.size v xs.length cells∧dT C.cap σ' e cells xs∧∀k,v.ownBlock=some k→(∀o,σ'.c k o=none)∧σ'.m k=none
def na (C:Ctx)(σ:Im)(ts:List Ty)(args:List Value)(ds:List D):Prop:=
 args.length=ts.length∧ds.length=ts.length∧∀(i:Nat) (t:Ty),ts[i]?=some t→Rep C.cap σ t (args.getD i undef) (ds.getD i .none)
def j2 (C:Ctx)(f:Nat)(s:Sig)(ds:List D)(d:D):Prop:=
 ∀(σ:Im) (w:World) (args:Array Value),σ.ok w→CtxOK C σ→na C σ s.args args.toList ds→
  Calls C.P f args w fun e w'=>∃v σ',e=.returned v∧σ.le σ'∧σ'.ok w'∧Below w.heap.size w w'∧
   (∀k o x,σ'.c k o=some x→σ.c k o=some x∨w.heap.size≤k)∧(∀k x,σ'.m k=some x→σ.m k=some x∨w.heap.size≤k)∧nq C s σ' w w' v d
def dF:List (Nat×Ob)→Nat→Ob
 |[],_=>.dead
 |x::l,j=>bif Nat.beq x.1 j then x.2 else dF l j
def l0:List (Nat×Ob)→List D→Nat→D
 |x::l,d::ds,j=>bif Nat.beq x.1 j then d else l0 l ds j
 |_,_,_=>.none
def fa (shs:List Sh)(obs:List (Nat×Ob)):St:=⟨fun t=>shs.getD t .none,fun j=>dF obs j,fun _=>0⟩
def kU (obs:List (Nat×Ob))(ds os:List D):Env:=⟨fun t=>ds.getD t .none,fun j=>l0 obs os j⟩
def pC:Sh→Bool
 |.dat _=>true
 |_=>false
def pE:Mode→Bool
 |.ob ..=>true
 |_=>false
def rn:Sh→Bool
 |.none|.dat _|.obj ..|.ptr ..|.fclo ..=>true
 |_=>false
def HY:Ob→Bool
 |.row ..|.mp ..=>true
 |.box _ shs=>shs.all rn
 |_=>false
def vD (shs:List Sh)(obs:List (Nat×Ob)):Bool:=shs.all rn&&obs.all fun x=>HY x.2
def Hs:List Sh→List (Nat×Ob)→Option (TypeId×Ty×List Ty)
 |.obj 0 0::l,[(0,.row T e),(1,.tr)]=>(Uc l).map fun ts=>(T,e,ts)
 |_,_=>none
def wK (C:Ctx)(f:Nat)(T:TypeId)(e:Ty)(ts:List Ty)(ds:List D)(d:D):Prop:=
 ∀(N:Nat) (σ:Im) (w:World) (v:Value) (args:List Value) (xs:List D) (cells:List Value) (ds':List D),ds=.list xs::ds'→σ.ok w→CtxOK C σ→N≤w.heap.size→w.ownsRow N T e.size v xs.length cells→dT C.cap σ e cells xs→
  (∀k,v.ownBlock=some k→k<w.heap.size∧(∀o,σ.c k o=none)∧σ.m k=none)→na C σ ts args ds'→
  Calls C.P f (v::args).toArray w fun x w'=>∃v' fR dh,x=.returned v'∧d=.list fR∧Below N w w'∧(∀k,k<w.heap.size→v.ownBlock≠some k→w'.heap[k]?=w.heap[k]?)∧
   w'.ownsRow N T e.size v' fR.length dh∧dT C.cap σ e dh fR∧∀k,v'.ownBlock=some k→(v.ownBlock=some k∨w.heap.size≤k)∧k<w'.heap.size
def qf (C:Ctx)(f:Nat)(shs:List Sh)(obs:List (Nat×Ob))(res:Ty)(ds:List D)(d:D):Prop:=
 ∀(N:Nat) (σ:Im) (own:Nat→Option Nat) (hv:Nat→Value) (w:World) (args:Array Value) (cx:Nat→Prop),vD shs obs=true→σ.ok w→CtxOK C σ→(∀k,σ.m k≠some cL)→N≤w.heap.size→args.size=shs.length→
  (∀k j,own k=some j→N≤k∧k<w.heap.size∧(∀o,σ.c k o=none)∧σ.m k=none)→
  (∀k,cx k→k<w.heap.size∧own k=none∧(∀o,σ.c k o=none)∧σ.m k=none)→
  (∀t,aF C (fa shs obs) (kU obs ds (ds.drop shs.length)) σ hv (shs.getD t .none) (args.getD t undef) (ds.getD t .none))→
  (∀j,bW C (fa shs obs) (kU obs ds (ds.drop shs.length)) σ own hv w N j (dF obs j))→
  Calls C.P f args w fun e w'=>∃v σ' own' hv' dr os,e=.returned v∧d=.tup (dr::os)∧os.length=obs.length∧σ.le σ'∧σ'.ok w'∧Below 0 w w'∧
   (∀k,k<w.heap.size→own k=none→w'.heap[k]?=w.heap[k]?)∧
   (∀k o x,σ'.c k o=some x→(σ.c k o=some x∨N≤k)∧¬cx k)∧(∀k x,σ'.m k=some x→(σ.m k=some x∨N≤k)∧¬cx k)∧(∀k,σ'.m k=some cL→N≤k→k<w.heap.size→own k≠none)∧
   (∀k j,own' k=some j→N≤k∧k<w'.heap.size∧(∀o,σ'.c k o=none)∧σ'.m k=none∧(k<w.heap.size→own k≠none))∧
   (∀(t:Nat) (sh:Sh),shs[t]?=some sh→pC sh=false→aF C (fa shs obs) (kU obs ds os) σ' hv' sh (args.getD t undef) (ds.getD t .none))∧
   (∀j,bW C (fa shs obs) (kU obs ds os) σ' own' hv' w' N j (dF obs j))∧Rep C.cap σ' res v dr
theorem aF.ctx {C C':Ctx}(eE:C'.cap=C.cap){S:St}{ρ:Env}{σ:Im}{hv:Nat→Value}{s:Sh}(hp:rn s=true){v:Value}{d:D}(h:aF C S ρ σ hv s v d):aF C' S ρ σ hv s v d:=by
 cases s with
 |dat t=>show Rep C'.cap σ t v d;rw[eE];exact h
 |opt gs s=>cases hp
 |eptr j ver a b=>cases hp
 |yv=>cases hp
 |agg l=>cases hp
 |_=>exact h
theorem bW.ctx {C C':Ctx}(eE:C'.cap=C.cap){S:St}{ρ:Env}{σ:Im}{own:Nat→Option Nat}{hv:Nat→Value}{w:World}{N j:Nat}{ob:Ob}(hp:HY ob=true∨ob=.dead)(h:bW C S ρ σ own hv w N j ob):bW C' S ρ σ own hv w N j ob:=by
 rcases hp with hp|rfl
 ·cases ob with
  |row T e=>obtain⟨cells,xs,h1,h2,h3,h4⟩:=h;exact⟨cells,xs,h1,h2,by rw[eE];exact h3,h4⟩
  |mp kt et=>obtain⟨k,arr,clock,es,h1,h2,h3,h4,h5,h6,h7⟩:=h;exact⟨k,arr,clock,es,h1,h2,h3,h4,h5,h6,by rw[eE];exact h7⟩
  |box ag shs=>
   obtain⟨k,cs,T,ds,h1,h2,h3,h4,h5,h6,h7⟩:=h;exact⟨k,cs,T,ds,h1,h2,h3,h4,h5,h6,fun i s hs=>⟨(h7 i s hs).1,(h7 i s hs).2.ctx eE (df.1 hp s (jB hs))⟩⟩
  |_=>cases hp
 ·trivial
theorem W5 {obs:List (Nat×Ob)}(h:(obs.all fun x=>HY x.2)=true)(j:Nat):HY (dF obs j)=true∨dF obs j=.dead:=by
 induction obs with
 |nil=>exact .inr rfl
 |cons x l ih=>
  simp only[oG,aq] at h;simp only[dF];cases hb:Nat.beq x.1 j
  ·exact ih h.2
  ·exact .inl h.1
theorem qf.ctx {C C':Ctx}{f:Nat}{shs:List Sh}{obs:List (Nat×Ob)}{res:Ty}{ds:List D}{d:D}(h:qf C f shs obs res ds d)(hP:C'.P=C.P)(eE:C'.cap=C.cap)(sw:C'.glob=C.glob):qf C' f shs obs res ds d:=by
 intro N σ own hv w args cx hp au hC bm hN aN bt fV h1 h2;have aS:=hp;simp only[vD,aq] at aS;have q5:∀t s,shs[t]?=some s→rn s=true:=fun t s hs=>df.1 aS.1 s (jB hs);have hC':CtxOK C σ:=⟨fun g x hx=>by have:=hC.glob g x (by rw[sw];exact hx);rwa [eE] at this⟩
 have:=h N σ own hv w args cx hp au hC' bm hN aN bt fV (fun t=>by
  cases hs:shs[t]? with
  |none=>rw[aI,hs];trivial
  |some s=>have:=h1 t;rw[aI,hs] at this ⊢;exact this.ctx eE.symm (q5 t s hs)) (fun j=>(h2 j).ctx eE.symm (W5 aS.2 j))
 rw[hP];refine this.mono fun e w' hh=>?_;obtain⟨v,σ',own',hv',dr,os,g1,g2,g3,g4,g5,g6,g7,g8,g9,g10,g11,g12,g13,g14⟩:=hh;exact⟨v,σ',own',hv',dr,os,g1,g2,g3,g4,g5,g6,g7,g8,g9,g10,g11,fun t sh hs hd=>(g12 t sh hs hd).ctx eE (q5 t sh hs),fun j=>(g13 j).ctx eE (W5 aS.2 j),by rw[eE];exact g14⟩
theorem dT.cap {c c':Nat→Option CSig}(hc:c'=c){σ:Im}{e:Ty}{cells:List Value}{xs:List D}(h:dT c σ e cells xs):dT c' σ e cells xs:=hc▸h
theorem wK.ctx {C C':Ctx}{f:Nat}{T:TypeId}{e:Ty}{ts:List Ty}{ds:List D}{d:D}(h:wK C f T e ts ds d)(hP:C'.P=C.P)(eE:C'.cap=C.cap)(sw:C'.glob=C.glob):wK C' f T e ts ds d:=by
 intro N σ w v args xs cells ds' h1 h2 h3 h4 h5 h6 h7 h8;rw[hP];refine(h N σ w v args xs cells ds' h1 h2 ⟨fun g x hx=>by have:=h3.glob g x (by rw[sw];exact hx);rwa [eE] at this⟩ h4 h5 (h6.cap eE.symm) h7 ⟨h8.1,h8.2.1,fun i t hi=>by have:=h8.2.2 i t hi;rwa [eE] at this⟩).mono fun x w' hh=>?_;obtain⟨v',fR,dh,g1,g2,g3,g4,g5,g6,g7⟩:=hh;exact⟨v',fR,dh,g1,g2,g3,g4,g5,g6.cap eE,g7⟩
def eM (C:Ctx)(f:Nat)(shs:List Sh)(obs:List (Nat×Ob))(res:Ty)(ds:List D)(d:D):Prop:=
 match Hs shs obs with
 |some m=>wK C f m.1 m.2.1 m.2.2 ds d
 |none=>qf C f shs obs res ds d
theorem eM.ctx {C C':Ctx}{f:Nat}{shs:List Sh}{obs:List (Nat×Ob)}{res:Ty}{ds:List D}{d:D}(h:eM C f shs obs res ds d)(hP:C'.P=C.P)(eE:C'.cap=C.cap)(sw:C'.glob=C.glob):eM C' f shs obs res ds d:=by
 unfold eM at h ⊢;split at h
 ·exact wK.ctx h hP eE sw
 ·exact qf.ctx h hP eE sw
theorem XD {shs:List Sh}{obs:List (Nat×Ob)}(h:∀x,x∈obs→x.2≠.tr):Hs shs obs=none:=by
 unfold Hs;split
 ·exact absurd rfl (h (1,.tr) (by simp))
 ·rfl
theorem eM.of {C:Ctx}{f:Nat}{shs:List Sh}{obs:List (Nat×Ob)}{res:Ty}{ds:List D}{d:D}(ht:∀x,x∈obs→x.2≠.tr)(h:qf C f shs obs res ds d):eM C f shs obs res ds d:=by
 unfold eM;rw[XD ht];exact h
theorem eM.plain {C:Ctx}{f:Nat}{shs:List Sh}{obs:List (Nat×Ob)}{res:Ty}{ds:List D}{d:D}(hp:vD shs obs=true)(h:eM C f shs obs res ds d):qf C f shs obs res ds d:=by
 unfold eM at h;rw[XD fun x hx e=>?_] at h
 ·exact h
 ·simp only[vD,aq] at hp;have:=df.1 hp.2 x hx;rw[e] at this;cases this
def cY (C:Ctx)(Φ:aJ):Prop:=∀f ds d,Φ f ds=some d→∀s,C.sig f=some s→(pE s.mode=false→j2 C f s ds d)∧∀shs obs,s.mode=.ob shs obs→eM C f shs obs s.res ds d
def lW:List Ty→Ty→Option (List Ty)
 |[.fn ys .bool],.tup []=>some ys
 |_,_=>none
def dy (C:Ctx):Prop:=(∀f cs,C.cap f=some cs→lW cs.args cs.res=none→C.sig f=some ⟨cs.args++cs.caps,cs.res,.dat⟩)∧∀f s,C.sig f=some s→∃fn,C.P.funcs[f]?=some fn∧fn.body.isSome=true∧(fn.name== "runtime.NumGoroutine")=false
def Ep (S:St):List AgC→List Nat
 |[]=>[]
 |.obj j ver::l=>bif Nat.beq ver (S.ver j)&&kS (S.o j) then j::Ep S l else Ep S l
 |_::l=>Ep S l
def dA (S:St)(gs:List (Nat×Bool)):List Operand→List Nat
 |[]=>[]
 |x::xs=>
  match gM S gs x with
  |.obj j ver=>bif Nat.beq ver (S.ver j)&&kS (S.o j) then j::dA S gs xs else dA S gs xs
  |.agg l=>Ep S l++dA S gs xs
  |_=>dA S gs xs
def qN (gs:List (Nat×Bool))(s:Sh):Sh:=
 match gs with
 |[]=>s
 |_=>.opt gs s
def St.fzs (S:St)(js:List Nat):St:=js.foldl St.fz S
def xQ (C:Ctx)(S:St)(gs:List (Nat×Bool))(dst:Nat)(f:Nat)(args:List Operand):Option (St×Sh×List PI):=
 (C.sig f).bind fun s=>
    match s.mode with
    |.dat=>
     (oD C (S.fzs (dA S gs args)) gs args).bind fun u=>
       bif Ty.subs u.1 s.args then some (bif s.res.pure then S else S.fzs (dA S gs args),.dat s.res,[.call gs dst f u.2]) else Option.none
    |_=>Option.none
def AX (C:Ctx)(S:St)(dst:Nat)(f:Nat)(args:List Operand):j1:=
 (C.sig f).bind fun s=>
    match s.mode with
    |.row T e=>
     (oD C (S.fzs (dA S [] args)) [] args).bind fun u=>
       bif Ty.subs u.1 s.args then some (mkObj (bif e.pure then S else S.fzs (dA S [] args)) dst (.row T e),[.call [] dst f u.2,.setO dst (.r dst),.setR dst (.con .none)]) else Option.none
    |_=>Option.none
def AW (C:Ctx)(S:St)(dst:Nat)(f:Nat)(args:List Operand):j1:=
 (C.sig f).bind fun s=>
    match s.mode,args with
    |.ob shs obs,x::xs=>
     match Hs shs obs,gM S [] x with
     |some m,.obj j ver=>
      match S.o j with
      |.row T e=>
       bif Nat.beq ver (S.ver j)&&(Nat.beq T m.1&&Ty.beq e m.2.1) then
            (oD C S [] xs).bind fun u=>
             bif Ty.subs u.1 m.2.2 then some ((S.newO j (.row T e)).setR dst (.obj j (S.ver j+1)),[.call [] dst f (.o j::u.2),.setO j (.r dst),.setR dst (.con .none)]) else Option.none
       else Option.none
      |_=>Option.none
     |_,_=>Option.none
    |_,_=>Option.none
def uz (C:Ctx)(S:St)(gs:List (Nat×Bool))(dst:Nat)(x:Operand)(args:List Operand):Option (St×Sh×List PI):=
 match use C S gs x with
 |some (.fn aa r,e)=>
  match lW aa r with
  |some _=>Option.none
  |Option.none=>
  (oD C (S.fzs (dA S gs args)) gs args).bind fun u=>
    bif Ty.subs u.1 aa then some (bif r.pure then S else S.fzs (dA S gs args),.dat r,[.callc gs dst e u.2]) else Option.none
 |_=>Option.none
theorem pj:∀(js:List Nat) (S:St),(S.fzs js).ver=S.ver∧(S.fzs js).r=S.r
 |[],S=>⟨rfl,rfl⟩
 |j::js,S=>by
  obtain⟨h1,h2⟩:=pj js (S.fz j);obtain⟨k1,k2⟩:=F7 S j;exact⟨h1.trans k1,h2.trans k2⟩
section
variable {C:Ctx} {S:St} {ρ:Env} {σ:Im} {own:Nat→Option Nat} {hv:Nat→Value} {w0:World} {σ0:Base} {A:Nat→Prop} {a:Act} {w:World} {gs:List (Nat×Bool)} {Φ:aJ} {dst:Nat}
theorem Inv.fzs:∀(js:List Nat) {S:St} {σ:Im} {own:Nat→Option Nat},Inv C S ρ σ own hv w0 σ0 A a w→∃σ' own',σ.le σ'∧Inv C (S.fzs js) ρ σ' own' hv w0 σ0 A a w
 |[],S,σ,own,h=>⟨σ,own,.refl σ,h⟩
 |j::js,S,σ,own,h=>by
  obtain⟨σ1,dq,hle,h1⟩:=h.fz j;obtain⟨σ2,gJ,kO,h2⟩:=Inv.fzs js h1;exact⟨σ2,gJ,hle.trans kO,h2⟩
theorem Inv.world (h:Inv C S ρ σ own hv w0 σ0 A a w){σ':Im}{w':World}(hle:σ.le σ')(au:σ'.ok w')(hb:Below w.heap.size w w')(dz:∀k o x,σ'.c k o=some x→σ.c k o=some x∨w.heap.size≤k)
 (cR:∀k x,σ'.m k=some x→σ.m k=some x∨w.heap.size≤k):Inv C S ρ σ' own hv w0 σ0 A a w':=by
 have aN:=h.below.size;refine h.step (fun _=>False) rfl hle au (fun k o x hx=>(dz k o x hx).imp id (fun e=>⟨by omega,.inr e⟩)) (fun k x hx=>(cR k x hx).imp id (fun e=>⟨by omega,.inr e⟩)) (hb.mono aN) (.refl S hv) (fun j _=>⟨rfl,rfl,rfl,fun k hk=>⟨hk,hb.block k (h.owns k j hk).2.1⟩⟩) (fun _ hf=>hf.elim) (fun k j hk=>?_) (fun _=>id) (fun t=>.inl ⟨rfl,rfl,rfl⟩) (fun _ _=>rfl) (fun k hk _=>hb.block k hk) (fun k i hk=>.inl ⟨i,hk⟩) (fun _ hf=>hf.elim);obtain⟨g1,g2,g3,g4⟩:=h.owns k j hk;refine⟨g1,by have:=hb.size;omega,fun o=>?_,?_⟩
 ·cases hc:σ'.c k o with
  |none=>rfl
  |some x=>rcases dz k o x hc with e|e
           ·rw[g3 o] at e;cases e
           ·omega
 ·cases hc:σ'.m k with
  |none=>rfl
  |some x=>rcases cR k x hc with e|e
           ·rw[g4] at e;cases e
           ·omega
theorem CtxOK.mono {C:Ctx}{σ σ':Im}(h:CtxOK C σ)(hle:σ.le σ'):CtxOK C σ':=⟨fun g x hx=>(h.glob g x hx).mono hle⟩
theorem D2 (h:Inv C S ρ σ own hv w0 σ0 A a w)(hC:CtxOK C σ0)(hg:holds gs ρ=true){xs:List Operand}{u:List Ty×List PE}{ts:List Ty}(hu:oD C S gs xs=some u)(hs:Ty.subs u.1 ts=true):na C σ ts (xs.map a.eval) (PE.evs ρ u.2):=by
 obtain⟨l1,l2,aR⟩:=abj h hC hg _ _ hu;have hl:=Ty.subs_len _ _ hs;refine⟨by rw[eN];omega,by rw[PE.evs_eq,eN];omega,fun i t hi=>?_⟩;obtain⟨s,jM,cS⟩:=Ty.subs_get _ _ hs i t hi;exact(aR i s jM).sub cS
theorem I0 {o:Oper}{f:Nat}{args:Array Operand}{ts:Array TypeId}(aW:dy C){s:Sig}(hs:C.sig f=some s)(ho:o.op=.call {callee:=.value (.func f),args:=args,argTypes:=ts}):
 (execOp a.eval o).run C.P w=.ok (.enter f (args.map a.eval)) w:=by
 obtain⟨fn,h1,h2,h3⟩:=aW.2 f s hs;obtain⟨bd,j7⟩:=Tb.1 h2;have h4:¬fn.name= "runtime.NumGoroutine" :=by simpa using h3
 simp[execOp,ho,resolve,Act.eval,Deferred.ofValue,invoke,callFunc,h1,j7,h4]
theorem aaL {o:Oper}{x:Operand}{f:Nat}{vs:List Value}{args:Array Operand}{ts:Array TypeId}(aW:dy C){s:Sig}(hs:C.sig f=some s)(hx:a.eval x=.func (.func f) #[] vs.toArray)(ho:o.op=.call {callee:=.value x,args:=args,argTypes:=ts}):
 (execOp a.eval o).run C.P w=.ok (.enter f (args.map a.eval++vs.toArray)) w:=by
 obtain⟨fn,h1,h2,h3⟩:=aW.2 f s hs;obtain⟨bd,j7⟩:=Tb.1 h2;have h4:¬fn.name= "runtime.NumGoroutine" :=by simpa using h3
 simp[execOp,ho,resolve,hx,Deferred.ofValue,invoke,callFunc,h1,j7,h4]
theorem TO (h:Inv C S ρ σ own hv w0 σ0 A a w)(hC:CtxOK C σ0)(ht:¬A dst)(af:dst<a.tmps.size)(dC:∀g,g∈gs→A g.1)(hg:holds gs ρ=true){f:Nat}{s:Sig}{js:List Nat}{vals:List Value}{ds:List D}{d:D}(lP:s.mode=.dat)(hfn:j2 C f s ds d)
 (gB:∀σ1 dq,σ.le σ1→Inv C (S.fzs js) ρ σ1 dq hv w0 σ0 A a w→na C σ1 s.args vals ds) {K:Act→World→Prop} {Q:Exit→Act→World→Prop}
 (hK:∀a' w',Good C w0 σ0 ((bif s.res.pure then S else S.fzs js).setR dst (qN gs (.dat s.res))) (ρ.setR dst d) (fun u=>A u∨u=dst) a' w'→a'.tmps.size=a.tmps.size→K a' w'):
 Calls C.P f vals.toArray w (fun e jw=>match e with|.returned v=>K (a.put (some dst) v) jw|.panicked chain=>Q (.panic chain) a jw|.outgrown=>LetsOut Q):=by
 obtain⟨σ1,dq,kN,h1⟩:=Inv.fzs js h;have j9:=hfn σ1 w vals.toArray h1.ok (hC.mono h1.le) (by simpa using gB σ1 dq kN h1);refine j9.mono fun e w' hh=>?_;obtain⟨v,σ',rfl,hle,au,hb,dz,cR,kl⟩:=hh;simp only[nq,lP] at kl;refine hK _ _ ?_ (size_put _ _ _);have hh:holds gs (ρ.setR dst d)=true:=by rw[B0 (t:=dst) (d:=d) fun g hm e=>ht (by rw[←e];exact dC g hm)];exact hg
 have put:∀{S2:St} {σ2:Im} {gJ:Nat→Option Nat},Inv C S2 ρ σ2 gJ hv w0 σ0 A a w'→Rep C.cap σ2 s.res v d→Good C w0 σ0 (S2.setR dst (qN gs (.dat s.res))) (ρ.setR dst d) (fun u=>A u∨u=dst) (a.put (some dst) v) w':=by
  intro S2 σ2 gJ h2 hr;cases gs with
  |nil=>exact⟨_,_,_,h2.setReg ht (s:=.dat s.res) hr af (fun _ _ e=>by cases e)⟩
  |cons g bJ=>
   refine⟨_,_,_,h2.setReg ht (s:=.opt (g::bJ) (.dat s.res)) ⟨fun _=>hr,fun e=>absurd (hh.symm.trans e) (by decide)⟩ af (fun gs s e=>?_)⟩;cases e;exact⟨dC,fun _ _ e=>by cases e⟩
 cases hp:s.res.pure with
 |true=>
  simp only[cond_true];exact put (h.world (.refl σ) (h.ok.below hb) hb (fun _ _ _ hx=>.inl hx) (fun _ _ hx=>.inl hx)) (kl.pure hp)
 |false=>
  simp only[cond_false];exact put (h1.world hle au hb dz cR) kl
theorem EC {o:Oper}{f:Nat}{args:Array Value}{K:Act→World→Prop}{Q:Exit→Act→World→Prop}(hd:o.dst=some dst)(hx:(execOp a.eval o).run C.P w=.ok (.enter f args) w)
 (h:Calls C.P f args w (fun e jw=>match e with|.returned v=>K (a.put (some dst) v) jw|.panicked chain=>Q (.panic chain) a jw|.outgrown=>LetsOut Q)):o.wp C.P a w K Q:=by
 simp only[Oper.wp,hx,Oper.upon,hd];refine h.mono fun e jw hh=>?_;cases e<;>exact hh
theorem ael (h:Inv C S ρ σ own hv w0 σ0 A a w)(hC:CtxOK C σ0)(aW:dy C)(hΦ:cY C Φ)(ht:¬A dst)(af:dst<a.tmps.size)(dC:∀g,g∈gs→A g.1)(hg:holds gs ρ=true){f:Nat}{args:Array Operand}{ts:Array TypeId}{r:St×Sh×List PI}
 (hr:xQ C S gs dst f args.toList=some r) {o:Oper} (hd:o.dst=some dst) (ho:o.op=.call {callee:=.value (.func f),args:=args,argTypes:=ts}):bS C w0 σ0 Φ S ρ A a w o (r.1.setR dst (qN gs r.2.1),r.2.2):=by
 simp only[xQ,ar] at hr;obtain⟨s,hs,hr⟩:=hr;split at hr
 case h_2=>cases hr
 rename_i lP;simp only[ar] at hr;obtain⟨u,hu,hr⟩:=hr;cases bT:Ty.subs u.1 s.args<;>simp only[bT,cond_true,cond_false] at hr
 ·cases hr
 cases hr;intro ρ' aj K Q hK;simp only[PI.runs,PI.run,hg,cond_true,ar,ax] at aj;obtain⟨ρ1,⟨d,bf,rfl⟩,aj⟩:=aj;cases aj;have hfn:=(hΦ f _ d bf s hs).1 (by rw[lP];rfl);refine EC hd (I0 aW hs ho) ?_;have jO:args.map a.eval=(args.toList.map a.eval).toArray:=by apply tN;rw[wE]
 rw[jO];have jJ:(fun u=>A u∨o.dst=some u)=(fun u=>A u∨u=dst):=by funext u;rw[hd];simp[eq_comm]
 rw[jJ] at hK;exact TO h hC ht af dC hg (js:=dA S gs args.toList) lP hfn (fun σ1 dq _ h1=>D2 h1 hC hg hu bT) hK
theorem aef (h:Inv C S ρ σ own hv w0 σ0 A a w)(hC:CtxOK C σ0)(aW:dy C)(hΦ:cY C Φ)(ht:¬A dst)(af:dst<a.tmps.size)(dC:∀g,g∈gs→A g.1)(hg:holds gs ρ=true){x:Operand}{args:Array Operand}{ts:Array TypeId}{r:St×Sh×List PI}
 (hr:uz C S gs dst x args.toList=some r) {o:Oper} (hd:o.dst=some dst) (ho:o.op=.call {callee:=.value x,args:=args,argTypes:=ts}):bS C w0 σ0 Φ S ρ A a w o (r.1.setR dst (qN gs r.2.1),r.2.2):=by
 unfold uz at hr;split at hr
 case h_2=>cases hr
 rename_i aa r0 e Wg;split at hr
 case h_1=>cases hr
 rename_i LV;simp only[ar] at hr;obtain⟨u,hu,hr⟩:=hr;cases bT:Ty.subs u.1 aa<;>simp only[bT,cond_true,cond_false] at hr
 ·cases hr
 cases hr;have hx:=bZ h hC hg Wg;intro ρ' aj K Q hK;simp only[PI.runs,PI.run,hg,cond_true,ar] at aj;obtain⟨ρ1,sF,aj⟩:=aj;cases aj;split at sF
 case h_2=>cases sF
 rename_i f caps bK;simp only[ax] at sF;obtain⟨d,bf,rfl⟩:=sF;rw[bK] at hx;generalize fl:a.eval x=xv at hx;generalize aV:Ty.fn aa r0=ty at hx;cases hx with
 |fn f cs vs ds hc h1 h2 aR=>
  cases aV;have hs:=aW.1 f cs hc LV;have hfn:=(hΦ f _ d bf _ hs).1 rfl;refine EC hd (aaL aW hs fl ho) ?_;have jO:args.map a.eval++vs.toArray=(args.toList.map a.eval++vs).toArray:=by apply tN;simp
  rw[jO];have jJ:(fun u=>A u∨o.dst=some u)=(fun u=>A u∨u=dst):=by funext u;rw[hd];simp[eq_comm]
  rw[jJ] at hK;refine TO h hC ht af dC hg (js:=dA S gs args.toList) (s:=⟨cs.args++cs.caps,cs.res,.dat⟩) rfl hfn (fun σ1 dq kN i1=>?_) hK;obtain⟨g1,g2,g3⟩:=D2 i1 hC hg hu bT;refine⟨by simp only[lu,g1,h1],by simp only[lu,g2,h2],fun i t hi=>?_⟩;rw[kD] at hi;split at hi
  ·rename_i af;have:=g3 i t hi;rw[aI,aI,mi (by omega),mi (by omega)];simpa [aI] using this
  ·rename_i gk;have:=(aR _ t hi).mono kN;rw[aI,aI,mj (by omega),mj (by omega),g1,g2];simpa [aI] using this
theorem aej (h:Inv C S ρ σ own hv w0 σ0 A a w)(hC:CtxOK C σ0)(aW:dy C)(hΦ:cY C Φ)(ht:¬A dst)(af:dst<a.tmps.size){f:Nat}{args:Array Operand}{ts:Array TypeId}{r:St×List PI}
 (hr:AX C S dst f args.toList=some r) {o:Oper} (hd:o.dst=some dst) (ho:o.op=.call {callee:=.value (.func f),args:=args,argTypes:=ts}):bS C w0 σ0 Φ S ρ A a w o r:=by
 simp only[AX,ar] at hr;obtain⟨s,hs,hr⟩:=hr;split at hr
 case h_2=>cases hr
 rename_i T e lP;simp only[ar] at hr;obtain⟨u,hu,hr⟩:=hr;cases bT:Ty.subs u.1 s.args<;>simp only[bT,cond_true,cond_false] at hr
 ·cases hr
 cases hr;intro ρ' aj K Q hK;have LS:holds ([]:List (Nat×Bool)) ρ=true:=rfl;simp only[PI.runs,PI.run,LS,cond_true,ar,ax] at aj;obtain⟨ρ1,⟨d,bf,rfl⟩,ρ2,g2,ρ3,g3,g4⟩:=aj;cases g2;cases g3;cases g4;have hfn:=(hΦ f _ d bf s hs).1 (by rw[lP];rfl);obtain⟨σ1,dq,kN,h1⟩:=Inv.fzs (dA S [] args.toList) h;have jO:args.map a.eval=(args.toList.map a.eval).toArray:=by apply tN;rw[wE]
 refine EC hd (I0 aW hs ho) ?_;rw[jO];have j9:=hfn σ1 w (args.toList.map a.eval).toArray h1.ok (hC.mono h1.le) (by simpa using D2 h1 hC rfl hu bT);refine j9.mono fun e' w' hh=>?_;obtain⟨v,σ',rfl,hle,au,hb,dz,cR,kl⟩:=hh;simp only[nq,lP] at kl;obtain⟨cells,xs,rfl,bt,fI,lM⟩:=kl;refine hK _ _ ?_ (size_put _ _ _);have jJ:(fun u=>A u∨o.dst=some u)=(fun u=>A u∨u=dst):=by funext u;rw[hd];simp[eq_comm]
 rw[jJ];have main:∀{S2:St} {σ1 σ2:Im} {gJ:Nat→Option Nat},Inv C S2 ρ σ1 gJ hv w0 σ0 A a w→σ1.le σ2→σ2.ok w'→(∀k o x,σ2.c k o=some x→σ1.c k o=some x∨w.heap.size≤k)→(∀k x,σ2.m k=some x→σ1.m k=some x∨w.heap.size≤k)→dT C.cap σ2 e cells xs→(∀k,v.ownBlock=some k→(∀o,σ2.c k o=none)∧σ2.m k=none)→
  Good C w0 σ0 (mkObj S2 dst (.row T e)) ((ρ.setO dst (.list xs)).setR dst .none) (fun u=>A u∨u=dst) (a.put (some dst) v) w':=by
  intro S2 σ1 σ2 gJ h2 kO Mg aio ais ahE ahJ;have aN:=h1.below.size
  have kg:=h2.newOσ dst (.row T e) (.list xs) v (fun k=>decide (v.ownBlock=some k)) kO Mg aio ais hb (fun k hk=>bt.lt k (by simpa using hk)) (fun k hk=>ahJ k (by simpa using hk)) ⟨cells,xs,by simp[Env.setO,aL],by
        rw[aL];refine⟨bt.1,?_⟩;rcases bt.2 with e1|⟨g,cap,cur,e1,e2,e3⟩
        ·exact .inl e1
        ·exact .inr ⟨g,cap,cur,e1,by omega,e3⟩,ahE,fun k hk=>by rw[aL] at hk;simp[fb,hk]⟩
  have V4:=kg.setObj ht (j:=dst) (v:=v) (aL _ _ _) af;have e:(S2.newO dst (.row T e)).ver dst=S2.ver dst+1:=aL _ _ _;rw[e] at V4;exact⟨_,_,_,V4⟩
 have eρ:((ρ.setR dst (.list xs)).setO dst ((PE.r dst).ev (ρ.setR dst (.list xs)))).setR dst ((PE.con D.none).ev ((ρ.setR dst (.list xs)).setO dst ((PE.r dst).ev (ρ.setR dst (.list xs)))))=(ρ.setO dst (.list xs)).setR dst .none:=by
  have:∀d1 d2:D,bV (bV ρ.r dst d1) dst d2=bV ρ.r dst d2:=by
   intro d1 d2;funext i;simp only[fg];split<;>rfl
  simp[Env.setR,Env.setO,PE.ev,aL,this]
 show Good C w0 σ0 _ _ _ _ _;rw[eρ];cases hp:e.pure with
 |true=>
  simp only[cond_true];refine main h (.refl σ) (h.ok.below hb) (fun _ _ _ hx=>.inl hx) (fun _ _ hx=>.inl hx) ?_ (fun k hk=>?_)
  ·obtain⟨vs,k1,k2⟩:=fI;exact⟨vs,fun i x hx=>(k1 i x hx).pure hp,k2⟩
  ·obtain⟨f1,f2⟩:=lM k hk;refine⟨fun o=>?_,?_⟩
   ·cases hc:σ.c k o with
    |none=>rfl
    |some x=>have:=hle.c _ _ _ (kN.c _ _ _ hc);rw[f1 o] at this;cases this
   ·cases hc:σ.m k with
    |none=>rfl
    |some x=>have:=hle.m _ _ (kN.m _ _ hc);rw[f2] at this;cases this
 |false=>
  simp only[cond_false];exact main h1 hle au dz cR fI lM
theorem aeh (h:Inv C S ρ σ own hv w0 σ0 A a w)(hC:CtxOK C σ0)(aW:dy C)(hΦ:cY C Φ)(ht:¬A dst)(af:dst<a.tmps.size){f:Nat}{args:Array Operand}{ts:Array TypeId}{r:St×List PI}
 (hr:AW C S dst f args.toList=some r) {o:Oper} (hd:o.dst=some dst) (ho:o.op=.call {callee:=.value (.func f),args:=args,argTypes:=ts}):bS C w0 σ0 Φ S ρ A a w o r:=by
 simp only[AW,ar] at hr;obtain⟨s,hs,hr⟩:=hr;split at hr
 case h_2=>cases hr
 rename_i shs obs x xs lP gB;split at hr
 case h_2=>cases hr
 rename_i m j ver kc mI;split at hr
 case h_2=>cases hr
 rename_i T e eo;cases hb:(Nat.beq ver (S.ver j)&&(Nat.beq T m.1&&Ty.beq e m.2.1))<;>simp only[hb,cond_true,cond_false] at hr
 ·cases hr
 simp only[aq] at hb;have dv:=aw hb.1;have hT:=aw hb.2.1;have he:=Ty.beq_eq _ _ hb.2.2;simp only[ar] at hr;obtain⟨u,hu,hr⟩:=hr;cases bT:Ty.subs u.1 m.2.2<;>simp only[bT,cond_true,cond_false] at hr
 ·cases hr
 cases hr;intro ρ' aj K Q hK;have LS:holds ([]:List (Nat×Bool)) ρ=true:=rfl;simp only[PI.runs,PI.run,LS,cond_true,ar,ax] at aj;obtain⟨ρ1,⟨d,bf,rfl⟩,ρ2,g2,ρ3,g3,g4⟩:=aj;cases g2;cases g3;cases g4;have hfn:=(hΦ f _ d bf s hs).2 shs obs lP;unfold eM at hfn;rw[kc] at hfn;simp only at hfn;rw[←hT,←he] at hfn;have cf:=(tB h (gs:=[]) rfl x).1;rw[mI] at cf;have cf:=cf.2 dv;have aX:=h.objs j;rw[eo] at aX;obtain⟨cells,ys,h1,h2,h3,h4⟩:=aX;have jO:args.map a.eval=(a.eval x::xs.map a.eval).toArray:=by apply tN;rw[wE,gB];rfl
 refine EC hd (I0 aW hs ho) ?_;rw[jO,cf];have aN:=h.below.size
 have j9:=hfn w0.heap.size σ w (hv j) (xs.map a.eval) ys cells (PE.evs ρ u.2) (by simp[PE.evs,PE.ev,h1]) h.ok (hC.mono h.le) aN h2 h3 (fun k hk=>by
  have:=h.owns k j (h4 k hk);exact this.2) (D2 h hC rfl hu bT)
 refine j9.mono fun e' w' hh=>?_;obtain⟨v',fR,dh,rfl,rfl,sm,BN,aiF,ahD,Bu⟩:=hh;refine hK _ _ ?_ (size_put _ _ _);have jJ:(fun u=>A u∨o.dst=some u)=(fun u=>A u∨u=dst):=by funext u;rw[hd];simp[eq_comm]
 rw[jJ]
 have MG:=h.updO j (.row T e) (.list fR) v' (fun k=>decide (v'.ownBlock=some k)) sm (fun k hk az=>BN k hk (fun e=>az (h4 k e))) (fun k hk=>by
  have bL:v'.ownBlock=some k:=by simpa using hk
  exact⟨(Bu k bL).1.imp (h4 k) id,(Bu k bL).2⟩)
  ⟨dh,fR,by simp[Env.setO,aL],by rw[aL];exact aiF,ahD,fun k hk=>by rw[aL] at hk;simp[fb,hk]⟩
 have h9:=MG.setObj ht (j:=j) (v:=v') (aL _ _ _) af;have e1:(S.newO j (.row T e)).ver j=S.ver j+1:=aL _ _ _;rw[e1] at h9;have eρ:((ρ.setR dst (.list fR)).setO j ((PE.r dst).ev (ρ.setR dst (.list fR)))).setR dst ((PE.con D.none).ev ((ρ.setR dst (.list fR)).setO j ((PE.r dst).ev (ρ.setR dst (.list fR)))))=(ρ.setO j (.list fR)).setR dst .none:=by
  have:∀d1 d2:D,bV (bV ρ.r dst d1) dst d2=bV ρ.r dst d2:=by
   intro d1 d2;funext i;simp only[fg];split<;>rfl
  simp[Env.setR,Env.setO,PE.ev,aL,this]
 show Good C w0 σ0 _ _ _ _ _;rw[eρ];exact⟨_,_,_,h9⟩
end
def gu:Nat:=1000000013
abbrev mg:=Sh×Option (Ty×PE)
def Eo (C:Ctx)(S:St)(x:Operand):mg:=(gM S [] x,use C S [] x)
def TQ (c:Nat×Nat):mg:=(.ptr c.1 c.2 0,none)
def cw:List Nat→List Nat→Nat→Option Nat
 |i::is,j::js,k=>bif Nat.beq i k then some j else cw is js k
 |_,_,_=>none
def ani:Sh→Sh→List (Nat×Nat)
 |.obj i _,.obj j _=>[(i,j)]
 |.ptr i _ _,.ptr j _ _=>[(i,j)]
 |.fclo _ a,.fclo _ b=>(a.zip b).map fun x=>(x.1.1,x.2.1)
 |_,_=>[]
def OB:List Sh→List Sh→List (Nat×Nat)
 |a::aa,b::bs=>ani a b++OB aa bs
 |_,_=>[]
def anh:Ob→Ob→List (Nat×Nat)
 |.box _ a,.box _ b=>OB a b
 |_,_=>[]
def W6:List (Nat×Nat)→Nat→Nat
 |[],_=>gu
 |x::l,i=>bif Nat.beq x.1 i then x.2 else W6 l i
def amm (S:St)(obs:List (Nat×Ob))(p:List (Nat×Nat)):List (Nat×Nat):=p++p.flatMap fun x=>anh (dF obs x.1) (S.o x.2)
def UG (S:St)(shs:List Sh)(obs:List (Nat×Ob))(acts:List mg):List Nat:=obs.map fun o=>W6 (amm S obs (OB shs (acts.map (·.1)))) o.1
section
variable (ver:Nat→Nat) (is js:List Nat)
def DI:List (Nat×Nat)→Option (List (Nat×Nat))
 |[]=>some []
 |x::l=>bif Nat.beq x.2 0 then(cw is js x.1).bind fun j=>(DI l).map fun r=>(j,ver j)::r else none
def jv:Sh→Option Sh
 |.dat t=>some (.dat t)
 |.none=>some .none
 |.obj i v=>bif Nat.beq v 0 then(cw is js i).map fun j=>.obj j (ver j) else none
 |.ptr i v off=>bif Nat.beq v 0 then(cw is js i).map fun j=>.ptr j (ver j) off else none
 |.fclo f caps=>(DI ver is js caps).map (.fclo f)
 |_=>none
def DJ:List Sh→Option (List Sh)
 |[]=>some []
 |s::l=>(jv ver is js s).bind fun a=>(DJ l).map (a::·)
def oz:Ob→Option Ob
 |.row T e=>some (.row T e)
 |.mp a b=>some (.mp a b)
 |.box ag shs=>(DJ ver is js shs).map (.box ag)
 |_=>none
end
def Be (c:Sh):Sh→Bool
 |.none=>true
 |.dat b=>match c with|.dat a=>Ty.sub a b|_=>false
 |x=>Sh.beq c x
def xZ:List Sh→List Sh→Bool
 |[],[]=>true
 |a::aa,b::bs=>Be a b&&xZ aa bs
 |_,_=>false
def xY:Ob→Ob→Bool
 |.box x a,.box y b=>(x==y)&&xZ a b
 |.row T a,.row U b=>Nat.beq T U&&Ty.beq a b
 |.mp a b,.mp c d=>Ty.beq a c&&Ty.beq b d
 |_,_=>false
def pg (S:St)(is js:List Nat):List (Nat×Ob)→List Nat→Bool
 |[],[]=>true
 |o::obs,j::jl=>(match oz S.ver is js o.2 with|some x=>xY (S.o j) x|none=>false)&&pg S is js obs jl
 |_,_=>false
def Bd (S:St)(is js:List Nat)(a:mg)(s:Sh):Option PE:=
 match s with
 |.dat t=>(match a.2 with|some x=>bif Ty.sub x.1 t then some x.2 else none|none=>none)
 |.none=>some (.con .none)
 |s=>(match jv S.ver is js s with|some x=>bif Sh.beq a.1 x then some (.con .none) else none|none=>none)
def se (S:St)(is js:List Nat):List mg→List Sh→Option (List PE)
 |[],[]=>some []
 |a::aa,s::ss=>(Bd S is js a s).bind fun e=>(se S is js aa ss).map (e::·)
 |_,_=>none
def nF:List Sh→List Nat
 |[]=>[]
 |.obj i _::l=>i::nF l
 |.ptr i _ _::l=>i::nF l
 |.fclo _ c::l=>c.map (·.1)++nF l
 |_::l=>nF l
def aC (l:List Nat)(x:Nat):Bool:=l.any (Nat.beq x)
def tL (ver:Nat→Nat)(shs:List Sh)(is js:List Nat):Nat→Nat:=fun j=>match cw js is j with|some i=>bif aC (nF shs) i then ver j else ver j+1|none=>ver j
def St.handed (S:St)(shs:List Sh)(obs:List (Nat×Ob))(is js:List Nat):St:=
 ⟨S.r,fun j=>match cw js is j with|some i=>(match oz (tL S.ver shs is js) is js (dF obs i) with|some o=>o|none=>.dead)|none=>S.o j,tL S.ver shs is js⟩
def x9 (S:St):List Operand→List Sh→List Nat
 |x::xs,s::ss=>(bif pC s then dA S [] [x] else[])++x9 S xs ss
 |_,_=>[]
def DR:List Nat→Nat→List PI
 |[],_=>[]
 |j::js,k=>.setO j (.tget (.o gu) k)::DR js (k+1)
def KS (S:St)(res:Ty)(f:Nat)(shs:List Sh)(obs:List (Nat×Ob))(acts:List mg)(is js:List Nat):Option (St×Ty×List PI):=
 (se S is js acts shs).bind fun es=>
    bif vD shs obs&&(iS is&&iS js&&pg S is js obs js&&mL (S.o gu)&& !aC js gu) then some (S.handed shs obs is js,res,.mcall gu f (es++js.map .o)::DR js 1) else none
def KT (C:Ctx)(S:St)(res:Ty)(f:Nat)(shs:List Sh)(obs:List (Nat×Ob))(acts:List mg):Option (St×Ty×List PI):=
 KS S res f shs obs acts (obs.map (·.1)) (UG S shs obs acts)
def oV (C:Ctx)(S:St)(f:Nat)(args:List Operand)(caps:List (Nat×Nat)):Option (St×Ty×List PI):=
 (C.sig f).bind fun s=>
    match s.mode with
    |.ob shs obs=>KT C (S.fzs (x9 S args shs)) s.res f shs obs (args.map (Eo C (S.fzs (x9 S args shs)))++caps.map TQ)
    |_=>none
theorem Ws {l:List Nat}{x:Nat}:aC l x=true↔x∈l:=by
 unfold aC;rw[zZ];exact⟨fun⟨y,hy,h⟩=>by rw[aw h];exact hy,fun h=>⟨x,h,jC x⟩⟩
theorem W0:∀{is js:List Nat} {i j:Nat},cw is js i=some j→∃k:Nat,is[k]?=some i∧js[k]?=some j
 |[],_,i,j,h=>by cases h
 |_::_,[],i,j,h=>by cases h
 |x::is,y::js,i,j,h=>by
  simp only[cw] at h;cases hb:Nat.beq x i<;>simp only[hb,cond_true,cond_false] at h
  ·obtain⟨k,h1,h2⟩:=W0 h;exact⟨k+1,h1,h2⟩
  ·cases h;exact⟨0,by rw[aw hb];rfl,rfl⟩
theorem Hh:∀{is js:List Nat} {i j k:Nat},is.Nodup→is[k]?=some i→js[k]?=some j→cw is js i=some j
 |[],_,i,j,k,_,h,_=>by simp at h
 |_::_,[],i,j,k,_,_,h=>by simp at h
 |x::is,y::js,i,j,k,hn,h1,h2=>by
  simp only[cw];cases k with
  |zero=>simp at h1 h2;subst h1 h2;rw[jC];rfl
  |succ k=>
   simp at h1 h2;have az:x≠i:=fun e=>by subst e;exact(nj.1 hn).1 (jB h1)
   rw[eQ az];exact Hh (nj.1 hn).2 h1 h2
theorem Hi {is js:List Nat}(h2:js.Nodup){i j:Nat}(h:cw is js i=some j):cw js is j=some i:=by
 obtain⟨k,g1,g2⟩:=W0 h;exact Hh h2 g2 g1
theorem aj8 (obs:List (Nat×Ob))(f:Nat→D):∀{is js:List Nat} {i j:Nat},is=obs.map (·.1)→cw is js i=some j→l0 obs (js.map f) i=f j:=by
 induction obs with
 |nil=>intro is js i j h1 h2;subst h1;cases h2
 |cons x l ih=>
  intro is js i j h1 h2;subst h1;cases js with
  |nil=>cases h2
  |cons y js=>
   simp only[eB,cw] at h2;simp only[eB,l0];cases hb:Nat.beq x.1 i<;>simp only[hb,cond_true,cond_false] at h2 ⊢
   ·exact ih rfl h2
   ·cases h2;rfl
theorem WW:∀{obs:List (Nat×Ob)} {js:List Nat} {os:List D} {i j:Nat},os.length=obs.length→cw (obs.map (·.1)) js i=some j→∃k:Nat,js[k]?=some j∧l0 obs os i=os.getD k .none
 |[],_,_,i,j,_,h=>by cases h
 |_::_,[],_,i,j,_,h=>by cases h
 |_::_,_::_,[],i,j,hl,h=>by simp at hl
 |x::obs,y::js,o::os,i,j,hl,h=>by
  simp only[eB,cw] at h;simp only[l0];cases hb:Nat.beq x.1 i<;>simp only[hb,cond_true,cond_false] at h ⊢
  ·obtain⟨k,h1,h2⟩:=WW (obs:=obs) (js:=js) (os:=os) (by simpa using hl) h;exact⟨k+1,h1,by simpa using h2⟩
  ·cases h;exact⟨0,rfl,rfl⟩
theorem W4:∀{obs:List (Nat×Ob)} {js:List Nat} {i:Nat},js.length=obs.length→cw (obs.map (·.1)) js i=none→dF obs i=.dead
 |[],_,i,_,_=>rfl
 |x::obs,[],i,hl,h=>by simp at hl
 |x::obs,y::js,i,hl,h=>by
  simp only[eB,cw] at h;simp only[dF];cases hb:Nat.beq x.1 i<;>simp only[hb,cond_true,cond_false] at h ⊢
  ·exact W4 (by simpa using hl) h
  ·cases h
theorem UL {S:St}{is js:List Nat}:∀{obs:List (Nat×Ob)} {jl:List Nat},pg S is js obs jl=true→jl.length=obs.length
 |[],[],_=>rfl
 |[],_::_,h=>by simp[pg] at h
 |_::_,[],h=>by simp[pg] at h
 |o::obs,j::jl,h=>by simp only[pg,aq] at h;simp[UL h.2]
theorem UK {S:St}{is js:List Nat}:∀{obs:List (Nat×Ob)} {jl:List Nat},pg S is js obs jl=true→∀{i j:Nat},cw (obs.map (·.1)) jl i=some j→∃x,oz S.ver is js (dF obs i)=some x∧xY (S.o j) x=true
 |[],_,_,i,j,h=>by cases h
 |_::_,[],_,i,j,h=>by cases h
 |o::obs,y::jl,hf,i,j,h=>by
  simp only[pg,aq] at hf;simp only[eB,cw] at h;simp only[dF];cases hb:Nat.beq o.1 i<;>simp only[hb,cond_true,cond_false] at h ⊢
  ·exact UK hf.2 h
  ·cases h;have h1:=hf.1;split at h1
   ·rename_i x hx;exact⟨x,hx,h1⟩
   ·cases h1
theorem UM:∀{a b:List Sh},xZ a b=true→a.length=b.length∧∀(i:Nat) (y:Sh),b[i]?=some y→∃x,a[i]?=some x∧Be x y=true
 |[],[],_=>⟨rfl,fun i y h=>by simp at h⟩
 |[],_::_,h=>by simp[xZ] at h
 |_::_,[],h=>by simp[xZ] at h
 |a::aa,b::bs,h=>by
  simp only[xZ,aq] at h;obtain⟨g1,g2⟩:=UM h.2;refine⟨by simp[g1],fun i y hy=>?_⟩;cases i with
  |zero=>simp at hy;subst hy;exact⟨a,rfl,h.1⟩
  |succ i=>simp at hy;simpa using g2 i y hy
theorem P2 {ver:Nat→Nat}{is js:List Nat}:∀{a b:List Sh},DJ ver is js a=some b→b.length=a.length∧∀(i:Nat) (x:Sh),a[i]?=some x→∃y,b[i]?=some y∧jv ver is js x=some y
 |[],b,h=>by simp only[DJ,aT] at h;subst h;exact⟨rfl,fun i x h=>by simp at h⟩
 |s::l,b,h=>by
  simp only[DJ,ar,ax] at h;obtain⟨y,hy,r,hr,rfl⟩:=h;obtain⟨g1,g2⟩:=P2 hr;refine⟨by simp[g1],fun i x hx=>?_⟩;cases i with
  |zero=>simp at hx;subst hx;exact⟨y,rfl,hy⟩
  |succ i=>simp at hx;simpa using g2 i x hx
theorem IV {ver:Nat→Nat}{is js:List Nat}:∀{a b:List (Nat×Nat)},DI ver is js a=some b→b.length=a.length∧∀(i x v:Nat),a[i]?=some (x,v)→∃j,b[i]?=some (j,ver j)∧cw is js x=some j∧v=0
 |[],b,h=>by simp only[DI,aT] at h;subst h;exact⟨rfl,fun i x v h=>by simp at h⟩
 |s::l,b,h=>by
  simp only[DI] at h;cases hb:Nat.beq s.2 0<;>simp only[hb,cond_true,cond_false] at h
  ·cases h
  simp only[ar,ax] at h;obtain⟨y,hy,r,hr,rfl⟩:=h;obtain⟨g1,g2⟩:=IV hr;refine⟨by simp[g1],fun i x v hx=>?_⟩;cases i with
  |zero=>simp at hx;subst hx;exact⟨y,rfl,hy,aw hb⟩
  |succ i=>simp at hx;simpa using g2 i x v hx
theorem P1 {ver:Nat→Nat}{is js:List Nat}{s x:Sh}(h:jv ver is js s=some x):(∀gs s',s≠.opt gs s')∧∀gs s',x≠.opt gs s':=by
 cases s<;>simp only[jv] at h
 case none=>cases h;exact⟨(fun _ _ e=>by cases e),(fun _ _ e=>by cases e)⟩
 case dat=>cases h;exact⟨(fun _ _ e=>by cases e),(fun _ _ e=>by cases e)⟩
 case obj i v=>
  cases hb:Nat.beq v 0<;>simp only[hb,cond_true,cond_false] at h
  ·cases h
  simp only[ax] at h;obtain⟨j,_,rfl⟩:=h;exact⟨(fun _ _ e=>by cases e),(fun _ _ e=>by cases e)⟩
 case ptr i v off=>
  cases hb:Nat.beq v 0<;>simp only[hb,cond_true,cond_false] at h
  ·cases h
  simp only[ax] at h;obtain⟨j,_,rfl⟩:=h;exact⟨(fun _ _ e=>by cases e),(fun _ _ e=>by cases e)⟩
 case fclo f caps=>
  simp only[ax] at h;obtain⟨j,_,rfl⟩:=h;exact⟨(fun _ _ e=>by cases e),(fun _ _ e=>by cases e)⟩
 all_goals cases h
section
variable {C:Ctx} {S S1:St} {ρ ρ1:Env} {σ σ1:Im} {own dq:Nat→Option Nat} {hv aQ:Nat→Value} {w0:World} {σ0:Base} {A:Nat→Prop} {a:Act} {w w1:World} {Φ:aJ} {dst:Nat}
 {is js:List Nat} {shs:List Sh} {obs:List (Nat×Ob)} {ρf:Env}
theorem aaA (hσ:Im.leR C.cap σ σ1){dY:Nat→Value}(eV:∀i j,cw is js i=some j→dY i=hv j){s x:Sh}(hr:jv S.ver is js s=some x){v:Value}{d:D}(h:aF C S ρ σ hv x v d):aF C (fa shs obs) ρf σ1 dY s v d:=by
 cases s<;>simp only[jv] at hr
 case none=>trivial
 case dat=>cases hr;exact hσ.rep h
 case obj i ver=>
  cases hb:Nat.beq ver 0<;>simp only[hb,cond_true,cond_false] at hr
  ·cases hr
  simp only[ax] at hr;obtain⟨j,hj,rfl⟩:=hr;exact⟨by rw[aw hb];exact np _,fun _=>by rw[eV i j hj];exact h.2 rfl⟩
 case ptr i ver off=>
  cases hb:Nat.beq ver 0<;>simp only[hb,cond_true,cond_false] at hr
  ·cases hr
  simp only[ax] at hr;obtain⟨j,hj,rfl⟩:=hr;exact⟨by rw[aw hb];exact np _,fun _=>by rw[eV i j hj];exact h.2 rfl⟩
 case fclo f caps=>
  simp only[ax] at hr;obtain⟨c,hc,rfl⟩:=hr;obtain⟨g1,g2⟩:=IV hc;obtain⟨vs,h1,h2,h3⟩:=h;refine⟨vs,h1,by omega,fun i x ver hi=>?_⟩;obtain⟨j,e1,e2,e3⟩:=g2 i x ver hi;exact⟨by rw[e3];exact np _,fun _=>by rw[eV x j e2];exact(h3 i j _ e1).2 rfl⟩
 all_goals cases hr
theorem aoA (hσ:σ.le σ1){dY:Nat→Value}(eV:∀i j,cw is js i=some j→dY i=aQ j){s x:Sh}(hr:jv S1.ver is js s=some x){v:Value}{d:D}(h:aF C (fa shs obs) ρf σ dY s v d):aF C S1 ρ1 σ1 aQ x v d:=by
 cases s<;>simp only[jv] at hr
 case none=>cases hr;trivial
 case dat=>cases hr;exact Rep.mono hσ h
 case obj i ver=>
  cases hb:Nat.beq ver 0<;>simp only[hb,cond_true,cond_false] at hr
  ·cases hr
  simp only[ax] at hr;obtain⟨j,hj,rfl⟩:=hr;exact⟨aU _,fun _=>by rw[←eV i j hj];exact h.2 (aw hb)⟩
 case ptr i ver off=>
  cases hb:Nat.beq ver 0<;>simp only[hb,cond_true,cond_false] at hr
  ·cases hr
  simp only[ax] at hr;obtain⟨j,hj,rfl⟩:=hr;exact⟨aU _,fun _=>by rw[←eV i j hj];exact h.2 (aw hb)⟩
 case fclo f caps=>
  simp only[ax] at hr;obtain⟨c,hc,rfl⟩:=hr;obtain⟨g1,g2⟩:=IV hc;obtain⟨vs,h1,h2,h3⟩:=h;refine⟨vs,h1,by omega,fun i j ver hi=>?_⟩;have af:i<caps.length:=by have:=(ed.1 hi).1;omega
  obtain⟨j',e1,e2,e3⟩:=g2 i _ _ (be af);rw[hi] at e1;cases e1;exact⟨aU _,fun _=>by rw[←eV _ j e2];exact(h3 i _ _ (be af)).2 e3⟩
 all_goals cases hr
theorem afu {c x:Sh}(hf:Be c x=true){v:Value}{d:D}(h:aF C S ρ σ hv c v d):aF C S ρ σ hv x v d:=by
 cases x with
 |none=>trivial
 |dat b=>
  simp only[Be] at hf;split at hf
  ·exact Rep.sub h hf
  ·cases hf
 |_=>simp only[Be] at hf;rw[Sh.beq_eq _ _ hf] at h;exact h
theorem amG (hσ:Im.leR C.cap σ σ1){dY:Nat→Value}{CL:Nat→Option Nat}(eV:∀i j,cw is js i=some j→dY i=hv j)(bt:∀k j i,own k=some j→cw js is j=some i→CL k=some i)(bm:js.Nodup){i j N:Nat}(db:cw is js i=some j)(hρ:ρf.o i=ρ.o j){ob x:Ob}
 (hr:oz S.ver is js ob=some x) (hf:xY (S.o j) x=true) (h:bW C S ρ σ own hv w N j (S.o j)):bW C (fa shs obs) ρf σ1 CL dY w N i ob:=by
 have iM:=Hi bm db;cases ob<;>simp only[oz] at hr
 case row T e=>
  cases hr;cases ho:S.o j<;>rw[ho] at hf h<;>simp only[xY,aq] at hf<;>try (cases hf;done)
  obtain⟨cells,xs,h1,h2,h3,h4⟩:=h;rw[aw hf.1,Ty.beq_eq _ _ hf.2] at*;exact⟨cells,xs,by rw[hρ];exact h1,by rw[eV i j db];exact h2,h3.monoR hσ,fun k hk=>bt k j i (h4 k (by rw[←eV i j db];exact hk)) iM⟩
 case mp kt et=>
  cases hr;cases ho:S.o j<;>rw[ho] at hf h<;>simp only[xY,aq] at hf<;>try (cases hf;done)
  obtain⟨k,arr,clock,es,h1,h2,h3,h4,h5,h6,h7⟩:=h;rw[Ty.beq_eq _ _ hf.1,Ty.beq_eq _ _ hf.2] at*;exact⟨k,arr,clock,es,by rw[eV i j db];exact h1,bt k j i h2 iM,h3,by rw[hρ];exact h4,h5,h6,fun n e p he hp=>⟨hσ.rep (h7 n e p he hp).1,hσ.rep (h7 n e p he hp).2⟩⟩
 case box ag cs=>
  simp only[ax] at hr;obtain⟨fE,da,rfl⟩:=hr;cases ho:S.o j<;>rw[ho] at hf h<;>simp only[xY,aq] at hf<;>try (cases hf;done)
  obtain⟨k,vs,T,ds,h1,h2,h3,h4,h5,h6,h7⟩:=h;obtain⟨l1,g1⟩:=UM hf.2;obtain⟨l2,g2⟩:=P2 da;refine⟨k,vs,T,ds,by rw[eV i j db];exact h1,bt k j i h2 iM,h3,by omega,by rw[hρ];exact h5,by omega,fun n s hs=>?_⟩;obtain⟨y,hy,Cc⟩:=g2 n s hs;obtain⟨z,hz,BI⟩:=g1 n y hy;exact⟨(P1 Cc).1,aaA hσ eV Cc (afu BI (h7 n z hz).2)⟩
 all_goals cases hr
theorem amH (hσ:σ.le σ1){dY:Nat→Value}{CL:Nat→Option Nat}(eV:∀i j,cw is js i=some j→dY i=aQ j)(bt:∀k i j,CL k=some i→cw is js i=some j→dq k=some j){i j N:Nat}(db:cw is js i=some j)(hρ:ρ1.o j=ρf.o i){ob x:Ob}
 (hr:oz S1.ver is js ob=some x) (h:bW C (fa shs obs) ρf σ CL dY w N i ob):bW C S1 ρ1 σ1 dq aQ w N j x:=by
 cases ob<;>simp only[oz] at hr
 case row T e=>
  cases hr;obtain⟨cells,xs,h1,h2,h3,h4⟩:=h;exact⟨cells,xs,by rw[hρ];exact h1,by rw[←eV i j db];exact h2,h3.mono hσ,fun k hk=>bt k i j (h4 k (by rw[eV i j db];exact hk)) db⟩
 case mp kt et=>
  cases hr;obtain⟨k,arr,clock,es,h1,h2,h3,h4,h5,h6,h7⟩:=h;exact⟨k,arr,clock,es,by rw[←eV i j db];exact h1,bt k i j h2 db,h3,by rw[hρ];exact h4,h5,h6,fun n e p he hp=>⟨(h7 n e p he hp).1.mono hσ,(h7 n e p he hp).2.mono hσ⟩⟩
 case box ag cs=>
  simp only[ax] at hr;obtain⟨fE,da,rfl⟩:=hr;obtain⟨k,vs,T,ds,h1,h2,h3,h4,h5,h6,h7⟩:=h;obtain⟨l2,g2⟩:=P2 da;refine⟨k,vs,T,ds,by rw[←eV i j db];exact h1,bt k i j h2 db,h3,by omega,by rw[hρ];exact h5,by omega,fun n s hs=>?_⟩;have af:n<cs.length:=by have:=(ed.1 hs).1;omega
  obtain⟨y,hy,Cc⟩:=g2 n _ (be af);rw[hs] at hy;cases hy;exact⟨(P1 Cc).2,aoA hσ eV Cc (h7 n _ (be af)).2⟩
 all_goals cases hr
theorem aoz {ver:Nat→Nat}{ob x:Ob}(hr:oz ver is js ob=some x):x≠.tr:=by
 cases ob<;>simp only[oz] at hr
 case row=>cases hr;intro e;cases e
 case mp=>cases hr;intro e;cases e
 case box=>
  simp only[ax] at hr;obtain⟨_,_,rfl⟩:=hr;intro e;cases e
 all_goals cases hr
theorem CtxOK.noM (h:CtxOK C σ):CtxOK C σ.noM:=⟨fun g x hx=>(h.glob g x hx).noM⟩
def zR (C:Ctx)(S:St)(ρ:Env)(σ:Im)(hv:Nat→Value)(x:mg)(v:Value)(d:D):Prop:=aF C S ρ σ hv x.1 v d∧∀y,x.2=some y→Rep C.cap σ y.1 v (y.2.ev ρ)
theorem UJ:∀{acts:List mg} {shs:List Sh} {es:List PE},se S is js acts shs=some es→acts.length=shs.length∧es.length=shs.length∧∀(t:Nat) (s:Sh),shs[t]?=some s→∃x e,acts[t]?=some x∧es[t]?=some e∧Bd S is js x s=some e
 |[],[],es,h=>by simp only[se,aT] at h;subst h;exact⟨rfl,rfl,fun t s h=>by simp at h⟩
 |[],_::_,es,h=>by simp[se] at h
 |_::_,[],es,h=>by simp[se] at h
 |x::acts,s::shs,es,h=>by
  simp only[se,ar,ax] at h;obtain⟨e,he,r,hr,rfl⟩:=h;obtain⟨g1,g2,g3⟩:=UJ hr;refine⟨by simp[g1],by simp[g2],fun t s' hs=>?_⟩;cases t with
  |zero=>simp at hs;subst hs;exact⟨x,e,rfl,rfl,he⟩
  |succ t=>simp at hs;simpa using g3 t s' hs
theorem aft (hσ:Im.leR C.cap σ σ1){dY:Nat→Value}(eV:∀i j,cw is js i=some j→dY i=hv j){x:mg}{s:Sh}{e:PE}(hf:Bd S is js x s=some e){v:Value}{d:D}(h:zR C S ρ σ hv x v d):aF C (fa shs obs) ρf σ1 dY s v (e.ev ρ):=by
 have gen:∀s,(match jv S.ver is js s with|some y=>bif Sh.beq x.1 y then some (PE.con .none) else none|none=>none)=some e→pC s=false→aF C (fa shs obs) ρf σ1 dY s v (e.ev ρ):=by
  intro s hm hd;split at hm
  ·rename_i y hy;cases hb:Sh.beq x.1 y<;>simp only[hb,cond_true,cond_false] at hm
   ·cases hm
   have h1:=h.1;rw[Sh.beq_eq _ _ hb] at h1;have:=aaA (shs:=shs) (obs:=obs) (ρf:=ρf) hσ eV hy h1;cases s with
   |dat t=>cases hd
   |opt gs s'=>exact absurd rfl ((P1 hy).1 gs s')
   |eptr j ver size off=>simp[jv] at hy
   |agg l=>simp[jv] at hy
   |_=>exact this
  ·cases hm
 unfold Bd at hf;split at hf
 ·rename_i t;split at hf
  ·rename_i y hy;cases hb:Ty.sub y.1 t<;>simp only[hb,cond_true,cond_false] at hf
   ·cases hf
   cases hf;exact hσ.rep ((h.2 y hy).sub hb)
  ·cases hf
 ·trivial
 ·rename_i kf nR;refine gen _ hf ?_;cases s<;>first|rfl|exact absurd rfl (kf _)
theorem ad0 {dY MI:Nat→Value}{σ σ':Im}{ρf ρf':Env}{args:Nat→Value}{ds ds':Nat→D}(h1:∀(t:Nat) (s:Sh),shs[t]?=some s→aF C (fa shs obs) ρf σ dY s (args t) (ds t))(h2:∀(t:Nat) (s:Sh),shs[t]?=some s→pC s=false→aF C (fa shs obs) ρf' σ' MI s (args t) (ds' t))
 (hz:∀s,s∈shs→∃x,jv S.ver is js s=some x) {i:Nat} (hi:i∈nF shs):MI i=dY i:=by
 have key:∀(l:List Sh),(∀s,s∈l→∃t:Nat,shs[t]?=some s)→i∈nF l→MI i=dY i:=by
  intro l
  induction l with
  |nil=>intro _ h;cases h
  |cons s l ih=>
   intro hl hi;obtain⟨t,ht⟩:=hl s (eC ..);have yA:∀s,s∈l→∃t:Nat,shs[t]?=some s:=fun s hs=>hl s (ef _ hs);obtain⟨x,hx⟩:=hz s (jB ht);have a1:=h1 t s ht;have a2:=h2 t s ht;cases s<;>simp only[nF] at hi
   case obj j ver=>
        simp only[jv] at hx;cases hb:Nat.beq ver 0<;>simp only[hb,cond_true,cond_false] at hx
        ·cases hx
        rcases cG.1 hi with e|e
        ·subst e;rw[←(a1.2 (aw hb)),←((a2 rfl).2 (aw hb))]
        ·exact ih yA e
   case ptr j ver off=>
        simp only[jv] at hx;cases hb:Nat.beq ver 0<;>simp only[hb,cond_true,cond_false] at hx
        ·cases hx
        rcases cG.1 hi with e|e
        ·subst e;obtain⟨k1,e1,e2⟩:=a1.2 (aw hb);obtain⟨k2,e3,e4⟩:=(a2 rfl).2 (aw hb);rw[e2] at e4;cases e4;rw[e1,e3]
        ·exact ih yA e
   case fclo f caps=>
        simp only[jv,ax] at hx;obtain⟨c,hc,_⟩:=hx;obtain⟨_,g2⟩:=IV hc;rcases dg.1 hi with e|e
        ·obtain⟨y,hy,e1⟩:=cZ.1 e;subst e1;obtain⟨m,hm⟩:=rM hy;obtain⟨vs,b1,b2,b3⟩:=a1;obtain⟨zO,c1,c2,c3⟩:=a2 rfl;rw[b1] at c1;have gn:vs=zO:=by simpa using c1
         subst gn;obtain⟨_,_,_,yN⟩:=g2 m y.1 y.2 hm;rw[←(b3 m y.1 y.2 hm).2 yN,←(c3 m y.1 y.2 hm).2 yN]
        ·exact ih yA e
   all_goals exact ih yA hi
 exact key shs (fun s hs=>rM hs) hi
end
section
variable {C:Ctx} {S:St} {ρ:Env} {σ:Im} {own:Nat→Option Nat} {hv:Nat→Value} {w0:World} {σ0:Base} {A:Nat→Prop} {a:Act} {w:World} {Φ:aJ} {dst:Nat}
 {is js:List Nat} {shs:List Sh} {obs:List (Nat×Ob)}
theorem Below.weak {B:Nat}{w w':World}(h:Below 0 w w')(hk:∀k,k<B→w'.heap[k]?=w.heap[k]?):Below B w w':=⟨h.os,h.tape,h.output,h.size,hk⟩
def mP (js is:List Nat)(own:Nat→Option Nat):Nat→Option Nat:=fun k=>(own k).bind (cw js is)
def CK (js is:List Nat)(own own':Nat→Option Nat):Nat→Option Nat:=fun k=>
 match own' k with
 |some i=>cw is js i
 |none=>match own k with|some j=>(match cw js is j with|some _=>none|none=>some j)|none=>none
theorem handed (h:Inv C S ρ σ own hv w0 σ0 A a w)(hC:CtxOK C σ0)(Mm:vD shs obs=true)(BL:is=obs.map (·.1))(VT:is.Nodup)(GU:js.Nodup)(GB:pg S is js obs js=true){acts:List mg}{es:List PE}(gR:se S is js acts shs=some es)
 (Gx:S.o gu=.dead) (G4:gu∉js) {vals:List Value} (hvl:vals.length=acts.length) (ag3:∀(t:Nat) (x:mg),acts[t]?=some x→∃d,zR C S ρ σ hv x (vals.getD t undef) d) {f:Nat} {res:Ty} {d:D}
 (hfn:qf C f shs obs res (es.map (PE.ev ρ)++js.map ρ.o) d):
 Calls C.P f vals.toArray w fun e w'=>∃v dr os,e=.returned v∧d=.tup (dr::os)∧os.length=js.length∧
  ∀ρ':Env,ρ'.r=ρ.r→(∀(k j:Nat),js[k]?=some j→ρ'.o j=os.getD k .none)→(∀j,j∉js→j≠gu→ρ'.o j=ρ.o j)→
   ∃σ1 dq aQ,Inv C (S.handed shs obs is js) ρ' σ1 dq aQ w0 σ0 A a w'∧Rep C.cap σ1 res v dr:=by
 obtain⟨al1,al2,gB⟩:=UJ gR;have fJ:=UL GB;have sG:w0.heap.size≤w.heap.size:=h.below.size;obtain⟨tr,fx,cx,hf,q6⟩:=h.frame
 let dY:Nat→Value:=fun i=>match cw is js i with|some j=>hv j|none=>undef
 have eV:∀i j,cw is js i=some j→dY i=hv j:=fun i j e=>by simp only[dY,e]
 have VL:Im.leR C.cap σ σ.noM:=⟨Rep.noM,fun _ _ _ e=>e⟩
 have BY:∀k x,σ.noM.m k=some x→σ.m k=some x∧x≠cL:=by
  intro k x e;by_cases hd:σ.m k=some cL
  ·simp[Im.noM,hd] at e
  ·simp only[Im.noM,if_neg hd] at e;exact⟨e,fun e2=>hd (by rw[e,e2])⟩
 have qT:(es.map (PE.ev ρ)++js.map ρ.o).drop shs.length=js.map ρ.o:=by rw[List.drop_append];simp[al2]
 have ahO:∀t e,es[t]?=some e→(es.map (PE.ev ρ)++js.map ρ.o).getD t .none=e.ev ρ:=fun t e he=>by
  have af:=(ed.1 he).1;rw[aI,mi (by simpa using af),cl,he];rfl
 have aiT:∀s,s∈shs→∃x,jv S.ver is js s=some x:=by
  intro s hs;obtain⟨t,ht⟩:=rM hs;obtain⟨x,e,_,_,he⟩:=gB t s ht;unfold Bd at he;split at he
  ·exact⟨_,rfl⟩
  ·exact⟨_,rfl⟩
  ·split at he
   ·rename_i y hy;exact⟨y,hy⟩
   ·cases he
 have VE:∀t,aF C (fa shs obs) (kU obs (es.map (PE.ev ρ)++js.map ρ.o) ((es.map (PE.ev ρ)++js.map ρ.o).drop shs.length)) σ.noM dY (shs.getD t .none) (vals.toArray.getD t undef) ((es.map (PE.ev ρ)++js.map ρ.o).getD t .none):=by
  intro t;cases hs:shs[t]? with
  |none=>rw[aI,hs];trivial
  |some s=>
   obtain⟨x,e,hx,he,uP⟩:=gB t s hs;obtain⟨d',ag4⟩:=ag3 t x hx;rw[aI (l:=shs),hs,ahO t e he];have e1:vals.toArray.getD t undef=vals.getD t undef:=by simp[fi,aI]
   rw[e1];exact aft VL eV uP ag4
 have ah1:∀i,bW C (fa shs obs) (kU obs (es.map (PE.ev ρ)++js.map ρ.o) ((es.map (PE.ev ρ)++js.map ρ.o).drop shs.length)) σ.noM (mP js is own) dY w w0.heap.size i (dF obs i):=by
  intro i;cases db:cw is js i with
  |none=>subst BL;rw[W4 fJ db];trivial
  |some j=>
   subst BL;obtain⟨x,hx,GD⟩:=UK GB db;refine amG VL eV (fun k j' i' hk hl=>by simp only[mP,hk,oL,hl]) GU db ?_ hx GD (h.objs j);show l0 obs _ i=_;rw[qT];exact aj8 obs ρ.o rfl db
 have j9:=hfn w0.heap.size σ.noM (mP js is own) dY w vals.toArray (fun k=>(∃j,own k=some j∧cw js is j=none)∨σ.m k=some cL∨(cx k)) Mm ⟨h.ok.c,fun k x e=>h.ok.m k x (BY k x e).1⟩ ((hC.mono h.le).noM)
  (fun k e=>(BY k _ e).2 rfl) sG (by simp;omega) (fun k i hk=>by
    simp only[mP,ar] at hk;obtain⟨j,hj,_⟩:=hk;obtain⟨g1,g2,g3,g4⟩:=h.owns k j hj;exact⟨g1,g2,g3,by by_cases e:σ.m k=some cL<;>simp[Im.noM,e,g4]⟩) (fun k hk=>by
    rcases hk with⟨j,hj,hn⟩|hk|hk
    ·obtain⟨g1,g2,g3,g4⟩:=h.owns k j hj;exact⟨g2,by simp[mP,hj,hn],g3,by by_cases e:σ.m k=some cL<;>simp[Im.noM,e,g4]⟩
    ·have BV:=h.ok.m k _ hk;have hn:own k=none:=by
      cases e:own k with
      |none=>rfl
      |some j=>rw[(h.owns k j e).2.2.2] at hk;cases hk
     refine⟨BV.lt,by simp[mP,hn],fun o=>?_,by simp[Im.noM,hk]⟩;cases e:σ.c k o with
     |none=>exact e
     |some x=>
      have c1:=h.ok.c k o x e;rcases BV with⟨m1,_⟩|⟨_,m2⟩
      ·exact absurd rfl m1
      ·simp[World.cell?,m2] at c1
    ·have gS:=σ0.sub _ _ _ _ hf.F k hk;have hn:own k=none:=by
      cases e:own k with
      |none=>rfl
      |some j=>exact absurd gS (hf.own k j e)
     refine⟨σ0.lt _ _ _ _ hf.F k gS,by simp[mP,hn],fun o=>?_,?_⟩
     ·cases e:σ.c k o with
      |none=>exact e
      |some x=>exact absurd hk (hf.c k o x e)
     ·cases e:σ.m k with
      |none=>simp[Im.noM,e]
      |some x=>exact absurd hk (hf.m k x e)) VE ah1
 refine j9.mono fun e w' hh=>?_;obtain⟨v,σ',own',hv',dr,os,rfl,hd,Mh,hle,au,hb,gH,dz,cR,GS,V1,BN,Mf,kl⟩:=hh;refine⟨v,dr,os,rfl,hd,by omega,fun ρ' kj pz uZ=>?_⟩;have GX:∀k,k<w.heap.size→own k=none→w'.heap[k]?=w.heap[k]?:=fun k hk hn=>gH k hk (by simp[mP,hn]);have aiE:∀k j,own k=some j→cw js is j=none→w'.heap[k]?=w.heap[k]?:=fun k j hk hn=>gH k (h.owns k j hk).2.1 (by simp[mP,hk,hn])
 have aht:∀k o x,σ.c k o=some x→own k=none:=fun k o x e=>by
  cases e1:own k with
  |none=>rfl
  |some j=>rw[(h.owns k j e1).2.2.1 o] at e;cases e
 have VS:∀k x,σ.m k=some x→own k=none:=fun k x e=>by
  cases e1:own k with
  |none=>rfl
  |some j=>rw[(h.owns k j e1).2.2.2] at e;cases e
 have VX:σ.ok w':=⟨fun k o x e=>by rw[World.cell?_of_block (GX k (h.lt e) (aht k o x e))];exact h.ok.c k o x e,fun k x e=>(h.ok.m k x e).keep (GX k (h.ltm e) (VS k x e))⟩
 have kN:σ.le (σ'.plus σ):=Im.plus_le2 au VX;have kO:σ'.le (σ'.plus σ):=Im.plus_le1 σ' σ;have da:∀k o x,(σ'.plus σ).c k o=some x→σ'.c k o=some x:=fun k o x e=>(Im.plus_c e).elim id (fun e=>hle.c k o x e)
 have yB:∀k x,(σ'.plus σ).m k=some x→σ'.m k=some x∨(σ.m k=some x∧x=cL):=fun k x e=>(Im.plus_m e).elim .inl (fun e=>by
  by_cases hd:x=cL
  ·exact .inr ⟨e,hd⟩
  ·refine .inl (hle.m k x ?_);have:σ.m k≠some cL:=fun e2=>hd (by rw[e] at e2;cases e2;rfl);simp only[Im.noM,if_neg this,e])
 let aQ:Nat→Value:=fun j=>match cw js is j with|some i=>hv' i|none=>hv j
 have aju:∀i j,cw is js i=some j→hv' i=aQ j:=fun i j e=>by simp only[aQ,Hi GU e]
 have ahz:∀i,i∈nF shs→hv' i=dY i:=fun i hi=>ad0 (S:=S) (is:=is) (js:=js) (args:=fun t=>vals.toArray.getD t undef) (ds:=fun t=>(es.map (PE.ev ρ)++js.map ρ.o).getD t .none) (ds':=fun t=>(es.map (PE.ev ρ)++js.map ρ.o).getD t .none) (fun t s hs=>by
  have:=VE t;rw[aI (l:=shs),hs] at this;exact this) (fun t s hs hd=>BN t s hs hd) aiT hi
 have sq:Compat S hv (S.handed shs obs is js) aQ:=by
  refine⟨fun j=>?_,fun j e=>?_⟩
  ·show S.ver j≤tL S.ver shs is js j;unfold tL;split
   ·cases aC (nF shs) _<;>simp
   ·exact aU _
  ·change tL S.ver shs is js j=S.ver j at e;show aQ j=hv j;simp only[aQ];unfold tL at e;split at e
   ·rename_i i hi;cases hb:aC (nF shs) i<;>rw[hb] at e
    ·simp at e
    ·try simp only[hi]
     rw[ahz i (Ws.1 hb),eV i j (Hi VT hi)]
   ·rename_i hi;try simp only[hi]
 have lM:∀k j,CK js is own own' k=some j→(k<w.heap.size→own k≠none)∧w0.heap.size≤k∧k<w'.heap.size∧(∀o,σ'.c k o=none)∧σ'.m k=none∧σ.m k≠some cL:=by
  intro k j hk;simp only[CK] at hk;split at hk
  ·rename_i i hi;obtain⟨g1,g2,g3,g4,g5⟩:=V1 k i hi;have g6:k<w.heap.size→own k≠none:=fun af e=>g5 af (by simp[mP,e]);refine⟨g6,g1,g2,g3,g4,fun e=>?_⟩;exact g6 (h.ltm e) (VS k _ e)
  ·split at hk
   ·rename_i j' cC;split at hk
    ·cases hk
    ·rename_i hn;obtain⟨g1,g2,g3,g4⟩:=h.owns k j' cC;have fV:(∃j,own k=some j∧cw js is j=none)∨σ.m k=some cL∨(cx k):=.inl ⟨j',cC,hn⟩;refine⟨fun _ e=>(by rw[cC] at e;cases e),g1,qj g2 hb.size,fun o=>?_,?_,fun e=>?_⟩
     ·cases e:σ'.c k o with
      |none=>rfl
      |some x=>exact absurd fV (dz k o x e).2
     ·cases e:σ'.m k with
      |none=>rfl
      |some x=>exact absurd fV (cR k x e).2
     ·rw[g4] at e;cases e
   ·cases hk
 refine⟨σ'.plus σ,CK js is own own',aQ,⟨h.defers.mono kN,Im.plus_ok au VX,h.le.trans kN,h.old,fun k o x e=>?_,fun k x e=>?_,h.below.trans (Below.weak hb fun k hk=>?_),h.bw,fun k j hk=>?_,fun t=>?_,fun j=>?_,h.opts,?_⟩,kl.mono kO⟩
 ·rcases(dz k o x (da k o x e)).1 with e1|e1
  ·exact h.newc k o x e1
  ·exact .inr e1
 ·rcases yB k x e with e1|e1
  ·rcases(cR k x e1).1 with e2|e2
   ·exact h.newm k x (BY k x e2).1
   ·exact .inr e2
  ·exact h.newm k x e1.1
 ·have cq:k<w0.heap.size:=qj hk h.bw;refine GX k (by omega) ?_;cases e:own k with
  |none=>rfl
  |some j=>have:=(h.owns k j e).1;omega
 ·obtain⟨_,g1,g2,g3,g4,g5⟩:=lM k j hk;refine⟨g1,g2,fun o=>?_,?_⟩
  ·cases e:(σ'.plus σ).c k o with
   |none=>rfl
   |some x=>have:=da k o x e;rw[g3 o] at this;cases this
  ·cases e:(σ'.plus σ).m k with
   |none=>rfl
   |some x=>
    rcases yB k x e with e1|e1
    ·rw[g4] at e1;cases e1
    ·exact absurd (by rw[e1.1,e1.2]) g5
 ·show aF C _ ρ' _ aQ (S.r t) _ (ρ'.r t);rw[kj]
  exact aF.mono kN sq (fun gs s e=>by
   unfold holds;rw[kj]) (fun gs s e=>(h.opts t gs s e).2) (h.regs t)
 ·show bW C _ ρ' _ _ aQ w' _ j (match cw js is j with|some i=>(match oz (tL S.ver shs is js) is js (dF obs i) with|some o=>o|none=>.dead)|none=>S.o j);split
  ·rename_i i hi;have db:=Hi VT hi;split
   ·rename_i x hx;refine amH (S1:=S.handed shs obs is js) kO aju (fun k i' j' hk hl=>by simp only[CK,hk,hl]) db ?_ hx (Mf i);subst BL;obtain⟨k,bQ,cq⟩:=WW (os:=os) Mh db;show ρ'.o j=l0 obs os i;rw[cq];exact pz k j bQ
   ·trivial
  ·rename_i hn
   have L8:j∉js:=fun hm=>by
        obtain⟨k,hk⟩:=rM hm;have af:k<is.length:=by
         have:=(ed.1 hk).1;rw[BL,eN];omega
        have:=Hh GU hk (be af);rw[hn] at this;cases this
   by_cases GM:j=gu
   ·subst GM;rw[Gx];trivial
   ·refine(h.objs j).mono kN sq (by show aQ j=hv j;simp only[aQ,hn]) (uZ j L8 GM) (fun k hk=>⟨?_,aiE k j hk hn⟩);have:own' k=none:=by
     cases e:own' k with
     |none=>rfl
     |some i=>exact absurd (by simp[mP,hk,hn]) ((V1 k i e).2.2.2.2 (h.owns k j hk).2.1)
    simp only[CK,this,hk,hn]
 ·refine⟨tr,fx,cx,⟨σ0.keep _ _ _ _ _ hf.F hb fun k hk=>?_,fun k j hk gS=>?_,fun k o x e hc=>?_,fun k x e hc=>?_,fun k e hB hk=>?_⟩,fun j hj=>?_⟩
  ·refine GX k (σ0.lt _ _ _ _ hf.F k hk) ?_;cases e:own k with
   |none=>rfl
   |some j=>exact absurd hk (hf.own k j e)
  ·have af:=σ0.lt _ _ _ _ hf.F k gS;have:=(lM k j hk).1 af;cases e:own k with
   |none=>exact this e
   |some j'=>exact hf.own k j' e gS
  ·exact(dz k o x (da k o x e)).2 (.inr (.inr hc))
  ·rcases yB k x e with e1|e1
   ·exact(cR k x e1).2 (.inr (.inr hc))
   ·exact hf.m k x e1.1 hc
  ·rcases yB k _ e with e1|e1
   ·have af:=σ0.lt _ _ _ _ hf.F k hk;refine GS k e1 hB af ?_;have:own k=none:=by
     cases e:own k with
     |none=>rfl
     |some j=>exact absurd hk (hf.own k j e)
    simp[mP,this]
   ·exact hf.d k e1.1 hB hk
  ·change (match cw js is j with|some i=>(match oz (tL S.ver shs is js) is js (dF obs i) with|some o=>o|none=>.dead)|none=>S.o j)=.tr at hj;split at hj
   ·rename_i i hi;split at hj
    ·rename_i x hx;exact absurd hj (aoz hx)
    ·cases hj
   ·rename_i hn
    have L8:j∉js:=fun hm=>by
     obtain⟨k,hk⟩:=rM hm;have af:k<is.length:=by
         have:=(ed.1 hk).1;rw[BL,eN];omega
     have:=Hh GU hk (be af);rw[hn] at this;cases this
    have GM:j≠gu:=fun e=>by subst e;rw[Gx] at hj;cases hj
    rw[uZ j L8 GM];exact q6 j hj
theorem aaS:∀(js:List Nat) (k:Nat) {ρ ρ':Env} {l:List D},PI.runs Φ (DR js k) ρ=some ρ'→ρ.o gu=.tup l→gu∉js→js.Nodup→
 ρ'.r=ρ.r∧(∀(i j:Nat),js[i]?=some j→ρ'.o j=l.getD (k+i) .none)∧∀j,j∉js→ρ'.o j=ρ.o j
 |[],k,ρ,ρ',l,h,hs,hn,hd=>by
  simp only[DR,PI.runs,aT] at h;subst h;exact⟨rfl,fun i j e=>by simp at e,fun _ _=>rfl⟩
 |x::js,k,ρ,ρ',l,h,hs,hn,hd=>by
  simp only[DR,PI.runs,PI.run,oL,PE.ev,hs,D.tget] at h;simp only[cG,not_or] at hn;have fH:=nj.1 hd;obtain⟨g1,g2,g3⟩:=aaS js (k+1) h (by simp only[Env.setO];rw[bq _ _ hn.1];exact hs) hn.2 fH.2;refine⟨g1,fun i j e=>?_,fun j hj=>?_⟩
  ·cases i with
   |zero=>simp at e;subst e;rw[g3 _ fH.1];simp[Env.setO,aL]
   |succ i=>simp at e;rw[g2 i j e];congr 1;omega
  ·simp only[cG,not_or] at hj;rw[g3 j hj.2];simp only[Env.setO];exact bq _ _ hj.1
theorem ab1 (h:Inv C S ρ σ own hv w0 σ0 A a w)(hC:CtxOK C σ0)(x:Operand):∃d,zR C S ρ σ hv (Eo C S x) (a.eval x) d:=by
 cases x with
 |tmp t=>
  refine⟨ρ.r t,?_,fun y hy=>bZ (gs:=[]) h hC rfl hy⟩;have:=(m0 (gs:=[]) h rfl t).1;simpa [Act.eval,Eo,gM] using this
 |_=>exact⟨.none,trivial,fun y hy=>bZ (gs:=[]) h hC rfl hy⟩
theorem Uj (h:Inv C S ρ σ own hv w0 σ0 A a w)(hC:CtxOK C σ0)(hΦ:cY C Φ){f:Nat}{args:List Operand}{caps:List (Nat×Nat)}{vs:List Value}(gn:vs.length=caps.length)
 (eE:∀(i j ver:Nat),caps[i]?=some (j,ver)→ver≤S.ver j∧(ver=S.ver j→vs.getD i undef=hv j)) (ahk:∀(i j ver:Nat),caps[i]?=some (j,ver)→ver=S.ver j→∃k,hv j=.pointer (some ⟨k,0,none⟩)) {r:St×Ty×List PI} (hr:oV C S f args caps=some r)
 {ρ1:Env} (aj:PI.runs Φ r.2.2 ρ=some ρ1):
 Calls C.P f (args.map a.eval++vs).toArray w fun e w'=>∃v σ1 dq aQ,e=.returned v∧Inv C r.1 ρ1 σ1 dq aQ w0 σ0 A a w'∧Rep C.cap σ1 r.2.1 v ((ρ1.o gu).tget 0):=by
 simp only[oV,ar] at hr;obtain⟨s,hs,hr⟩:=hr;split at hr
 case h_2=>cases hr
 rename_i shs obs lP;obtain⟨σ2,gJ,kO,h2⟩:=Inv.fzs (x9 S args shs) h;have dv:=(pj (x9 S args shs) S).1;generalize S.fzs (x9 S args shs)=S2 at hr h2 dv;unfold KT KS at hr;generalize UG S2 shs obs (args.map (Eo C S2)++caps.map TQ)=js at hr;simp only[ar] at hr;obtain⟨es,gR,hr⟩:=hr;cases hb:(vD shs obs&&(iS (obs.map (·.1))&&iS js&&pg S2 (obs.map (·.1)) js obs js&&mL (S2.o gu)&& !aC js gu))<;>simp only[hb,cond_true,cond_false] at hr
 ·cases hr
 cases hr;simp only[aq,jx] at hb;obtain⟨b0,⟨⟨⟨b1,b2⟩,b3⟩,b4⟩,b5⟩:=hb;have kf:=oa b1;have nR:=oa b2;have Gx:S2.o gu=.dead:=by
  cases e:S2.o gu<;>rw[e] at b4<;>first|rfl|cases b4
 have G4:gu∉js:=fun hm=>by rw[Ws.2 hm] at b5;cases b5
 simp only[PI.runs,PI.run,ar,ax] at aj;obtain⟨ρ2,⟨d,hd,rfl⟩,aj⟩:=aj;rw[PE.evs_eq,lx,Ac] at hd;have e1:js.map (PE.ev ρ∘PE.o)=js.map ρ.o:=rfl;rw[e1] at hd;have hfn:=((hΦ f _ d hd s hs).2 shs obs lP).plain b0
 have j9:=handed h2 hC b0 rfl kf nR b3 gR Gx G4 (vals:=args.map a.eval++vs) (by simp[gn]) (fun t x hx=>by
  rw[kD] at hx;split at hx
  ·rename_i af;rw[eN] at af;rw[cl,be af] at hx;cases hx;have:(args.map a.eval++vs).getD t undef=a.eval args[t]:=by
        rw[aI,mi (by simpa using af),cl,be af];rfl
   rw[this];exact ab1 h2 hC _
  ·rename_i gk;rw[eN] at gk hx;rw[cl,ax] at hx;obtain⟨c,hc,rfl⟩:=hx;obtain⟨j,ver⟩:=c;have cf:(args.map a.eval++vs).getD t undef=vs.getD (t-args.length) undef:=by
        rw[aI,mj (by simpa using gk),eN,aI]
   obtain⟨g1,g2⟩:=eE _ j ver hc;refine⟨.none,⟨by rw[dv];exact g1,fun e=>?_⟩,fun y hy=>by cases hy⟩;rw[dv] at e;obtain⟨k,hk⟩:=ahk _ j ver hc e;exact⟨k,hk,by rw[cf,g2 e,hk]⟩) (hfn:=hfn)
 refine j9.mono fun e w' hh=>?_;obtain⟨v,dr,os,rfl,rfl,Mh,lL⟩:=hh;obtain⟨g1,g2,g3⟩:=aaS js 1 (l:=dr::os) aj (by simp[Env.setO,aL]) G4 nR
 obtain⟨σ1,dq,aQ,hinv,bE⟩:=lL ρ1 g1 (fun k j hk=>by
  have:=g2 k j hk;rw[Ae] at this;simpa using this) (fun j hj az=>by rw[g3 j hj];simp only[Env.setO];exact bq _ _ az)
 refine⟨v,σ1,dq,aQ,rfl,hinv,?_⟩;rw[g3 gu G4];simpa [Env.setO,aL,D.tget] using bE
def oc (S:St)(dst:Option Nat)(r:St×Ty×List PI):St×List PI:=
 match dst with
 |some d=>(r.1.setR d (.dat r.2.1),r.2.2++[.setR d (.tget (.o gu) 0)])
 |none=>(r.1,r.2.2)
theorem aoR {a b:List PI}{ρ:Env}:PI.runs Φ (a++b) ρ=(PI.runs Φ a ρ).bind (PI.runs Φ b):=by
 induction a generalizing ρ with
 |nil=>simp[PI.runs]
 |cons x a ih=>
  simp only[Eb,PI.runs];cases x.run Φ ρ with
  |none=>rfl
  |some ρ1=>simp[ih]
theorem TN {o:Oper}{f:Nat}{vals:List Value}(ht:∀d,o.dst=some d→¬A d∧d<a.tmps.size){r:St×Ty×List PI}(hx:(execOp a.eval o).run C.P w=.ok (.enter f vals.toArray) w)
 (hc:∀ρ1,PI.runs Φ r.2.2 ρ=some ρ1→Calls C.P f vals.toArray w fun e w'=>∃v σ1 dq aQ,e=.returned v∧Inv C r.1 ρ1 σ1 dq aQ w0 σ0 A a w'∧Rep C.cap σ1 r.2.1 v ((ρ1.o gu).tget 0)):bS C w0 σ0 Φ S ρ A a w o (oc S o.dst r):=by
 intro ρ' aj K Q hK;simp only[Oper.wp,hx,Oper.upon];cases hd:o.dst with
 |none=>
  rw[hd] at aj hK;refine(hc ρ' aj).mono fun e w' hh=>?_;obtain⟨v,σ1,dq,aQ,rfl,hinv,bE⟩:=hh;refine hK _ _ ⟨σ1,dq,aQ,?_⟩ rfl;have:(fun u=>A u∨(none:Option Nat)=some u)=A:=by funext u;simp
  rw[this];exact hinv
 |some d=>
  rw[hd] at aj hK;obtain⟨t1,t2⟩:=ht d hd;simp only[oc,aoR,ar] at aj;obtain⟨ρ1,h1,h2⟩:=aj;simp[PI.runs,PI.run,PE.ev] at h2;subst h2;refine(hc ρ1 h1).mono fun e w' hh=>?_;obtain⟨v,σ1,dq,aQ,rfl,hinv,bE⟩:=hh;refine hK _ _ ⟨σ1,dq,aQ,?_⟩ (size_put _ _ _);have:(fun u=>A u∨some d=some u)=(fun u=>A u∨u=d):=by funext u;simp[eq_comm]
  rw[this];exact hinv.setReg t1 (s:=.dat r.2.1) bE t2 (fun _ _ e=>by cases e)
theorem Uk (h:Inv C S ρ σ own hv w0 σ0 A a w)(hC:CtxOK C σ0)(aW:dy C)(hΦ:cY C Φ){f:Nat}{args:Array Operand}{ts:Array TypeId}{r:St×Ty×List PI}{o:Oper}(ht:∀d,o.dst=some d→¬A d∧d<a.tmps.size)
 (hr:oV C S f args.toList []=some r) (ho:o.op=.call {callee:=.value (.func f),args:=args,argTypes:=ts}):bS C w0 σ0 Φ S ρ A a w o (oc S o.dst r):=by
 have hs:∃s,C.sig f=some s:=by
  simp only[oV,ar] at hr;obtain⟨s,hs,_⟩:=hr;exact⟨s,hs⟩
 obtain⟨s,hs⟩:=hs;have hx:=I0 (a:=a) (w:=w) aW hs ho;have jO:args.map a.eval=(args.toList.map a.eval++[]).toArray:=by apply tN;simp
 rw[jO] at hx;exact TN ht hx fun ρ1 aj=>Uj h hC hΦ (vs:=[]) rfl (fun i j ver e=>by simp at e) (fun i j ver e=>by simp at e) hr aj
def wT (S:St):List (Nat×Nat)→Bool
 |[]=>true
 |c::l=>Nat.beq c.2 (S.ver c.1)&&(match S.o c.1 with|.box ..=>true|_=>false)&&wT S l
theorem TS (h:Inv C S ρ σ own hv w0 σ0 A a w):∀{l:List (Nat×Nat)},wT S l=true→∀(i j ver:Nat),l[i]?=some (j,ver)→ver=S.ver j∧∃k,hv j=.pointer (some ⟨k,0,none⟩)
 |[],_,i,j,ver,e=>by simp at e
 |c::l,hl,i,j,ver,e=>by
  simp only[wT,aq] at hl;cases i with
  |zero=>
   simp at e;subst e;refine⟨aw hl.1.1,?_⟩;have h1:=hl.1.2;have h2:=h.objs j;split at h1
   ·rename_i ag shs eo;simp only at eo;rw[eo] at h2;obtain⟨k,cs,T,ds,g1,_⟩:=h2;exact⟨k,g1⟩
   ·cases h1
  |succ i=>simp at e;exact TS h hl.2 i j ver e
def xR (C:Ctx)(S:St)(t:Nat)(args:List Operand):Option (St×Ty×List PI):=
 match mc S [] t with
 |.fclo f caps=>bif wT S caps then oV C S f args caps else none
 |_=>none
theorem Ui (h:Inv C S ρ σ own hv w0 σ0 A a w)(hC:CtxOK C σ0)(aW:dy C)(hΦ:cY C Φ){t:Nat}{args:Array Operand}{ts:Array TypeId}{r:St×Ty×List PI}{o:Oper}(ht:∀d,o.dst=some d→¬A d∧d<a.tmps.size)
 (hr:xR C S t args.toList=some r) (ho:o.op=.call {callee:=.value (.tmp t),args:=args,argTypes:=ts}):bS C w0 σ0 Φ S ρ A a w o (oc S o.dst r):=by
 unfold xR at hr;split at hr
 case h_2=>cases hr
 rename_i f caps mI;cases hb:wT S caps<;>simp only[hb,cond_true,cond_false] at hr
 ·cases hr
 have iP:=(m0 (gs:=[]) h rfl t).1;rw[mI] at iP;obtain⟨vs,h1,h2,h3⟩:=iP;have hs:∃s,C.sig f=some s:=by
  simp only[oV,ar] at hr;obtain⟨s,hs,_⟩:=hr;exact⟨s,hs⟩
 obtain⟨s,hs⟩:=hs;have hx:=aaL (a:=a) (w:=w) (vs:=vs) (x:=.tmp t) aW hs (by simpa [Act.eval] using h1) ho;have jO:args.map a.eval++vs.toArray=(args.toList.map a.eval++vs).toArray:=by apply tN;simp
 rw[jO] at hx;exact TN ht hx fun ρ1 aj=>Uj h hC hΦ h2 h3 (fun i j ver e _=>(TS h hb i j ver e).2) hr aj
def AA (S:St):List Operand→Option (List (Nat×Nat))
 |[]=>some []
 |x::xs=>
  match x with
  |.tmp t=>
   match mc S [] t with
   |.ptr j ver off=>bif Nat.beq ver (S.ver j)&&Nat.beq off 0 then(AA S xs).map fun r=>(j,ver)::r else none
   |_=>none
  |_=>none
def A0 (C:Ctx)(S:St)(dst:Nat)(fn:Fn)(first caps:Array Operand):Option (St×List PI):=
 match fn,first.toList with
 |.func f,[]=>
  match C.sig f with
  |some s=>bif pE s.mode then(AA S caps.toList).map fun c=>(S.setR dst (.fclo f c),[.setR dst (.con .none)]) else none
  |none=>none
 |_,_=>none
theorem TU (h:Inv C S ρ σ own hv w0 σ0 A a w):∀{l:List Operand} {c:List (Nat×Nat)},AA S l=some c→c.length=l.length∧∀(i j ver:Nat),c[i]?=some (j,ver)→ver≤S.ver j∧(ver=S.ver j→(l.map a.eval).getD i undef=hv j)
 |[],c,e=>by simp only[AA,aT] at e;subst e;exact⟨rfl,fun i j ver e=>by simp at e⟩
 |x::xs,c,e=>by
  simp only[AA] at e;split at e
  case h_2=>cases e
  rename_i t;split at e
  case h_2=>cases e
  rename_i j ver off mI;cases hb:(Nat.beq ver (S.ver j)&&Nat.beq off 0)<;>simp only[hb,cond_true,cond_false] at e
  ·cases e
  simp only[aq] at hb;simp only[ax] at e;obtain⟨r,hr,rfl⟩:=e;obtain⟨g1,g2⟩:=TU h hr;have iP:=(m0 (gs:=[]) h rfl t).1;rw[mI] at iP;refine⟨by simp[g1],fun i j' m8 e=>?_⟩;cases i with
  |zero=>
   simp at e;obtain⟨rfl,rfl⟩:=e;refine⟨iP.1,fun e=>?_⟩;obtain⟨k,k1,k2⟩:=iP.2 e;have e0:off=0:=aw hb.2;subst e0;rw[k1,←k2];simp[Act.eval]
  |succ i=>simp at e;simpa using g2 i j' m8 e
theorem aet (h:Inv C S ρ σ own hv w0 σ0 A a w)(ht:¬A dst)(af:dst<a.tmps.size){fn:Fn}{first caps:Array Operand}{r:St×List PI}{o:Oper}(hr:A0 C S dst fn first caps=some r)(hd:o.dst=some dst)(ho:o.op=.makeFunc fn first caps):bS C w0 σ0 Φ S ρ A a w o r:=by
 unfold A0 at hr;split at hr
 case h_2=>cases hr
 rename_i f BG;split at hr
 case h_2=>cases hr
 rename_i s hs;cases hb:pE s.mode<;>simp only[hb,cond_true,cond_false] at hr
 ·cases hr
 simp only[ax] at hr;obtain⟨c,hc,rfl⟩:=hr;obtain⟨g1,g2⟩:=TU h hc;have LN:first=#[]:=by rw[←rK];simpa using BG
 refine bS.value hd fun ρ' aj=>⟨.func (.func f) #[] (caps.toList.map a.eval).toArray,w,?_,?_⟩
 ·subst LN;have e9:caps.map a.eval=(caps.toList.map a.eval).toArray:=by apply tN;rw[wE]
  simp[execOp,ho,Instr.makeFunc,e9]
 ·have hρ:ρ'=ρ.setR dst .none:=by simp[PI.runs,PI.run,PE.ev] at aj;exact aj.symm
  subst hρ;exact⟨_,_,_,h.setReg ht (s:=.fclo f c) ⟨_,rfl,by simp[g1],g2⟩ af (fun _ _ e=>by cases e)⟩
end
end Cx
namespace Cx
open Go Go.RowKit
inductive Gh where
 |fz (j:Nat)|fbox (b:Nat)|rereg (t j:Nat)|recell (b i j:Nat)|home (b i j:Nat) (T:TypeId)
def Gh.run (C:Ctx)(S:St):Gh→Option (St×List PI)
 |.fz j=>some (S.fz j,[])
 |.fbox b=>Bh S b
 |.rereg t j=>DH S t j
 |.recell b i j=>DG S b i j
 |.home b i j T=>B1 C S b i j T
def lG (C:Ctx):List Gh→St→Option (St×List PI)
 |[],S=>some (S,[])
 |g::gs,S=>(g.run C S).bind fun r=>(lG C gs r.1).map fun q=>(q.1,r.2++q.2)
theorem p5 {Φ:aJ}:∀{a b:List PI} {ρ:Env},PI.runs Φ (a++b) ρ=(PI.runs Φ a ρ).bind (PI.runs Φ b)
 |[],b,ρ=>by simp[PI.runs]
 |x::a,b,ρ=>by
  simp only[Eb,PI.runs];cases x.run Φ ρ with
  |none=>rfl
  |some ρ1=>simp[p5 (a:=a) (b:=b)]
def yd (S:St)(ops:Array Oper)(o:Oper):Option (List (Nat×Bool)):=
 match o.guard with
 |none=>some []
 |some (j,want)=>
  match(ops[j]?).bind (·.dst) with
  |some t=>
   match S.r t with
   |.dat .bool=>some [(t,want)]
   |.opt gs (.dat .bool)=>some ((t,want)::gs)
   |_=>none
  |none=>none
def anz (S:St)(gs:List (Nat×Bool)):Op→List Nat
 |.build _ ps=>dA S gs (ps.toList.map (·.2))
 |.buildSlice _ _ ps=>dA S gs (ps.toList.map (·.2))
 |.box _ x=>dA S gs [x]
 |.pick _ x y=>dA S gs [x,y]
 |.slice _ x _ _ _=>dA S gs [x]
 |.mapUpdate _ _ k v=>dA S gs [k,v]
 |.insert _ _ k v=>dA S gs [k,v]
 |.store _ x v=>match gM S gs x with|.eptr ..=>dA S gs [v]|_=>[]
 |_=>[]
def AB:List Sh→List Nat
 |[]=>[]
 |.obj j _::r=>j::AB r
 |_::r=>AB r
def ED (S:St)(gs:List (Nat×Bool)):List Operand→List Nat
 |[]=>[]
 |x::xs=>
  match gM S gs x with
  |.ptr j ver off=>bif Nat.beq ver (S.ver j)&&(match S.o j with|.box ..=>true|_=>false) then j::ED S gs xs else ED S gs xs
  |_=>ED S gs xs
def XL (C:Ctx):Fn→Bool
 |.func f=>(match C.sig f with|some s=>pE s.mode|none=>false)
 |_=>false
theorem amk {α:Type}{b:Bool}{x:α}{l:List α}(h:x∈bif b then[] else l):x∈l:=by
 cases b with
 |true=>cases h
 |false=>exact h
def pre (C:Ctx)(S:St)(gs:List (Nat×Bool))(op:Op):List Gh:=
 match op with
 |.makeFunc fn _ caps=>
  bif XL C fn then[] else(ED S gs caps.toList).flatMap fun b=>(match S.o b with|.box _ shs=>(AB shs).map .fz|_=>[])++[.fbox b]
 |.load T x=>
  match gM S gs x,nV C.P T,C.P.info? T with
  |.ptr j _ off,some true,some inf=>bif agB C j then[] else(match S.o j with|.box _ shs=>(AB ((shs.drop off).take inf.size)).map .fz|_=>[])
  |_,_,_=>[]
 |op=>(anz S gs op).map .fz
def OI (C:Ctx)(S:St)(gs:List (Nat×Bool))(o:Oper):List Gh:=
 match o.op,o.dst with
 |.assign x,some t=>bif C.fr.any (Nat.beq t) then(dA S gs [x]).map .fz else[]
 |_,_=>[]
def KI (P:Program):Nat→TypeId→List (Option TypeId)
 |0,_=>[]
 |n+1,t=>
  match P.underlying t with
  |some (.struct fs)=>fs.toList.flatMap fun f=>KI P n f.type
  |some (.array len e)=>(List.replicate len (KI P n e)).flatten
  |some (.slice e)=>[some e]
  |_=>[none]
def homes (P:Program)(b off:Nat)(T:TypeId):List Gh:=
 ((KI P 12 T).zipIdx).filterMap fun x=>x.1.map fun e=>.home b (off+x.2) (VZ b (off+x.2)) e
def Hd (nh:List Nat)(l:List Gh):List Gh:=l.filter fun g=>match g with|.home _ _ j _=> !(nh.any (Nat.beq j))|_=>true
def aaz (b off n:Nat):List Gh:=(List.range n).map fun i=>.recell b (off+i) (VZ b (off+i))
def post (C:Ctx)(S:St)(o:Oper):List Gh:=
 match o.op,o.dst with
 |.assign _,some t=>[.rereg t t]
 |.alloc T,some t=>Hd C.nh (homes C.P t 0 T)
 |.store T x _,_=>
  match gM S [] x with
  |.ptr j _ off=>Hd C.nh (homes C.P j off T)++aaz j off (match C.P.info? T with|some i=>i.size|none=>0)
  |_=>[]
 |_,_=>[]
def Hx:Sh→Bool
 |.opt ..=>false
 |_=>true
def rY (C:Ctx)(S:St)(dst:Nat)(T:TypeId)(x:Operand):j1:=
 match x with
 |.const v=>(m6 C.P T).bind fun t=>(m9 t).bind fun z=>bif iu t v then some (S.setR dst (.dat z.1),[.setR dst (.con z.2)]) else none
 |_=>none
def core (C:Ctx)(S:St)(gs:List (Nat×Bool))(o:Oper):Option (St×List PI):=
 match o.dst with
 |some dst=>
  match HR C S gs dst o.op with
  |some r=>bif Hx r.1 then some (S.setR dst (qN gs r.1),r.2) else none
  |none=>
   match o.op,gs with
   |.assign x,[]=>
    bif C.fr.any (Nat.beq dst) then
          match vF C S [] dst x with
          |some r=>some (S.setR dst r.1,r.2)
          |none=>rY C S dst o.type x
    else
    match A1 C S dst o.type x with
    |some r=>some r
    |none=>
     match vF C S [] dst x with
     |some r=>some (S.setR dst r.1,r.2)
     |none=>rY C S dst o.type x
   |.alloc T,[]=>AS C S dst T
   |.box T x,[]=>AU C S dst T x
   |.buildSlice T n ps,gs=>
    match gs with
    |[]=>uy C S [] dst T n ps.toList
    |_=>xS C S gs dst T n ps.toList
   |.makeSlice T l c,[]=>AZ C S dst T l c
   |.makeMap T r,[]=>AY C S dst T r
   |.range T x,[]=>A2 C S dst T x
   |.convert T U x,[]=>AV C S dst T U x
   |.call c,gs=>
    match c.callee,gs with
    |.builtin .append,[]=>
     match c.args.toList,c.argTypes.toList with
     |[s,x],[T,T']=>bif Nat.beq T T' then AT C S dst T s x else none
     |_,_=>none
    |.value (.func f),gs=>
     match xQ C S gs dst f c.args.toList with
     |some r=>some (r.1.setR dst (qN gs r.2.1),r.2.2)
     |none=>
      match gs with
      |[]=>
       match AX C S dst f c.args.toList with
       |some r=>some r
       |none=>
        match AW C S dst f c.args.toList with
        |some r=>some r
        |none=>(oV C S f c.args.toList []).map (oc S (some dst))
      |_=>none
    |.value x,gs=>
     match uz C S gs dst x c.args.toList with
     |some r=>some (r.1.setR dst (qN gs r.2.1),r.2.2)
     |none=>
      match x,gs with
      |.tmp t,[]=>(xR C S t c.args.toList).map (oc S (some dst))
      |_,_=>none
    |_,_=>none
   |.makeFunc fn first caps,[]=>A0 C S dst fn first caps
   |_,_=>none
 |none=>
  match o.op,gs with
  |.store T x v,[]=>A3 C S T x v
  |.mapUpdate T m k v,[]=>xT C S T m k v
  |.insert T m k v,[]=>xT C S T m k v
  |.panic _,[]=>some (S,[.chk (.nt (.con (.bool true)))])
  |.call c,[]=>
   match c.callee with
   |.value (.func f)=>(oV C S f c.args.toList []).map (oc S none)
   |.value (.tmp t)=>(xR C S t c.args.toList).map (oc S none)
   |_=>none
  |_,_=>none
def Zi (dst:Nat)(l:List PI):Bool:=l.all fun p=>p.modR.all (Nat.beq dst)&&p.modO.isEmpty
def Gc (gs:List (Nat×Bool))(dst:Option Nat)(l:List PI):Bool:=
 match gs,dst with
 |[],_=>true
 |_,some d=>Zi d l
 |_,none=>false
def FQ (C:Ctx)(S:St)(ops:Array Oper)(o:Oper):Option (St×List PI):=
 (yd S ops o).bind fun gs=>
 (lG C (pre C S gs o.op++OI C S gs o) S).bind fun r1=>
 (core C r1.1 gs o).bind fun r2=>
 (lG C (post C r2.1 o) r2.1).bind fun r3=>
 bif Gc gs o.dst r2.2 then some (r3.1,r1.2++r2.2++r3.2) else none
def DV:PI:=.chk (.con (.v (.bool false)))
def AO (C:Ctx)(S:St)(ops:Array Oper)(o:Oper):Option (St×List PI):=
 match FQ C S ops o with
 |some r=>some r
 |none=>some (match o.dst with|some d=>S.setR d .none|none=>S,[DV])
section
variable {C:Ctx} {S:St} {ρ:Env} {σ:Im} {own:Nat→Option Nat} {hv:Nat→Value} {w0:World} {σ0:Base} {A:Nat→Prop} {a:Act} {w:World} {gs:List (Nat×Bool)} {Φ:aJ} {dst:Nat}
theorem Gh.sound {g:Gh}{r:St×List PI}(h:Good C w0 σ0 S ρ A a w)(hr:g.run C S=some r):zY C w0 σ0 Φ S ρ A a w r:=by
 obtain⟨σ,own,hv,h⟩:=h;cases g with
 |fz j=>
  simp only[Gh.run,aT] at hr;subst hr;intro ρ' aj;rw[mZ aj];obtain⟨σ',own',_,h'⟩:=h.fz j;exact⟨σ',own',hv,h'⟩
 |fbox b=>exact agt h hr
 |rereg t j=>exact aoy h hr
 |recell b i j=>exact aox h hr
 |home b i j T=>exact aiC h hr
theorem Lj:∀(l:List Gh) {S:St} {ρ ρ':Env} {r:St×List PI},Good C w0 σ0 S ρ A a w→lG C l S=some r→PI.runs Φ r.2 ρ=some ρ'→Good C w0 σ0 r.1 ρ' A a w
 |[],S,ρ,ρ',r,h,hr,aj=>by
  simp only[lG,aT] at hr;subst hr;rw[mZ aj];exact h
 |g::l,S,ρ,ρ',r,h,hr,aj=>by
  simp only[lG,ar,ax] at hr;obtain⟨q,hq,q2,gV,rfl⟩:=hr;simp only[p5,ar] at aj;obtain⟨ρ1,h1,h2⟩:=aj;exact Lj (r:=q2) l (Gh.sound (Φ:=Φ) h hq ρ1 h1) gV h2
theorem UZ (h:Good C w0 σ0 S ρ A a w){ops:Array Oper}{o:Oper}(hg:yd S ops o=some gs):Region.wanted o (yielded ops a.tmps)=holds gs ρ:=by
 obtain⟨σ,own,hv,h⟩:=h;unfold yd at hg;unfold Region.wanted;split at hg
 ·rename_i e;cases hg;simp[e,holds]
 ·rename_i j want e;simp only[e];split at hg
  case h_2=>cases hg
  rename_i t ht;have iP:=h.regs t;have hy:∀v,a.tmps.getD t undef=v→(∀b,v=.bool b→yielded ops a.tmps j=some b)∧(v=undef→yielded ops a.tmps j=none):=by
   intro v hv';unfold yielded;rw[ht];simp only[oL];rw[fi] at hv';cases sv:a.tmps[t]? with
   |none=>rw[sv] at hv';simp at hv';subst hv';exact⟨fun b e=>absurd e (by simp[undef]),fun _=>rfl⟩
   |some u=>rw[sv] at hv';simp at hv';subst hv';exact⟨fun b e=>by subst e;rfl,fun e=>by subst e;rfl⟩
  split at hg
  ·rename_i es;cases hg;rw[es] at iP;obtain⟨b,iJ,fm⟩:=Rep.bool_inv iP;rw[(hy _ iJ).1 b rfl];simp[holds,fm,D.b_bool]
  ·rename_i bJ es;cases hg;rw[es] at iP;simp only[holds,oG];cases hh:holds bJ ρ with
   |true=>
    obtain⟨b,iJ,fm⟩:=Rep.bool_inv (iP.1 hh);rw[(hy _ iJ).1 b rfl];unfold holds at hh;rw[hh,fm];simp[D.b_bool]
   |false=>
    rw[(hy _ (iP.2 hh)).2 rfl];unfold holds at hh;rw[hh];simp
  ·cases hg
theorem UY (h:Good C w0 σ0 S ρ A a w){ops:Array Oper}{o:Oper}(hg:yd S ops o=some gs)(hj:∀j want t,o.guard=some (j,want)→(ops[j]?).bind (·.dst)=some t→A t):∀g,g∈gs→A g.1:=by
 obtain⟨σ,own,hv,h⟩:=h;unfold yd at hg;split at hg
 ·cases hg;simp
 ·rename_i j want e;split at hg
  case h_2=>cases hg
  rename_i t ht;have hA:=hj j want t e ht;split at hg
  ·cases hg;intro g hm;simp at hm;subst hm;exact hA
  ·rename_i bJ es;cases hg;intro g hm;rcases cG.1 hm with e'|eF
   ·subst e';exact hA
   ·exact(h.opts t bJ _ es).1 g eF
  ·cases hg
theorem amZ (h:Inv C S ρ σ own hv w0 σ0 A a w)(hC:CtxOK C σ0)(hg:holds gs ρ=true){o:Oper}{r:Sh×List PI}(hr:HR C S gs dst o.op=some r):dM C S ρ σ hv Φ dst a w o r:=by
 unfold HR at hr;split at hr
 ·rename_i x e;exact Zk h hC hg hr (.inl e)
 ·rename_i c x y e;exact amY h hC hg hr e
 ·rename_i op T x y T' e;exact amL h hC hg hr e
 ·rename_i op T x e;exact am1 h hC hg hr e
 ·rename_i s d x e;exact amN h hC hg hr e
 ·rename_i T x e;exact HP h hC hg hr e
 ·rename_i T x i e;exact amP h hC hg hr e
 ·rename_i T x i e;exact amQ h hC hg hr e
 ·rename_i T x i e;exact amS h hC hg hr e
 ·rename_i T x i e;exact amT h hC hg hr e
 ·rename_i x i e;exact amO h hC hg hr e
 ·rename_i T m k ok e;exact amW h hC hg hr e
 ·rename_i T x lo hi mx e;exact am0 h hC hg hr e
 ·rename_i f a b e;exact amR h hC hg hr e
 ·rename_i T ps e;exact amM h hC hg hr e
 ·rename_i x e;exact amX h hC hg hr e
 ·cases hr;intro ρ' aj;have:=(Qa hg aj).1;cases this
 ·rename_i c e;split at hr
  ·rename_i x T hc ha ht;refine amU h hC hg hr ?_;rw[e];cases c with|mk callee args argTypes=>
   simp only at hc ha ht;have h1:args=#[x]:=by rw[←rK];exact ha
   have h2:argTypes=#[T]:=by rw[←rK];exact ht
   rw[hc,h1,h2]
  ·rename_i x y hc ha;refine Zj (ts:=c.argTypes) h hC hg hr ?_;rw[e];cases c with|mk callee args argTypes=>
   simp only at hc ha;have h1:args=#[x,y]:=by rw[←rK];exact ha
   rw[hc,h1];rfl
  ·rename_i x y hc ha;refine Zj (ts:=c.argTypes) h hC hg hr ?_;rw[e];cases c with|mk callee args argTypes=>
   simp only at hc ha;have h1:args=#[x,y]:=by rw[←rK];exact ha
   rw[hc,h1];rfl
  ·cases hr
 ·cases hr
theorem aeB (h:Inv C S ρ σ own hv w0 σ0 A a w)(ht:¬A dst)(af:dst<a.tmps.size){T:TypeId}{x:Operand}{r:St×List PI}(hr:rY C S dst T x=some r){o:Oper}(hd:o.dst=some dst)(ho:o.op=.assign x):bS C w0 σ0 Φ S ρ A a w o r:=by
 unfold rY at hr;split at hr
 case h_2=>cases hr
 rename_i v;simp only[ar] at hr;obtain⟨t,_,z,hz,hr⟩:=hr;cases hc:iu t v<;>simp only[hc,cond_true,cond_false] at hr
 ·cases hr
 cases hr;have bE:=(wD (cap:=C.cap) (σ:=σ) hz hc).1;refine bS.value hd fun ρ' aj=>⟨v,w,by simp[execOp,ho,Act.eval],?_⟩
 have hρ:ρ'=ρ.setR dst z.2:=by simp[PI.runs,PI.run,PE.ev] at aj;exact aj.symm
 subst hρ;exact⟨_,_,_,h.setReg ht (s:=.dat z.1) bE af (fun _ _ e=>by cases e)⟩
theorem adL (h:Inv C S ρ σ own hv w0 σ0 A a w)(hC:CtxOK C σ0)(aW:dy C)(hΦ:cY C Φ){o:Oper}(ht:∀d,o.dst=some d→¬A d∧d<a.tmps.size)(dC:∀g,g∈gs→A g.1)(hg:holds gs ρ=true){r:St×List PI}
 (hr:core C S gs o=some r):bS C w0 σ0 Φ S ρ A a w o r:=by
 unfold core at hr;split at hr
 ·rename_i dst hd;obtain⟨fM,fN⟩:=ht dst hd;split at hr
  ·rename_i q hq;cases eG:Hx q.1<;>simp only[eG,cond_true,cond_false] at hr
   ·cases hr
   cases hr;have V6:=amZ (Φ:=Φ) h hC hg hq;cases gs with
   |nil=>exact V6.eff h fM fN hd
   |cons g bJ=>exact V6.effG h fM fN dC hg hd
  ·rename_i L9;clear L9;split at hr
   ·rename_i x e
    have mv:∀r,(match vF C S [] dst x with|some r=>some (S.setR dst r.1,r.2)|none=>rY C S dst o.type x)=some r→bS C w0 σ0 Φ S ρ A a w o r:=by
     intro r hr;split at hr
     ·rename_i q hq;cases hr;exact(Zk (Φ:=Φ) h hC hg hq (.inr e)).eff h fM fN hd
     ·exact aeB h fM fN hr hd e
    cases dB:C.fr.any (Nat.beq dst)<;>simp only[dB,cond_true,cond_false] at hr
    ·split at hr
     ·rename_i q hq;cases hr;exact aev h hC fM fN hq hd e
     ·exact mv r hr
    ·exact mv r hr
   ·rename_i T e;exact ad5 h fM fN hr hd e
   ·rename_i T x e;exact ad9 h hC fM fN hr hd e
   ·rename_i T n ps e;split at hr
    ·exact aeb h hC fM fN hr hd e
    ·exact aen h hC fM fN dC hg hr hd e
   ·rename_i T l c e;exact aer h hC fM fN hr hd e
   ·rename_i T m e;exact aep h fM fN hr hd e
   ·rename_i T x e;exact aex h fM fN hr hd e
   ·rename_i T U x e;exact aed h hC fM fN hr hd e
   ·rename_i c e;cases c with|mk callee args argTypes=>
    split at hr
    ·rename_i hc;simp only at hc;split at hr
     ·rename_i s x T T' ha ME;simp only at ha ME;cases hT:Nat.beq T T'<;>simp only[hT,cond_true,cond_false] at hr
      ·cases hr
      have yh:=aw hT;subst yh;refine ad7 h hC fM fN hr hd ?_;have h1:args=#[s,x]:=by rw[←rK];exact ha
      have h2:argTypes=#[T,T]:=by rw[←rK];exact ME
      rw[e,hc,h1,h2]
     ·cases hr
    ·rename_i f hc;simp only at hc;split at hr
     ·rename_i q hq;cases hr;exact ael h hC aW hΦ fM fN dC hg hq hd (by rw[e,hc])
     ·split at hr
      ·split at hr
       ·rename_i q hq;cases hr;exact aej h hC aW hΦ fM fN hq hd (by rw[e,hc])
       ·split at hr
        ·rename_i q hq;cases hr;exact aeh h hC aW hΦ fM fN hq hd (by rw[e,hc])
        ·simp only[ax] at hr;obtain⟨q,hq,rfl⟩:=hr;rw[←hd];exact Uk h hC aW hΦ ht hq (by rw[e,hc])
      ·cases hr
    ·rename_i x hnf hc;simp only at hc;split at hr
     ·rename_i q hq;cases hr;exact aef h hC aW hΦ fM fN dC hg hq hd (by rw[e,hc])
     ·split at hr
      ·simp only[ax] at hr;obtain⟨q,hq,rfl⟩:=hr;rw[←hd];exact Ui h hC aW hΦ ht hq (by rw[e,hc])
      ·cases hr
    ·cases hr
   ·rename_i fn first caps e;exact aet h fM fN hr hd e
   ·cases hr
 ·rename_i hd;split at hr
  ·rename_i T x v e;exact aez h hC hr hd e
  ·rename_i T m k v e;exact Um h hC hr hd (.inl e)
  ·rename_i T m k v e;exact Um h hC hr hd (.inr e)
  ·cases hr;intro ρ' aj;simp[PI.runs,PI.run,PE.ev,D.bool,D.b] at aj
  ·rename_i c e;cases c with|mk callee args argTypes=>
   split at hr
   ·rename_i f hc;simp only at hc;simp only[ax] at hr;obtain⟨q,hq,rfl⟩:=hr;rw[←hd];exact Uk h hC aW hΦ ht hq (by rw[e,hc])
   ·rename_i t hc;simp only at hc;simp only[ax] at hr;obtain⟨q,hq,rfl⟩:=hr;rw[←hd];exact Ui h hC aW hΦ ht hq (by rw[e,hc])
   ·cases hr
  ·cases hr
theorem adJ {g:Nat×Bool}{bJ:List (Nat×Bool)}{o:Oper}{r:St×List PI}(hr:core C S (g::bJ) o=some r):
 ∃dst S2 s,o.dst=some dst∧r.1=S2.setR dst (.opt (g::bJ) s)∧((∃js,S2=S.fzs js)∨∃j,S2=S.newO j .dead)∧(∀gs s',s≠.opt gs s')∧(∀x,o.op≠.assign x)∧(∀T,o.op≠.alloc T)∧∀T x v,o.op≠.store T x v:=by
 unfold core at hr;split at hr
 ·rename_i dst hd;split at hr
  ·rename_i q hq;cases eG:Hx q.1<;>simp only[eG,cond_true,cond_false] at hr
   ·cases hr
   cases hr;refine⟨dst,S,q.1,hd,rfl,.inl ⟨[],rfl⟩,(fun gs s' e=>by rw[e] at eG;cases eG),fun x e=>?_,fun T e=>?_,fun T x v e=>?_⟩<;>(rw[e] at hq;simp[HR] at hq)
  ·rename_i L9;clear L9;split at hr
   case h_4=>
        rename_i T n ps e;split at hr
        ·rename_i hx;cases hx
        ·unfold xS at hr;split at hr
         case h_2=>cases hr
         simp only[ar] at hr;obtain⟨e0,he0,hr⟩:=hr;split at hr
         ·cases hr;exact⟨dst,_,.dat (.slice e0.rol),hd,rfl,.inr ⟨dst,rfl⟩,(fun _ _ e=>by cases e),(fun x e'=>by rw[e] at e';cases e'),(fun x e'=>by rw[e] at e';cases e'),(fun _ _ _ e'=>by rw[e] at e';cases e')⟩
         ·cases hr
   case h_9=>
        rename_i c e;split at hr
        ·rename_i hx;cases hx
        ·rename_i f hc;split at hr
         ·rename_i q hq;cases hr;simp only[xQ,ar] at hq;obtain⟨s,hs,hq⟩:=hq;split at hq
          case h_2=>cases hq
          simp only[ar] at hq;obtain⟨u,hu,hq⟩:=hq;cases bT:Ty.subs u.1 s.args<;>simp only[bT,cond_true,cond_false] at hq
          ·cases hq
          cases hq;refine⟨dst,_,.dat s.res,hd,rfl,?_,(fun _ _ e=>by cases e),(fun x e'=>by rw[e] at e';cases e'),(fun x e'=>by rw[e] at e';cases e'),(fun _ _ _ e'=>by rw[e] at e';cases e')⟩;left;cases s.res.pure
          ·exact⟨_,rfl⟩
          ·exact⟨[],rfl⟩
         ·cases hr
        ·rename_i x hnf hc;have hr:∃q,uz C S (g::bJ) dst x c.args.toList=some q∧(q.1.setR dst (qN (g::bJ) q.2.1),q.2.2)=r:=by
          split at hr
          ·rename_i q hq;cases hr;exact⟨q,hq,rfl⟩
          ·split at hr
           all_goals (first|(cases hr;done)|(rename_i hx;cases hx;done)|(rename_i hx _;cases hx;done)|(rename_i hx _ _;cases hx;done)|(rename_i hx;exact absurd hx (by simp)))
         obtain⟨q,hq,rfl⟩:=hr;unfold uz at hq;split at hq
         case h_2=>cases hq
         rename_i aa r0 ee Wg;split at hq
         case h_1=>cases hq
         simp only[ar] at hq;obtain⟨u,hu,hq⟩:=hq;cases bT:Ty.subs u.1 aa<;>simp only[bT,cond_true,cond_false] at hq
         ·cases hq
         cases hq;refine⟨dst,_,.dat r0,hd,rfl,?_,(fun _ _ e=>by cases e),(fun x e'=>by rw[e] at e';cases e'),(fun x e'=>by rw[e] at e';cases e'),(fun _ _ _ e'=>by rw[e] at e';cases e')⟩;left;cases r0.pure
         ·exact⟨_,rfl⟩
         ·exact⟨[],rfl⟩
        ·cases hr
   all_goals (first|(cases hr;done)|(rename_i hx;cases hx;done)|(rename_i hx _;cases hx;done))
 ·split at hr
  all_goals (first|(cases hr;done)|(rename_i hx;cases hx;done)|(rename_i hx _;cases hx;done))
theorem VY {ρ ρ1:Env}:∀{l:List (Nat×Bool)},(∀g,g∈l→ρ1.r g.1=ρ.r g.1)→holds l ρ1=holds l ρ
 |[],_=>rfl
 |x::l,h=>by
  have ih:=VY (l:=l) fun y hy=>h y (ef _ hy);unfold holds at ih ⊢;simp only[oG];rw[ih,h x (eC ..)]
theorem US:∀(l:List Gh) {S:St} {r:St×List PI},lG C l S=some r→∀t,t∉r.2.flatMap PI.modR
 |[],S,r,hr=>by simp only[lG,aT] at hr;subst hr;simp
 |g::l,S,r,hr=>by
  simp only[lG,ar,ax] at hr;obtain⟨q,hq,q2,gV,rfl⟩:=hr;have ih:=US l gV;have hg:∀t,t∉q.2.flatMap PI.modR:=by
   cases g with
   |fz j=>simp only[Gh.run,aT] at hq;subst hq;simp
   |fbox b=>
    simp only[Gh.run,Bh] at hq;split at hq
    case h_2=>cases hq
    simp only[ar] at hq;obtain⟨x,hx,hq⟩:=hq;rename_i ag shs eo;cases ag<;>simp only[cond_true,cond_false] at hq
    ·split at hq
     ·cases hq;simp[PI.modR]
     ·cases hq
    ·cases hq;simp[PI.modR]
   |rereg t j=>
    simp only[Gh.run,DH] at hq;split at hq
    ·rename_i j' ver es;cases hb:(Nat.beq ver (S.ver j')&&kS (S.o j')&& !Nat.beq j' j)<;>simp only[hb,cond_true,cond_false] at hq<;>cases hq<;>simp[PI.modR]
    ·cases hq;simp
   |recell b i j=>
    simp only[Gh.run,DG] at hq;split at hq
    ·split at hq
     ·rename_i ag shs eo j' ver es;cases hb:(Nat.beq ver (S.ver j')&&kS (S.o j')&& !Nat.beq j' j&& !Nat.beq b j&& !Nat.beq b j')<;>simp only[hb,cond_true,cond_false] at hq<;>cases hq<;>simp[PI.modR]
     ·cases hq;simp
    ·cases hq;simp
   |home b i j T=>
    simp only[Gh.run,B1] at hq;split at hq
    ·split at hq
     ·cases hb:(!Nat.beq b j)<;>simp only[hb,cond_true,cond_false] at hq<;>cases hq<;>simp[PI.modR]
     ·cases hq;simp
    ·cases hq;simp
  intro t hm;rw[List.flatMap_append,dg] at hm;exact hm.elim (hg t) (ih t)
theorem adz (h:Good C w0 σ0 S ρ A a w)(hC:CtxOK C σ0)(aW:dy C)(hΦ:cY C Φ){ops:Array Oper}{o:Oper}(ht:∀d,o.dst=some d→¬A d∧d<a.tmps.size)
 (hj:∀j want t,o.guard=some (j,want)→(ops[j]?).bind (·.dst)=some t→A t) {r:St×List PI} (hr:FQ C S ops o=some r) {ρ':Env} (aj:PI.runs Φ r.2 ρ=some ρ')
 {K:Act→World→Prop} {Q:Exit→Act→World→Prop} (hK:∀a' w',Good C w0 σ0 r.1 ρ' (fun u=>A u∨o.dst=some u) a' w'→a'.tmps.size=a.tmps.size→K a' w'):
 if Region.wanted o (yielded ops a.tmps) then o.wp C.P a w K Q else K (a.put o.dst undef) w:=by
 simp only[FQ,ar] at hr;obtain⟨gs,dC,r1,kj,r2,pz,r3,uZ,hr⟩:=hr;have yt:=UY h dC hj;rw[UZ h dC];cases hc:Gc gs o.dst r2.2<;>simp only[hc,cond_true,cond_false] at hr
 ·cases hr
 cases hr;simp only[p5,ar] at aj;obtain⟨ρ2,⟨ρ1,hρ1,hρ2⟩,hρ3⟩:=aj;have h1:=Lj _ h kj hρ1;have cP:=h1;obtain⟨σ1,dq,aQ,i1⟩:=cP;have GG:holds gs ρ1=holds gs ρ:=by
  cases gs with
  |nil=>rfl
  |cons g bJ=>
   have hb:=(PI.runs_but hρ1).r
   have:∀x,x∈(g::bJ)→ρ1.r x.1=ρ.r x.1:=fun x hm=>hb x.1 (by
        intro cQ;exact US _ kj x.1 cQ)
   exact VY this
 cases hh:holds gs ρ with
 |true=>
  simp only[if_true];rw[hh] at GG;refine adL i1 hC aW hΦ ht yt GG pz ρ2 hρ2 K Q (fun a' w' jK aN=>?_);exact hK a' w' (Lj (r:=r3) _ jK uZ hρ3) aN
 |false=>
  simp only[wG,if_false];rw[hh] at GG;cases gs with
  |nil=>simp[holds] at hh
  |cons g bJ=>
   obtain⟨dst,S2,s,hd,hS,yg,hns,n1,n2,n3⟩:=adJ pz;obtain⟨t1,t2⟩:=ht dst hd;have nS:post C r2.1 o=[]:=by
        unfold post;split
        ·rename_i x t e _;exact absurd e (n1 x)
        ·rename_i T t e _;exact absurd e (n2 T)
        ·rename_i T x v e;exact absurd e (n3 T x v)
        ·rfl
   rw[nS] at uZ;simp only[lG,aT] at uZ;subst uZ;have:=mZ hρ3;subst this;obtain⟨σ2,gJ,i2⟩:∃σ2 gJ,Inv C S2 ρ1 σ2 gJ aQ w0 σ0 A a w:=by
        rcases yg with⟨js,rfl⟩|⟨j,rfl⟩
        ·obtain⟨σ2,gJ,_,i2⟩:=Inv.fzs js i1;exact⟨σ2,gJ,i2⟩
        ·exact⟨σ1,dq,i1.kill j⟩
   have B4:=i2.passed t1 t2 yt GG (s:=s) hns (ρ'.r dst);have hρe:ρ1.setR dst (ρ'.r dst)=ρ':=by
        have hb:=PI.runs_but hρ2;simp only[Gc,hd] at hc;unfold Zi at hc;rw[df] at hc
        have e1:∀t,t≠dst→ρ'.r t=ρ1.r t:=fun t az=>hb.r t (fun hm=>by
         obtain⟨p,hp,sC⟩:=Eg.1 hm;have:=hc p hp;simp only[aq] at this;have:=df.1 this.1 t sC;exact az (aw this).symm)
        have e2:∀t,ρ'.o t=ρ1.o t:=fun t=>hb.o t (fun hm=>by
         obtain⟨p,hp,sC⟩:=Eg.1 hm;have:=hc p hp;simp only[aq] at this;have h9:=SY.1 this.2;rw[h9] at sC;cases sC)
        have r1:bV ρ1.r dst (ρ'.r dst)=ρ'.r:=by
         funext t;rw[fg];split
         ·rename_i e;subst e;rfl
         ·rename_i az;exact(e1 t az).symm
        have r2:ρ1.o=ρ'.o:=funext fun t=>(e2 t).symm;cases ρ' with|mk a b=>simp only[Env.setR] at r1 r2 ⊢;rw[r1,r2]
   rw[hρe] at B4;have jJ:(fun u=>A u∨o.dst=some u)=(fun u=>A u∨u=dst):=by funext u;rw[hd];simp[eq_comm]
   rw[jJ] at hK;rw[hd];refine hK _ _ ?_ (size_put _ _ _);simp only;rw[hS];exact⟨_,_,_,B4⟩
theorem adB (h:Good C w0 σ0 S ρ A a w)(hC:CtxOK C σ0)(aW:dy C)(hΦ:cY C Φ){ops:Array Oper}{o:Oper}(ht:∀d,o.dst=some d→¬A d∧d<a.tmps.size)
 (hj:∀j want t,o.guard=some (j,want)→(ops[j]?).bind (·.dst)=some t→A t) {r:St×List PI} (hr:AO C S ops o=some r) {ρ':Env} (aj:PI.runs Φ r.2 ρ=some ρ')
 {K:Act→World→Prop} {Q:Exit→Act→World→Prop} (hK:∀a' w',Good C w0 σ0 r.1 ρ' (fun u=>A u∨o.dst=some u) a' w'→a'.tmps.size=a.tmps.size→K a' w'):
 if Region.wanted o (yielded ops a.tmps) then o.wp C.P a w K Q else K (a.put o.dst undef) w:=by
 unfold AO at hr;split at hr
 ·rename_i q hq;cases hr;exact adz h hC aW hΦ ht hj hq aj hK
 ·cases hr;simp[PI.runs,PI.run,DV,PE.ev,D.b_bool] at aj
end
end Cx
