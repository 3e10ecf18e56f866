import Derived.Test.YtbagcfebdgiihaaGreatDoorAAC
import Derived.Tactics
import Derived.RangeFuncIn
import Derived.OrdersIn
import Derived.RangeFuncRecord
noncomputable section
set_option linter.all false
namespace Cx
open Go Go.RowKit
open Classical in
def Im.noM (H:Im):Im:=⟨H.c,λk=>if H.m k=some fZ then none else H.m k⟩
def Rep.noM {cap:Nat->Option CSig}{H:Im}{t:Ty}{v:Value}{d:D}(h:Rep cap H t v d):Rep cap H.noM t v d:=by
 induction h with
 |int k n h1 h2=>exact .int k n h1 h2
 |bool b=>exact .bool b
 |str s h=>exact .str s h
 |agg ts vs ds h1 h2 _ ho ih=>exact .agg ts vs ds h1 h2 ih ho
 |tup ts vs ds h1 h2 _ ih=>exact .tup ts vs ds h1 h2 ih
 |nil e=>exact .nil e
 |emp e a=>exact .emp e a
 |nils e=>exact .nils e
 |nsl0 e=>exact .nsl0 e
 |nsl e k o n c xs _ hx ih=>exact .nsl e k o n c xs ih hx
 |slice e k o n c xs vs hn hc hm _ hv ih=>exact .slice e k o n c xs vs hn hc hm ih hv
 |mapnil kt et=>exact .mapnil kt et
 |map kt et r j0 es hm hl hx hk _ kO Hf=>
  refine .map kt et r j0 es ?_ hl hx kO Hf;have aI:H.m r≠some fZ:=λe=>by rw[hm] at e;cases e;exact Hz hl hk rfl
  simp only[Im.noM,if_neg aI,hm]
 |ref t k o v d _ hv ih=>exact .ref t k o v d ih hv
 |fn f cs vs ds hc h1 h2 _ ih=>exact .fn f cs vs ds hc h1 h2 ih
 |fnnil aa r=>exact .fnnil aa r
def Im.plus (H τ:Im):Im:=⟨λk o=>(H.c k o).or (τ.c k o),λk=>(H.m k).or (τ.m k)⟩
def Im.plus_le1 (H τ:Im):H.le (H.plus τ):=⟨λk o v h=>by simp[Im.plus,h],λk v h=>by simp[Im.plus,h]⟩
def sS.det {w:World}{k:Nat}{x y:List (Value×Value)}(h:sS w k x)(g:sS w k y):x=y:=by
 rcases h with⟨_,a,c,h1,h2⟩|⟨h1,h2⟩<;>rcases g with⟨_,a',c',g1,g2⟩|⟨g1,g2⟩
 .rw[h1] at g1;cases g1;rw[<-h2,<-g2]
 .rw[h1] at g2;cases g2
 .rw[h2] at g1;cases g1
 .rw[h1,g1]
def Im.plus_le2 {H τ:Im}{w:World}(h:H.ok w)(g:τ.ok w):τ.le (H.plus τ):=by
 refine⟨λk o v e=>?_,λk v e=>?_⟩
 .show(H.c k o).or (τ.c k o)=some v;cases hc:H.c k o with
  |none=>simpa using e
  |some u=>have:=(h.c k o u hc).symm.trans (g.c k o v e);simpa using this
 .show(H.m k).or (τ.m k)=some v;cases hc:H.m k with
  |none=>simpa using e
  |some u=>simpa using(h.m k u hc).det (g.m k v e)
def Im.plus_ok {H τ:Im}{w:World}(h:H.ok w)(g:τ.ok w):(H.plus τ).ok w:=by
 refine⟨λk o v e=>?_,λk v e=>?_⟩
 .change (H.c k o).or (τ.c k o)=some v at e;cases hc:H.c k o with
  |none=>rw[hc] at e;exact g.c k o v (by simpa using e)
  |some u=>rw[hc] at e;simp at e;subst e;exact h.c k o u hc
 .change (H.m k).or (τ.m k)=some v at e;cases hc:H.m k with
  |none=>rw[hc] at e;exact g.m k v (by simpa using e)
  |some u=>rw[hc] at e;simp at e;subst e;exact h.m k u hc
def Im.plus_c {H τ:Im}{k o:Nat}{v:Value}(h:(H.plus τ).c k o=some v):H.c k o=some v\/τ.c k o=some v:=by
 change (H.c k o).or (τ.c k o)=some v at h;cases hc:H.c k o with
 |none=>rw[hc] at h;exact .inr (by simpa using h)
 |some u=>rw[hc] at h;exact .inl (by simpa using h)
def Im.plus_m {H τ:Im}{k:Nat}{v:List (Value×Value)}(h:(H.plus τ).m k=some v):H.m k=some v\/τ.m k=some v:=by
 change (H.m k).or (τ.m k)=some v at h;cases hc:H.m k with
 |none=>rw[hc] at h;exact .inr (by simpa using h)
 |some u=>rw[hc] at h;exact .inl (by simpa using h)
def Ty.pureT:Ty->Bool
 |.int _|.bool|.str|.nils _=>true
 |_=>false
def Ty.pure:Ty->Bool
 |.tup ts=>ts.all Ty.pureT
 |.agg ts=>ts.all Ty.pureT
 |t=>Ty.pureT t
def Rep.pureT {cap:Nat->Option CSig}{H τ:Im}{t:Ty}{v:Value}{d:D}(h:Rep cap H t v d)(hp:t.pureT=true):Rep cap τ t v d:=by
 cases h<;>simp[Ty.pureT] at hp<;>constructor<;>assumption
def Rep.pure {cap:Nat->Option CSig}{H τ:Im}{t:Ty}{v:Value}{d:D}(h:Rep cap H t v d)(hp:t.pure=true):Rep cap τ t v d:=by
 cases h with
 |agg ts vs ds h1 h2 h ho=>exact .agg ts vs ds h1 h2 (λi t hi=>(h i t hi).pureT (fe.1 hp t (tZ hi))) ho
 |tup ts vs ds h1 h2 h=>exact .tup ts vs ds h1 h2 (λi t hi=>(h i t hi).pureT (fe.1 hp t (tZ hi)))
 |int k n h1 h2=>exact .int k n h1 h2
 |bool b=>exact .bool b
 |str s h=>exact .str s h
 |nils e=>exact .nils e
 |_=>simp[Ty.pure,Ty.pureT] at hp
def ua (C:Ctx)(s:Sig)(H':Im)(w w':World)(v:Value)(d:D):Prop:=
 match s.mode with
 |.dat=>Rep C.cap H' s.res v d
 |.it _=>True
 |.ob ..=>True
 |.row T e=>∃cells xs,d=.list xs/\w'.ownsRow w.heap.size T e.size v xs.length cells/\j4 C.cap H' e cells xs/\∀k,v.ownBlock=some k->(∀o,H'.c k o=none)/\H'.m k=none
def rV (C:Ctx)(H:Im)(ts:List Ty)(args:List Value)(ds:List D):Prop:=
 args.length=ts.length/\ds.length=ts.length/\∀(i:Nat) (t:Ty),ts[i]?=some t->Rep C.cap H t (args.getD i undef) (ds.getD i .none)
def mL (C:Ctx)(f:Nat)(s:Sig)(ds:List D)(d:D):Prop:=
 ∀(H:Im) (w:World) (args:Array Value),H.ok w->CtxOK C H->rV C H s.args args.toList ds->
  Calls C.P f args w λe w'=>∃v H',e=.returned v/\H.le H'/\H'.ok w'/\Below w.heap.size w w'/\
   (∀k o x,H'.c k o=some x->H.c k o=some x\/w.heap.size<=k)/\(∀k x,H'.m k=some x->H.m k=some x\/w.heap.size<=k)/\ua C s H' w w' v d
def axk:List (Nat×Ob)->List D->Nat->D
 |x::l,d::ds,j=>bif Nat.beq x.1 j then d else axk l ds j
 |_,_,_=>.none
def Ae:Mode->Bool
 |.ob ..=>true
 |_=>false
def azu:List Sh->List (Nat×Ob)->Option (TypeId×Ty×List Ty)
 |.obj 0 0::l,[(0,.row T e),(1,.tr)]=>(afh l).map λts=>(T,e,ts)
 |_,_=>none
def EB (C:Ctx)(f:Nat)(T:TypeId)(e:Ty)(ts:List Ty)(ds:List D)(d:D):Prop:=True
def EC (C:Ctx)(f:Nat)(aP:List Sh)(dQ:List (Nat×Ob))(res:Ty)(ds:List D)(d:D):Prop:=True
def EC.ctx {C C':Ctx}{f:Nat}{aP:List Sh}{dQ:List (Nat×Ob)}{res:Ty}{ds:List D}{d:D}(h:EC C f aP dQ res ds d)(hP:C'.P=C.P)(CZ:C'.cap=C.cap)(C7:C'.glob=C.glob):EC C' f aP dQ res ds d:=trivial
def EB.ctx {C C':Ctx}{f:Nat}{T:TypeId}{e:Ty}{ts:List Ty}{ds:List D}{d:D}(h:EB C f T e ts ds d)(hP:C'.P=C.P)(CZ:C'.cap=C.cap)(C7:C'.glob=C.glob):EB C' f T e ts ds d:=trivial
def mM (C:Ctx)(f:Nat)(aP:List Sh)(dQ:List (Nat×Ob))(res:Ty)(ds:List D)(d:D):Prop:=
 match azu aP dQ with
 |some m=>EB C f m.1 m.2.1 m.2.2 ds d
 |none=>EC C f aP dQ res ds d
def mM.ctx {C C':Ctx}{f:Nat}{aP:List Sh}{dQ:List (Nat×Ob)}{res:Ty}{ds:List D}{d:D}(h:mM C f aP dQ res ds d)(hP:C'.P=C.P)(CZ:C'.cap=C.cap)(C7:C'.glob=C.glob):mM C' f aP dQ res ds d:=by
 unfold mM at h ⊢;split at h
 .exact EB.ctx h hP CZ C7
 .exact EC.ctx h hP CZ C7
def dS (C:Ctx)(V:bf):Prop:=∀f ds d,V f ds=some d->∀s,C.sig f=some s->(Ae s.mode=false->mL C f s ds d)/\∀aP dQ,s.mode=.ob aP dQ->mM C f aP dQ s.res ds d
def oT:List Ty->Ty->Option (List Ty)
 |[.fn ys .bool],.tup []=>some ys
 |_,_=>none
def eB (C:Ctx):Prop:=(∀f cs,C.cap f=some cs->oT cs.args cs.res=none->C.sig f=some ⟨cs.args++cs.caps,cs.res,.dat⟩)/\∀f s,C.sig f=some s->∃fn,C.P.funcs[f]?=some fn/\fn.body.isSome=true/\(fn.name== "runtime.NumGoroutine")=false
def J7 (S:St):List AgC->List Nat
 |[]=>[]
 |.obj j ver::l=>bif Nat.beq ver (S.ver j)&&ni (S.o j) then j::J7 S l else J7 S l
 |_::l=>J7 S l
def eZ (S:St)(gs:List (Nat×Bool)):List Operand->List Nat
 |[]=>[]
 |x::xs=>
  match lb S gs x with
  |.obj j ver=>bif Nat.beq ver (S.ver j)&&ni (S.o j) then j::eZ S gs xs else eZ S gs xs
  |.agg l=>J7 S l++eZ S gs xs
  |_=>eZ S gs xs
def uD (gs:List (Nat×Bool))(s:Sh):Sh:=
 match gs with
 |[]=>s
 |_=>.opt gs s
def St.fzs (S:St)(js:List Nat):St:=js.foldl St.fz S
def CI (C:Ctx)(S:St)(gs:List (Nat×Bool))(dst:Nat)(f:Nat)(args:List Operand):Option (St×Sh×List PI):=
 (C.sig f).bind λs=>
    match s.mode with
    |.dat=>
     (tK C (S.fzs (eZ S gs args)) gs args).bind λu=>
       bif Ty.subs u.1 s.args then some (bif s.res.pure then S else S.fzs (eZ S gs args),.dat s.res,[.call gs dst f u.2]) else Option.none
    |_=>Option.none
def FU (C:Ctx)(S:St)(dst:Nat)(f:Nat)(args:List Operand):l5:=
 (C.sig f).bind λs=>
    match s.mode with
    |.row T e=>
     (tK C (S.fzs (eZ S [] args)) [] args).bind λu=>
       bif Ty.subs u.1 s.args then some (mkObj (bif e.pure then S else S.fzs (eZ S [] args)) dst (.row T e),[.call [] dst f u.2,.setO dst (.r dst),.setR dst (.con .none)]) else Option.none
    |_=>Option.none
def TF (C:Ctx)(S:St)(dst:Nat)(f:Nat)(args:List Operand):l5:=none
def zf (C:Ctx)(S:St)(gs:List (Nat×Bool))(dst:Nat)(x:Operand)(args:List Operand):Option (St×Sh×List PI):=
 match use C S gs x with
 |some (.fn aa r,e)=>
  match oT aa r with
  |some _=>Option.none
  |Option.none=>
  (tK C (S.fzs (eZ S gs args)) gs args).bind λu=>
    bif Ty.subs u.1 aa then some (bif r.pure then S else S.fzs (eZ S gs args),.dat r,[.callc gs dst e u.2]) else Option.none
 |_=>Option.none
def Ga:∀(js:List Nat) (S:St),(S.fzs js).ver=S.ver/\(S.fzs js).r=S.r
 |[],S=>⟨rfl,rfl⟩
 |j::js,S=>by
  obtain⟨h1,h2⟩:=Ga js (S.fz j);obtain⟨k1,k2⟩:=TZ S j;exact⟨h1.trans k1,h2.trans k2⟩
section
variable {C:Ctx} {S:St} {Z:Env} {H:Im} {own:Nat->Option Nat} {hv:Nat->Value} {w0:World} {σ0:Base} {A:Nat->Prop} {a:Act} {w:World} {gs:List (Nat×Bool)} {V:bf} {dst:Nat}
def Inv.fzs:∀(js:List Nat) {S:St} {H:Im} {own:Nat->Option Nat},Inv C S Z H own hv w0 σ0 A a w->∃H' own',H.le H'/\Inv C (S.fzs js) Z H' own' hv w0 σ0 A a w
 |[],S,H,own,h=>⟨H,own,.refl H,h⟩
 |j::js,S,H,own,h=>by
  obtain⟨H1,kS,hle,h1⟩:=h.fz j;obtain⟨σ2,jV,wU,h2⟩:=Inv.fzs js h1;exact⟨σ2,jV,hle.trans wU,h2⟩
def Inv.world (h:Inv C S Z H own hv w0 σ0 A a w){H':Im}{w':World}(hle:H.le H')(aE:H'.ok w')(hb:Below w.heap.size w w')(gG:∀k o x,H'.c k o=some x->H.c k o=some x\/w.heap.size<=k)
 (eK:∀k x,H'.m k=some x->H.m k=some x\/w.heap.size<=k):Inv C S Z H' own hv w0 σ0 A a w':=by
 have bp:=h.below.size;refine h.step (λ_=>False) rfl hle aE (λk o x hx=>(gG k o x hx).imp id (λe=>⟨by omega,.inr e⟩)) (λk x hx=>(eK k x hx).imp id (λe=>⟨by omega,.inr e⟩)) (hb.mono bp) (.refl S hv) (λj _=>⟨rfl,rfl,rfl,λk hk=>⟨hk,hb.block k (h.owns k j hk).2.1⟩⟩) (λ_ hf=>hf.elim) (λk j hk=>?_) (λ_=>id) (λt=>.inl ⟨rfl,rfl,rfl⟩) (λ_ _=>rfl) (λk hk _=>hb.block k hk) (λk i hk=>.inl ⟨i,hk⟩) (λ_ hf=>hf.elim);obtain⟨g1,g2,g3,g4⟩:=h.owns k j hk;refine⟨g1,by have:=hb.size;omega,λo=>?_,?_⟩
 .cases hc:H'.c k o with
  |none=>rfl
  |some x=>rcases gG k o x hc with e|e
           .rw[g3 o] at e;cases e
           .omega
 .cases hc:H'.m k with
  |none=>rfl
  |some x=>rcases eK k x hc with e|e
           .rw[g4] at e;cases e
           .omega
def CtxOK.mono {C:Ctx}{H H':Im}(h:CtxOK C H)(hle:H.le H'):CtxOK C H':=⟨λg x hx=>(h.glob g x hx).mono hle⟩
def Rd (h:Inv C S Z H own hv w0 σ0 A a w)(hC:CtxOK C σ0)(hg:holds gs Z=true){xs:List Operand}{u:List Ty×List PE}{ts:List Ty}(hu:tK C S gs xs=some u)(hs:Ty.subs u.1 ts=true):rV C H ts (xs.map a.eval) (PE.evs Z u.2):=by
 obtain⟨l1,l2,bj⟩:=aov h hC hg _ _ hu;have hl:=Ty.subs_len _ _ hs;refine⟨by rw[nN];omega,by rw[PE.evs_eq,nN];omega,λi t hi=>?_⟩;obtain⟨s,ei,dw⟩:=Ty.subs_get _ _ hs i t hi;exact(bj i s ei).sub dw
def ann {o:Oper}{f:Nat}{args:Array Operand}{ts:Array TypeId}(bG:eB C){s:Sig}(hs:C.sig f=some s)(ho:o.op=.call {callee:=.value (.func f),args:=args,argTypes:=ts}):
 (execOp a.eval o).run C.P w=.ok (.enter f (args.map a.eval)) w:=by
 obtain⟨fn,h1,h2,h3⟩:=bG.2 f s hs;obtain⟨bd,gf⟩:=aet.1 h2;have h4:¬fn.name= "runtime.NumGoroutine" :=by simpa using h3
 simp[execOp,ho,resolve,Act.eval,Deferred.ofValue,invoke,callFunc,h1,gf,h4]
def aCl {o:Oper}{x:Operand}{f:Nat}{vs:List Value}{args:Array Operand}{ts:Array TypeId}(bG:eB C){s:Sig}(hs:C.sig f=some s)(hx:a.eval x=.func (.func f) #[] vs.toArray)(ho:o.op=.call {callee:=.value x,args:=args,argTypes:=ts}):
 (execOp a.eval o).run C.P w=.ok (.enter f (args.map a.eval++vs.toArray)) w:=by
 obtain⟨fn,h1,h2,h3⟩:=bG.2 f s hs;obtain⟨bd,gf⟩:=aet.1 h2;have h4:¬fn.name= "runtime.NumGoroutine" :=by simpa using h3
 simp[execOp,ho,resolve,hx,Deferred.ofValue,invoke,callFunc,h1,gf,h4]
def aeY (h:Inv C S Z H own hv w0 σ0 A a w)(hC:CtxOK C σ0)(ht:¬A dst)(aq:dst<a.tmps.size)(eT:∀g,g∈gs->A g.1)(hg:holds gs Z=true){f:Nat}{s:Sig}{js:List Nat}{adP:List Value}{ds:List D}{d:D}(uO:s.mode=.dat)(qZ:mL C f s ds d)
 (mg:∀H1 kS,H.le H1->Inv C (S.fzs js) Z H1 kS hv w0 σ0 A a w->rV C H1 s.args adP ds) {K:Act->World->Prop} {Q:Exit->Act->World->Prop}
 (hK:∀a' w',Good C w0 σ0 ((bif s.res.pure then S else S.fzs js).setR dst (uD gs (.dat s.res))) (Z.setR dst d) (λu=>A u\/u=dst) a' w'->a'.tmps.size=a.tmps.size->K a' w'):
 Calls C.P f adP.toArray w (λe lX=>match e with|.returned v=>K (a.put (some dst) v) lX|.panicked chain=>Q (.panic chain) a lX|.outgrown=>LetsOut Q):=by
 obtain⟨H1,kS,uL,h1⟩:=Inv.fzs js h;have Ur:=qZ H1 w adP.toArray h1.ok (hC.mono h1.le) (by simpa using mg H1 kS uL h1);refine Ur.mono λe w' hh=>?_;obtain⟨v,H',rfl,hle,aE,hb,gG,eK,oO⟩:=hh;simp only[ua,uO] at oO;refine hK _ _ ?_ (size_put _ _ _);have hh:holds gs (Z.setR dst d)=true:=by rw[GM (t:=dst) (d:=d) λg hm e=>ht (by rw[<-e];exact eT g hm)];exact hg
 have put:∀{S2:St} {σ2:Im} {jV:Nat->Option Nat},Inv C S2 Z σ2 jV hv w0 σ0 A a w'->Rep C.cap σ2 s.res v d->Good C w0 σ0 (S2.setR dst (uD gs (.dat s.res))) (Z.setR dst d) (λu=>A u\/u=dst) (a.put (some dst) v) w':=by
  intro S2 σ2 jV h2 hr;cases gs with
  |nil=>exact⟨_,_,_,h2.setReg ht (s:=.dat s.res) hr aq (λ_ _ e=>by cases e)⟩
  |cons g bY=>
   refine⟨_,_,_,h2.setReg ht (s:=.opt (g::bY) (.dat s.res)) ⟨λ_=>hr,λe=>absurd (hh.symm.trans e) (by decide)⟩ aq (λgs s e=>?_)⟩;cases e;exact⟨eT,λ_ _ e=>by cases e⟩
 cases hp:s.res.pure with
 |true=>
  simp only[zyv];exact put (h.world (.refl H) (h.ok.below hb) hb (λ_ _ _ hx=>.inl hx) (λ_ _ hx=>.inl hx)) (oO.pure hp)
 |false=>
  simp only[zyu];exact put (h1.world hle aE hb gG eK) oO
def Tk {o:Oper}{f:Nat}{args:Array Value}{K:Act->World->Prop}{Q:Exit->Act->World->Prop}(hd:o.dst=some dst)(hx:(execOp a.eval o).run C.P w=.ok (.enter f args) w)
 (h:Calls C.P f args w (λe lX=>match e with|.returned v=>K (a.put (some dst) v) lX|.panicked chain=>Q (.panic chain) a lX|.outgrown=>LetsOut Q)):o.wp C.P a w K Q:=by
 simp only[Oper.wp,hx,Oper.upon,hd];refine h.mono λe lX hh=>?_;cases e<;>exact hh
def aq8 (h:Inv C S Z H own hv w0 σ0 A a w)(hC:CtxOK C σ0)(bG:eB C)(hΦ:dS C V)(ht:¬A dst)(aq:dst<a.tmps.size)(eT:∀g,g∈gs->A g.1)(hg:holds gs Z=true){f:Nat}{args:Array Operand}{ts:Array TypeId}{r:St×Sh×List PI}
 (hr:CI C S gs dst f args.toList=some r) {o:Oper} (hd:o.dst=some dst) (ho:o.op=.call {callee:=.value (.func f),args:=args,argTypes:=ts}):cE C w0 σ0 V S Z A a w o (r.1.setR dst (uD gs r.2.1),r.2.2):=by
 simp only[CI,aJ] at hr;obtain⟨s,hs,hr⟩:=hr;split at hr
 case h_2=>cases hr
 rename_i uO;simp only[aJ] at hr;obtain⟨u,hu,hr⟩:=hr;cases cZ:Ty.subs u.1 s.args<;>simp only[cZ,zyv,zyu] at hr
 .cases hr
 cases hr;intro Z' az K Q hK;simp only[PI.runs,PI.run,hg,zyv,aJ,aT] at az;obtain⟨ρ1,⟨d,bB,rfl⟩,az⟩:=az;cases az;have qZ:=(hΦ f _ d bB s hs).1 (by rw[uO];rfl);refine Tk hd (ann bG hs ho) ?_;have sM:args.map a.eval=(args.toList.map a.eval).toArray:=by apply Rl;rw[JK]
 rw[sM];have m4:(λu=>A u\/o.dst=some u)=(λu=>A u\/u=dst):=by funext u;rw[hd];simp[eq_comm]
 rw[m4] at hK;exact aeY h hC ht aq eT hg (js:=eZ S gs args.toList) uO qZ (λH1 kS _ h1=>Rd h1 hC hg hu cZ) hK
def aq2 (h:Inv C S Z H own hv w0 σ0 A a w)(hC:CtxOK C σ0)(bG:eB C)(hΦ:dS C V)(ht:¬A dst)(aq:dst<a.tmps.size)(eT:∀g,g∈gs->A g.1)(hg:holds gs Z=true){x:Operand}{args:Array Operand}{ts:Array TypeId}{r:St×Sh×List PI}
 (hr:zf C S gs dst x args.toList=some r) {o:Oper} (hd:o.dst=some dst) (ho:o.op=.call {callee:=.value x,args:=args,argTypes:=ts}):cE C w0 σ0 V S Z A a w o (r.1.setR dst (uD gs r.2.1),r.2.2):=by
 unfold zf at hr;split at hr
 case h_2=>cases hr
 rename_i aa r0 e hu0;split at hr
 case h_1=>cases hr
 rename_i UP;simp only[aJ] at hr;obtain⟨u,hu,hr⟩:=hr;cases cZ:Ty.subs u.1 aa<;>simp only[cZ,zyv,zyu] at hr
 .cases hr
 cases hr;have hx:=cM h hC hg hu0;intro Z' az K Q hK;simp only[PI.runs,PI.run,hg,zyv,aJ] at az;obtain⟨ρ1,xd,az⟩:=az;cases az;split at xd
 case h_2=>cases xd
 rename_i f caps cf;simp only[aT] at xd;obtain⟨d,bB,rfl⟩:=xd;rw[cf] at hx;generalize gD:a.eval x=xv at hx;generalize bt:Ty.fn aa r0=ty at hx;cases hx with
 |fn f cs vs ds hc h1 h2 bj=>
  cases bt;have hs:=bG.1 f cs hc UP;have qZ:=(hΦ f _ d bB _ hs).1 rfl;refine Tk hd (aCl bG hs gD ho) ?_;have sM:args.map a.eval++vs.toArray=(args.toList.map a.eval++vs).toArray:=by apply Rl;simp
  rw[sM];have m4:(λu=>A u\/o.dst=some u)=(λu=>A u\/u=dst):=by funext u;rw[hd];simp[eq_comm]
  rw[m4] at hK;refine aeY h hC ht aq eT hg (js:=eZ S gs args.toList) (s:=⟨cs.args++cs.caps,cs.res,.dat⟩) rfl qZ (λH1 kS uL i1=>?_) hK;obtain⟨g1,g2,g3⟩:=Rd i1 hC hg hu cZ;refine⟨by simp only[nL,g1,h1],by simp only[nL,g2,h2],λi t hi=>?_⟩;rw[nK] at hi;split at hi
  .rename_i aq;have:=g3 i t hi;rw[bn,bn,tW (by omega),tW (by omega)];simpa [bn] using this
  .rename_i iS;have:=(bj _ t hi).mono uL;rw[bn,bn,rY (by omega),rY (by omega),g1,g2];simpa [bn] using this
def aq6 (h:Inv C S Z H own hv w0 σ0 A a w)(hC:CtxOK C σ0)(bG:eB C)(hΦ:dS C V)(ht:¬A dst)(aq:dst<a.tmps.size){f:Nat}{args:Array Operand}{ts:Array TypeId}{r:St×List PI}
 (hr:FU C S dst f args.toList=some r) {o:Oper} (hd:o.dst=some dst) (ho:o.op=.call {callee:=.value (.func f),args:=args,argTypes:=ts}):cE C w0 σ0 V S Z A a w o r:=by
 simp only[FU,aJ] at hr;obtain⟨s,hs,hr⟩:=hr;split at hr
 case h_2=>cases hr
 rename_i T e uO;simp only[aJ] at hr;obtain⟨u,hu,hr⟩:=hr;cases cZ:Ty.subs u.1 s.args<;>simp only[cZ,zyv,zyu] at hr
 .cases hr
 cases hr;intro Z' az K Q hK;have Gy:holds ([]:List (Nat×Bool)) Z=true:=rfl;simp only[PI.runs,PI.run,Gy,zyv,aJ,aT] at az;obtain⟨ρ1,⟨d,bB,rfl⟩,ρ2,g2,ρ3,g3,g4⟩:=az;cases g2;cases g3;cases g4;have qZ:=(hΦ f _ d bB s hs).1 (by rw[uO];rfl);obtain⟨H1,kS,uL,h1⟩:=Inv.fzs (eZ S [] args.toList) h;have sM:args.map a.eval=(args.toList.map a.eval).toArray:=by apply Rl;rw[JK]
 refine Tk hd (ann bG hs ho) ?_;rw[sM];have Ur:=qZ H1 w (args.toList.map a.eval).toArray h1.ok (hC.mono h1.le) (by simpa using Rd h1 hC rfl hu cZ);refine Ur.mono λe' w' hh=>?_;obtain⟨v,H',rfl,hle,aE,hb,gG,eK,oO⟩:=hh;simp only[ua,uO] at oO;obtain⟨cells,xs,rfl,dv,jv,sD⟩:=oO;refine hK _ _ ?_ (size_put _ _ _);have m4:(λu=>A u\/o.dst=some u)=(λu=>A u\/u=dst):=by funext u;rw[hd];simp[eq_comm]
 rw[m4];have main:∀{S2:St} {H1 σ2:Im} {jV:Nat->Option Nat},Inv C S2 Z H1 jV hv w0 σ0 A a w->H1.le σ2->σ2.ok w'->(∀k o x,σ2.c k o=some x->H1.c k o=some x\/w.heap.size<=k)->(∀k x,σ2.m k=some x->H1.m k=some x\/w.heap.size<=k)->j4 C.cap σ2 e cells xs->(∀k,v.ownBlock=some k->(∀o,σ2.c k o=none)/\σ2.m k=none)->
  Good C w0 σ0 (mkObj S2 dst (.row T e)) ((Z.setO dst (.list xs)).setR dst .none) (λu=>A u\/u=dst) (a.put (some dst) v) w':=by
  intro S2 H1 σ2 jV h2 wU avI avu avy auE auL;have bp:=h1.below.size
  have ml:=h2.newOσ dst (.row T e) (.list xs) v (λk=>decide (v.ownBlock=some k)) wU avI avu avy hb (λk hk=>dv.lt k (by simpa using hk)) (λk hk=>auL k (by simpa using hk)) ⟨cells,xs,by simp[Env.setO,bh],by
        rw[bh];refine⟨dv.1,?_⟩;rcases dv.2 with e1|⟨g,cap,cur,e1,e2,e3⟩
        .exact .inl e1
        .exact .inr ⟨g,cap,cur,e1,by omega,e3⟩,auE,λk hk=>by rw[bh] at hk;simp[gH,hk]⟩
  have ahf:=ml.setObj ht (j:=dst) (v:=v) (bh _ _ _) aq;have e:(S2.newO dst (.row T e)).ver dst=S2.ver dst+1:=bh _ _ _;rw[e] at ahf;exact⟨_,_,_,ahf⟩
 have eρ:((Z.setR dst (.list xs)).setO dst ((PE.r dst).ev (Z.setR dst (.list xs)))).setR dst ((PE.con D.none).ev ((Z.setR dst (.list xs)).setO dst ((PE.r dst).ev (Z.setR dst (.list xs)))))=(Z.setO dst (.list xs)).setR dst .none:=by
  have:∀d1 d2:D,cL (cL Z.r dst d1) dst d2=cL Z.r dst d2:=by
   intro d1 d2;funext i;simp only[ic];split<;>rfl
  simp[Env.setR,Env.setO,PE.ev,bh,this]
 show Good C w0 σ0 _ _ _ _ _;rw[eρ];cases hp:e.pure with
 |true=>
  simp only[zyv];refine main h (.refl H) (h.ok.below hb) (λ_ _ _ hx=>.inl hx) (λ_ _ hx=>.inl hx) ?_ (λk hk=>?_)
  .obtain⟨vs,k1,k2⟩:=jv;exact⟨vs,λi x hx=>(k1 i x hx).pure hp,k2⟩
  .obtain⟨f1,f2⟩:=sD k hk;refine⟨λo=>?_,?_⟩
   .cases hc:H.c k o with
    |none=>rfl
    |some x=>have:=hle.c _ _ _ (uL.c _ _ _ hc);rw[f1 o] at this;cases this
   .cases hc:H.m k with
    |none=>rfl
    |some x=>have:=hle.m _ _ (uL.m _ _ hc);rw[f2] at this;cases this
 |false=>
  simp only[zyu];exact main h1 hle aE gG eK jv sD
def aq4 (h:Inv C S Z H own hv w0 σ0 A a w)(hC:CtxOK C σ0)(bG:eB C)(hΦ:dS C V)(ht:¬A dst)(aq:dst<a.tmps.size){f:Nat}{args:Array Operand}{ts:Array TypeId}{r:St×List PI}
 (hr:TF C S dst f args.toList=some r) {o:Oper} (hd:o.dst=some dst) (ho:o.op=.call {callee:=.value (.func f),args:=args,argTypes:=ts}):cE C w0 σ0 V S Z A a w o r:=by cases hr
end
def scr:Nat:=1000000013
abbrev aoD:=Sh×Option (Ty×PE)
section
variable (ver:Nat->Nat) (is js:List Nat)
end
def aB (l:List Nat)(x:Nat):Bool:=l.any (Nat.beq x)
def MX (C:Ctx)(S:St)(f:Nat)(args:List Operand)(caps:List (Nat×Nat)):Option (St×Ty×List PI):=none
section
variable {C:Ctx} {S S1:St} {Z ρ1:Env} {H H1:Im} {own kS:Nat->Option Nat} {hv bD:Nat->Value} {w0:World} {σ0:Base} {A:Nat->Prop} {a:Act} {w w1:World} {V:bf} {dst:Nat}
 {is js:List Nat} {aP:List Sh} {dQ:List (Nat×Ob)} {ρf:Env}
def adX (C:Ctx)(S:St)(Z:Env)(H:Im)(hv:Nat->Value)(x:aoD)(v:Value)(d:D):Prop:=ba C S Z H hv x.1 v d/\∀y,x.2=some y->Rep C.cap H y.1 v (y.2.ev Z)
end
section
variable {C:Ctx} {S:St} {Z:Env} {H:Im} {own:Nat->Option Nat} {hv:Nat->Value} {w0:World} {σ0:Base} {A:Nat->Prop} {a:Act} {w:World} {V:bf} {dst:Nat}
 {is js:List Nat} {aP:List Sh} {dQ:List (Nat×Ob)}
def vd (S:St)(dst:Option Nat)(r:St×Ty×List PI):St×List PI:=
 match dst with
 |some d=>(r.1.setR d (.dat r.2.1),r.2.2++[.setR d (.tget (.o scr) 0)])
 |none=>(r.1,r.2.2)
def afx (h:Inv C S Z H own hv w0 σ0 A a w)(hC:CtxOK C σ0)(bG:eB C)(hΦ:dS C V){f:Nat}{args:Array Operand}{ts:Array TypeId}{r:St×Ty×List PI}{o:Oper}(ht:∀d,o.dst=some d->¬A d/\d<a.tmps.size)
 (hr:MX C S f args.toList []=some r) (ho:o.op=.call {callee:=.value (.func f),args:=args,argTypes:=ts}):cE C w0 σ0 V S Z A a w o (vd S o.dst r):=by cases hr
def MY (C:Ctx)(S:St)(t:Nat)(args:List Operand):Option (St×Ty×List PI):=none
def afv (h:Inv C S Z H own hv w0 σ0 A a w)(hC:CtxOK C σ0)(bG:eB C)(hΦ:dS C V){t:Nat}{args:Array Operand}{ts:Array TypeId}{r:St×Ty×List PI}{o:Oper}(ht:∀d,o.dst=some d->¬A d/\d<a.tmps.size)
 (hr:MY C S t args.toList=some r) (ho:o.op=.call {callee:=.value (.tmp t),args:=args,argTypes:=ts}):cE C w0 σ0 V S Z A a w o (vd S o.dst r):=by cases hr
def TG (C:Ctx)(S:St)(dst:Nat)(fn:Fn)(first caps:Array Operand):Option (St×List PI):=none
def ari (h:Inv C S Z H own hv w0 σ0 A a w)(ht:¬A dst)(aq:dst<a.tmps.size){fn:Fn}{first caps:Array Operand}{r:St×List PI}{o:Oper}(hr:TG C S dst fn first caps=some r)(hd:o.dst=some dst)(ho:o.op=.makeFunc fn first caps):cE C w0 σ0 V S Z A a w o r:=by cases hr
end
inductive Gh where
 |fz (j:Nat)|fbox (b:Nat)|rereg (t j:Nat)|recell (b i j:Nat)|home (b i j:Nat) (T:TypeId)
def Gh.run (C:Ctx)(S:St):Gh->Option (St×List PI)
 |.fz j=>some (S.fz j,[])
 |.fbox b=>F9 S b
 |.rereg t j=>Jq S t j
 |.recell b i j=>Jp S b i j
 |.home b i j T=>GN C S b i j T
def oz (C:Ctx):List Gh->St->Option (St×List PI)
 |[],S=>some (S,[])
 |g::gs,S=>(g.run C S).bind λr=>(oz C gs r.1).map λq=>(q.1,r.2++q.2)
def vF {V:bf}:∀{a b:List PI} {Z:Env},PI.runs V (a++b) Z=(PI.runs V a Z).bind (PI.runs V b)
 |[],b,Z=>by simp[PI.runs]
 |x::a,b,Z=>by
  simp only[Rv,PI.runs];cases x.run V Z with
  |none=>rfl
  |some ρ1=>simp[vF (a:=a) (b:=b)]
def CR (S:St)(ops:Array Oper)(o:Oper):Option (List (Nat×Bool)):=
 match o.guard with
 |none=>some []
 |some (j,want)=>
  match(ops[j]?).bind (·.dst) with
  |some t=>
   match S.r t with
   |.dat .bool=>some [(t,want)]
   |.opt gs (.dat .bool)=>some ((t,want)::gs)
   |_=>none
  |none=>none
def aAH (S:St)(gs:List (Nat×Bool)):Op->List Nat
 |.build _ ps=>eZ S gs (ps.toList.map (·.2))
 |.buildSlice _ _ ps=>eZ S gs (ps.toList.map (·.2))
 |.box _ x=>eZ S gs [x]
 |.pick _ x y=>eZ S gs [x,y]
 |.slice _ x _ _ _=>eZ S gs [x]
 |.mapUpdate _ _ k v=>eZ S gs [k,v]
 |.insert _ _ k v=>eZ S gs [k,v]
 |.store _ x v=>match lb S gs x with|.eptr ..=>eZ S gs [v]|_=>[]
 |_=>[]
def Ft:List Sh->List Nat
 |[]=>[]
 |.obj j _::r=>j::Ft r
 |_::r=>Ft r
def Kt (S:St)(gs:List (Nat×Bool)):List Operand->List Nat
 |[]=>[]
 |x::xs=>
  match lb S gs x with
  |.ptr j ver off=>bif Nat.beq ver (S.ver j)&&(match S.o j with|.box ..=>true|_=>false) then j::Kt S gs xs else Kt S gs xs
  |_=>Kt S gs xs
def aiV (C:Ctx):Fn->Bool
 |.func f=>(match C.sig f with|some s=>Ae s.mode|none=>false)
 |_=>false
def azl {α:Type}{b:Bool}{x:α}{l:List α}(h:x∈bif b then[] else l):x∈l:=by
 cases b with
 |true=>cases h
 |false=>exact h
def pre (C:Ctx)(S:St)(gs:List (Nat×Bool))(op:Op):List Gh:=
 match op with
 |.makeFunc fn _ caps=>
  bif aiV C fn then[] else(Kt S gs caps.toList).flatMap λb=>(match S.o b with|.box _ aP=>(Ft aP).map .fz|_=>[])++[.fbox b]
 |.load T x=>
  match lb S gs x,rj C.P T,C.P.info? T with
  |.ptr j _ off,some true,some inf=>bif agB C j then[] else(match S.o j with|.box _ aP=>(Ft ((aP.drop off).take inf.size)).map .fz|_=>[])
  |_,_,_=>[]
 |op=>(aAH S gs op).map .fz
def XE (C:Ctx)(S:St)(gs:List (Nat×Bool))(o:Oper):List Gh:=
 match o.op,o.dst with
 |.assign x,some t=>bif C.fr.any (Nat.beq t) then(eZ S gs [x]).map .fz else[]
 |_,_=>[]
def Tr (P:Program):Nat->TypeId->List (Option TypeId)
 |0,_=>[]
 |n+1,t=>
  match P.underlying t with
  |some (.struct fs)=>fs.toList.flatMap λf=>Tr P n f.type
  |some (.array len e)=>(List.replicate len (Tr P n e)).flatten
  |some (.slice e)=>[some e]
  |_=>[none]
def homes (P:Program)(b off:Nat)(T:TypeId):List Gh:=
 ((Tr P 12 T).zipIdx).filterMap λx=>x.1.map λe=>.home b (off+x.2) (ag7 b (off+x.2)) e
def Oa (nh:List Nat)(l:List Gh):List Gh:=l.filter λg=>match g with|.home _ _ j _=> !(nh.any (Nat.beq j))|_=>true
def anf (b off n:Nat):List Gh:=(List.range n).map λi=>.recell b (off+i) (ag7 b (off+i))
def post (C:Ctx)(S:St)(o:Oper):List Gh:=
 match o.op,o.dst with
 |.assign _,some t=>[.rereg t t]
 |.alloc T,some t=>Oa C.nh (homes C.P t 0 T)
 |.store T x _,_=>
  match lb S [] x with
  |.ptr j _ off=>Oa C.nh (homes C.P j off T)++anf j off (match C.P.info? T with|some i=>i.size|none=>0)
  |_=>[]
 |_,_=>[]
def Ow:Sh->Bool
 |.opt ..=>false
 |_=>true
def wy (C:Ctx)(S:St)(dst:Nat)(T:TypeId)(x:Operand):l5:=
 match x with
 |.const v=>(qy C.P T).bind λt=>(qz t).bind λz=>bif j2 t v then some (S.setR dst (.dat z.1),[.setR dst (.con z.2)]) else none
 |_=>none
def core (C:Ctx)(S:St)(gs:List (Nat×Bool))(o:Oper):Option (St×List PI):=
 match o.dst with
 |some dst=>
  match OY C S gs dst o.op with
  |some r=>bif Ow r.1 then some (S.setR dst (uD gs r.1),r.2) else none
  |none=>
   match o.op,gs with
   |.assign x,[]=>
    bif C.fr.any (Nat.beq dst) then
          match Au C S [] dst x with
          |some r=>some (S.setR dst r.1,r.2)
          |none=>wy C S dst o.type x
    else
    match FX C S dst o.type x with
    |some r=>some r
    |none=>
     match Au C S [] dst x with
     |some r=>some (S.setR dst r.1,r.2)
     |none=>wy C S dst o.type x
   |.alloc T,[]=>FO C S dst T
   |.box T x,[]=>FQ C S dst T x
   |.buildSlice T n ps,gs=>
    match gs with
    |[]=>ze C S [] dst T n ps.toList
    |_=>CJ C S gs dst T n ps.toList
   |.makeSlice T l c,[]=>FW C S dst T l c
   |.makeMap T r,[]=>FV C S dst T r
   |.range T x,[]=>FY C S dst T x
   |.convert T U x,[]=>FT C S dst T U x
   |.call c,gs=>
    match c.callee,gs with
    |.builtin .append,[]=>
     match c.args.toList,c.argTypes.toList with
     |[s,x],[T,T']=>bif Nat.beq T T' then FP C S dst T s x else none
     |_,_=>none
    |.value (.func f),gs=>
     match CI C S gs dst f c.args.toList with
     |some r=>some (r.1.setR dst (uD gs r.2.1),r.2.2)
     |none=>
      match gs with
      |[]=>
       match FU C S dst f c.args.toList with
       |some r=>some r
       |none=>
        match TF C S dst f c.args.toList with
        |some r=>some r
        |none=>(MX C S f c.args.toList []).map (vd S (some dst))
      |_=>none
    |.value x,gs=>
     match zf C S gs dst x c.args.toList with
     |some r=>some (r.1.setR dst (uD gs r.2.1),r.2.2)
     |none=>
      match x,gs with
      |.tmp t,[]=>(MY C S t c.args.toList).map (vd S (some dst))
      |_,_=>none
    |_,_=>none
   |.makeFunc fn first caps,[]=>TG C S dst fn first caps
   |_,_=>none
 |none=>
  match o.op,gs with
  |.store T x v,[]=>FZ C S T x v
  |.mapUpdate T m k v,[]=>CK C S T m k v
  |.insert T m k v,[]=>CK C S T m k v
  |.panic _,[]=>some (S,[.chk (.nt (.con (.bool true)))])
  |.call c,[]=>
   match c.callee with
   |.value (.func f)=>(MX C S f c.args.toList []).map (vd S none)
   |.value (.tmp t)=>(MY C S t c.args.toList).map (vd S none)
   |_=>none
  |_,_=>none
def alm (dst:Nat)(l:List PI):Bool:=l.all λp=>p.modR.all (Nat.beq dst)&&p.modO.isEmpty
def M9 (gs:List (Nat×Bool))(dst:Option Nat)(l:List PI):Bool:=
 match gs,dst with
 |[],_=>true
 |_,some d=>alm d l
 |_,none=>false
def MT (C:Ctx)(S:St)(ops:Array Oper)(o:Oper):Option (St×List PI):=
 (CR S ops o).bind λgs=>
 (oz C (pre C S gs o.op++XE C S gs o) S).bind λr1=>
 (core C r1.1 gs o).bind λr2=>
 (oz C (post C r2.1 o) r2.1).bind λr3=>
 bif M9 gs o.dst r2.2 then some (r3.1,r1.2++r2.2++r3.2) else none
def Jz:PI:=.chk (.con (.v (.bool false)))
def FK (C:Ctx)(S:St)(ops:Array Oper)(o:Oper):Option (St×List PI):=
 match MT C S ops o with
 |some r=>some r
 |none=>some (match o.dst with|some d=>S.setR d .none|none=>S,[Jz])
section
variable {C:Ctx} {S:St} {Z:Env} {H:Im} {own:Nat->Option Nat} {hv:Nat->Value} {w0:World} {σ0:Base} {A:Nat->Prop} {a:Act} {w:World} {gs:List (Nat×Bool)} {V:bf} {dst:Nat}
def Gh.sound {g:Gh}{r:St×List PI}(h:Good C w0 σ0 S Z A a w)(hr:g.run C S=some r):ED C w0 σ0 V S Z A a w r:=by
 obtain⟨H,own,hv,h⟩:=h;cases g with
 |fz j=>
  simp only[Gh.run,bx] at hr;subst hr;intro Z' az;rw[qv az];obtain⟨H',own',_,h'⟩:=h.fz j;exact⟨H',own',hv,h'⟩
 |fbox b=>exact atC h hr
 |rereg t j=>exact aB7 h hr
 |recell b i j=>exact aB6 h hr
 |home b i j T=>exact avM h hr
def T3:∀(l:List Gh) {S:St} {Z Z':Env} {r:St×List PI},Good C w0 σ0 S Z A a w->oz C l S=some r->PI.runs V r.2 Z=some Z'->Good C w0 σ0 r.1 Z' A a w
 |[],S,Z,Z',r,h,hr,az=>by
  simp only[oz,bx] at hr;subst hr;rw[qv az];exact h
 |g::l,S,Z,Z',r,h,hr,az=>by
  simp only[oz,aJ,aT] at hr;obtain⟨q,hq,q2,eM,rfl⟩:=hr;simp only[vF,aJ] at az;obtain⟨ρ1,h1,h2⟩:=az;exact T3 (r:=q2) l (Gh.sound (V:=V) h hq ρ1 h1) eM h2
def afY (h:Good C w0 σ0 S Z A a w){ops:Array Oper}{o:Oper}(hg:CR S ops o=some gs):Region.wanted o (yielded ops a.tmps)=holds gs Z:=by
 obtain⟨H,own,hv,h⟩:=h;unfold CR at hg;unfold Region.wanted;split at hg
 .rename_i e;cases hg;simp[e,holds]
 .rename_i j want e;simp only[e];split at hg
  case h_2=>cases hg
  rename_i t ht;have rf:=h.regs t;have hy:∀v,a.tmps.getD t undef=v->(∀b,v=.bool b->yielded ops a.tmps j=some b)/\(v=undef->yielded ops a.tmps j=none):=by
   intro v hv';unfold yielded;rw[ht];simp only[yP];rw[iK] at hv';cases wO:a.tmps[t]? with
   |none=>rw[wO] at hv';simp at hv';subst hv';exact⟨λb e=>absurd e (by simp[undef]),λ_=>rfl⟩
   |some u=>rw[wO] at hv';simp at hv';subst hv';exact⟨λb e=>by subst e;rfl,λe=>by subst e;rfl⟩
  split at hg
  .rename_i es;cases hg;rw[es] at rf;obtain⟨b,iQ,eI⟩:=Rep.bool_inv rf;rw[(hy _ iQ).1 b rfl];simp[holds,eI,D.b_bool]
  .rename_i bY es;cases hg;rw[es] at rf;simp only[holds,vO];cases hh:holds bY Z with
   |true=>
    obtain⟨b,iQ,eI⟩:=Rep.bool_inv (rf.1 hh);rw[(hy _ iQ).1 b rfl];unfold holds at hh;rw[hh,eI];simp[D.b_bool]
   |false=>
    rw[(hy _ (rf.2 hh)).2 rfl];unfold holds at hh;rw[hh];simp
  .cases hg
def afX (h:Good C w0 σ0 S Z A a w){ops:Array Oper}{o:Oper}(hg:CR S ops o=some gs)(hj:∀j want t,o.guard=some (j,want)->(ops[j]?).bind (·.dst)=some t->A t):∀g,g∈gs->A g.1:=by
 obtain⟨H,own,hv,h⟩:=h;unfold CR at hg;split at hg
 .cases hg;simp
 .rename_i j want e;split at hg
  case h_2=>cases hg
  rename_i t ht;have hA:=hj j want t e ht;split at hg
  .cases hg;intro g hm;simp at hm;subst hm;exact hA
  .rename_i bY es;cases hg;intro g hm;rcases dG.1 hm with e'|cP
   .subst e';exact hA
   .exact(h.opts t bY _ es).1 g cP
  .cases hg
def az8 (h:Inv C S Z H own hv w0 σ0 A a w)(hC:CtxOK C σ0)(hg:holds gs Z=true){o:Oper}{r:Sh×List PI}(hr:OY C S gs dst o.op=some r):ff C S Z H hv V dst a w o r:=by
 unfold OY at hr;split at hr
 .rename_i x e;exact alo h hC hg hr (.inl e)
 .rename_i c x y e;exact az7 h hC hg hr e
 .rename_i op T x y T' e;exact azU h hC hg hr e
 .rename_i op T x e;exact aAa h hC hg hr e
 .rename_i s d x e;exact azW h hC hg hr e
 .rename_i T x e;exact OW h hC hg hr e
 .rename_i T x i e;exact azY h hC hg hr e
 .rename_i T x i e;exact azZ h hC hg hr e
 .rename_i T x i e;exact az1 h hC hg hr e
 .rename_i T x i e;exact az2 h hC hg hr e
 .rename_i x i e;exact azX h hC hg hr e
 .rename_i T m k ok e;exact az5 h hC hg hr e
 .rename_i T x lo hi mx e;exact az9 h hC hg hr e
 .rename_i f a b e;exact az0 h hC hg hr e
 .rename_i T ps e;exact azV h hC hg hr e
 .rename_i x e;exact az6 h hC hg hr e
 .cases hr;intro Z' az;have:=(ZR hg az).1;cases this
 .rename_i c e;split at hr
  .rename_i x T hc ha ht;refine az3 h hC hg hr ?_;rw[e];cases c with|mk callee args argTypes=>
   simp only at hc ha ht;have h1:args=#[x]:=by rw[<-yI];exact ha
   have h2:argTypes=#[T]:=by rw[<-yI];exact ht
   rw[hc,h1,h2]
  .rename_i x y hc ha;refine aln (ts:=c.argTypes) h hC hg hr ?_;rw[e];cases c with|mk callee args argTypes=>
   simp only at hc ha;have h1:args=#[x,y]:=by rw[<-yI];exact ha
   rw[hc,h1];rfl
  .rename_i x y hc ha;refine aln (ts:=c.argTypes) h hC hg hr ?_;rw[e];cases c with|mk callee args argTypes=>
   simp only at hc ha;have h1:args=#[x,y]:=by rw[<-yI];exact ha
   rw[hc,h1];rfl
  .cases hr
 .cases hr
def ars (h:Inv C S Z H own hv w0 σ0 A a w)(ht:¬A dst)(aq:dst<a.tmps.size){T:TypeId}{x:Operand}{r:St×List PI}(hr:wy C S dst T x=some r){o:Oper}(hd:o.dst=some dst)(ho:o.op=.assign x):cE C w0 σ0 V S Z A a w o r:=by
 unfold wy at hr;split at hr
 case h_2=>cases hr
 rename_i v;simp only[aJ] at hr;obtain⟨t,_,z,hz,hr⟩:=hr;cases hc:j2 t v<;>simp only[hc,zyv,zyu] at hr
 .cases hr
 cases hr;have cG:=(A1 (cap:=C.cap) (H:=H) hz hc).1;refine cE.value hd λZ' az=>⟨v,w,by simp[execOp,ho,Act.eval],?_⟩
 have hρ:Z'=Z.setR dst z.2:=by simp[PI.runs,PI.run,PE.ev] at az;exact az.symm
 subst hρ;exact⟨_,_,_,h.setReg ht (s:=.dat z.1) cG aq (λ_ _ e=>by cases e)⟩
def aqE (h:Inv C S Z H own hv w0 σ0 A a w)(hC:CtxOK C σ0)(bG:eB C)(hΦ:dS C V){o:Oper}(ht:∀d,o.dst=some d->¬A d/\d<a.tmps.size)(eT:∀g,g∈gs->A g.1)(hg:holds gs Z=true){r:St×List PI}
 (hr:core C S gs o=some r):cE C w0 σ0 V S Z A a w o r:=by
 unfold core at hr;split at hr
 .rename_i dst hd;obtain⟨fq,fu⟩:=ht dst hd;split at hr
  .rename_i q hq;cases eU:Ow q.1<;>simp only[eU,zyv,zyu] at hr
   .cases hr
   cases hr;have ahh:=az8 (V:=V) h hC hg hq;cases gs with
   |nil=>exact ahh.eff h fq fu hd
   |cons g bY=>exact ahh.effG h fq fu eT hg hd
  .rename_i GJ;clear GJ;split at hr
   .rename_i x e
    have mv:∀r,(match Au C S [] dst x with|some r=>some (S.setR dst r.1,r.2)|none=>wy C S dst o.type x)=some r->cE C w0 σ0 V S Z A a w o r:=by
     intro r hr;split at hr
     .rename_i q hq;cases hr;exact(alo (V:=V) h hC hg hq (.inr e)).eff h fq fu hd
     .exact ars h fq fu hr hd e
    cases gE:C.fr.any (Nat.beq dst)<;>simp only[gE,zyv,zyu] at hr
    .split at hr
     .rename_i q hq;cases hr;exact ark h hC fq fu hq hd e
     .exact mv r hr
    .exact mv r hr
   .rename_i T e;exact aqS h fq fu hr hd e
   .rename_i T x e;exact aqW h hC fq fu hr hd e
   .rename_i T n ps e;split at hr
    .exact aqY h hC fq fu hr hd e
    .exact ara h hC fq fu eT hg hr hd e
   .rename_i T l c e;exact arf h hC fq fu hr hd e
   .rename_i T m e;exact arc h fq fu hr hd e
   .rename_i T x e;exact arn h fq fu hr hd e
   .rename_i T U x e;exact aq0 h hC fq fu hr hd e
   .rename_i c e;cases c with|mk callee args argTypes=>
    split at hr
    .rename_i hc;simp only at hc;split at hr
     .rename_i s x T T' ha Vv;simp only at ha Vv;cases hT:Nat.beq T T'<;>simp only[hT,zyv,zyu] at hr
      .cases hr
      have CU:=aK hT;subst CU;refine aqU h hC fq fu hr hd ?_;have h1:args=#[s,x]:=by rw[<-yI];exact ha
      have h2:argTypes=#[T,T]:=by rw[<-yI];exact Vv
      rw[e,hc,h1,h2]
     .cases hr
    .rename_i f hc;simp only at hc;split at hr
     .rename_i q hq;cases hr;exact aq8 h hC bG hΦ fq fu eT hg hq hd (by rw[e,hc])
     .split at hr
      .split at hr
       .rename_i q hq;cases hr;exact aq6 h hC bG hΦ fq fu hq hd (by rw[e,hc])
       .split at hr
        .rename_i q hq;cases hr;exact aq4 h hC bG hΦ fq fu hq hd (by rw[e,hc])
        .simp only[aT] at hr;obtain⟨q,hq,rfl⟩:=hr;rw[<-hd];exact afx h hC bG hΦ ht hq (by rw[e,hc])
      .cases hr
    .rename_i x hnf hc;simp only at hc;split at hr
     .rename_i q hq;cases hr;exact aq2 h hC bG hΦ fq fu eT hg hq hd (by rw[e,hc])
     .split at hr
      .simp only[aT] at hr;obtain⟨q,hq,rfl⟩:=hr;rw[<-hd];exact afv h hC bG hΦ ht hq (by rw[e,hc])
      .cases hr
    .cases hr
   .rename_i fn first caps e;exact ari h fq fu hr hd e
   .cases hr
 .rename_i hd;split at hr
  .rename_i T x v e;exact arp h hC hr hd e
  .rename_i T m k v e;exact afz h hC hr hd (.inl e)
  .rename_i T m k v e;exact afz h hC hr hd (.inr e)
  .cases hr;intro Z' az;simp[PI.runs,PI.run,PE.ev,D.bool,D.b] at az
  .rename_i c e;cases c with|mk callee args argTypes=>
   split at hr
   .rename_i f hc;simp only at hc;simp only[aT] at hr;obtain⟨q,hq,rfl⟩:=hr;rw[<-hd];exact afx h hC bG hΦ ht hq (by rw[e,hc])
   .rename_i t hc;simp only at hc;simp only[aT] at hr;obtain⟨q,hq,rfl⟩:=hr;rw[<-hd];exact afv h hC bG hΦ ht hq (by rw[e,hc])
   .cases hr
  .cases hr
def aqC {g:Nat×Bool}{bY:List (Nat×Bool)}{o:Oper}{r:St×List PI}(hr:core C S (g::bY) o=some r):
 ∃dst S2 s,o.dst=some dst/\r.1=S2.setR dst (.opt (g::bY) s)/\((∃js,S2=S.fzs js)\/∃j,S2=S.newO j .dead)/\(∀gs s',s≠.opt gs s')/\(∀x,o.op≠.assign x)/\(∀T,o.op≠.alloc T)/\∀T x v,o.op≠.store T x v:=by
 unfold core at hr;split at hr
 .rename_i dst hd;split at hr
  .rename_i q hq;cases eU:Ow q.1<;>simp only[eU,zyv,zyu] at hr
   .cases hr
   cases hr;refine⟨dst,S,q.1,hd,rfl,.inl ⟨[],rfl⟩,(λgs s' e=>by rw[e] at eU;cases eU),λx e=>?_,λT e=>?_,λT x v e=>?_⟩<;>(rw[e] at hq;simp[OY] at hq)
  .rename_i GJ;clear GJ;split at hr
   case h_4=>
        rename_i T n ps e;split at hr
        .rename_i hx;cases hx
        .unfold CJ at hr;split at hr
         case h_2=>cases hr
         simp only[aJ] at hr;obtain⟨e0,he0,hr⟩:=hr;split at hr
         .cases hr;exact⟨dst,_,.dat (.slice e0.rol),hd,rfl,.inr ⟨dst,rfl⟩,(λ_ _ e=>by cases e),(λx e'=>by rw[e] at e';cases e'),(λx e'=>by rw[e] at e';cases e'),(λ_ _ _ e'=>by rw[e] at e';cases e')⟩
         .cases hr
   case h_9=>
        rename_i c e;split at hr
        .rename_i hx;cases hx
        .rename_i f hc;split at hr
         .rename_i q hq;cases hr;simp only[CI,aJ] at hq;obtain⟨s,hs,hq⟩:=hq;split at hq
          case h_2=>cases hq
          simp only[aJ] at hq;obtain⟨u,hu,hq⟩:=hq;cases cZ:Ty.subs u.1 s.args<;>simp only[cZ,zyv,zyu] at hq
          .cases hq
          cases hq;refine⟨dst,_,.dat s.res,hd,rfl,?_,(λ_ _ e=>by cases e),(λx e'=>by rw[e] at e';cases e'),(λx e'=>by rw[e] at e';cases e'),(λ_ _ _ e'=>by rw[e] at e';cases e')⟩;left;cases s.res.pure
          .exact⟨_,rfl⟩
          .exact⟨[],rfl⟩
         .cases hr
        .rename_i x hnf hc;have hr:∃q,zf C S (g::bY) dst x c.args.toList=some q/\(q.1.setR dst (uD (g::bY) q.2.1),q.2.2)=r:=by
          split at hr
          .rename_i q hq;cases hr;exact⟨q,hq,rfl⟩
          .split at hr
           all_goals (first|(cases hr;done)|(rename_i hx;cases hx;done)|(rename_i hx _;cases hx;done)|(rename_i hx _ _;cases hx;done)|(rename_i hx;exact absurd hx (by simp)))
         obtain⟨q,hq,rfl⟩:=hr;unfold zf at hq;split at hq
         case h_2=>cases hq
         rename_i aa r0 ee hu0;split at hq
         case h_1=>cases hq
         simp only[aJ] at hq;obtain⟨u,hu,hq⟩:=hq;cases cZ:Ty.subs u.1 aa<;>simp only[cZ,zyv,zyu] at hq
         .cases hq
         cases hq;refine⟨dst,_,.dat r0,hd,rfl,?_,(λ_ _ e=>by cases e),(λx e'=>by rw[e] at e';cases e'),(λx e'=>by rw[e] at e';cases e'),(λ_ _ _ e'=>by rw[e] at e';cases e')⟩;left;cases r0.pure
         .exact⟨_,rfl⟩
         .exact⟨[],rfl⟩
        .cases hr
   all_goals (first|(cases hr;done)|(rename_i hx;cases hx;done)|(rename_i hx _;cases hx;done))
 .split at hr
  all_goals (first|(cases hr;done)|(rename_i hx;cases hx;done)|(rename_i hx _;cases hx;done))
def ag6 {Z ρ1:Env}:∀{l:List (Nat×Bool)},(∀g,g∈l->ρ1.r g.1=Z.r g.1)->holds l ρ1=holds l Z
 |[],_=>rfl
 |x::l,h=>by
  have ih:=ag6 (l:=l) λy hy=>h y (fY _ hy);unfold holds at ih ⊢;simp only[vO];rw[ih,h x (gy ..)]
def afU:∀(l:List Gh) {S:St} {r:St×List PI},oz C l S=some r->∀t,t∉r.2.flatMap PI.modR
 |[],S,r,hr=>by simp only[oz,bx] at hr;subst hr;simp
 |g::l,S,r,hr=>by
  simp only[oz,aJ,aT] at hr;obtain⟨q,hq,q2,eM,rfl⟩:=hr;have ih:=afU l eM;have hg:∀t,t∉q.2.flatMap PI.modR:=by
   cases g with
   |fz j=>simp only[Gh.run,bx] at hq;subst hq;simp
   |fbox b=>
    simp only[Gh.run,F9] at hq;split at hq
    case h_2=>cases hq
    simp only[aJ] at hq;obtain⟨x,hx,hq⟩:=hq;rename_i ag aP eo;cases ag<;>simp only[zyv,zyu] at hq
    .split at hq
     .cases hq;simp[PI.modR]
     .cases hq
    .cases hq;simp[PI.modR]
   |rereg t j=>
    simp only[Gh.run,Jq] at hq;split at hq
    .rename_i j' ver es;cases hb:(Nat.beq ver (S.ver j')&&ni (S.o j')&& !Nat.beq j' j)<;>simp only[hb,zyv,zyu] at hq<;>cases hq<;>simp[PI.modR]
    .cases hq;simp
   |recell b i j=>
    simp only[Gh.run,Jp] at hq;split at hq
    .split at hq
     .rename_i ag aP eo j' ver es;cases hb:(Nat.beq ver (S.ver j')&&ni (S.o j')&& !Nat.beq j' j&& !Nat.beq b j&& !Nat.beq b j')<;>simp only[hb,zyv,zyu] at hq<;>cases hq<;>simp[PI.modR]
     .cases hq;simp
    .cases hq;simp
   |home b i j T=>
    simp only[Gh.run,GN] at hq;split at hq
    .split at hq
     .cases hb:(!Nat.beq b j)<;>simp only[hb,zyv,zyu] at hq<;>cases hq<;>simp[PI.modR]
     .cases hq;simp
    .cases hq;simp
  intro t hm;rw[List.flatMap_append,dT] at hm;exact hm.elim (hg t) (ih t)
def aqv (h:Good C w0 σ0 S Z A a w)(hC:CtxOK C σ0)(bG:eB C)(hΦ:dS C V){ops:Array Oper}{o:Oper}(ht:∀d,o.dst=some d->¬A d/\d<a.tmps.size)
 (hj:∀j want t,o.guard=some (j,want)->(ops[j]?).bind (·.dst)=some t->A t) {r:St×List PI} (hr:MT C S ops o=some r) {Z':Env} (az:PI.runs V r.2 Z=some Z')
 {K:Act->World->Prop} {Q:Exit->Act->World->Prop} (hK:∀a' w',Good C w0 σ0 r.1 Z' (λu=>A u\/o.dst=some u) a' w'->a'.tmps.size=a.tmps.size->K a' w'):
 if Region.wanted o (yielded ops a.tmps) then o.wp C.P a w K Q else K (a.put o.dst undef) w:=by
 simp only[MT,aJ] at hr;obtain⟨gs,eT,r1,p5,r2,xb,r3,NV,hr⟩:=hr;have C4:=afX h eT hj;rw[afY h eT];cases hc:M9 gs o.dst r2.2<;>simp only[hc,zyv,zyu] at hr
 .cases hr
 cases hr;simp only[vF,aJ] at az;obtain⟨ρ2,⟨ρ1,hρ1,hρ2⟩,hρ3⟩:=az;have h1:=T3 _ h p5 hρ1;have cu:=h1;obtain⟨H1,kS,bD,i1⟩:=cu;have NB:holds gs ρ1=holds gs Z:=by
  cases gs with
  |nil=>rfl
  |cons g bY=>
   have hb:=(PI.runs_but hρ1).r
   have:∀x,x∈(g::bY)->ρ1.r x.1=Z.r x.1:=λx hm=>hb x.1 (by
        intro cY;exact afU _ p5 x.1 cY)
   exact ag6 this
 cases hh:holds gs Z with
 |true=>
  simp only[if_true];rw[hh] at NB;refine aqE i1 hC bG hΦ ht C4 NB xb ρ2 hρ2 K Q (λa' w' lG bp=>?_);exact hK a' w' (T3 (r:=r3) _ lG NV hρ3) bp
 |false=>
  simp only[A3,if_false];rw[hh] at NB;cases gs with
  |nil=>simp[holds] at hh
  |cons g bY=>
   obtain⟨dst,S2,s,hd,hS,sy,hns,n1,n2,n3⟩:=aqC xb;obtain⟨t1,t2⟩:=ht dst hd;have q8:post C r2.1 o=[]:=by
        unfold post;split
        .rename_i x t e _;exact absurd e (n1 x)
        .rename_i T t e _;exact absurd e (n2 T)
        .rename_i T x v e;exact absurd e (n3 T x v)
        .rfl
   rw[q8] at NV;simp only[oz,bx] at NV;subst NV;have:=qv hρ3;subst this;obtain⟨σ2,jV,i2⟩:∃σ2 jV,Inv C S2 ρ1 σ2 jV bD w0 σ0 A a w:=by
        rcases sy with⟨js,rfl⟩|⟨j,rfl⟩
        .obtain⟨σ2,jV,_,i2⟩:=Inv.fzs js i1;exact⟨σ2,jV,i2⟩
        .exact⟨H1,kS,i1.kill j⟩
   have GP:=i2.passed t1 t2 C4 NB (s:=s) hns (Z'.r dst);have hρe:ρ1.setR dst (Z'.r dst)=Z':=by
        have hb:=PI.runs_but hρ2;simp only[M9,hd] at hc;unfold alm at hc;rw[fe] at hc
        have e1:∀t,t≠dst->Z'.r t=ρ1.r t:=λt aI=>hb.r t (λhm=>by
         obtain⟨p,hp,wZ⟩:=JT.1 hm;have:=hc p hp;simp only[aA] at this;have:=fe.1 this.1 t wZ;exact aI (aK this).symm)
        have e2:∀t,Z'.o t=ρ1.o t:=λt=>hb.o t (λhm=>by
         obtain⟨p,hp,wZ⟩:=JT.1 hm;have:=hc p hp;simp only[aA] at this;have h9:=aee.1 this.2;rw[h9] at wZ;cases wZ)
        have r1:cL ρ1.r dst (Z'.r dst)=Z'.r:=by
         funext t;rw[ic];split
         .rename_i e;subst e;rfl
         .rename_i aI;exact(e1 t aI).symm
        have r2:ρ1.o=Z'.o:=funext λt=>(e2 t).symm;cases Z' with|mk a b=>simp only[Env.setR] at r1 r2 ⊢;rw[r1,r2]
   rw[hρe] at GP;have m4:(λu=>A u\/o.dst=some u)=(λu=>A u\/u=dst):=by funext u;rw[hd];simp[eq_comm]
   rw[m4] at hK;rw[hd];refine hK _ _ ?_ (size_put _ _ _);simp only;rw[hS];exact⟨_,_,_,GP⟩
def aqx (h:Good C w0 σ0 S Z A a w)(hC:CtxOK C σ0)(bG:eB C)(hΦ:dS C V){ops:Array Oper}{o:Oper}(ht:∀d,o.dst=some d->¬A d/\d<a.tmps.size)
 (hj:∀j want t,o.guard=some (j,want)->(ops[j]?).bind (·.dst)=some t->A t) {r:St×List PI} (hr:FK C S ops o=some r) {Z':Env} (az:PI.runs V r.2 Z=some Z')
 {K:Act->World->Prop} {Q:Exit->Act->World->Prop} (hK:∀a' w',Good C w0 σ0 r.1 Z' (λu=>A u\/o.dst=some u) a' w'->a'.tmps.size=a.tmps.size->K a' w'):
 if Region.wanted o (yielded ops a.tmps) then o.wp C.P a w K Q else K (a.put o.dst undef) w:=by
 unfold FK at hr;split at hr
 .rename_i q hq;cases hr;exact aqv h hC bG hΦ ht hj hq az hK
 .cases hr;simp[PI.runs,PI.run,Jz,PE.ev,D.b_bool] at az
end
def sZ:Op->Bool
 |.defer _=>false
 |_=>true
def FR (rd:Option Nat):Fence:={Fence.wide with round:=rd}
def aeZ {rd:Option Nat}{n:Nat}{P:Program}{f:FuncId}{args:Array Value}{w:World}{R:Ending->World->Prop}(h:Calls P f args w R):CallsIn (FR rd) n P f args w R:=
 (callsIn_wide (n:=n)).2 h
def alq {rd:Option Nat}{n:Nat}{P:Program}{o:Oper}{a:Act}{w:World}{K:Act->World->Prop}{Q:Exit->Act->World->Prop}(bX:sZ o.op=true)(h:o.wp P a w K Q):o.wpIn (FR rd) n P a w K Q:=by
 refine⟨λ_ _=>trivial,?_⟩;rw[Oper.semAt_eq _ _ _ (λc e=>by rw[e] at bX;cases bX)];unfold Oper.wp at h;generalize (execOp a.eval o).run P w=x at h;have eU:∀{p:Prop},((FR rd).depth.isSome=true->p):=λe=>by cases e
 cases x with
 |ok v w'=>
  cases v with
  |value v=>exact h
  |skip=>exact h
  |defer d=>exact h
  |enter f args=>
   refine⟨eU,(aeZ h).mono λe lX hh=>?_⟩;cases e<;>exact hh
  |row row args=>
   refine⟨eU,λc cs _=>?_⟩;obtain⟨v,w2,h1,h2⟩:=h c cs;exact⟨v,w2,h1,stepsIn_wide.2 h2⟩
  |_=>exact h.elim
 |halt v w'=>
  cases v with
  |panic v=>exact h
  |_=>exact h.elim
structure SameBut (D:Nat->Prop) (a a':Act):Prop where
 size:a'.tmps.size=a.tmps.size
 get:∀t,¬D t->a'.tmps.getD t undef=a.tmps.getD t undef
def SameBut.refl (D:Nat->Prop)(a:Act):SameBut D a a:=⟨rfl,λ_ _=>rfl⟩
def SameBut.trans {D:Nat->Prop}{a b c:Act}(h:SameBut D a b)(k:SameBut D b c):SameBut D a c:=⟨k.size.trans h.size,λt ht=>(k.get t ht).trans (h.get t ht)⟩
def SameBut.mono {D D':Nat->Prop}{a b:Act}(h:SameBut D a b)(hd:∀t,D t->D' t):SameBut D' a b:=⟨h.size,λt ht=>h.get t λe=>ht (hd t e)⟩
def SameBut.put (a:Act)(d:Option Tmp)(v:Value)(ds:List Deferred):SameBut (λt=>d=some t) a ({a with defers:=ds}.put d v):=by
 refine⟨size_put _ _ _,λt ht=>?_⟩;cases d with
 |none=>rfl
 |some u=>
  have:t≠u:=λe=>ht (by rw[e]);rw[JB];simp[this]
def Oper.wp_same {P:Program}{o:Oper}{a:Act}{w:World}{K:Act->World->Prop}{Q:Exit->Act->World->Prop}(h:o.wp P a w (λa' w'=>SameBut (λt=>o.dst=some t) a a'->K a' w') Q):o.wp P a w K Q:=by
 unfold Oper.wp at h ⊢;generalize (execOp a.eval o).run P w=x at h ⊢;cases x with
 |ok v w'=>
  cases v with
  |value v=>exact h (SameBut.put a _ _ a.defers)
  |skip=>exact h (SameBut.put a _ _ a.defers)
  |defer d=>exact h (SameBut.put a _ _ _)
  |enter f args=>
   refine Calls.mono h λe lX hh=>?_;cases e with
   |returned v=>exact hh (SameBut.put a _ _ a.defers)
   |panicked c=>exact hh
   |outgrown=>exact hh
  |row row args=>exact Rows.mono h λv lX hh=>hh (SameBut.put a _ _ a.defers)
  |_=>exact h
 |halt v w'=>
  cases v with
  |panic v=>exact h
  |_=>exact h
def YOK (P:Program)(v:Value)(args:List Value)(w:World)(R:Value->World->Prop):Prop:=
 ∀(rd:Option Nat) (o:Oper) (a:Act) (x:Operand) (aa:Array Operand) (ts:Array TypeId) (K:Act->World->Prop) (Q:Exit->Act->World->Prop),
  o.op=.call {callee:=.value x,args:=aa,argTypes:=ts}->a.eval x=v->aa.toList.map a.eval=args->(∀u w',R u w'->K (a.put o.dst u) w')->o.wpIn (FR rd) 0 P a w K Q
def nH:Nat:=1000000009
def ud (C:Ctx)(V:bf)(w0:World)(σ0:Base):Prop:=∀J ys,C.yl=some (J,ys)->σ0.B=0/\(∀t fx cx w,σ0.F t fx cx w->∃xs,t=.list xs)/\
 ∀(xs cO:List D) (d:D),V nH [.list (xs++[.tup cO])]=some d->∀(fx cx:Nat->Prop) (w1:World) (H1:Im) (args:List Value),σ0.F (.list xs) fx cx w1->H1.ok w1->rV C H1 ys args cO->
  (∀k o x,H1.c k o=some x->¬cx k)->(∀k x,H1.m k=some x->¬cx k)->
  (∀k o x,H1.c k o=some x->σ0.c k o=some x\/w0.heap.size<=k)->(∀k x,H1.m k=some x->σ0.m k=some x\/w0.heap.size<=k)->
  YOK C.P C.yv args w1 λu w2=>∃b,d=.v (.bool b)/\u=.bool b/\Below 0 w1 w2/\(∀k,k<w1.heap.size->¬cx k->w2.heap[k]?=w1.heap[k]?)/\
   ∃oy nW,σ0.F (.list (xs++[.tup cO])) oy nW w2/\(∀k,oy k->k<w1.heap.size->fx k\/(∃o x,H1.c k o=some x)\/(∃x,H1.m k=some x/\x≠fZ))/\(∀k,nW k->k<w1.heap.size->cx k)
def QR (gs:List (Nat×Bool))(J:Nat)(x:PE):PE:=
 match gs with
 |[]=>.app (.o J) (.lst [x])
 |_=>.pick (.nt (.imp gs (.con (.v (.bool false))))) (.app (.o J) (.lst [x])) (.o J)
def MV (C:Ctx)(S:St)(ops:Array Oper)(o:Oper):Option (St×List PI):=
 match o.dst,o.op,C.yl with
 |some dst,.call {callee:=.value (.tmp t),args:=args,..},some (J,ys)=>
  (CR S ops o).bind λgs=>
    match rN S gs t with
    |.yv=>
     match(S.fzs (eZ S gs args.toList)).o J with
     |.tr=>
      (tK C (S.fzs (eZ S gs args.toList)) gs args.toList).bind λu=>
        bif Ty.subs u.1 ys then some ((S.fzs (eZ S gs args.toList)).setR dst (uD gs (.dat .bool)),[.setO J (QR gs J (.tup u.2)),.call gs dst nH [.o J]]) else none
     |_=>none
    |_=>none
 |_,_,_=>none
def zd (C:Ctx)(S:St)(ops:Array Oper)(o:Oper):Option (St×List PI):=
 match MV C S ops o with
 |some r=>some r
 |none=>FK C S ops o
section
variable {C:Ctx} {S:St} {Z:Env} {H:Im} {own:Nat->Option Nat} {hv:Nat->Value} {w0:World} {σ0:Base} {A:Nat->Prop} {a:Act} {w:World} {gs:List (Nat×Bool)} {V:bf} {dst:Nat}
def aDl (gs:List (Nat×Bool))(J:Nat)(x:PE)(Z:Env):(QR gs J x).ev Z=if holds gs Z=true then .list ((Z.o J).l++[x.ev Z]) else Z.o J:=by
 cases gs with
 |nil=>simp[QR,PE.ev,PE.evs,holds,D.l_list]
 |cons g gs=>
  simp only[QR,PE.ev,PE.evs,D.b_bool,D.l_list,Rm,Bool.not_not];cases holds (g::gs) Z<;>rfl
def Inv.yielded (h:Inv C S Z H own hv w0 σ0 A a w)(hB:σ0.B=0){J:Nat}{ys:List Ty}(hJ:C.yl=some (J,ys))(Nm:S.o J=.tr){w2:World}(hb:Below 0 w w2){t:D}{fx cx:Nat->Prop}(hf:FrOK H own w0.heap.size σ0 w t fx cx)
 (hs:∀k,k<w.heap.size->¬cx k->w2.heap[k]?=w.heap[k]?) {t':D} {oy nW:Nat->Prop} (hF:σ0.F t' oy nW w2)
 (h1:∀k,oy k->k<w.heap.size->fx k\/(∃o x,H.c k o=some x)\/(∃x,H.m k=some x/\x≠fZ)) (h2:∀k,nW k->k<w.heap.size->cx k):Inv C S (Z.setO J t') H own hv w0 σ0 A a w2:=by
 have cZ:=σ0.sub _ _ _ _ hf.F;have ju:∀k o x,H.c k o=some x->w2.heap[k]?=w.heap[k]?:=λk o x e=>hs k (h.lt e) (hf.c k o x e);have hms:∀k x,H.m k=some x->w2.heap[k]?=w.heap[k]?:=λk x e=>hs k (h.ltm e) (hf.m k x e);have hos:∀k j,own k=some j->w2.heap[k]?=w.heap[k]?:=λk j e=>hs k (h.owns k j e).2.1 λhc=>hf.own k j e (cZ k hc)
 refine⟨h.defers,⟨λk o v e=>by rw[World.cell?_of_block (ju k o v e)];exact h.ok.c k o v e,λk x e=>(h.ok.m k x e).keep (hms k x e)⟩,h.le,h.old,h.newc,h.newm,h.below.trans (hb.mono (by omega)),h.bw,
  λk j e=>let⟨g1,g2,g3⟩:=h.owns k j e;⟨g1,EM g2 hb.size,g3⟩,λu=>ba.mono (S:=S) (Z:=Z) (Z':=Z.setO J t') (.refl H) (.refl S hv) (d:=Z.r u) (λ_ _ _=>rfl) (λgs s e=>(h.opts u gs s e).2) (h.regs u),λj=>?_,h.opts,
  t',oy,nW,⟨hF,λk j e hk=>?_,λk o x e hc=>hf.c k o x e (h2 k hc (h.lt e)),λk x e hc=>hf.m k x e (h2 k hc (h.ltm e)),λk e hB2 hk=>?_⟩,λj hj=>?_⟩
 .by_cases C9:j=J
  .subst C9;rw[Nm];trivial
  .exact(h.objs j).mono (.refl H) (.refl S hv) rfl (by simp[Env.setO,bU _ _ C9]) (λk e=>⟨e,hos k j e⟩)
 .obtain⟨_,g2,g3,g4⟩:=h.owns k j e;rcases h1 k hk g2 with e1|⟨o,x,e1⟩|⟨x,e1,_⟩
  .exact hf.own k j e e1
  .rw[g3 o] at e1;cases e1
  .rw[g4] at e1;cases e1
 .rcases h1 k hk (h.ltm e) with e1|⟨o,x,e1⟩|⟨x,e1,e2⟩
  .exact hf.d k e hB2 e1
  .have c1:=h.ok.c k o x e1;rcases h.ok.m k _ e with⟨m1,_⟩|⟨_,m2⟩
   .exact m1 rfl
   .simp[World.cell?,m2] at c1
  .rw[e] at e1;cases e1;exact e2 rfl
 .obtain⟨_,_,_,_,ht⟩:=h.frame;obtain⟨⟨ys',e1⟩,_⟩:=ht j hj;rw[hJ] at e1;cases e1;exact⟨⟨_,hJ⟩,bh _ _ _⟩
def aqy {rd:Option Nat}(h:Good C w0 σ0 S Z A a w)(hC:CtxOK C σ0)(hY:ud C V w0 σ0){ops:Array Oper}{o:Oper}(ht:∀d,o.dst=some d->¬A d/\d<a.tmps.size)
 (hj:∀j want t,o.guard=some (j,want)->(ops[j]?).bind (·.dst)=some t->A t) {r:St×List PI} (hr:MV C S ops o=some r) {Z':Env} (az:PI.runs V r.2 Z=some Z')
 {K:Act->World->Prop} {Q:Exit->Act->World->Prop} (hK:∀a' w',Good C w0 σ0 r.1 Z' (λu=>A u\/o.dst=some u) a' w'->SameBut (λt=>o.dst=some t) a a'->K a' w'):
 if Region.wanted o (yielded ops a.tmps) then o.wpIn (FR rd) 0 C.P a w K Q else K (a.put o.dst undef) w:=by
 unfold MV at hr;split at hr
 case h_2=>cases hr
 rename_i _ _ dst t args ts J ys hd dB oP;simp only[aJ] at hr;obtain⟨gs,eT,hr⟩:=hr;split at hr
 case h_2=>cases hr
 rename_i Hd;split at hr
 case h_2=>cases hr
 rename_i Nm;simp only[aJ] at hr;obtain⟨u,hu,hr⟩:=hr;cases cZ:Ty.subs u.1 ys<;>simp only[cZ,zyv,zyu] at hr
 .cases hr
 cases hr;have C4:=afX h eT hj;rw[afY h eT];obtain⟨H,own,hv,i⟩:=h;obtain⟨H1,kS,hle,i1⟩:=Inv.fzs (eZ S gs args.toList) i;obtain⟨t1,t2⟩:=ht dst hd;have m4:(λu=>A u\/o.dst=some u)=(λu=>A u\/u=dst):=by funext u;rw[hd];simp[eq_comm]
 rw[m4] at hK;simp only[PI.runs,PI.run,yP,aDl,aJ] at az;cases hh:holds gs Z with
 |false=>
  simp only[hh,A3,if_false] at az ⊢;have e1:Z.setO J (Z.o J)=Z:=by
   cases Z with|mk r o=>simp only[Env.setO];congr 1;funext x;rw[ic];split<;>simp_all
  rw[e1,hh] at az;obtain⟨ρ1,e2,e3⟩:=az;cases e2;cases e3;cases gs with
  |nil=>simp[holds] at hh
  |cons g bY=>
   have GP:=i1.passed t1 t2 C4 hh (s:=.dat .bool) (λ_ _ e=>by cases e) (Z.r dst);have e4:Z.setR dst (Z.r dst)=Z:=by
        cases Z with|mk r o=>simp only[Env.setR];congr 1;funext x;rw[ic];split<;>simp_all
   rw[e4] at GP;rw[hd];exact hK _ _ ⟨_,_,_,GP⟩ (by rw[hd];exact SameBut.put a (some dst) undef a.defers)
 |true=>
  simp only[hh,if_true] at az ⊢;have mg:=Rd i1 hC hh hu cZ;obtain⟨tr,fx,cx,hf,G4⟩:=i1.frame;obtain⟨_,hρJ⟩:=G4 J Nm;obtain⟨hB,ave,VI⟩:=hY J ys oP;obtain⟨xs,rfl⟩:=ave _ _ _ _ hf.F;rw[hρJ] at az;simp only[D.l_list,PE.ev] at az;obtain⟨ρ1,e2,e3⟩:=az;cases e3;have NA:holds gs (Z.setO J (.list (xs++[.tup (PE.evs Z u.2)])))=true:=hh;rw[NA] at e2;simp only[zyv,PE.evs,PE.ev,Env.setO,bh,aT] at e2;obtain⟨d,e4,e5⟩:=e2;have hy:=VI xs (PE.evs Z u.2) d e4 fx cx w H1 (args.toList.map a.eval) hf.F i1.ok mg hf.c hf.m i1.newc i1.newm;have cV:a.eval (.tmp t)=C.yv:=by
   have:=(vG i hh t).1;rw[Hd] at this;have h9:a.tmps.getD t undef=C.yv:=this;simpa [Act.eval] using h9
  refine hy rd o a (.tmp t) args ts K Q dB cV rfl λv w2 q8=>?_;obtain⟨b,rfl,rfl,hb,hs,oy,nW,hF,h1,h2⟩:=q8;have i2:=i1.yielded hB oP Nm hb hf hs hF h1 h2;refine hK _ _ ?_ (SameBut.put a _ _ a.defers);rw[hd,<-e5];change Good C w0 σ0 _ ((Z.setO J (.list (xs++[.tup (PE.evs Z u.2)]))).setR dst (.v (.bool b))) _ _ _;have hh3:holds gs ((Z.setO J (.list (xs++[.tup (PE.evs Z u.2)]))).setR dst (.v (.bool b)))=true:=by
   rw[GM (t:=dst) λg hm e=>t1 (by rw[<-e];exact C4 g hm)];exact NA
  cases gs with
  |nil=>exact⟨_,_,_,i2.setReg t1 (s:=.dat .bool) (.bool b) t2 (λ_ _ e=>by cases e)⟩
  |cons g bY=>
   refine⟨_,_,_,i2.setReg t1 (s:=.opt (g::bY) (.dat .bool)) ⟨λ_=>.bool b,λe=>absurd (hh3.symm.trans e) (by decide)⟩ t2 (λgs s e=>?_)⟩;cases e;exact⟨C4,λ_ _ e=>by cases e⟩
def afc {rd:Option Nat}(h:Good C w0 σ0 S Z A a w)(hC:CtxOK C σ0)(bG:eB C)(hΦ:dS C V)(hY:ud C V w0 σ0){ops:Array Oper}{o:Oper}(bX:sZ o.op=true)(ht:∀d,o.dst=some d->¬A d/\d<a.tmps.size)
 (hj:∀j want t,o.guard=some (j,want)->(ops[j]?).bind (·.dst)=some t->A t) {r:St×List PI} (hr:zd C S ops o=some r) {Z':Env} (az:PI.runs V r.2 Z=some Z')
 {K:Act->World->Prop} {Q:Exit->Act->World->Prop} (hK:∀a' w',Good C w0 σ0 r.1 Z' (λu=>A u\/o.dst=some u) a' w'->SameBut (λt=>o.dst=some t) a a'->K a' w'):
 if Region.wanted o (yielded ops a.tmps) then o.wpIn (FR rd) 0 C.P a w K Q else K (a.put o.dst undef) w:=by
 unfold zd at hr;split at hr
 .rename_i q hq;cases hr;exact aqy h hC hY ht hj hq az hK
 .have:=aqx (K:=λa' w'=>SameBut (λt=>o.dst=some t) a a'->K a' w') (Q:=Q) h hC bG hΦ ht hj hr az (λa' w' g _ hs=>hK a' w' g hs);split
  .rename_i hw;rw[if_pos hw] at this;exact alq bX (Oper.wp_same this)
  .rename_i hw;rw[if_neg hw] at this;exact this (SameBut.put a _ _ a.defers)
end
def wg (C:Ctx)(ops:Array Oper):List Nat->St->Option (St×List PI)
 |[],S=>some (S,[])
 |i::l,S=>
  match ops[i]? with
  |some o=>(zd C S ops o).bind λr=>(wg C ops l r.1).map λq=>(q.1,r.2++q.2)
  |none=>none
def Ee (n:Nat)(ops:Array Oper):Bool:=
 nm (ops.toList.filterMap (·.dst))&&ops.toList.all λo=>sZ o.op&&match o.dst with|some d=>Nat.blt d n|none=>true
section
variable {C:Ctx} {S:St} {Z:Env} {H:Im} {own:Nat->Option Nat} {hv:Nat->Value} {w0:World} {σ0:Base} {A:Nat->Prop} {a:Act} {w:World} {gs:List (Nat×Bool)} {V:bf} {dst:Nat}
def AP (ops:Array Oper)(done:List Nat):Nat->Prop:=λt=>∃i o,i∈done/\ops[i]?=some o/\o.dst=some t
def MU.dst_once {ops:Array Oper}(bX:(ops.toList.filterMap (·.dst)).Nodup){i j:Nat}{o o':Oper}{d:Nat}(hi:ops[i]?=some o)(hj:ops[j]?=some o')(hd:o.dst=some d)(fo:o'.dst=some d)(aI:i≠j):False:=by
 have key:∀(l:List Oper),(l.filterMap (·.dst)).Nodup->∀(i j:Nat) (o o':Oper),l[i]?=some o->l[j]?=some o'->o.dst=some d->o'.dst=some d->i=j:=by
  intro l
  induction l with
  |nil=>intro _ i j o o' hi;simp at hi
  |cons x l ih=>
   intro bX i j o o' hi hj hd fo;have cY:∀(k:Nat) (y:Oper),l[k]?=some y->y.dst=some d->d∈l.filterMap (·.dst):=λk y hk hy=>Bb.2 ⟨y,tZ hk,hy⟩;cases hx:x.dst with
   |none=>
    rw[List.filterMap_cons_none hx] at bX;cases i with
    |zero=>simp at hi;subst hi;rw[hx] at hd;cases hd
    |succ i=>
     cases j with
     |zero=>simp at hj;subst hj;rw[hx] at fo;cases fo
     |succ j=>simp at hi hj;rw[ih bX i j o o' hi hj hd fo]
   |some y=>
    rw[List.filterMap_cons_some hx,vQ] at bX;cases i with
    |zero=>
     simp at hi;subst hi;rw[hx] at hd;cases hd;cases j with
     |zero=>rfl
     |succ j=>simp at hj;exact absurd (cY j o' hj fo) bX.1
    |succ i=>
     cases j with
     |zero=>
      simp at hj;subst hj;rw[hx] at fo;cases fo;simp at hi;exact absurd (cY i o hi hd) bX.1
     |succ j=>simp at hi hj;rw[ih bX.2 i j o o' hi hj hd fo]
 exact aI (key ops.toList bX i j o o' (by simpa using hi) (by simpa using hj) hd fo)
def CG (ops:Array Oper):Nat->Prop:=λt=>∃o,o∈ops.toList/\o.dst=some t
def MU (hC:CtxOK C σ0)(bG:eB C)(hΦ:dS C V)(hY:ud C V w0 σ0){ops:Array Oper}{n:Nat}(aE:Ee n ops=true){rd:Option Nat}{Q:Exit->Act->World->Prop}:
 ∀(l done:List Nat) {S:St} {Z Z':Env} {a:Act} {w:World} {r:St×List PI},(done++l).Nodup->(∀p i q o j want,l=p++i::q->ops[i]?=some o->o.guard=some (j,want)->j∈done++p)->
  a.tmps.size=n->Good C w0 σ0 S Z (AP ops done) a w->wg C ops l S=some r->PI.runs V r.2 Z=some Z'->
  (∀a' w',SameBut (CG ops) a a'->Good C w0 σ0 r.1 Z' (AP ops (done++l)) a' w'->Q .normal a' w')->wpOpsIn (FR rd) 0 C.P ops Q l a w:=by
 simp only[Ee,aA] at aE;have bX:=va aE.1;intro l
 induction l with
 |nil=>
  intro done S Z Z' a w r _ _ bp h hr az hQ;simp only[wg,bx] at hr;subst hr;rw[qv az] at hQ;simp only[wpOpsIn];exact hQ a w (.refl _ _) (by simpa using h)
 |cons i l ih=>
  intro done S Z Z' a w r Uy oF bp h hr az hQ;simp only[wg] at hr;split at hr
  case h_2=>cases hr
  rename_i o ho;simp only[aJ,aT] at hr;obtain⟨r1,p5,q,hq,rfl⟩:=hr;simp only[vF,aJ] at az;obtain⟨ρ1,hρ1,hρ2⟩:=az;have UA:∀d,o.dst=some d->¬AP ops done d/\d<a.tmps.size:=by
   intro d hd;refine⟨λ⟨i',o',gi,gj,fo⟩=>?_,?_⟩
   ·
        have aI:i'≠i:=by
         intro e;subst e;rw[EJ] at Uy;exact Uy.2.2 i' gi i' (gy ..) rfl
        exact MU.dst_once bX gj ho fo hd aI
   .have:=fe.1 aE.2 o (by
     have:=qA ho;simpa using this)
    simp only[hd,aA] at this;rw[bp];simpa [qF] using this.2
  have hj:∀j want t,o.guard=some (j,want)->(ops[j]?).bind (·.dst)=some t->AP ops done t:=by
   intro j want t hg ht;have:=oF [] i l o j want rfl ho hg;simp only[tU] at this;rw[aJ] at ht;obtain⟨oj,h1,h2⟩:=ht;exact⟨j,oj,this,h1,h2⟩
  have m9:sZ o.op=true:=by
   have:=fe.1 aE.2 o (by simpa using qA ho);simp only[aA] at this;exact this.1
  have main:=afc (rd:=rd) (K:=wpOpsIn (FR rd) 0 C.P ops Q l) (Q:=Q) h hC bG hΦ hY m9 UA hj p5 hρ1 (λa' w' lG rh=>by
   have xh:=rh.size;refine ih (done++[i]) (by simpa using Uy) (λp i' q' o' j want e gj auO=>?_) (xh.trans bp) ?_ hq hρ2 (λa2 w2 s2 g2=>hQ a2 w2 ((rh.mono λt e=>⟨o,by simpa using qA ho,e⟩).trans s2) (by simpa using g2))
   .have:=oF (i::p) i' q' o' j want (by rw[e];rfl) gj auO;simpa using this
   .have:(λu=>AP ops done u\/o.dst=some u)=AP ops (done++[i]):=by
     funext u;apply propext;constructor
     .rintro(⟨i',o',h1,h2,h3⟩|h1)
      .exact⟨i',o',by simp[h1],h2,h3⟩
      .exact⟨i,o,by simp,ho,h1⟩
     .rintro⟨i',o',h1,h2,h3⟩;rcases dT.1 h1 with h4|h4
      .exact .inl ⟨i',o',h4,h2,h3⟩
      .simp at h4;subst h4;rw[ho] at h2;cases h2;exact .inr h3
    rw[<-this];exact lG)
  simp only[wpOpsIn,ho];split
  .rename_i hw;rw[if_pos hw] at main;exact main
  .rename_i hw;rw[if_neg hw] at main;exact⟨λ_ _=>trivial,main⟩
end
def aeD (S:St):AgC->Bool
 |.dat _=>true
 |.obj j ver=>Nat.beq ver (S.ver j)
def AgC.zero:AgC->AgC
 |.dat t=>.dat t
 |.obj j _=>.obj j 0
def iy (S:St):Sh->Sh
 |.none=>.none
 |.dat t=>.dat t
 |.obj j ver=>bif Nat.beq ver (S.ver j) then .obj j 0 else .none
 |.ptr j ver off=>bif Nat.beq ver (S.ver j) then .ptr j 0 off else .none
 |.eptr j ver size off=>bif Nat.beq ver (S.ver j) then .eptr j 0 size off else .none
 |.opt _ _=>.none
 |.yv=>.yv
 |.fclo f caps=>bif caps.all (λc=>Nat.beq c.2 (S.ver c.1)) then .fclo f (caps.map λc=>(c.1,0)) else .none
 |.agg l=>bif l.all (aeD S) then .agg (l.map AgC.zero) else .none
def jU (S:St):Ob->Ob
 |.box ag aP=>.box ag (aP.map (iy S))
 |ob=>ob
def St.norm (S:St):St:=⟨λt=>iy S (S.r t),λj=>jU S (S.o j),λ_=>0⟩
def jT:Sh->Sh->Sh
 |.dat a,.dat b=>bif Ty.sub a b then .dat b else bif Ty.sub b a then .dat a else .none
 |.obj j v,.obj k u=>bif Nat.beq j k&&Nat.beq v u then .obj j v else .none
 |.ptr j v o,.ptr k u p=>bif Nat.beq j k&&Nat.beq v u&&Nat.beq o p then .ptr j v o else .none
 |.eptr j v s o,.eptr k u t p=>bif Nat.beq j k&&Nat.beq v u&&Nat.beq s t&&Nat.beq o p then .eptr j v s o else .none
 |.yv,.yv=>.yv
 |.fclo f a,.fclo g b=>bif Nat.beq f g&&y4 a b then .fclo f a else .none
 |_,_=>.none
def Aq:List Sh->List Sh->Option (List Sh)
 |[],[]=>some []
 |a::aa,b::bs=>(Aq aa bs).map (jT a b::·)
 |_,_=>none
def oX:Ob->Ob->Ob
 |.fz a,.fz b=>bif Ty.beq a b then .fz a else .dead
 |.fbox a,.fbox b=>bif Ty.beq a b then .fbox a else .dead
 |.box ag aa,.box bg bs=>bif ag==bg then(match Aq aa bs with|some cs=>.box ag cs|none=>.dead) else .dead
 |.row T e,.row U f=>bif Nat.beq T U&&Ty.beq e f then .row T e else .dead
 |.mp k e,.mp l f=>bif Ty.beq k l&&Ty.beq e f then .mp k e else .dead
 |.it k e,.it l f=>bif Ty.beq k l&&Ty.beq e f then .it k e else .dead
 |.tr,.tr=>.tr
 |_,_=>.dead
section
variable {C:Ctx} {S:St} {Z:Env} {H:Im} {own:Nat->Option Nat} {hv:Nat->Value} {w0:World} {σ0:Base} {A:Nat->Prop} {a:Act} {w:World} {gs:List (Nat×Bool)} {V:bf} {dst:Nat}
def Ov {s:Sh}{v:Value}{d:D}(h:ba C S Z H hv s v d):ba C S.norm Z H hv (iy S s) v d/\∀gs s',iy S s≠.opt gs s':=by
 cases s with
 |none=>exact⟨trivial,λ_ _ e=>by cases e⟩
 |dat t=>exact⟨h,λ_ _ e=>by cases e⟩
 |obj j ver=>
  simp only[iy];cases hb:Nat.beq ver (S.ver j)
  .exact⟨trivial,λ_ _ e=>by cases e⟩
  .exact⟨⟨bL _,λ_=>h.2 (aK hb)⟩,λ_ _ e=>by cases e⟩
 |ptr j ver off=>
  simp only[iy];cases hb:Nat.beq ver (S.ver j)
  .exact⟨trivial,λ_ _ e=>by cases e⟩
  .exact⟨⟨bL _,λ_=>h.2 (aK hb)⟩,λ_ _ e=>by cases e⟩
 |eptr j ver size off=>
  simp only[iy];cases hb:Nat.beq ver (S.ver j)
  .exact⟨trivial,λ_ _ e=>by cases e⟩
  .exact⟨⟨bL _,λ_=>h.2 (aK hb)⟩,λ_ _ e=>by cases e⟩
 |opt gs s=>exact⟨trivial,λ_ _ e=>by cases e⟩
 |yv=>exact⟨h,λ_ _ e=>by cases e⟩
 |agg l=>
  simp only[iy];cases hb:l.all (aeD S)
  .exact⟨trivial,λ_ _ e=>by cases e⟩
  .refine⟨?_,λ_ _ e=>by cases e⟩;obtain⟨vs,ds,h1,h2,h3,h4,h5⟩:=h;refine⟨vs,ds,h1,h2,by simpa using h3,by simpa using h4,λi c hi=>?_⟩;simp only[dF,aT] at hi;obtain⟨c0,hc,rfl⟩:=hi;have:=fe.1 hb _ (tZ hc);have h6:=h5 i c0 hc;cases c0 with
   |dat t=>exact h6
   |obj j ver=>exact⟨bL _,λ_=>h6.2 (aK this)⟩
 |fclo f caps=>
  simp only[iy];cases hb:caps.all (λc=>Nat.beq c.2 (S.ver c.1))
  .exact⟨trivial,λ_ _ e=>by cases e⟩
  .refine⟨?_,λ_ _ e=>by cases e⟩;obtain⟨vs,h1,h2,h3⟩:=h;refine⟨vs,h1,by simpa using h2,λi j ver hi=>?_⟩;simp only[dF,aT] at hi;obtain⟨⟨j',v'⟩,hc,e⟩:=hi;cases e;have:=fe.1 hb _ (tZ hc);exact⟨bL _,λ_=>(h3 i _ _ hc).2 (aK this)⟩
def Inv.weaken (h:Inv C S Z H own hv w0 σ0 A a w){S':St}{Z':Env}(hr:∀t,ba C S' Z' H hv (S'.r t) (a.tmps.getD t undef) (Z'.r t))(ho:∀j,eD C S' Z' H own hv w w0.heap.size j (S'.o j))
 (hn:∀t gs s,S'.r t≠.opt gs s) (ht:∀j,S'.o j=.tr->S.o j=.tr/\Z'.o j=Z.o j):Inv C S' Z' H own hv w0 σ0 (λ_=>False) a w:=
 ⟨h.defers,h.ok,h.le,h.old,h.newc,h.newm,h.below,h.bw,h.owns,hr,ho,λt gs s e=>absurd e (hn t gs s),by
   obtain⟨t,fx,cx,h1,h5⟩:=h.frame;exact⟨t,fx,cx,h1,λj hj=>by rw[(ht j hj).2];exact h5 j (ht j hj).1⟩⟩
def aiS {ob:Ob}(h:jU S ob=.tr):ob=.tr:=by
 cases ob<;>simp only[jU] at h<;>first|rfl|cases h
def azj {x y:Ob}(h:oX x y=.tr):x=.tr/\y=.tr:=by
 cases x<;>cases y<;>simp only[oX] at h<;>first
  |exact⟨rfl,rfl⟩
  |(cases h;done)
  |skip
 .rename_i a b;cases hb:Ty.beq a b<;>rw[hb] at h<;>cases h
 .rename_i a b;cases hb:Ty.beq a b<;>rw[hb] at h<;>cases h
 .rename_i ag aa bg bs;cases hb:ag==bg<;>rw[hb] at h
  .cases h
  .simp only[zyv] at h;split at h<;>cases h
 .rename_i T e U f;cases hb:(Nat.beq T U&&Ty.beq e f)<;>rw[hb] at h<;>cases h
 .rename_i T e U f;cases hb:(Ty.beq T U&&Ty.beq e f)<;>rw[hb] at h<;>cases h
 .rename_i T e U f;cases hb:(Ty.beq T U&&Ty.beq e f)<;>rw[hb] at h<;>cases h
def Inv.norm (h:Inv C S Z H own hv w0 σ0 A a w):Inv C S.norm Z H own hv w0 σ0 (λ_=>False) a w:=by
 refine h.weaken (λt=>(Ov (h.regs t)).1) (λj=>?_) (λt=>(Ov (h.regs t)).2) (λj hj=>⟨aiS hj,rfl⟩);have bI:=h.objs j;show eD C S.norm Z H own hv w w0.heap.size j (jU S (S.o j));cases dr:S.o j with
 |box ag aP=>
  rw[dr] at bI;obtain⟨k,cs,T,ds,h1,h2,h3,h4,h5,h6,h7⟩:=bI;refine⟨k,cs,T,ds,h1,h2,h3,by simpa using h4,h5,by simpa using h6,λi s hi=>?_⟩;simp only[dF,aT] at hi;obtain⟨s0,sK,rfl⟩:=hi;have:=Ov (h7 i s0 sK).2;exact⟨this.2,this.1⟩
 |_=>rw[dr] at bI;exact bI
def Kr {b:Bool}{s:Sh}{v:Value}{d:D}(hs:∀gs s',s≠.opt gs s')(h:b=true->ba C S Z H hv s v d):ba C S Z H hv (bif b then s else .none) v d/\∀gs s',(bif b then s else Sh.none)≠.opt gs s':=by
 cases b with
 |true=>exact⟨h rfl,hs⟩
 |false=>exact⟨trivial,λ_ _ e=>by cases e⟩
def aiH {s u:Sh}{v:Value}{d:D}(h:ba C S Z H hv s v d):ba C S Z H hv (jT s u) v d/\∀gs s',jT s u≠.opt gs s':=by
 cases s<;>cases u<;>simp only[jT]<;>first
  |exact⟨trivial,λ_ _ e=>by cases e⟩
  |exact Kr (λ_ _ e=>by cases e) (λ_=>h)
  |exact⟨h,λ_ _ e=>by cases e⟩
  |skip
 rename_i a b;cases h1:Ty.sub a b
 .exact Kr (λ_ _ e=>by cases e) (λ_=>h)
 .exact⟨Rep.sub h h1,λ_ _ e=>by cases e⟩
def aiI {s u:Sh}{v:Value}{d:D}(h:ba C S Z H hv u v d):ba C S Z H hv (jT s u) v d/\∀gs s',jT s u≠.opt gs s':=by
 cases s<;>cases u<;>simp only[jT]<;>first
  |exact⟨trivial,λ_ _ e=>by cases e⟩
  |exact⟨h,λ_ _ e=>by cases e⟩
  |skip
 .rename_i a b;cases h1:Ty.sub a b
  .exact Kr (λ_ _ e=>by cases e) (λh2=>Rep.sub h h2)
  .exact⟨h,λ_ _ e=>by cases e⟩
 all_goals
  refine Kr (λ_ _ e=>by cases e) (λhb=>?_);simp only[aA] at hb
  first
   |(obtain⟨⟨⟨h1,h2⟩,h3⟩,h4⟩:=hb;rw[aK h1,aK h2,aK h3,aK h4];exact h)
   |(obtain⟨⟨h1,h2⟩,h3⟩:=hb;rw[aK h1,aK h2,aK h3];exact h)
   |(obtain⟨h1,h2⟩:=hb;rw[aK h1,aK h2];exact h)
   |(obtain⟨h1,h2⟩:=hb;rw[aK h1,Tl _ _ h2];exact h)
def V3:∀(aa bs cs:List Sh),Aq aa bs=some cs->cs.length=aa.length/\cs.length=bs.length/\∀(i:Nat) (c:Sh),cs[i]?=some c->∃x y,aa[i]?=some x/\bs[i]?=some y/\c=jT x y
 |[],[],cs,h=>by simp[Aq] at h;subst h;simp
 |[],b::bs,cs,h=>by simp[Aq] at h
 |a::aa,[],cs,h=>by simp[Aq] at h
 |a::aa,b::bs,cs,h=>by
  simp only[Aq,aT] at h;obtain⟨ds,hd,rfl⟩:=h;obtain⟨h1,h2,h3⟩:=V3 aa bs ds hd;refine⟨by simp[h1],by simp[h2],λi c hi=>?_⟩;cases i with
  |zero=>simp at hi;exact⟨a,b,rfl,rfl,hi.symm⟩
  |succ i=>simp at hi;simpa using h3 i c hi
def azh {j B:Nat}{x y:Ob}(h:eD C S Z H own hv w B j x):eD C S Z H own hv w B j (oX x y):=by
 cases x<;>cases y<;>simp only[oX]<;>first
  |trivial
  |(rename_i a b;cases Ty.beq a b;·trivial
    .exact h)
  |skip
 .rename_i ag aa bg bs;cases ag==bg
  .trivial
  .simp only[zyv];split
   .rename_i cs ju;obtain⟨l1,l2,wO⟩:=V3 aa bs cs ju;obtain⟨k,cells,T,ds,h1,h2,h3,h4,h5,h6,h7⟩:=h;refine⟨k,cells,T,ds,h1,h2,h3,by omega,h5,by omega,λi s hi=>?_⟩;obtain⟨x,y,hx,hy,rfl⟩:=wO i s hi;have:=aiH (u:=y) (h7 i x hx).2;exact⟨this.2,this.1⟩
   .trivial
 .rename_i T e U f;cases Nat.beq T U&&Ty.beq e f
  .trivial
  .exact h
 .rename_i T e U f;cases Ty.beq T U&&Ty.beq e f
  .trivial
  .exact h
 .rename_i T e U f;cases Ty.beq T U&&Ty.beq e f
  .trivial
  .exact h
def azi {j B:Nat}{x y:Ob}(h:eD C S Z H own hv w B j y):eD C S Z H own hv w B j (oX x y):=by
 cases x<;>cases y<;>simp only[oX]<;>first
  |trivial
  |skip
 .rename_i a b;cases hb:Ty.beq a b
  .trivial
  .rw[Ty.beq_eq _ _ hb];exact h
 .rename_i a b;cases hb:Ty.beq a b
  .trivial
  .rw[Ty.beq_eq _ _ hb];exact h
 .rename_i ag aa bg bs;cases ag==bg
  .trivial
  .simp only[zyv];split
   .rename_i cs ju;obtain⟨l1,l2,wO⟩:=V3 aa bs cs ju;obtain⟨k,cells,T,ds,h1,h2,h3,h4,h5,h6,h7⟩:=h;refine⟨k,cells,T,ds,h1,h2,h3,by omega,h5,by omega,λi s hi=>?_⟩;obtain⟨x,y,hx,hy,rfl⟩:=wO i s hi;have:=aiI (s:=x) (h7 i y hy).2;exact⟨this.2,this.1⟩
   .trivial
 .rename_i T e U f;cases hb:(Nat.beq T U&&Ty.beq e f)
  .trivial
  .simp only[aA] at hb;rw[aK hb.1,Ty.beq_eq _ _ hb.2];exact h
 .rename_i T e U f;cases hb:(Ty.beq T U&&Ty.beq e f)
  .trivial
  .simp only[aA] at hb;rw[Ty.beq_eq _ _ hb.1,Ty.beq_eq _ _ hb.2];exact h
 .rename_i T e U f;cases hb:(Ty.beq T U&&Ty.beq e f)
  .trivial
  .simp only[aA] at hb;rw[Ty.beq_eq _ _ hb.1,Ty.beq_eq _ _ hb.2];exact h
end
section
variable {C:Ctx} {S T:St} {Z Z':Env} {H:Im} {own:Nat->Option Nat} {hv:Nat->Value} {w0:World} {σ0:Base} {A:Nat->Prop} {a:Act} {w:World} {gs:List (Nat×Bool)} {V:bf} {dst:Nat}
def Inv.env (h:Inv C S Z H own hv w0 σ0 (λ_=>False) a w)(hn:∀t gs s,S.r t≠.opt gs s)(hr:∀t,isNone (S.r t)=false->Z'.r t=Z.r t)(ho:∀j,sR (S.o j)=false->Z'.o j=Z.o j):
 Inv C S Z' H own hv w0 σ0 (λ_=>False) a w:=by
 refine h.weaken (λt=>?_) (λj=>?_) hn (λj hj=>⟨hj,ho j (by rw[hj];rfl)⟩)
 .cases hs:isNone (S.r t) with
  |true=>cases hc:S.r t<;>rw[hc] at hs<;>simp[isNone] at hs;trivial
  |false=>
   rw[hr t hs];exact ba.mono' (.refl H) (.refl S hv) (hn t) (h.regs t)
 .cases hs:sR (S.o j) with
  |true=>cases hc:S.o j<;>rw[hc] at hs<;>simp[sR] at hs;trivial
  |false=>exact(h.objs j).mono (.refl H) (.refl S hv) rfl (ho j hs) (λk hk=>⟨hk,rfl⟩)
end
structure Snap where
 rs:List Sh
 os:List Ob
 deriving Inhabited
def eX:List Nat->List Ob->Nat->Ob
 |i::is,o::os,j=>bif Nat.beq i j then o else eX is os j
 |_,_,_=>.dead
def cW:Sh->Sh
 |.opt _ _=>.none
 |s=>s
def Snap.st (ids:List Nat)(s:Snap):St:=⟨λt=>cW (s.rs.getD t .none),λj=>eX ids s.os j,λ_=>0⟩
def St.snap (n:Nat)(ids:List Nat)(S:St):Snap:=⟨(List.range n).map λt=>iy S (S.r t),ids.map λj=>jU S (S.o j)⟩
def Snap.beq (a b:Snap):Bool:=AT a.rs b.rs&&DL a.os b.os
def Snap.beq_eq (a b:Snap)(h:a.beq b=true):a=b:=by
 cases a;cases b;simp only[Snap.beq,aA] at h;rw[ZZ _ _ h.1,aiY _ _ h.2]
def Snap.meet (a b:Snap):Snap:=⟨List.zipWith jT a.rs b.rs,List.zipWith oX a.os b.os⟩
def aG6 (s:Sh):∀gs s',cW s≠.opt gs s':=by
 intro gs s' e;cases s<;>simp[cW] at e
def Snap.noOpt (ids:List Nat)(s:Snap):∀t gs s',(s.st ids).r t≠.opt gs s':=λt=>aG6 _
section
variable {C:Ctx} {S:St} {Z:Env} {H:Im} {own:Nat->Option Nat} {hv:Nat->Value} {w0:World} {σ0:Base} {A:Nat->Prop} {a:Act} {w:World} {n:Nat} {ids:List Nat}
def Am (f:Nat->Ob)(P:Ob->Prop)(hd:P .dead)(j:Nat)(hf:P (f j)):∀ids:List Nat,P (eX ids (ids.map f) j)
 |[]=>hd
 |i::is=>by
  simp only[j6,eX];cases hb:Nat.beq i j
  .exact Am f P hd j hf is
  .rw[aK hb];exact hf
def adL {s:Sh}{v:Value}{d:D}(h:ba C S Z H hv s v d):ba C S Z H hv (cW s) v d:=by
 cases s<;>first|exact h|trivial
def Inv.snap (h:Inv C S Z H own hv w0 σ0 A a w)(n:Nat)(ids:List Nat):Inv C ((S.snap n ids).st ids) Z H own hv w0 σ0 (λ_=>False) a w:=by
 have h1:=h.norm;have hc:Compat S.norm hv ((S.snap n ids).st ids) hv:=⟨λ_=>bL _,λ_ _=>rfl⟩
 refine h1.weaken (λt=>?_) (λj=>?_) (Snap.noOpt _ _) (λj hj=>⟨Am (λj=>jU S (S.o j)) (λob=>ob=.tr->jU S (S.o j)=.tr) (λe=>by cases e) j id ids hj,rfl⟩)
 .refine ba.mono' (Z:=Z) (.refl H) hc (Snap.noOpt _ _ t) ?_;show ba C S.norm Z H hv (cW (((List.range n).map λt=>iy S (S.r t)).getD t .none)) _ _;refine adL ?_;rw[bn,dF];by_cases ht:t<n
  .rw[rZ ht];exact h1.regs t
  .rw[tX (by simpa using ht)];trivial
 .have ho:=(h1.objs j).mono (.refl H) hc (w:=w) (w':=w) rfl rfl (λk hk=>⟨hk,rfl⟩);exact Am (λj=>jU S (S.o j)) (λob=>eD C _ Z H own hv w w0.heap.size j ob) trivial j ho ids
def Rj {f:Sh->Sh->Sh}:∀(x y:List Sh) (t:Nat),(List.zipWith f x y).getD t .none=.none\/∃s u,x.getD t .none=s/\y.getD t .none=u/\(List.zipWith f x y).getD t .none=f s u
 |[],_,t=>.inl (by simp)
 |_::_,[],t=>.inl (by simp)
 |a::aa,b::bs,0=>.inr ⟨a,b,rfl,rfl,rfl⟩
 |a::aa,b::bs,t+1=>by simpa using Rj (f:=f) aa bs t
def Of {f:Ob->Ob->Ob}:∀(ids:List Nat) (x y:List Ob) (j:Nat),eX ids (List.zipWith f x y) j=.dead\/eX ids (List.zipWith f x y) j=f (eX ids x j) (eX ids y j)
 |[],_,_,_=>.inl rfl
 |_::_,[],_,_=>.inl rfl
 |_::_,_::_,[],_=>.inl rfl
 |i::is,a::aa,b::bs,j=>by
  simp only[List.zipWith_cons_cons,eX];cases Nat.beq i j
  .exact Of is aa bs j
  .exact .inr rfl
def aG4 {s u:Sh}{v:Value}{d:D}(h:ba C S Z H hv (cW s) v d):ba C S Z H hv (cW (jT s u)) v d:=by
 cases hs:s with
 |opt gs s'=>cases u<;>simp[jT,cW,ba]
 |_=>rw[hs] at h;exact adL (aiH h).1
def aG5 {s u:Sh}{v:Value}{d:D}(h:ba C S Z H hv (cW u) v d):ba C S Z H hv (cW (jT s u)) v d:=by
 cases hs:u with
 |opt gs s'=>cases s<;>simp[jT,cW,ba]
 |_=>rw[hs] at h;exact adL (aiI h).1
def aiJ {x y:Snap}{j:Nat}(h:((x.meet y).st ids).o j=.tr):(x.st ids).o j=.tr/\(y.st ids).o j=.tr:=by
 change eX ids (List.zipWith oX x.os y.os) j=.tr at h;rcases Of (f:=oX) ids x.os y.os j with h0|h0
 .rw[h0] at h;cases h
 .rw[h0] at h;exact azj h
def Snap.meet_ok1 {x y:Snap}(h:Inv C (x.st ids) Z H own hv w0 σ0 A a w):Inv C ((x.meet y).st ids) Z H own hv w0 σ0 (λ_=>False) a w:=by
 have hc:Compat (x.st ids) hv ((x.meet y).st ids) hv:=⟨λ_=>bL _,λ_ _=>rfl⟩
 refine h.weaken (λt=>?_) (λj=>?_) (Snap.noOpt _ _) (λj hj=>⟨(aiJ hj).1,rfl⟩)
 .refine ba.mono' (Z:=Z) (.refl H) hc (Snap.noOpt _ _ t) ?_;show ba C (x.st ids) Z H hv (cW ((List.zipWith jT x.rs y.rs).getD t .none)) _ _;rcases Rj (f:=jT) x.rs y.rs t with h0|⟨s,u,h1,h2,h3⟩
  .rw[h0];trivial
  .rw[h3];exact aG4 (by rw[<-h1];exact h.regs t)
 .refine eD.mono (S:=x.st ids) (Z:=Z) (own:=own) (hv:=hv) (.refl H) hc (w:=w) rfl rfl (λk hk=>⟨hk,rfl⟩) ?_;show eD C _ Z H own hv w w0.heap.size j (eX ids (List.zipWith oX x.os y.os) j);rcases Of (f:=oX) ids x.os y.os j with h0|h0
  .rw[h0];trivial
  .rw[h0];exact azh (h.objs j)
def Snap.meet_ok2 {x y:Snap}(h:Inv C (y.st ids) Z H own hv w0 σ0 A a w):Inv C ((x.meet y).st ids) Z H own hv w0 σ0 (λ_=>False) a w:=by
 have hc:Compat (y.st ids) hv ((x.meet y).st ids) hv:=⟨λ_=>bL _,λ_ _=>rfl⟩
 refine h.weaken (λt=>?_) (λj=>?_) (Snap.noOpt _ _) (λj hj=>⟨(aiJ hj).2,rfl⟩)
 .refine ba.mono' (Z:=Z) (.refl H) hc (Snap.noOpt _ _ t) ?_;show ba C (y.st ids) Z H hv (cW ((List.zipWith jT x.rs y.rs).getD t .none)) _ _;rcases Rj (f:=jT) x.rs y.rs t with h0|⟨s,u,h1,h2,h3⟩
  .rw[h0];trivial
  .rw[h3];exact aG5 (by rw[<-h2];exact h.regs t)
 .refine eD.mono (S:=y.st ids) (Z:=Z) (own:=own) (hv:=hv) (.refl H) hc (w:=w) rfl rfl (λk hk=>⟨hk,rfl⟩) ?_;show eD C _ Z H own hv w w0.heap.size j (eX ids (List.zipWith oX x.os y.os) j);rcases Of (f:=oX) ids x.os y.os j with h0|h0
  .rw[h0];trivial
  .rw[h0];exact azi (h.objs j)
end
def Ak (C:Ctx)(S:St)(T:TypeId)(x:Operand):List Nat:=
 match lb S [] x,rj C.P T,C.P.info? T with
 |.ptr j _ off,some true,some inf=>(match S.o j with|.box _ aP=>Ft ((aP.drop off).take inf.size)|_=>[])
 |_,_,_=>[]
def Qw (C:Ctx)(S:St):ResultVar->Option (St×Ty×PE)
 |.tmp t=>(use C (S.fzs (eZ S [] [.tmp t])) [] (.tmp t)).map λx=>(S.fzs (eZ S [] [.tmp t]),x.1,x.2)
 |.cell b T=>
  match HE C (S.fzs (Ak C S T (.tmp b))) [] 0 T (.tmp b) with
  |some (.dat ty,[.setR 0 e])=>some (S.fzs (Ak C S T (.tmp b)),ty,e)
  |some (.obj j ver,[.setR _ _])=>
   bif Nat.beq ver (((S.fzs (Ak C S T (.tmp b))).fz j).ver j) then
    match((S.fzs (Ak C S T (.tmp b))).fz j).o j with
    |.fz ty=>some ((S.fzs (Ak C S T (.tmp b))).fz j,ty,.o j)
    |_=>none
   else none
  |_=>none
def Jr (C:Ctx):List ResultVar->St->Option (St×List Ty×List PE)
 |[],S=>some (S,[],[])
 |x::xs,S=>(Qw C S x).bind λr=>(Jr C xs r.1).map λq=>(q.1,r.2.1::q.2.1,r.2.2::q.2.2)
def anh (C:Ctx)(fn:Func)(S:St)(res:Ty):Option PE:=
 (Jr C fn.results.toList S).bind λr=>
    match r.2.1,r.2.2 with
    |[ty],[e]=>bif Ty.sub ty res then some e else none
    |pE,es=>bif Ty.sub (.tup pE) res then some (.tup es) else none
def ani (C:Ctx)(fn:Func)(S:St)(T:TypeId)(e:Ty):Option PE:=
 match fn.results.toList with
 |[.tmp t]=>
  match rN S [] t with
  |.obj j ver=>bif Nat.beq ver (S.ver j) then(match S.o j with|.row U f=>bif Nat.beq U T&&Ty.beq f e then some (.o j) else none|_=>none) else none
  |_=>none
 |[.cell b U]=>
  match HE C S [] 0 U (.tmp b) with
  |some (.obj j ver,[.setR _ _])=>bif Nat.beq ver (S.ver j) then(match S.o j with|.row U f=>bif Nat.beq U T&&Ty.beq f e then some (.o j) else none|_=>none) else none
  |_=>none
 |_=>none
def AN (C:Ctx)(fn:Func)(s:Sig)(S:St):Option PE:=
 match s.mode with
 |.ob _ _=>none
 |.dat=>anh C fn S s.res
 |.it J=>match fn.results.toList,S.o J with|[],.tr=>some (.o J)|_,_=>none
 |.row T e=>ani C fn S T e
def Qt (P:Program)(tmps:Array Value)(w:World):ResultVar->Value->Prop
 |.tmp t,v=>v=tmps.getD t undef
 |.cell a T,v=>∃k,tmps.getD a undef=.pointer (some k)/\(loadVar T k).run P w=.ok v w
def Qu (P:Program)(tmps:Array Value)(w:World):List ResultVar->List Value->Prop
 |[],[]=>True
 |x::xs,v::vs=>Qt P tmps w x v/\Qu P tmps w xs vs
 |_,_=>False
def OV:List Value->Value
 |[v]=>v
 |vs=>.tuple vs.toArray
section
variable {C:Ctx} {S:St} {Z:Env} {H:Im} {own:Nat->Option Nat} {hv:Nat->Value} {w0:World} {σ0:Base} {A:Nat->Prop} {a:Act} {w:World} {gs:List (Nat×Bool)} {V:bf} {dst:Nat}
def ais {P:Program}{tmps:Array Value}{w:World}(f:ResultVar->Sem Value)(hf1:∀t,f (.tmp t)=pure (tmps.getD t undef))(hf2:∀b T,f (.cell b T)=(do loadVar T (<-asAddr (tmps.getD b undef)))):
 ∀(l:List ResultVar) (vs:List Value),Qu P tmps w l vs->(l.mapM f).run P w=.ok vs w
 |[],[],_=>by simp[Sem.run_pure]
 |x::l,v::vs,h=>by
  obtain⟨hx,VG⟩:=h;have ih:=ais f hf1 hf2 l vs VG;rw[aeg];have h1:(f x).run P w=.ok v w:=by
   cases x with
   |tmp t=>rw[hf1];simp only[Qt] at hx;subst hx;simp[Sem.run_pure]
   |cell b T=>
    obtain⟨k,h1,h2⟩:=hx;rw[hf2,h1];simp[asAddr,h2]
  simp[Sem.run_bind,h1,ih,Sem.run_pure,Result.andThen_ok]
def Qv {P:Program}{fn:Func}{tmps:Array Value}{w:World}{vs:List Value}(h:Qu P tmps w fn.results.toList vs):
 (results fn tmps).run P w=.ok (OV vs) w:=by
 unfold results;rw[Array.mapM_eq_mapM_toList];simp only[Sem.run_bind];simp only[bind_map_left,map_eq_pure_bind,Sem.run_bind,bind_assoc,pure_bind];rw[ais (tmps:=tmps) _ (λt=>rfl) (λb T=>rfl) _ _ h];simp only[Result.andThen_ok,Sem.run_pure];rcases vs with _|⟨v,_|⟨u,vs⟩⟩<;>simp[Sem.run_pure,OV]
def VV {o:Oper}{T:TypeId}{b:Nat}{v:Value}(ho:o.op=.load T (.tmp b))(hx:(execOp a.eval o).run C.P w=.ok (.value v) w):Qt C.P a.tmps w (.cell b T) v:=by
 have he:a.eval (.tmp b)=a.tmps.getD b undef:=by simp[Act.eval]
 simp only[execOp,ho,Instr.loadAt,he] at hx;cases hp:a.tmps.getD b undef with
 |pointer p=>
  cases p with
  |none=>rw[hp] at hx;simp[Instr.sureAddr] at hx
  |some k=>
   rw[hp] at hx;refine⟨k,hp,?_⟩;simp[Instr.sureAddr] at hx;cases hr:(loadVar T k).run C.P w with
   |ok u w'=>rw[hr] at hx;simp at hx;rw[hx.1,hx.2]
   |halt u w'=>rw[hr] at hx;simp at hx
 |_=>rw[hp] at hx;simp[Instr.sureAddr] at hx
def aCa (h:Inv C S Z H own hv w0 σ0 A a w)(hC:CtxOK C σ0){x:ResultVar}{r:St×Ty×PE}(hr:Qw C S x=some r):
 ∃H' own' v,H.le H'/\Inv C r.1 Z H' own' hv w0 σ0 A a w/\Qt C.P a.tmps w x v/\Rep C.cap H' r.2.1 v (r.2.2.ev Z):=by
 cases x with
 |tmp t=>
  simp only[Qw,aT] at hr;obtain⟨y,hy,rfl⟩:=hr;obtain⟨H1,kS,hle,h1⟩:=Inv.fzs (eZ S [] [.tmp t]) h;refine⟨H1,kS,a.tmps.getD t undef,hle,h1,rfl,?_⟩;have:=cM (gs:=[]) h1 hC rfl hy;simpa [Act.eval] using this
 |cell b T=>
  simp only[Qw] at hr;obtain⟨H1,kS,hle,h1⟩:=Inv.fzs (Ak C S T (.tmp b)) h;generalize CT:S.fzs (Ak C S T (.tmp b))=S1 at hr h1
  let o:Oper:={(default:Oper) with op:=.load T (.tmp b)}
  split at hr
  .rename_i ty e hl;cases hr;have hq:=OW (V:=λ_ _=>none) (dst:=0) (gs:=[]) h1 hC rfl hl (o:=o) rfl;obtain⟨v,d,e1,e2,e3,e4⟩:=hq _ rfl;have hd:d=e.ev Z:=by
        have:=congrArg (λx:Env=>x.r 0) e1;simpa [Env.setR,bh] using this.symm
   subst hd;exact⟨H1,kS,v,hle,h1,VV rfl e2,e3⟩
  .rename_i j ver t0 e0 hl;have hq:=OW (V:=λ_ _=>none) (dst:=0) (gs:=[]) h1 hC rfl hl (o:=o) rfl;obtain⟨v,d,e1,e2,e3,e4⟩:=hq _ rfl;cases hb:Nat.beq ver ((S1.fz j).ver j)<;>simp only[hb,zyv,zyu] at hr
   .cases hr
   split at hr
   case h_2=>cases hr
   rename_i ty bt;cases hr;obtain⟨σ2,jV,wU,h2⟩:=h1.fz j;refine⟨σ2,jV,v,hle.trans wU,h2,VV rfl e2,?_⟩;have ho:=h2.objs j;rw[bt] at ho;have gm:ver=S1.ver j:=by rw[aK hb,(TZ S1 j).1]
   rw[e3.2 gm];exact ho.2
  .cases hr
def ang (hC:CtxOK C σ0):∀(l:List ResultVar) {S:St} {H:Im} {own:Nat->Option Nat} {r:St×List Ty×List PE},Inv C S Z H own hv w0 σ0 A a w->Jr C l S=some r->
 ∃H' own' vs,H.le H'/\Inv C r.1 Z H' own' hv w0 σ0 A a w/\Qu C.P a.tmps w l vs/\vs.length=r.2.1.length/\r.2.2.length=r.2.1.length/\
  ∀(i:Nat) (t:Ty),r.2.1[i]?=some t->Rep C.cap H' t (vs.getD i undef) ((PE.evs Z r.2.2).getD i .none)
 |[],S,H,own,r,h,hr=>by
  simp only[Jr,bx] at hr;subst hr;exact⟨H,own,[],.refl H,h,trivial,rfl,rfl,λi t e=>by simp at e⟩
 |x::l,S,H,own,r,h,hr=>by
  simp only[Jr,aJ,aT] at hr;obtain⟨r1,h1,q,h2,rfl⟩:=hr;obtain⟨H1,kS,v,hle,i1,hx,cG⟩:=aCa h hC h1;obtain⟨σ2,jV,vs,wU,i2,VG,Db,Dc,Dk⟩:=ang hC l i1 h2;refine⟨σ2,jV,v::vs,hle.trans wU,i2,⟨hx,VG⟩,by simp[Db],by simp[Dc],λi t e=>?_⟩;cases i with
  |zero=>simp at e;subst e;simpa [PE.evs] using cG.mono wU
  |succ i=>simp at e;simpa [PE.evs] using Dk i t e
def J2 (C:Ctx)(s:Sig)(H:Im)(own:Nat->Option Nat)(w0 w:World)(tmps:Array Value)(d:D)(v:Value):Prop:=True
def J2.no {C:Ctx}{s:Sig}{H:Im}{own:Nat->Option Nat}{w0 w:World}{tmps:Array Value}{d:D}{v:Value}(h:Ae s.mode=false):J2 C s H own w0 w tmps d v:=trivial
def RM (C:Ctx)(w0:World)(σ0:Base)(fn:Func)(s:Sig)(d:D)(a:Act)(w:World):Prop:=
 ∃v H,(∃own t fx cx,FrOK H own w0.heap.size σ0 w t fx cx/\(∀J,s.mode=.it J->d=t)/\J2 C s H own w0 w a.tmps d v)/\(results fn a.tmps).run C.P w=.ok v w/\σ0.le H/\H.ok w/\Below σ0.B w0 w/\
  (∀k o x,H.c k o=some x->σ0.c k o=some x\/w0.heap.size<=k)/\(∀k x,H.m k=some x->σ0.m k=some x\/w0.heap.size<=k)/\ua C s H w0 w v d
def Inv.fr (h:Inv C S Z H own hv w0 σ0 A a w){s:Sig}{d:D}{v:Value}(hm:∀J,s.mode≠.it J)(ho:Ae s.mode=false):∃own t fx cx,FrOK H own w0.heap.size σ0 w t fx cx/\(∀J,s.mode=.it J->d=t)/\J2 C s H own w0 w a.tmps d v:=by
 obtain⟨t,fx,cx,h1,_⟩:=h.frame;exact⟨own,t,fx,cx,h1,λJ e=>absurd e (hm J),.no ho⟩
def aG3 {ty:Ty}{pE:List Ty}{es:List PE}(h:∀ty e,pE=[ty]->es=[e]->False)(hl:es.length=pE.length):pE.length≠1:=by
 intro h1
 match pE,es with
 |[ty],[e]=>exact h ty e rfl rfl
 |[],_=>simp at h1
 |_::_::_,_=>simp at h1
 |[_],[]=>simp at hl
 |[_],_::_::_=>simp at hl
def anj (h:Inv C S Z H own hv w0 σ0 A a w){T:TypeId}{e:Ty}{j ver:Nat}{v:Value}{d:D}(hc:ba C S Z H hv (.obj j ver) v d){pe:PE}
 (hr:(bif Nat.beq ver (S.ver j) then(match S.o j with|.row U f=>bif Nat.beq U T&&Ty.beq f e then some (PE.o j) else none|_=>none) else none)=some pe):
 ∃cells xs,pe.ev Z=.list xs/\w.ownsRow w0.heap.size T e.size v xs.length cells/\j4 C.cap H e cells xs/\∀k,v.ownBlock=some k->(∀o,H.c k o=none)/\H.m k=none:=by
 cases hb:Nat.beq ver (S.ver j)<;>simp only[hb,zyv,zyu] at hr
 .cases hr
 split at hr
 case h_2=>cases hr
 rename_i U f ho;cases eI:Nat.beq U T&&Ty.beq f e<;>simp only[eI,zyv,zyu] at hr
 .cases hr
 cases hr;simp only[aA] at eI;have hU:=aK eI.1;have hf:=Ty.beq_eq _ _ eI.2;subst hU hf;have hj:=h.objs j;rw[ho] at hj;obtain⟨cells,xs,h1,h2,h3,h4⟩:=hj;have hv':=hc.2 (aK hb);subst hv';exact⟨cells,xs,h1,h2,h3,λk hk=>(h.owns k j (h4 k hk)).2.2⟩
def aCb (h:Inv C S Z H own hv w0 σ0 A a w)(hC:CtxOK C σ0)(gm:∀j,S.ver j=0){fn:Func}{s:Sig}{pe:PE}(hr:AN C fn s S=some pe):RM C w0 σ0 fn s (pe.ev Z) a w:=by
 unfold AN at hr;split at hr
 .cases hr
 .rename_i hm;simp only[anh,aJ] at hr;obtain⟨r,bj,hr⟩:=hr;obtain⟨H1,kS,vs,hle,h1,GY,Db,Dc,Dk⟩:=ang hC _ h bj;refine⟨_,H1,h1.fr (λJ e=>by rw[hm] at e;cases e) (by rw[hm];rfl),Qv GY,h.le.trans hle,h1.ok,h1.below,h1.newc,h1.newm,?_⟩;unfold ua;rw[hm];simp only;split at hr
  .rename_i ty e e1 e2;rw[e1] at Db Dk;rw[e2] at Dk;cases hb:Ty.sub ty s.res<;>simp only[hb,zyv,zyu] at hr
   .cases hr
   cases hr;obtain⟨v,rfl⟩:∃v,vs=[v]:=by
        match vs,Db with
        |[v],_=>exact⟨v,rfl⟩
   have:=Dk 0 ty rfl;exact Rep.sub (by simpa [PE.evs,OV] using this) hb
  .rename_i aI;cases hb:Ty.sub (.tup r.2.1) s.res<;>simp only[hb,zyv,zyu] at hr
   .cases hr
   cases hr;have ag2:=aG3 (ty:=.bool) aI Dc;have cV:OV vs=Value.tuple vs.toArray:=by
        match vs,Db with
        |[],_=>rfl
        |[v],hl=>rw[<-hl] at ag2;exact absurd rfl ag2
        |_::_::_,_=>rfl
   rw[cV];refine Rep.sub (Rep.tup _ _ _ (by rw[Db]) (by rw[PE.evs_eq,nN,Dc]) Dk) hb
 .rename_i J hm;split at hr
  case h_2=>cases hr
  rename_i oO hJ;cases hr;obtain⟨t,fx,cx,h1,h2⟩:=h.frame;refine⟨_,H,⟨own,t,fx,cx,h1,λJ' e=>?_,.no (by rw[hm];rfl)⟩,Qv (vs:=[]) (by rw[oO];trivial),h.le,h.ok,h.below,h.newc,h.newm,by unfold ua;rw[hm];trivial⟩;exact(h2 J hJ).2
 .rename_i T e hm;have key:∃v,(results fn a.tmps).run C.P w=.ok v w/\∃cells xs,pe.ev Z=.list xs/\w.ownsRow w0.heap.size T e.size v xs.length cells/\j4 C.cap H e cells xs/\∀k,v.ownBlock=some k->(∀o,H.c k o=none)/\H.m k=none:=by
   unfold ani at hr;split at hr
   .rename_i t ht;split at hr
    case h_2=>cases hr
    rename_i j ver hs;have hc:=(vG (gs:=[]) h rfl t).1;rw[hs] at hc;exact⟨_,Qv (vs:=[a.tmps.getD t undef]) (by rw[ht];exact⟨rfl,trivial⟩),anj h hc hr⟩
   .rename_i b U hb;split at hr
    case h_2=>cases hr
    rename_i j ver t0 e0 hl;have hq:=OW (V:=λ_ _=>none) (dst:=0) (gs:=[]) h hC rfl hl (o:={(default:Oper) with op:=.load U (.tmp b)}) rfl;obtain⟨v,d,e1,e2,e3,e4⟩:=hq _ rfl;exact⟨_,Qv (vs:=[v]) (by rw[hb];exact⟨VV rfl e2,trivial⟩),anj h e3 hr⟩
   .cases hr
  obtain⟨v,h1,h2⟩:=key;refine⟨v,H,h.fr (λJ e=>by rw[hm] at e;cases e) (by rw[hm];rfl),h1,h.le,h.ok,h.below,h.newc,h.newm,?_⟩;unfold ua;rw[hm];exact h2
def lf.drop {H:Im}{B D:Nat}:∀{ds:List Deferred},({target:=.collected D,args:=#[]}:Deferred)∉ds->lf H B ds->lf (H.drop D) B ds
 |[],_,_=>trivial
 |x::ds,hn,⟨⟨D',h1,h2,h3⟩,h⟩=>by
  simp only[dG,not_or] at hn;refine⟨⟨D',h1,?_,h3⟩,lf.drop hn.2 h⟩;have:D'≠D:=λe=>hn.1 (by rw[h1,e]);simp[Im.drop,this,h2]
def Inv.shut (h:Inv C S Z H own hv w0 σ0 A a w)(qY:σ0.fin){x:Deferred}{ds:List Deferred}(hd:a.defers=x::ds):
 ∃D,x.target=.collected D/\w.heap[D]?=some (.deferred (some []))/\Inv C S Z (H.drop D) own hv w0 σ0 A {a with defers:=ds} (w.putObj D (.deferred none)):=by
 have pU:=h.defers;rw[hd] at pU;obtain⟨⟨D,rfl,hm,hB,U6⟩,Gq⟩:=pU;have hD:w.heap[D]?=some (.deferred (some [])):=by
  rcases h.ok.m D _ hm with⟨h1,_⟩|⟨_,h2⟩
  .exact absurd rfl h1
  .exact h2
 have rh:∀k,k≠D->(w.putObj D (.deferred none)).heap[k]?=w.heap[k]?:=λk hk=>World.putObj_heap_other hk;have dv:∀k j,own k=some j->k≠D:=λk j hk e=>by subst e;rw[(h.owns k j hk).2.2.2] at hm;cases hm
 have hR:Im.leR C.cap H (H.drop D):=⟨λr=>r.drop hm,λ_ _ _ e=>e⟩
 have sB:∀k x,(H.drop D).m k=some x->k≠D/\H.m k=some x:=by
  intro k x hx;simp only[Im.drop] at hx;split at hx
  .cases hx
  .rename_i aI;exact⟨aI,hx⟩
 refine⟨D,rfl,hD,Gq.drop U6,⟨λk o v hc=>?_,λk es hc=>?_⟩,⟨h.le.c,λk es hc=>?_⟩,h.old,h.newc,λk es hc=>h.newm k es (sB k es hc).2,h.below.trans ⟨rfl,rfl,rfl,by simp,λk hk=>rh k (by have:=h.bw;omega)⟩,h.bw,λk j hk=>?_,λt=>?_,λj=>?_,h.opts,?_⟩
 .have h1:=h.ok.c k o v hc;have aI:k≠D:=λe=>by subst e;simp[World.cell?,hD] at h1
  rw[World.cell?_of_block (rh k aI)];exact h1
 .exact(h.ok.m k es (sB k es hc).2).keep (rh k (sB k es hc).1)
 .have aI:k≠D:=λe=>by
   subst e;have:=h.le.m _ _ hc;rw[hm] at this;cases this;have:=h.old qY _ hc;omega
  simp[Im.drop,aI,h.le.m k es hc]
 .obtain⟨g1,g2,g3,g4⟩:=h.owns k j hk;exact⟨g1,by simpa using g2,g3,by simp only[Im.drop];split<;>first|rfl|exact g4⟩
 .exact ba.monoR hR (.refl S hv) (λ_ _ _=>rfl) (λgs s e=>(h.opts t gs s e).2) (h.regs t)
 .exact(h.objs j).monoR hR (.refl S hv) rfl rfl (λk hk=>⟨hk,rh k (dv k j hk)⟩)
 .obtain⟨t,fx,cx,hf,ht⟩:=h.frame;exact⟨t,fx,cx,⟨σ0.keep _ _ _ _ _ hf.F ⟨rfl,rfl,rfl,by simp,λk hk=>by omega⟩ (λk hk=>rh k λe=>by subst e;exact hf.d k hm hB hk),hf.own,hf.c,λk x hx=>hf.m k x (sB k x hx).2,λk hx=>hf.d k (sB k _ hx).2⟩,ht⟩
def ub (C:Ctx)(w0:World)(σ0:Base)(fn:Func)(s:Sig)(d:D)(tmps:Array Value):List Deferred->World->Prop
 |[],w=>RM C w0 σ0 fn s d {tmps:=tmps,defers:=[]} w
 |x::ds,w=>∃D,x.target=.collected D/\w.heap[D]?=some (.deferred (some []))/\ub C w0 σ0 fn s d tmps ds (w.putObj D (.deferred none))
def Inv.retD (hC:CtxOK C σ0)(gm:∀j,S.ver j=0)(qY:σ0.fin){fn:Func}{s:Sig}{pe:PE}(hr:AN C fn s S=some pe):∀(ds:List Deferred) {H:Im} {a:Act} {w:World},Inv C S Z H own hv w0 σ0 A a w->a.defers=ds->ub C w0 σ0 fn s (pe.ev Z) a.tmps ds w
 |[],H,a,w,h,hd=>by
  have e:a={tmps:=a.tmps,defers:=[]}:=by cases a;simp only at hd;subst hd;rfl
  rw[e] at h;exact aCb h hC gm hr
 |x::ds,H,a,w,h,hd=>by
  obtain⟨D,h1,h2,h3⟩:=h.shut qY hd;exact⟨D,h1,h2,Inv.retD hC gm qY hr ds (a:={a with defers:=ds}) h3 rfl⟩
end
def mN (C:Ctx)(f:Nat)(cts ys:List Ty)(ds xs:List D):Prop:=
 ∀(H:Im) (w:World) (yv:Value) (vs:List Value) (F:D->(Nat->Prop)->(Nat->Prop)->World->Prop) (fx cx:Nat->Prop) (m:Nat),H.ok w->CtxOK C H->rV C H cts vs ds->m<=xs.length->
  (∀t fx cx w,F t fx cx w->∀k,fx k->k<w.heap.size)->(∀t fx cx w,F t fx cx w->∀k,cx k->fx k)->
  (∀t fx cx w w',F t fx cx w->Below 0 w w'->(∀k,fx k->w'.heap[k]?=w.heap[k]?)->F t fx cx w')->
  F (.list []) fx cx w->(∀k o x,H.c k o=some x->¬cx k)->(∀k x,H.m k=some x->¬cx k)->
  (∀(i:Nat) (fx cx:Nat->Prop) (w1:World) (H1:Im) (args:List Value) (cO:List D),i<=m->xs[i]?=some (.tup cO)->F (.list (xs.take i)) fx cx w1->H1.ok w1->rV C H1 ys args cO->
    (∀k o x,H1.c k o=some x->¬cx k)->(∀k x,H1.m k=some x->¬cx k)->
    (∀k o x,H1.c k o=some x->H.c k o=some x\/w.heap.size<=k)->(∀k x,H1.m k=some x->H.m k=some x\/w.heap.size<=k)->
    YOK C.P yv args w1 λu w2=>u=.bool (decide (i<m))/\Below 0 w1 w2/\(∀k,k<w1.heap.size->¬cx k->w2.heap[k]?=w1.heap[k]?)/\
     ∃oy nW,F (.list (xs.take (i+1))) oy nW w2/\(∀k,oy k->k<w1.heap.size->fx k\/(∃o x,H1.c k o=some x)\/(∃x,H1.m k=some x/\x≠fZ))/\(∀k,nW k->k<w1.heap.size->cx k))->
  Calls C.P f (#[yv]++vs.toArray) w λe w'=>(∃v,e=.returned v)/\∃fx cx,F (.list (xs.take (m+1))) fx cx w'
def gP (C:Ctx)(V:bf):Prop:=∀f cs ys,C.cap f=some cs->oT cs.args cs.res=some ys->(∃fn,C.P.funcs[f]?=some fn/\fn.body.isSome=true/\(fn.name== "runtime.NumGoroutine")=false)/\
 ∀ds d,V f ds=some d->∃xs,d=.list xs/\(∀x,x∈xs->∃cO,x=.tup cO/\cO.length=ys.length)/\mN C f cs.caps ys ds xs
section
variable {C:Ctx} {S:St} {Z:Env} {H:Im} {own:Nat->Option Nat} {hv:Nat->Value} {w0:World} {σ0:Base} {A:Nat->Prop} {a:Act} {w:World}
def Inv.mono_regs (h:Inv C S Z H own hv w0 σ0 A a w){τ:Im}(hle:H.le τ)(t:Nat):ba C S Z τ hv (S.r t) (a.tmps.getD t undef) (Z.r t):=
 ba.mono hle (.refl S hv) (λ_ _ _=>rfl) (λgs s e=>(h.opts t gs s e).2) (h.regs t)
def Inv.joinIm (h:Inv C S Z H own hv w0 σ0 A a w){τ:Im}(hτ:τ.ok w)(hd:∀k,τ.m k≠some fZ)(hoc:∀k o v,τ.c k o=some v->own k=none)(hom:∀k v,τ.m k=some v->own k=none)
 (gG:∀k o v,τ.c k o=some v->H.c k o=some v\/w0.heap.size<=k) (eK:∀k v,τ.m k=some v->H.m k=some v\/w0.heap.size<=k)
 (gE:∀t fx cx,FrOK H own w0.heap.size σ0 w t fx cx->(∀k o v,τ.c k o=some v->¬cx k)/\∀k v,τ.m k=some v->¬cx k):Inv C S Z (H.plus τ) own hv w0 σ0 A a w where
 defers:=h.defers.mono (Im.plus_le1 H τ)
 ok:=Im.plus_ok h.ok hτ
 le:=h.le.trans (Im.plus_le1 H τ)
 old:=h.old
 newc:=λk o x e=>(Im.plus_c e).elim (h.newc k o x) λe=>(gG k o x e).elim (h.newc k o x) .inr
 newm:=λk x e=>(Im.plus_m e).elim (h.newm k x) λe=>(eK k x e).elim (h.newm k x) .inr
 below:=h.below
 bw:=h.bw
 owns:=λk j hk=>by
  obtain⟨g1,g2,g3,g4⟩:=h.owns k j hk;refine⟨g1,g2,λo=>?_,?_⟩
  .cases e:(H.plus τ).c k o with
   |none=>rfl
   |some x=>
    rcases Im.plus_c e with e|e
    .rw[g3 o] at e;cases e
    .rw[hoc k o x e] at hk;cases hk
  .cases e:(H.plus τ).m k with
   |none=>rfl
   |some x=>
    rcases Im.plus_m e with e|e
    .rw[g4] at e;cases e
    .rw[hom k x e] at hk;cases hk
 regs:=h.mono_regs (Im.plus_le1 H τ)
 objs:=λj=>(h.objs j).mono (Im.plus_le1 H τ) (.refl S hv) rfl rfl λk hk=>⟨hk,rfl⟩
 opts:=h.opts
 frame:=by
  obtain⟨t,fx,cx,hf,ht⟩:=h.frame;obtain⟨h1,h2⟩:=gE t fx cx hf;exact⟨t,fx,cx,⟨hf.F,hf.own,λk o x e=>(Im.plus_c e).elim (hf.c k o x) (h1 k o x),λk x e=>(Im.plus_m e).elim (hf.m k x) (h2 k x),λk e=>(Im.plus_m e).elim (hf.d k) λe=>absurd e (hd k)⟩,ht⟩
def Inv.keep (h:Inv C S Z H own hv w0 σ0 A a w){w':World}{X:Nat->Prop}(hb:Below 0 w w')(hX:∀k,X k->w'.heap[k]?=w.heap[k]?)(h0:∀k,k<w0.heap.size->X k)(ho:∀k j,own k=some j->X k)(hc:∀k o v,H.c k o=some v->X k)(hm:∀k v,H.m k=some v->X k)
 (gE:∀t fx cx,FrOK H own w0.heap.size σ0 w t fx cx->∀k,fx k->X k):Inv C S Z H own hv w0 σ0 A a w' where
 defers:=h.defers
 ok:=⟨λk o v e=>by rw[World.cell?_of_block (hX k (hc k o v e))];exact h.ok.c k o v e,λk v e=>(h.ok.m k v e).keep (hX k (hm k v e))⟩
 le:=h.le
 old:=h.old
 newc:=h.newc
 newm:=h.newm
 below:=h.below.trans ⟨hb.os,hb.tape,hb.output,hb.size,λk hk=>hX k (h0 k (EM hk h.bw))⟩
 bw:=h.bw
 owns:=λk j hk=>let⟨g1,g2,g3⟩:=h.owns k j hk;⟨g1,EM g2 hb.size,g3⟩
 regs:=h.regs
 objs:=λj=>(h.objs j).mono (.refl H) (.refl S hv) rfl rfl λk hk=>⟨hk,hX k (ho k j hk)⟩
 opts:=h.opts
 frame:=by
  obtain⟨t,fx,cx,hf,ht⟩:=h.frame;exact⟨t,fx,cx,⟨σ0.keep _ _ _ _ _ hf.F hb λk hk=>hX k (gE t fx cx hf k hk),hf.own,hf.c,hf.m,hf.d⟩,ht⟩
end
def Base.rnd (σ0:Base)(H:Im)(own:Nat->Option Nat)(w:World)(t:D)(X:Nat->Prop):Base:=
 {H with
  B:=σ0.B
  fin:=False
  F:=λt' fx cx w'=>t'=t/\(∀k,fx k↔(k<w.heap.size/\own k=none/\H.m k≠some fZ/\¬X k))/\(∀k,cx k↔(fx k/\(∀o,H.c k o=none)/\H.m k=none))/\w.heap.size<=w'.heap.size/\∀k,fx k->w'.heap[k]?=w.heap[k]?
  lt:=λt' fx cx w' h k hk=>EM ((h.2.1 k).1 hk).1 h.2.2.2.1
  sub:=λt' fx cx w' h k hk=>((h.2.2.1 k).1 hk).1
  keep:=λt' fx cx w' lX h hb hs=>⟨h.1,h.2.1,h.2.2.1,jf h.2.2.2.1 hb.size,λk hk=>(hs k hk).trans (h.2.2.2.2 k hk)⟩}
section
variable {C:Ctx} {S S':St} {Z Z':Env} {H H':Im} {own own':Nat->Option Nat} {hv hv':Nat->Value} {w0:World} {σ0:Base} {A A':Nat->Prop} {a a':Act} {w w':World} {X:Nat->Prop}
def Inv.toRnd (h:Inv C S Z H own hv w0 σ0 A a w){t:D}(ht:∀j,S.o j=.tr->(∃ys,C.yl=some (j,ys))/\Z.o j=t):Inv C S Z H own hv w0 (σ0.rnd H own w t X) A a w:=by
 refine⟨h.defers,h.ok,.refl H,(λhf=>hf.elim),(λ_ _ _ e=>.inl e),(λ_ _ e=>.inl e),h.below,h.bw,h.owns,h.regs,h.objs,h.opts,t,λk=>k<w.heap.size/\own k=none/\H.m k≠some fZ/\¬X k,λk=>(k<w.heap.size/\own k=none/\H.m k≠some fZ/\¬X k)/\(∀o,H.c k o=none)/\H.m k=none,
  ⟨⟨rfl,λ_=>.rfl,λ_=>.rfl,bL _,λ_ _=>rfl⟩,λk j hk hf=>?_,λk o x e hc=>?_,λk x e hc=>?_,λk e _ hf=>hf.2.2.1 e⟩,ht⟩
 .have:=hf.2.1;rw[hk] at this;cases this
 .have:=hc.2.1 o;rw[e] at this;cases this
 .have:=hc.2.2;rw[e] at this;cases this
def Inv.markSame {w1:World}(h:H.ok w1)(h':H'.ok w')(hle:H.le H'){k:Nat}(hk:H.m k=some fZ):w'.heap[k]?=w1.heap[k]?:=by
 have e1:w1.heap[k]?=some (.deferred (some [])):=by
  rcases h.m k _ hk with⟨h1,_⟩|⟨_,h2⟩
  .exact absurd rfl h1
  .exact h2
 have e2:w'.heap[k]?=some (.deferred (some [])):=by
  rcases h'.m k _ (hle.m k _ hk) with⟨h1,_⟩|⟨_,h2⟩
  .exact absurd rfl h1
  .exact h2
 rw[e1,e2]
def Inv.rndSame {w1:World}{t:D}(aE:H.ok w1)(h':Inv C S' Z' H' own' hv' w0 (σ0.rnd H own w1 t X) A' a' w'){k:Nat}(hk:k<w1.heap.size)(ho:own k=none)(hX:¬X k):w'.heap[k]?=w1.heap[k]?:=by
 by_cases hd:H.m k=some fZ
 .exact Inv.markSame aE h'.ok h'.le hd
 .obtain⟨t',fx,cx,hf,_⟩:=h'.frame;obtain⟨_,f2,_,_,f5⟩:=hf.F;exact f5 k ((f2 k).2 ⟨hk,ho,hd,hX⟩)
def Inv.rndBelow {w1:World}{t:D}(h:Inv C S Z H own hv w0 σ0 A a w1)(h':Inv C S' Z' H' own' hv' w0 (σ0.rnd H own w1 t X) A' a' w'):Below 0 w1 w':=by
 obtain⟨t',fx,cx,hf,_⟩:=h'.frame;obtain⟨_,_,_,f4,_⟩:=hf.F;exact⟨h'.below.os.trans h.below.os.symm,h'.below.tape.trans h.below.tape.symm,h'.below.output.trans h.below.output.symm,f4,λk hk=>by omega⟩
def Inv.rndOwn {w1:World}{t:D}(h':Inv C S' Z' H' own' hv' w0 (σ0.rnd H own w1 t X) A' a' w'){k j:Nat}(hk:own' k=some j)(hX:¬X k):(∃i,own k=some i)\/w1.heap.size<=k:=by
 obtain⟨t',fx,cx,hf,_⟩:=h'.frame;obtain⟨_,f2,_,_,_⟩:=hf.F;cases e:own k with
 |some i=>exact .inl ⟨i,rfl⟩
 |none=>
  refine .inr (Nat.le_of_not_lt λaq=>?_);by_cases hd:H.m k=some fZ
  .have:=(h'.owns k j hk).2.2.2;rw[h'.le.m k _ hd] at this;cases this
  .exact hf.own k j hk ((f2 k).2 ⟨aq,e,hd,hX⟩)
def Inv.rndC {w1:World}{t:D}(h':Inv C S' Z' H' own' hv' w0 (σ0.rnd H own w1 t X) A' a' w'){k:Nat}(hk:(∃o x,H'.c k o=some x)\/∃x,H'.m k=some x)(hX:¬X k):(∃o x,H.c k o=some x)\/(∃x,H.m k=some x)\/(∃i,own k=some i)\/w1.heap.size<=k:=by
 obtain⟨t',fx,cx,hf,_⟩:=h'.frame;obtain⟨_,f2,f3,_,_⟩:=hf.F;cases e:own k with
 |some i=>exact .inr (.inr (.inl ⟨i,rfl⟩))
 |none=>
  by_cases hm:∃x,H.m k=some x
  .exact .inr (.inl hm)
  by_cases hc:∃o x,H.c k o=some x
  .exact .inl hc
  refine .inr (.inr (.inr (Nat.le_of_not_lt λaq=>?_)));have lI:H.m k=none:=by
   cases e2:H.m k with
   |none=>rfl
   |some x=>exact absurd ⟨x,e2⟩ hm
  have hcx:cx k:=(f3 k).2 ⟨(f2 k).2 ⟨aq,e,by rw[lI];simp,hX⟩,λo=>by
   cases e2:H.c k o with
   |none=>rfl
   |some x=>exact absurd ⟨o,x,e2⟩ hc,lI⟩
  rcases hk with⟨o,x,hk⟩|⟨x,hk⟩
  .exact hf.c k o x hk hcx
  .exact hf.m k x hk hcx
def Inv.ofRnd {w1:World}(h:Inv C S Z H own hv w0 σ0 A a w1){t:D}{fx cx:Nat->Prop}(gE:FrOK H own w0.heap.size σ0 w1 t fx cx)(hX:∀k,fx k->¬X k)(h':Inv C S' Z' H' own' hv' w0 (σ0.rnd H own w1 t X) A' a' w'):
 Inv C S' Z' H' own' hv' w0 σ0 A' a' w':=by
 have hb:=h.rndBelow h';have lz:=h';obtain⟨t',oy,nW,hf,ht⟩:=lz.frame;obtain⟨f1,f2,f3,f4,f5⟩:=hf.F;have aq:=σ0.lt _ _ _ _ gE.F;have cZ:=σ0.sub _ _ _ _ gE.F
 have hon:∀k,fx k->own k=none:=λk hk=>by
  cases e:own k with
  |none=>rfl
  |some j=>exact absurd hk (gE.own k j e)
 have ml:∀k,cx k->¬((∃o x,H'.c k o=some x)\/∃x,H'.m k=some x):=λk hk hc=>by
  have h1:=cZ k hk;rcases Inv.rndC h' hc (hX k h1) with⟨o,x,e⟩|⟨x,e⟩|⟨j,e⟩|e
  .exact gE.c k o x e hk
  .exact gE.m k x e hk
  .exact gE.own k j e h1
  .have:=aq k h1;omega
 refine⟨h'.defers,h'.ok,h.le.trans h'.le,h.old,λk o x e=>(h'.newc k o x e).elim (h.newc k o x) .inr,λk x e=>(h'.newm k x e).elim (h.newm k x) .inr,h'.below,h'.bw,h'.owns,h'.regs,h'.objs,h'.opts,t,fx,cx,
  ⟨σ0.keep _ _ _ _ _ gE.F hb λk hk=>Inv.rndSame h.ok h' (aq k hk) (hon k hk) (hX k hk),λk j hk sC=>?_,λk o x e hc=>ml k hc (.inl ⟨o,x,e⟩),λk x e hc=>ml k hc (.inr ⟨x,e⟩),λk e hB sC=>?_⟩,λj hj=>⟨(ht j hj).1,by rw[(ht j hj).2,f1]⟩⟩
 .rcases Inv.rndOwn h' hk (hX k sC) with⟨i,e⟩|e
  .exact gE.own k i e sC
  .have:=aq k sC;omega
 .by_cases hd:H.m k=some fZ
  .exact gE.d k hd hB sC
  .exact hf.d k e hB ((f2 k).2 ⟨aq k sC,hon k sC,hd,hX k sC⟩)
def Inv.restore (h:Inv C S Z H own hv w0 σ0 A a w)(hn:∀t gs s,S.r t≠.opt gs s)(hd:lf H w0.heap.size a'.defers)(hr:∀t,isNone (S.r t)=false->a'.tmps.getD t undef=a.tmps.getD t undef/\Z'.r t=Z.r t)(ho:∀j,sR (S.o j)=false->Z'.o j=Z.o j):
 Inv C S Z' H own hv w0 σ0 (λ_=>False) a' w:=by
 refine⟨hd,h.ok,h.le,h.old,h.newc,h.newm,h.below,h.bw,h.owns,λt=>?_,λj=>?_,λt gs s e=>absurd e (hn t gs s),?_⟩
 .cases hs:isNone (S.r t) with
  |true=>cases hc:S.r t<;>rw[hc] at hs<;>simp[isNone] at hs;trivial
  |false=>
   rw[(hr t hs).1,(hr t hs).2];exact ba.mono' (.refl H) (.refl S hv) (hn t) (h.regs t)
 .cases hs:sR (S.o j) with
  |true=>cases hc:S.o j<;>rw[hc] at hs<;>simp[sR] at hs;trivial
  |false=>exact(h.objs j).mono (.refl H) (.refl S hv) rfl (ho j hs) (λk hk=>⟨hk,rfl⟩)
 .obtain⟨t,fx,cx,h1,h2⟩:=h.frame;exact⟨t,fx,cx,h1,λj hj=>⟨(h2 j hj).1,by rw[ho j (by rw[hj];rfl)];exact(h2 j hj).2⟩⟩
def lf.mem {H:Im}{B:Nat}:∀{ds:List Deferred} {d:Deferred},d∈ds->lf H B ds->∃D,d={target:=.collected D,args:=#[]}/\H.m D=some fZ
 |x::ds,d,hm,⟨⟨D,h1,h2,_⟩,h⟩=>by
  rcases dG.1 hm with e|e
  .subst e;exact⟨D,h1,h2⟩
  .exact lf.mem e h
def Im.mark (H:Im)(D:Nat):Im:=⟨H.c,λk=>if k=D then some fZ else H.m k⟩
def afD (w:World)(o1 o2:Obj):Below w.heap.size w ((w.alloc o1).alloc o2):=(((Below.refl _ w).alloc (bL _) o1).alloc (by simp) o2)
def Inv.enter (h:Inv C S Z H own hv w0 σ0 A a w)(r:Loop):
 Inv C S Z (H.mark w.heap.size) own hv w0 σ0 A {a with defers:={target:=.collected w.heap.size,args:=#[]}::a.defers} ((w.alloc (.deferred (some []))).alloc (.loop r)):=by
 have hD:((w.alloc (.deferred (some []))).alloc (.loop r)).heap[w.heap.size]?=some (.deferred (some [])):=(Below.heap_alloc _ _ _ (by simp)).trans (World.alloc_heap_new w _);have hle:H.le (H.mark w.heap.size):=by
  refine⟨λ_ _ _ e=>e,λk x e=>?_⟩;have:k≠w.heap.size:=by have:=h.ltm e;omega
  simp[Im.mark,this,e]
 have lH:∀k x,(H.mark w.heap.size).m k=some x->H.m k=some x\/(k=w.heap.size/\x=fZ):=by
  intro k x e;simp only[Im.mark] at e;split at e
  .rename_i e2;cases e;exact .inr ⟨e2,rfl⟩
  .exact .inl e
 have hb:=afD w (.deferred (some [])) (.loop r);have aE:(H.mark w.heap.size).ok ((w.alloc (.deferred (some []))).alloc (.loop r)):=by
  have h1:=h.ok.below hb;refine⟨h1.c,λk x e=>?_⟩;rcases lH k x e with e|⟨rfl,rfl⟩
  .exact h1.m k x e
  .exact .inr ⟨rfl,hD⟩
 have hw:=h.world hle aE hb (λ_ _ _ e=>.inl e) (λk x e=>(lH k x e).imp id λe=>by omega);have pU:=hw.defers;refine⟨⟨⟨_,rfl,by simp[Im.mark],h.below.size,λhm=>?_⟩,pU⟩,hw.ok,hw.le,hw.old,hw.newc,hw.newm,hw.below,hw.bw,hw.owns,hw.regs,hw.objs,hw.opts,hw.frame⟩;obtain⟨D,e1,e2⟩:=lf.mem hm h.defers;have:D=w.heap.size:=by cases e1;rfl
 subst this;have:=h.ltm e2;omega
end
end Cx
