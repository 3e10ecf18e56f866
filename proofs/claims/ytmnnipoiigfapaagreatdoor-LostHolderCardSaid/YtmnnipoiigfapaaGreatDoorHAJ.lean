/-
  Shared texts of this claim.
-/
import Derived.Test.YtmnnipoiigfapaaGreatDoorHAI
import Derived.Lib.LaidTab
set_option linter.unusedSimpArgs false
set_option linter.unusedVariables false
noncomputable section
namespace Cx
open Go Go.RowKit
structure SE where
 r:List (Nat×PE)
 o:List (Nat×PE)
def SE.getR (s:SE)(t:Nat):PE:=match bH s.r t with|some e=>e|none=>.r t
def SE.getO (s:SE)(t:Nat):PE:=match bH s.o t with|some e=>e|none=>.o t
def SE.setR (s:SE)(t:Nat)(e:PE):SE:=⟨(t,e)::s.r,s.o⟩
def SE.setO (s:SE)(t:Nat)(e:PE):SE:=⟨s.r,(t,e)::s.o⟩
def SE.id:SE:=⟨[],[]⟩
def SE.ev (s:SE)(ρ:Env):Env:=⟨fun t=>(s.getR t).ev ρ,fun t=>(s.getO t).ev ρ⟩
def SE.join (s:SE)(lr lo:List Nat)(s':SE):SE:=⟨lr.map (fun t=>(t,s'.getR t))++s.r,lo.map (fun t=>(t,s'.getO t))++s.o⟩
theorem SE.setR_ev (s:SE)(t:Nat)(e:PE)(ρ:Env):(s.setR t e).ev ρ=(s.ev ρ).setR t (e.ev ρ):=by
 have h:(fun u=>((s.setR t e).getR u).ev ρ)=bY (fun u=>(s.getR u).ev ρ) t (e.ev ρ):=by
  funext u;simp only[SE.getR,SE.setR,bH,eV];by_cases h:t=u
  ·subst h;simp
  ·have h':¬u=t:=fun e=>h e.symm;simp[ej h,h']
 simp only[SE.ev,Env.setR];rw[h];rfl
theorem SE.setO_ev (s:SE)(t:Nat)(e:PE)(ρ:Env):(s.setO t e).ev ρ=(s.ev ρ).setO t (e.ev ρ):=by
 have h:(fun u=>((s.setO t e).getO u).ev ρ)=bY (fun u=>(s.getO u).ev ρ) t (e.ev ρ):=by
  funext u;simp only[SE.getO,SE.setO,bH,eV];by_cases h:t=u
  ·subst h;simp
  ·have h':¬u=t:=fun e=>h e.symm;simp[ej h,h']
 simp only[SE.ev,Env.setO];rw[h];rfl
theorem xm {f:Nat→PE}{l:List (Nat×PE)}{u:Nat}:∀(lr:List Nat),bH (lr.map (fun t=>(t,f t))++l) u=if u∈lr then some (f u) else bH l u
 |[]=>by simp
 |t::lr=>by
  simp only[gU,FX,bH,xm lr,cD];by_cases h:t=u
  ·subst h;simp
  ·have h':¬u=t:=fun e=>h e.symm;simp[ej h,h']
theorem SE.join_ev (s s':SE)(lr lo:List Nat)(ρ:Env):(s.join lr lo s').ev ρ=(s.ev ρ).join lr lo (s'.ev ρ):=by
 have h1:∀u,((s.join lr lo s').getR u).ev ρ=((s.ev ρ).join lr lo (s'.ev ρ)).r u:=by
  intro u;rw[Env.join_r];have e:bH (s.join lr lo s').r u=if u∈lr then some (s'.getR u) else bH s.r u:=xm lr;unfold SE.getR;rw[e];by_cases h:u∈lr
  ·simp only[h,if_true];rfl
  ·simp only[h,if_false];rfl
 have h2:∀u,((s.join lr lo s').getO u).ev ρ=((s.ev ρ).join lr lo (s'.ev ρ)).o u:=by
  intro u;rw[Env.join_o];have e:bH (s.join lr lo s').o u=if u∈lo then some (s'.getO u) else bH s.o u:=xm lo;unfold SE.getO;rw[e];by_cases h:u∈lo
  ·simp only[h,if_true];rfl
  ·simp only[h,if_false];rfl
 have e1:(fun u=>((s.join lr lo s').getR u).ev ρ)=((s.ev ρ).join lr lo (s'.ev ρ)).r:=funext h1;have e2:(fun u=>((s.join lr lo s').getO u).ev ρ)=((s.ev ρ).join lr lo (s'.ev ρ)).o:=funext h2;show Env.mk _ _=_;rw[e1,e2]
abbrev cl:=List (PE×Bool)
def cl.ok (ab:cl)(ρ:Env):Prop:=∀x,x∈ab→(x.1.ev ρ).b=x.2
def Gd (e:PE):cl→Option Bool
 |[]=>none
 |x::l=>bif PE.beq x.1 e then some x.2 else Gd e l
theorem VK {e:PE}{ρ:Env}{b:Bool}:∀{ab:cl},ab.ok ρ→Gd e ab=some b→(e.ev ρ).b=b
 |[],_,h=>by cases h
 |x::l,aB,h=>by
  simp only[Gd] at h;cases hb:PE.beq x.1 e<;>simp only[hb,cond_true,cond_false] at h
  ·exact VK (fun y hy=>aB y (dj _ hy)) h
  ·cases h;rw[←PE.beq_eq _ _ hb];exact aB x (dq ..)
def vH (ab:cl):PE→Option Bool
 |.con (.v (.bool b))=>some b
 |.nt x=>(vH ab x).map (!·)
 |e=>Gd e ab
theorem x9 {ab:cl}{ρ:Env}(h:ab.ok ρ):∀{e:PE} {b:Bool},vH ab e=some b→(e.ev ρ).b=b
 |.con (.v (.bool b)),b',he=>by simp only[vH,aU] at he;subst he;rfl
 |.nt x,b',he=>by
  simp only[vH,aA] at he;obtain⟨c,hc,rfl⟩:=he;simp only[PE.ev,D.b_bool,x9 h hc]
 |e,b',he=>by
  unfold vH at he;split at he
  ·cases he;rfl
  ·rename_i x;simp only[aA] at he;obtain⟨c,hc,rfl⟩:=he;simp only[PE.ev,D.b_bool,x9 h hc]
  ·exact VK h he
def tg (ab:cl)(c a b:PE):PE:=match vH ab c with|some true=>a|some false=>b|none=>.pick c a b
theorem Qr {ab:cl}{ρ:Env}(h:ab.ok ρ)(c a b:PE):(tg ab c a b).ev ρ=(PE.pick c a b).ev ρ:=by
 unfold tg;split
 ·rename_i ht;simp[PE.ev,x9 h ht]
 ·rename_i ht;simp[PE.ev,x9 h ht]
 ·rfl
def MQ:PE→PE
 |.ref x=>x
 |x=>.deref x
theorem afV (x:PE)(ρ:Env):(MQ x).ev ρ=(PE.deref x).ev ρ:=by unfold MQ;split<;>rfl
def Sm:PE→Nat→PE
 |.tup es,i=>es.getD i (.con .none)
 |x,i=>.tget x i
theorem arz (x:PE)(i:Nat)(ρ:Env):(Sm x i).ev ρ=(PE.tget x i).ev ρ:=by
 unfold Sm;split
 ·rename_i es;simp only[PE.ev,D.tget_tup,PE.evs_eq,aJ,cC];cases es[i]?<;>rfl
 ·rfl
def Eb:PE→Bool
 |.ai ..|.ci ..|.cb ..|.cs ..|.sadd ..|.nt _|.conv ..|.llen _|.bytes _|.slen _|.mlen _|.idx ..|.sidx ..|.sok ..|.slok ..|.lst _|.app ..|.setn ..|.rep ..|.slc ..|.ref _|.has ..|.put ..|.an ..|.imp ..|.tup _|.clo ..=>true
 |.con (.v _)|.con (.list _)|.con (.map _)=>true
 |_=>false
theorem aoo {e:PE}(h:Eb e=true)(ρ:Env):(e.ev ρ).cells=[e.ev ρ]:=by
 unfold Eb at h;split at h<;>first|rfl|cases h
def MB:PE→Nat→PE
 |.mk es,i=>bif es.all Eb then es.getD i (.con .none) else .cell (.mk es) i
 |x,i=>.cell x i
theorem WC {ρ:Env}:∀{es:List PE},es.all Eb=true→PE.evc ρ es=PE.evs ρ es
 |[],_=>rfl
 |e::es,h=>by
  simp only[qu,ao] at h;simp only[PE.evc,PE.evs,aoo h.1,WC h.2];rfl
theorem afk (x:PE)(i:Nat)(ρ:Env):(MB x i).ev ρ=(PE.cell x i).ev ρ:=by
 unfold MB;split
 ·rename_i es;cases hc:es.all Eb
  ·rfl
  ·simp only[cond_true,PE.ev,WC hc,D.c_agg,PE.evs_eq,aJ,cC];cases es[i]?<;>rfl
 ·rfl
def CU (s:SE):List (Nat×Bool)→PE
 |[]=>.con (.v (.bool true))
 |g::gs=>.an (bif g.2 then s.getR g.1 else .nt (s.getR g.1)) (CU s gs)
theorem W3 (s:SE)(ρ:Env):∀gs,((CU s gs).ev ρ).b=holds gs (s.ev ρ)
 |[]=>rfl
 |g::gs=>by
  have ih:=W3 s ρ gs;rw[akL,←ih];have e:((s.ev ρ).r g.1)=(s.getR g.1).ev ρ:=rfl;rw[e];cases hg:g.2
  ·simp only[CU,hg,cond_false,PE.ev,D.b_bool];cases((s.getR g.1).ev ρ).b<;>rfl
  ·simp only[CU,hg,cond_true,PE.ev,D.b_bool];cases((s.getR g.1).ev ρ).b<;>rfl
mutual
def PE.sub' (ab:cl)(s:SE):PE→PE
 |.r t=>s.getR t
 |.o j=>s.getO j
 |.con d=>.con d
 |.cell e i=>MB (PE.sub' ab s e) i
 |.sub e a b=>.sub (PE.sub' ab s e) a b
 |.setc e q x=>.setc (PE.sub' ab s e) q (PE.sub' ab s x)
 |.mk es=>.mk (PE.subs' ab s es)
 |.ai op k x y=>.ai op k (PE.sub' ab s x) (PE.sub' ab s y)
 |.ci op x y=>.ci op (PE.sub' ab s x) (PE.sub' ab s y)
 |.cb op x y=>.cb op (PE.sub' ab s x) (PE.sub' ab s y)
 |.cs op x y=>.cs op (PE.sub' ab s x) (PE.sub' ab s y)
 |.sadd x y=>.sadd (PE.sub' ab s x) (PE.sub' ab s y)
 |.nt x=>.nt (PE.sub' ab s x)
 |.conv k x=>.conv k (PE.sub' ab s x)
 |.pick c a b=>tg ab (PE.sub' ab s c) (PE.sub' ab s a) (PE.sub' ab s b)
 |.llen x=>.llen (PE.sub' ab s x)
 |.bytes x=>.bytes (PE.sub' ab s x)
 |.slen x=>.slen (PE.sub' ab s x)
 |.mlen x=>.mlen (PE.sub' ab s x)
 |.nth x y=>.nth (PE.sub' ab s x) (PE.sub' ab s y)
 |.idx x y=>.idx (PE.sub' ab s x) (PE.sub' ab s y)
 |.sidx x y=>.sidx (PE.sub' ab s x) (PE.sub' ab s y)
 |.sok x y=>.sok (PE.sub' ab s x) (PE.sub' ab s y)
 |.setn x y n z=>.setn (PE.sub' ab s x) (PE.sub' ab s y) n (PE.sub' ab s z)
 |.app x y=>.app (PE.sub' ab s x) (PE.sub' ab s y)
 |.lst es=>.lst (PE.subs' ab s es)
 |.rep x y=>.rep (PE.sub' ab s x) (PE.sub' ab s y)
 |.slc x y z=>.slc (PE.sub' ab s x) (PE.sub' ab s y) (PE.sub' ab s z)
 |.slok x y z=>.slok (PE.sub' ab s x) (PE.sub' ab s y) (PE.sub' ab s z)
 |.ref x=>.ref (PE.sub' ab s x)
 |.deref x=>MQ (PE.sub' ab s x)
 |.look x y z=>.look (PE.sub' ab s x) (PE.sub' ab s y) (PE.sub' ab s z)
 |.has x y=>.has (PE.sub' ab s x) (PE.sub' ab s y)
 |.put x y z=>.put (PE.sub' ab s x) (PE.sub' ab s y) (PE.sub' ab s z)
 |.mn x y=>.mn (PE.sub' ab s x) (PE.sub' ab s y)
 |.mx x y=>.mx (PE.sub' ab s x) (PE.sub' ab s y)
 |.tup es=>.tup (PE.subs' ab s es)
 |.tget x i=>Sm (PE.sub' ab s x) i
 |.clo f es=>.clo f (PE.subs' ab s es)
 |.an x y=>.an (PE.sub' ab s x) (PE.sub' ab s y)
 |.imp c x=>.nt (.an (CU s c) (.nt (PE.sub' ab s x)))
def PE.subs' (ab:cl)(s:SE):List PE→List PE
 |[]=>[]
 |e::es=>PE.sub' ab s e::PE.subs' ab s es
end
mutual
theorem PE.sub_ev {ab:cl}{ρ:Env}(h:ab.ok ρ)(s:SE):∀(e:PE),(PE.sub' ab s e).ev ρ=e.ev (s.ev ρ)
 |.r t=>rfl
 |.o j=>rfl
 |.con d=>rfl
 |.cell e i=>by simp only[PE.sub',afk,PE.ev,PE.sub_ev h s e]
 |.sub e a b=>by simp only[PE.sub',PE.ev,PE.sub_ev h s e]
 |.setc e q x=>by simp only[PE.sub',PE.ev,PE.sub_ev h s e,PE.sub_ev h s x]
 |.mk es=>by simp only[PE.sub',PE.ev,PE.subc_ev h s es]
 |.ai op k x y=>by simp only[PE.sub',PE.ev,PE.sub_ev h s x,PE.sub_ev h s y]
 |.ci op x y=>by simp only[PE.sub',PE.ev,PE.sub_ev h s x,PE.sub_ev h s y]
 |.cb op x y=>by simp only[PE.sub',PE.ev,PE.sub_ev h s x,PE.sub_ev h s y]
 |.cs op x y=>by simp only[PE.sub',PE.ev,PE.sub_ev h s x,PE.sub_ev h s y]
 |.sadd x y=>by simp only[PE.sub',PE.ev,PE.sub_ev h s x,PE.sub_ev h s y]
 |.nt x=>by simp only[PE.sub',PE.ev,PE.sub_ev h s x]
 |.conv k x=>by simp only[PE.sub',PE.ev,PE.sub_ev h s x]
 |.pick c a b=>by simp only[PE.sub',Qr h,PE.ev,PE.sub_ev h s c,PE.sub_ev h s a,PE.sub_ev h s b]
 |.llen x=>by simp only[PE.sub',PE.ev,PE.sub_ev h s x]
 |.bytes x=>by simp only[PE.sub',PE.ev,PE.sub_ev h s x]
 |.slen x=>by simp only[PE.sub',PE.ev,PE.sub_ev h s x]
 |.mlen x=>by simp only[PE.sub',PE.ev,PE.sub_ev h s x]
 |.nth x y=>by simp only[PE.sub',PE.ev,PE.sub_ev h s x,PE.sub_ev h s y]
 |.idx x y=>by simp only[PE.sub',PE.ev,PE.sub_ev h s x,PE.sub_ev h s y]
 |.sidx x y=>by simp only[PE.sub',PE.ev,PE.sub_ev h s x,PE.sub_ev h s y]
 |.sok x y=>by simp only[PE.sub',PE.ev,PE.sub_ev h s x,PE.sub_ev h s y]
 |.setn x y n z=>by simp only[PE.sub',PE.ev,PE.sub_ev h s x,PE.sub_ev h s y,PE.sub_ev h s z]
 |.app x y=>by simp only[PE.sub',PE.ev,PE.sub_ev h s x,PE.sub_ev h s y]
 |.lst es=>by simp only[PE.sub',PE.ev,PE.subs_ev h s es]
 |.rep x y=>by simp only[PE.sub',PE.ev,PE.sub_ev h s x,PE.sub_ev h s y]
 |.slc x y z=>by simp only[PE.sub',PE.ev,PE.sub_ev h s x,PE.sub_ev h s y,PE.sub_ev h s z]
 |.slok x y z=>by simp only[PE.sub',PE.ev,PE.sub_ev h s x,PE.sub_ev h s y,PE.sub_ev h s z]
 |.ref x=>by simp only[PE.sub',PE.ev,PE.sub_ev h s x]
 |.deref x=>by simp only[PE.sub',afV,PE.ev,PE.sub_ev h s x]
 |.look x y z=>by simp only[PE.sub',PE.ev,PE.sub_ev h s x,PE.sub_ev h s y,PE.sub_ev h s z]
 |.has x y=>by simp only[PE.sub',PE.ev,PE.sub_ev h s x,PE.sub_ev h s y]
 |.put x y z=>by simp only[PE.sub',PE.ev,PE.sub_ev h s x,PE.sub_ev h s y,PE.sub_ev h s z]
 |.mn x y=>by simp only[PE.sub',PE.ev,PE.sub_ev h s x,PE.sub_ev h s y]
 |.mx x y=>by simp only[PE.sub',PE.ev,PE.sub_ev h s x,PE.sub_ev h s y]
 |.tup es=>by simp only[PE.sub',PE.ev,PE.subs_ev h s es]
 |.tget x i=>by simp only[PE.sub',arz,PE.ev,PE.sub_ev h s x]
 |.clo f es=>by simp only[PE.sub',PE.ev,PE.subs_ev h s es]
 |.an x y=>by simp only[PE.sub',PE.ev,PE.sub_ev h s x,PE.sub_ev h s y]
 |.imp c x=>by
  simp only[PE.sub',PE.ev,D.b_bool,W3,PE.sub_ev h s x];cases holds c (s.ev ρ)<;>cases(x.ev (s.ev ρ)).b<;>rfl
theorem PE.subs_ev {ab:cl}{ρ:Env}(h:ab.ok ρ)(s:SE):∀(es:List PE),PE.evs ρ (PE.subs' ab s es)=PE.evs (s.ev ρ) es
 |[]=>rfl
 |e::es=>by simp only[PE.subs',PE.evs,PE.sub_ev h s e,PE.subs_ev h s es]
theorem PE.subc_ev {ab:cl}{ρ:Env}(h:ab.ok ρ)(s:SE):∀(es:List PE),PE.evc ρ (PE.subs' ab s es)=PE.evc (s.ev ρ) es
 |[]=>rfl
 |e::es=>by simp only[PE.subs',PE.evc,PE.sub_ev h s e,PE.subc_ev h s es]
end
inductive PT where
 |next (s:SE)
 |exit (id:Nat) (s:SE)
 |ret (e:PE)
 |chk (e:PE) (k:PT)
 |ite (c:PE) (a b:PT)
 |call (s:SE) (gs:List (Nat×Bool)) (dst f:Nat) (args:List PE) (k:PT)
 |callc (s:SE) (gs:List (Nat×Bool)) (dst:Nat) (e:PE) (args:List PE) (k:PT)
 |mcall (s:SE) (j f:Nat) (args:List PE) (k:PT)
 |iteS (s:SE) (c:PE) (lr lo:List Nat) (a b k:PT)
 |blockS (s:SE) (id:Nat) (lr lo:List Nat) (a k:PT)
 |brk (s:SE) (c:PC) (k:PT)
def aI (T:cI):PT→Env→(Out→Prop)→Prop
 |.next s,ρ,Q=>Q (.next (s.ev ρ))
 |.exit id s,ρ,Q=>Q (.exit id (s.ev ρ))
 |.ret e,ρ,Q=>Q (.ret (e.ev ρ))
 |.chk e k,ρ,Q=>(e.ev ρ).b=true∧aI T k ρ Q
 |.ite c a b,ρ,Q=>if(c.ev ρ).b=true then aI T a ρ Q else aI T b ρ Q
 |.call s gs dst f args k,ρ,Q=>if holds gs (s.ev ρ)=true then ∃d,aq T f (PE.evs ρ args) d∧aI T k ((s.ev ρ).setR dst d) Q else aI T k (s.ev ρ) Q
 |.callc s gs dst e args k,ρ,Q=>if holds gs (s.ev ρ)=true then ∃f caps d,e.ev ρ=.clo f caps∧aq T f (PE.evs ρ args++caps) d∧aI T k ((s.ev ρ).setR dst d) Q else aI T k (s.ev ρ) Q
 |.mcall s j f args k,ρ,Q=>∃d,aq T f (PE.evs ρ args) d∧aI T k ((s.ev ρ).setO j d) Q
 |.iteS s c lr lo a b k,ρ,Q=>if(c.ev ρ).b=true then aI T a (s.ev ρ) (kU (s.ev ρ) lr lo (gA (fun ρ'=>aI T k ρ' Q) Q)) else aI T b (s.ev ρ) (kU (s.ev ρ) lr lo (gA (fun ρ'=>aI T k ρ' Q) Q))
 |.blockS s id lr lo a k,ρ,Q=>aI T a (s.ev ρ) (lY (s.ev ρ) id lr lo (gA (fun ρ'=>aI T k ρ' Q) Q))
 |.brk s c k,ρ,Q=>aP T c (s.ev ρ) (gA (fun ρ'=>aI T k ρ' Q) Q)
def oB:PI→Bool
 |.setR ..|.setO ..|.chk _=>true
 |_=>false
def dT:PC→Bool
 |.loop ..=>false
 |.each ..=>false
 |.meach ..=>false
 |.seq a b=>dT a&&dT b
 |.ite _ _ _ a b=>dT a&&dT b
 |.block _ _ _ a=>dT a
 |.is l=>l.all oB
 |_=>true
abbrev Kn:=cl→SE→PT
abbrev Kx:=cl→Nat→SE→PT
def nD:List PI→cl→SE→Kn→PT
 |[],ab,s,k=>k ab s
 |.setR t e::l,ab,s,k=>nD l ab (s.setR t (e.sub' ab s)) k
 |.setO t e::l,ab,s,k=>nD l ab (s.setO t (e.sub' ab s)) k
 |.chk e::l,ab,s,k=>
  match vH ab (e.sub' ab s) with
  |some true=>nD l ab s k
  |_=>.chk (e.sub' ab s) (nD l ((e.sub' ab s,true)::ab) s k)
 |.call gs dst f args::l,ab,s,k=>.call s gs dst f (PE.subs' ab s args) (nD l [] .id k)
 |.callc gs dst e args::l,ab,s,k=>.callc s gs dst (e.sub' ab s) (PE.subs' ab s args) (nD l [] .id k)
 |.mcall j f args::l,ab,s,k=>.mcall s j f (PE.subs' ab s args) (nD l [] .id k)
def SE.merge (s:SE)(ab:cl)(lr lo:List Nat)(c:PE)(a b:SE):SE:=⟨lr.map (fun t=>(t,tg ab c (a.getR t) (b.getR t)))++s.r,lo.map (fun t=>(t,tg ab c (a.getO t) (b.getO t)))++s.o⟩
def p8:List PI→cl→SE→Option SE
 |[],_,s=>some s
 |.setR t e::l,ab,s=>p8 l ab (s.setR t (e.sub' ab s))
 |.setO t e::l,ab,s=>p8 l ab (s.setO t (e.sub' ab s))
 |_::_,_,_=>none
def plain:PC→cl→SE→Option SE
 |.skip,_,s=>some s
 |.is l,ab,s=>p8 l ab s
 |.seq a b,ab,s=>(plain a ab s).bind fun s=>plain b ab s
 |.ite c lr lo a b,ab,s=>(plain a ab s).bind fun sa=>(plain b ab s).map fun sb=>s.merge ab lr lo (c.sub' ab s) sa sb
 |_,_,_=>none
def YI:PC→Bool
 |.loop ..=>true
 |_=>false
def sx:PC→cl→SE→Kn→Kx→PT
 |.skip,ab,s,k,_=>k ab s
 |.is l,ab,s,k,_=>nD l ab s k
 |.seq a b,ab,s,k,kx=>sx a ab s (fun ab s=>sx b ab s k kx) kx
 |.ite c lr lo a b,ab,s,k,kx=>
  match vH ab (c.sub' ab s) with
  |some true=>bif dT a then sx a ab s (fun ab s'=>k ab (s.join lr lo s')) kx else .iteS s (c.sub' ab s) lr lo (sx a [] .id (fun _ s=>.next s) (fun _ id s=>.exit id s)) (sx b [] .id (fun _ s=>.next s) (fun _ id s=>.exit id s)) (k [] .id)
  |some false=>bif dT b then sx b ab s (fun ab s'=>k ab (s.join lr lo s')) kx else .iteS s (c.sub' ab s) lr lo (sx a [] .id (fun _ s=>.next s) (fun _ id s=>.exit id s)) (sx b [] .id (fun _ s=>.next s) (fun _ id s=>.exit id s)) (k [] .id)
  |none=>
   match plain a ab s,plain b ab s with
   |some sa,some sb=>k ab (s.merge ab lr lo (c.sub' ab s) sa sb)
   |_,_=>
   bif dT a&&dT b then
    .ite (c.sub' ab s) (sx a ((c.sub' ab s,true)::ab) s (fun ab s'=>k ab (s.join lr lo s')) kx) (sx b ((c.sub' ab s,false)::ab) s (fun ab s'=>k ab (s.join lr lo s')) kx)
   else .iteS s (c.sub' ab s) lr lo (sx a [] .id (fun _ s=>.next s) (fun _ id s=>.exit id s)) (sx b [] .id (fun _ s=>.next s) (fun _ id s=>.exit id s)) (k [] .id)
 |.block id lr lo a,ab,s,k,kx=>
  bif dT a then sx a ab s (fun ab s'=>k ab (s.join lr lo s')) (fun ab bX s'=>bif Nat.beq bX id then k ab (s.join lr lo s') else kx ab bX s')
  else bif YI a then .brk s (.block id lr lo a) (k [] .id)
  else .blockS s id lr lo (sx a [] .id (fun _ s=>.next s) (fun _ id s=>.exit id s)) (k [] .id)
 |.loop lr lo a,_,s,k,_=>.brk s (.loop lr lo a) (k [] .id)
 |.each e ps lo rt a,_,s,k,_=>.brk s (.each e ps lo rt a) (k [] .id)
 |.meach J ps cO lo a,_,s,k,_=>.brk s (.meach J ps cO lo a) (k [] .id)
 |.exit id,ab,s,_,kx=>kx ab id s
 |.ret e,ab,s,_,_=>.ret (e.sub' ab s)
theorem cl.ok_nil (ρ:Env):cl.ok [] ρ:=fun _ h=>nomatch h
theorem cl.ok_cons {ab:cl}{ρ:Env}{e:PE}{b:Bool}(h:ab.ok ρ)(he:(e.ev ρ).b=b):cl.ok ((e,b)::ab) ρ:=fun x hx=>by
 rcases cD.1 hx with e'|hx
 ·rw[e'];exact he
 ·exact h x hx
theorem rJ {T:cI}{Q:Out→Prop}{K:Env→Prop}{k:Kn}:∀{l:List PI} {ab:cl} {s:SE} {ρ:Env},ab.ok ρ→aI T (nD l ab s k) ρ Q→
 (∀ρ' ab s,(l.all oB=true→ρ'=ρ)→ab.ok ρ'→aI T (k ab s) ρ' Q→K (s.ev ρ'))→gP T l (s.ev ρ) K
 |[],ab,s,ρ,ha,h,hk=>hk ρ ab s (fun _=>rfl) ha h
 |.setR t e::l,ab,s,ρ,ha,h,hk=>by
  simp only[gP];rw[←PE.sub_ev ha s e,←SE.setR_ev];exact rJ ha h fun ρ' ab s hp=>hk ρ' ab s fun hl=>hp (by simpa [oB] using hl)
 |.setO t e::l,ab,s,ρ,ha,h,hk=>by
  simp only[gP];rw[←PE.sub_ev ha s e,←SE.setO_ev];exact rJ ha h fun ρ' ab s hp=>hk ρ' ab s fun hl=>hp (by simpa [oB] using hl)
 |.chk e::l,ab,s,ρ,ha,h,hk=>by
  simp only[gP];rw[←PE.sub_ev ha s e];simp only[nD] at h;split at h
  ·rename_i ht;exact⟨x9 ha ht,rJ ha h fun ρ' ab s hp=>hk ρ' ab s fun hl=>hp (by simpa [oB] using hl)⟩
  ·exact⟨h.1,rJ (cl.ok_cons ha h.1) h.2 fun ρ' ab s hp=>hk ρ' ab s fun hl=>hp (by simpa [oB] using hl)⟩
 |.call gs dst f args::l,ab,s,ρ,ha,h,hk=>by
  simp only[gP];simp only[nD,aI,PE.subs_ev ha,PE.sub_ev ha] at h;have aW:∀{ρ0:Env},∀ρ' ab s,(l.all oB=true→ρ'=ρ0)→ab.ok ρ'→aI T (k ab s) ρ' Q→K (s.ev ρ'):=fun ρ' ab s _=>hk ρ' ab s fun hl=>by simp[oB] at hl
  split at h
  ·rename_i hg;rw[if_pos hg];obtain⟨d,hd,h⟩:=h;exact⟨d,hd,rJ (s:=.id) (cl.ok_nil _) h aW⟩
  ·rename_i hg;rw[if_neg hg];exact rJ (s:=.id) (cl.ok_nil _) h aW
 |.callc gs dst e args::l,ab,s,ρ,ha,h,hk=>by
  simp only[gP];simp only[nD,aI,PE.subs_ev ha,PE.sub_ev ha] at h;have aW:∀{ρ0:Env},∀ρ' ab s,(l.all oB=true→ρ'=ρ0)→ab.ok ρ'→aI T (k ab s) ρ' Q→K (s.ev ρ'):=fun ρ' ab s _=>hk ρ' ab s fun hl=>by simp[oB] at hl
  split at h
  ·rename_i hg;rw[if_pos hg];obtain⟨f,caps,d,he,hd,h⟩:=h;exact⟨f,caps,d,he,hd,rJ (s:=.id) (cl.ok_nil _) h aW⟩
  ·rename_i hg;rw[if_neg hg];exact rJ (s:=.id) (cl.ok_nil _) h aW
 |.mcall j f args::l,ab,s,ρ,ha,h,hk=>by
  simp only[gP];simp only[nD,aI,PE.subs_ev ha,PE.sub_ev ha] at h;have aW:∀{ρ0:Env},∀ρ' ab s,(l.all oB=true→ρ'=ρ0)→ab.ok ρ'→aI T (k ab s) ρ' Q→K (s.ev ρ'):=fun ρ' ab s _=>hk ρ' ab s fun hl=>by simp[oB] at hl
  obtain⟨d,hd,h⟩:=h;exact⟨d,hd,rJ (s:=.id) (cl.ok_nil _) h aW⟩
theorem SE.merge_ev {ab:cl}{ρ:Env}(h:ab.ok ρ)(s a b:SE)(lr lo:List Nat)(c:PE):(s.merge ab lr lo c a b).ev ρ=(s.ev ρ).join lr lo (if(c.ev ρ).b=true then a.ev ρ else b.ev ρ):=by
 have h1:∀u,((s.merge ab lr lo c a b).getR u).ev ρ=((s.ev ρ).join lr lo (if(c.ev ρ).b=true then a.ev ρ else b.ev ρ)).r u:=by
  intro u;rw[Env.join_r];have e:bH (s.merge ab lr lo c a b).r u=if u∈lr then some (tg ab c (a.getR u) (b.getR u)) else bH s.r u:=xm lr;have e2:(s.merge ab lr lo c a b).getR u=if u∈lr then tg ab c (a.getR u) (b.getR u) else s.getR u:=by
   unfold SE.getR;rw[e];by_cases h:u∈lr<;>simp[h,SE.getR]
  rw[e2];by_cases hu:u∈lr
  ·simp only[hu,if_true,Qr h,PE.ev];cases hc:(c.ev ρ).b<;>simp[SE.ev]
  ·simp only[hu,if_false];rfl
 have h2:∀u,((s.merge ab lr lo c a b).getO u).ev ρ=((s.ev ρ).join lr lo (if(c.ev ρ).b=true then a.ev ρ else b.ev ρ)).o u:=by
  intro u;rw[Env.join_o];have e:bH (s.merge ab lr lo c a b).o u=if u∈lo then some (tg ab c (a.getO u) (b.getO u)) else bH s.o u:=xm lo;have e2:(s.merge ab lr lo c a b).getO u=if u∈lo then tg ab c (a.getO u) (b.getO u) else s.getO u:=by
   unfold SE.getO;rw[e];by_cases h:u∈lo<;>simp[h,SE.getO]
  rw[e2];by_cases hu:u∈lo
  ·simp only[hu,if_true,Qr h,PE.ev];cases hc:(c.ev ρ).b<;>simp[SE.ev]
  ·simp only[hu,if_false];rfl
 have e1:(fun u=>((s.merge ab lr lo c a b).getR u).ev ρ)=((s.ev ρ).join lr lo (if(c.ev ρ).b=true then a.ev ρ else b.ev ρ)).r:=funext h1;have e2:(fun u=>((s.merge ab lr lo c a b).getO u).ev ρ)=((s.ev ρ).join lr lo (if(c.ev ρ).b=true then a.ev ρ else b.ev ρ)).o:=funext h2;show Env.mk _ _=_;rw[e1,e2]
theorem Qu {T:cI}{ab:cl}{ρ:Env}(ha:ab.ok ρ):∀{l:List PI} {s s':SE},p8 l ab s=some s'→∀{K:Env→Prop},K (s'.ev ρ)→gP T l (s.ev ρ) K
 |[],s,s',h,K,hk=>by simp only[p8,aU] at h;subst h;exact hk
 |.setR t e::l,s,s',h,K,hk=>by simp only[gP];rw[←PE.sub_ev ha s e,←SE.setR_ev];exact Qu (l:=l) ha (show p8 l ab _=some s' from h) hk
 |.setO t e::l,s,s',h,K,hk=>by simp only[gP];rw[←PE.sub_ev ha s e,←SE.setO_ev];exact Qu (l:=l) ha (show p8 l ab _=some s' from h) hk
 |.chk _::_,_,_,h,_,_=>by simp[p8] at h
 |.call ..::_,_,_,h,_,_=>by simp[p8] at h
 |.callc ..::_,_,_,h,_,_=>by simp[p8] at h
 |.mcall ..::_,_,_,h,_,_=>by simp[p8] at h
theorem apn {T:cI}{ab:cl}{ρ:Env}(ha:ab.ok ρ):∀(c:PC) {s s':SE},plain c ab s=some s'→∀{Q:Out→Prop},Q (.next (s'.ev ρ))→aP T c (s.ev ρ) Q:=by
 intro c
 induction c with
 |skip=>intro s s' h Q hq;simp only[plain,aU] at h;subst h;exact .skip hq
 |is l=>intro s s' h Q hq;exact .is (Qu ha h hq)
 |seq a b bm dC=>
  intro s s' h Q hq;simp only[plain,av] at h;obtain⟨s1,h1,h2⟩:=h;exact .seq (bm h1 (dC h2 hq))
 |ite c lr lo a b bm dC=>
  intro s s' h Q hq;simp only[plain,av,aA] at h;obtain⟨sa,h1,sb,h2,rfl⟩:=h;rw[SE.merge_ev ha,PE.sub_ev ha] at hq;refine .ite ?_;split
  ·rename_i hc;rw[if_pos hc] at hq;exact bm h1 hq
  ·rename_i hc;rw[if_neg hc] at hq;exact dC h2 hq
 |_=>intro s s' h;simp[plain] at h
theorem KZ {T:cI}:∀(c:PC) {ab:cl} {s:SE} {k:Kn} {kx:Kx} {ρ:Env} {Q Q':Out→Prop},ab.ok ρ→aI T (sx c ab s k kx) ρ Q→
 (∀ρ' ab s,(dT c=true→ρ'=ρ)→ab.ok ρ'→aI T (k ab s) ρ' Q→Q' (.next (s.ev ρ')))→
 (∀ρ' ab id s,(dT c=true→ρ'=ρ)→ab.ok ρ'→aI T (kx ab id s) ρ' Q→Q' (.exit id (s.ev ρ')))→(dT c=false→∀id ρ',Q (.exit id ρ')→Q' (.exit id ρ'))→(∀d,Q (.ret d)→Q' (.ret d))→aP T c (s.ev ρ) Q':=by
 intro c;have alone:∀(a:PC),(∀{ab:cl} {s:SE} {k:Kn} {kx:Kx} {ρ:Env} {Q Q':Out→Prop},ab.ok ρ→aI T (sx a ab s k kx) ρ Q→
  (∀ρ' ab s,(dT a=true→ρ'=ρ)→ab.ok ρ'→aI T (k ab s) ρ' Q→Q' (.next (s.ev ρ')))→
  (∀ρ' ab id s,(dT a=true→ρ'=ρ)→ab.ok ρ'→aI T (kx ab id s) ρ' Q→Q' (.exit id (s.ev ρ')))→(dT a=false→∀id ρ',Q (.exit id ρ')→Q' (.exit id ρ'))→(∀d,Q (.ret d)→Q' (.ret d))→aP T a (s.ev ρ) Q')→
  ∀{ρ:Env} {Q:Out→Prop},aI T (sx a [] .id (fun _ s=>.next s) (fun _ id s=>.exit id s)) ρ Q→aP T a ρ Q:=by
  intro a ih ρ Q h;exact ih (s:=.id) (cl.ok_nil _) h (fun ρ' ab s _ _ h=>h) (fun ρ' ab id s _ _ h=>h) (fun _ _ _ h=>h) (fun _ h=>h)
 induction c with
 |skip=>intro ab s k kx ρ Q Q' ha h hk _ _ _;exact .skip (hk ρ ab s (fun _=>rfl) ha h)
 |is l=>intro ab s k kx ρ Q Q' ha h hk _ _ _;exact .is (rJ (K:=fun ρ'=>Q' (.next ρ')) ha h hk)
 |seq a b bm dC=>
  intro ab s k kx ρ Q Q' ha h hk hx kp hr;refine .seq (bm ha h (Q':=gA (fun ρ'=>aP T b ρ' Q') Q') (fun ρ' ab s hp wF h'=>?_) (fun ρ' ab id s hp wF h'=>?_) (fun hp=>?_) hr)
  ·refine dC wF h' (fun ρ2 ab s fh=>hk ρ2 ab s fun hl=>?_) (fun ρ2 ab id s fh=>hx ρ2 ab id s fun hl=>?_) (fun fh=>?_) hr
   ·simp only[dT,ao] at hl;rw[fh hl.2,hp hl.1]
   ·simp only[dT,ao] at hl;rw[fh hl.2,hp hl.1]
   ·exact kp (by simp[dT,fh])
  ·exact hx ρ' ab id s (fun hl=>by simp only[dT,ao] at hl;exact hp hl.1) wF h'
  ·exact kp (by simp[dT,hp])
 |ite c lr lo a b bm dC=>
  intro ab s k kx ρ Q Q' ha h hk hx kp hr;have bQ:((c.sub' ab s).ev ρ).b=(c.ev (s.ev ρ)).b:=by rw[PE.sub_ev ha]
  have struct:(dT a&&dT b)=false→aI T (.iteS s (c.sub' ab s) lr lo (sx a [] .id (fun _ s=>.next s) (fun _ id s=>.exit id s)) (sx b [] .id (fun _ s=>.next s) (fun _ id s=>.exit id s)) (k [] .id)) ρ Q→aP T (.ite c lr lo a b) (s.ev ρ) Q':=by
   intro DF h;have qW:dT (.ite c lr lo a b)=false:=DF;simp only[aI,bQ] at h
   have conv:∀x,kU (s.ev ρ) lr lo (gA (fun ρ'=>aI T (k [] .id) ρ' Q) Q) x→kU (s.ev ρ) lr lo Q' x:=by
      intro x dm;cases x with
      |next ρ'=>exact hk _ [] .id (fun hl=>by rw[qW] at hl;cases hl) (cl.ok_nil _) dm
      |exit id ρ'=>exact kp qW id ρ' dm
      |ret d=>exact hr d dm
   refine .ite ?_;split at h
   ·rename_i hc;rw[if_pos hc];exact(alone a bm h).mono conv
   ·rename_i hc;rw[if_neg hc];exact(alone b dC h).mono conv
  have Yz:∀v8,v8.ok ρ→dT a=true→aI T (sx a v8 s (fun ab s'=>k ab (s.join lr lo s')) kx) ρ Q→aP T a (s.ev ρ) (kU (s.ev ρ) lr lo Q'):=by
   intro v8 wF eu h';refine bm wF h' (fun ρ' ab s' hp nV kM=>?_) (fun ρ' ab id s' hp nV kM=>?_) (fun hp=>by rw[eu] at hp;cases hp) hr
   ·have e:=hp eu;subst e;show Q' (.next _);rw[←SE.join_ev];exact hk ρ' ab _ (fun _=>rfl) nV kM
   ·have e:=hp eu;subst e;exact hx ρ' ab id s' (fun _=>rfl) nV kM
  have au:∀v8,v8.ok ρ→dT b=true→aI T (sx b v8 s (fun ab s'=>k ab (s.join lr lo s')) kx) ρ Q→aP T b (s.ev ρ) (kU (s.ev ρ) lr lo Q'):=by
   intro v8 wF eu h';refine dC wF h' (fun ρ' ab s' hp nV kM=>?_) (fun ρ' ab id s' hp nV kM=>?_) (fun hp=>by rw[eu] at hp;cases hp) hr
   ·have e:=hp eu;subst e;show Q' (.next _);rw[←SE.join_ev];exact hk ρ' ab _ (fun _=>rfl) nV kM
   ·have e:=hp eu;subst e;exact hx ρ' ab id s' (fun _=>rfl) nV kM
  simp only[sx] at h;split at h
  ·rename_i ht;cases eu:dT a<;>simp only[eu,cond_true,cond_false] at h
   ·exact struct (by simp[eu]) h
   ·refine .ite ?_;rw[if_pos (by rw[←bQ];exact x9 ha ht)];exact Yz ab ha eu h
  ·rename_i ht;cases eu:dT b<;>simp only[eu,cond_true,cond_false] at h
   ·exact struct (by simp[eu]) h
   ·refine .ite ?_;rw[if_neg (by rw[←bQ,x9 ha ht];simp)];exact au ab ha eu h
  ·split at h
   ·rename_i sa sb hsa ko;have fi:plain (.ite c lr lo a b) ab s=some (s.merge ab lr lo (c.sub' ab s) sa sb):=by simp[plain,hsa,ko]
    exact apn ha _ fi (hk ρ ab _ (fun _=>rfl) ha h)
   cases eu:(dT a&&dT b)<;>simp only[eu,cond_true,cond_false] at h
   ·exact struct eu h
   ·simp only[ao] at eu;simp only[aI] at h;refine .ite ?_;rw[←bQ];split at h
    ·rename_i hc;rw[if_pos hc];exact Yz _ (cl.ok_cons ha hc) eu.1 h
    ·rename_i hc;rw[if_neg hc];exact au _ (cl.ok_cons ha (by simpa using hc)) eu.2 h
 |block id lr lo a bm=>
  intro ab s k kx ρ Q Q' ha h hk hx kp hr;simp only[sx] at h;cases eu:dT a<;>simp only[eu,cond_true,cond_false] at h
  ·have qW:dT (.block id lr lo a)=false:=eu;cases hl:YI a<;>simp only[hl,cond_true,cond_false] at h
   case true=>
        simp only[aI] at h;refine aP.mono h fun x dm=>?_;cases x with
        |next ρ'=>exact hk _ [] .id (fun hl=>by rw[qW] at hl;cases hl) (cl.ok_nil _) dm
        |exit id ρ'=>exact kp qW id ρ' dm
        |ret d=>exact hr d dm
   simp only[aI] at h;refine .block ((alone a bm h).mono fun x dm=>?_);cases x with
   |next ρ'=>exact hk _ [] .id (fun hl=>by rw[qW] at hl;cases hl) (cl.ok_nil _) dm
   |exit bX ρ'=>
    simp only[lY] at dm ⊢;split
    ·rename_i e;rw[if_pos e] at dm;exact hk _ [] .id (fun hl=>by rw[qW] at hl;cases hl) (cl.ok_nil _) dm
    ·rename_i e;rw[if_neg e] at dm;exact kp qW bX ρ' dm
   |ret d=>exact hr d dm
  ·refine .block (bm ha h (fun ρ' ab s' hp nV kM=>?_) (fun ρ' ab bX s' hp nV kM=>?_) (fun hp=>by rw[eu] at hp;cases hp) hr)
   ·have e:=hp eu;subst e;show Q' (.next _);rw[←SE.join_ev];exact hk ρ' ab _ (fun _=>rfl) nV kM
   ·have e:=hp eu;subst e;simp only[lY];by_cases cG:bX=id
    ·subst cG;simp only[gE,cond_true] at kM;rw[if_pos rfl,←SE.join_ev];exact hk ρ' ab _ (fun _=>rfl) nV kM
    ·rw[ej cG,cond_false] at kM;rw[if_neg cG];exact hx ρ' ab bX s' (fun _=>rfl) nV kM
 |loop lr lo a bm=>
  intro ab s k kx ρ Q Q' ha h hk hx kp hr;simp only[sx,aI] at h;refine aP.mono h fun x dm=>?_;cases x with
  |next ρ'=>exact hk _ [] .id (fun hl=>by cases hl) (cl.ok_nil _) dm
  |exit id ρ'=>exact kp rfl id ρ' dm
  |ret d=>exact hr d dm
 |each e ps lo rt a bm=>
  intro ab s k kx ρ Q Q' ha h hk hx kp hr;simp only[sx,aI] at h;refine aP.mono h fun x dm=>?_;cases x with
  |next ρ'=>exact hk _ [] .id (fun hl=>by cases hl) (cl.ok_nil _) dm
  |exit id ρ'=>exact kp rfl id ρ' dm
  |ret d=>exact hr d dm
 |meach J ps cO lo a bm=>
  intro ab s k kx ρ Q Q' ha h hk hx kp hr;simp only[sx,aI] at h;refine aP.mono h fun x dm=>?_;cases x with
  |next ρ'=>exact hk _ [] .id (fun hl=>by cases hl) (cl.ok_nil _) dm
  |exit id ρ'=>exact kp rfl id ρ' dm
  |ret d=>exact hr d dm
 |exit id=>intro ab s k kx ρ Q Q' ha h _ hx _ _;exact .exit (hx ρ ab id s (fun _=>rfl) ha h)
 |ret e=>
  intro ab s k kx ρ Q Q' ha h _ _ _ hr;simp only[sx,aI] at h;refine .ret (hr _ ?_);rw[PE.sub_ev ha] at h;exact h
def Lk.un (a b:Lk):Lk:=⟨Nat.lor a.r b.r,jC a.o b.o⟩
def bits (l:List Nat):Nat:=l.foldr (fun t m=>Nat.lor (dN t) m) 0
theorem Mv {l:List Nat}{t:Nat}(h:t∈l):aw (bits l) t=true:=by
 induction l with
 |nil=>cases h
 |cons x l ih=>
  show aw (Nat.lor (dN x) (bits l)) t=true;rw[eY];rcases cD.1 h with e|h
  ·subst e;rw[qE];rfl
  ·rw[ih h,nH]
theorem UW:∀{a b:List Nat} {x:Nat},x∈jC a b↔x∈a∨x∈b
 |[],b,x=>by simp[jC]
 |y::a,b,x=>by
  have ih:=UW (a:=a) (b:=bif fo b y then b else y::b) (x:=x);show x∈jC a _↔_;rw[ih];cases hb:fo b y with
  |true=>simp only[cond_true,cD];have:=(pX b y).1 hb;constructor
         ·rintro(h|h);exact .inl (.inr h);exact .inr h
         ·rintro((rfl|h)|h);exact .inr this;exact .inl h;exact .inr h
  |false=>simp only[cond_false,cD];constructor
          ·rintro(h|h|h);exact .inl (.inr h);exact .inl (.inl h);exact .inr h
          ·rintro((h|h)|h);exact .inr (.inl h);exact .inl h;exact .inr (.inr h)
def Lk.Le (a K:Lk):Prop:=(∀t,aw a.r t=true→aw K.r t=true)∧∀j,j∈a.o→j∈K.o
theorem Lk.le_l (a b:Lk):a.Le (a.un b):=⟨fun t h=>by simp only[Lk.un,eY,h,vP],fun j h=>UW.2 (.inl h)⟩
theorem Lk.le_r (a b:Lk):b.Le (a.un b):=⟨fun t h=>by simp only[Lk.un,eY,h,nH],fun j h=>UW.2 (.inr h)⟩
theorem Lk.Le.trans {a b c:Lk}(h:a.Le b)(k:b.Le c):a.Le c:=⟨fun t ht=>k.1 t (h.1 t ht),fun j hj=>k.2 j (h.2 j hj)⟩
theorem Alike.le {a K:Lk}{ρ ρ':Env}(h:Alike K ρ ρ')(k:a.Le K):Alike a ρ ρ':=⟨fun t ht=>h.r t (k.1 t ht),fun j hj=>h.o j (k.2 j hj)⟩
theorem Lk.Le.of_un {a b K:Lk}(h:(a.un b).Le K):a.Le K∧b.Le K:=⟨(Lk.le_l a b).trans h,(Lk.le_r a b).trans h⟩
theorem Alike.setR {K:Lk}{ρ ρ':Env}(h:Alike K ρ ρ')(t:Nat)(d:D):Alike K (ρ.setR t d) (ρ'.setR t d):=⟨fun u hu=>by rw[Env.setR_r,Env.setR_r];split;rfl;exact h.r u hu,h.o⟩
theorem Alike.setO {K:Lk}{ρ ρ':Env}(h:Alike K ρ ρ')(t:Nat)(d:D):Alike K (ρ.setO t d) (ρ'.setO t d):=⟨h.r,fun u hu=>by rw[Env.setO_o,Env.setO_o];split;rfl;exact h.o u hu⟩
theorem Alike.join {K:Lk}{ρ ρ' η η':Env}(h:Alike K ρ ρ')(k:Alike K η η')(lr lo:List Nat):Alike K (ρ.join lr lo η) (ρ'.join lr lo η'):=
 ⟨fun u hu=>by rw[Env.join_r,Env.join_r];split;exact k.r u hu;exact h.r u hu,fun u hu=>by rw[Env.join_o,Env.join_o];split;exact k.o u hu;exact h.o u hu⟩
theorem Qw {f g:Nat→D}{u:Nat}(h:g u=f u):∀(ts:List Nat) (xs:List D),putL g ts xs u=putL f ts xs u
 |[],xs=>by rw[JO,JO];exact h
 |t::ts,[]=>by simp only[putL];exact h
 |t::ts,x::xs=>by rw[JN,JN];split;rfl;exact Qw h ts xs
theorem Alike.put {K:Lk}{ρ ρ':Env}(h:Alike K ρ ρ')(lr lo:List Nat)(vr vo:List D):Alike K (ρ.put lr vr lo vo) (ρ'.put lr vr lo vo):=⟨fun u hu=>Qw (h.r u hu) lr vr,fun u hu=>Qw (h.o u hu) lo vo⟩
def PI.lkw:PI→Lk
 |.setR t e=>e.lk.un ⟨dN t,[]⟩
 |.setO j e=>e.lk.un ⟨0,[j]⟩
 |.chk e=>e.lk
 |.call gs dst f aa=>(PI.call gs dst f aa).lk.un ⟨dN dst,[]⟩
 |.callc gs dst e aa=>(PI.callc gs dst e aa).lk.un ⟨dN dst,[]⟩
 |.mcall j f aa=>(PI.mcall j f aa).lk.un ⟨0,[j]⟩
def PC.lk:PC→Lk
 |.skip=>.none
 |.exit _=>.none
 |.is l=>l.foldr (fun p k=>p.lkw.un k) .none
 |.seq a b=>(PC.lk a).un (PC.lk b)
 |.ite c _ _ a b=>c.lk.un ((PC.lk a).un (PC.lk b))
 |.block _ _ _ a=>PC.lk a
 |.loop lr lo a=>(⟨bits lr,lo⟩:Lk).un (PC.lk a)
 |.ret e=>e.lk
 |.each e _ lo rt a=>e.lk.un ((match rt with|some e=>e.lk|none=>.none).un ((⟨0,lo⟩:Lk).un (PC.lk a)))
 |.meach J _ _ lo a=>(⟨0,J::lo⟩:Lk).un (PC.lk a)
structure Off (K:Lk) (b η η':Env):Prop where
 al:Alike K η η'
 r:∀t,aw K.r t=false→η'.r t=b.r t
 o:∀j,j∉K.o→η'.o j=b.o j
def tT (K:Lk)(b:Env):Out→Out→Prop
 |.next η,x=>∃η',x=.next η'∧Off K b η η'
 |.exit i η,x=>∃η',x=.exit i η'∧Off K b η η'
 |.ret d,x=>x=.ret d
theorem Off.uniq {K:Lk}{b η η' η2:Env}(h:Off K b η η')(k:Off K b η η2):η2=η':=by
 have h1:∀t,η2.r t=η'.r t:=fun t=>by
  cases hb:aw K.r t with
  |true=>rw[k.al.r t hb,h.al.r t hb]
  |false=>rw[k.r t hb,h.r t hb]
 have h2:∀t,η2.o t=η'.o t:=fun t=>by
  by_cases hb:t∈K.o
  ·rw[k.al.o t hb,h.al.o t hb]
  ·rw[k.o t hb,h.o t hb]
 cases η2;cases η'
 congr
 ·exact funext h1
 ·exact funext h2
theorem tT.uniq {K:Lk}{b:Env}{x y z:Out}(h:tT K b x y)(k:tT K b x z):z=y:=by
 cases x with
 |next η=>obtain⟨a,rfl,h⟩:=h;obtain⟨c,rfl,k⟩:=k;rw[h.uniq k]
 |exit i η=>obtain⟨a,rfl,h⟩:=h;obtain⟨c,rfl,k⟩:=k;rw[h.uniq k]
 |ret d=>rw[h,k]
theorem Off.setR {K:Lk}{b η η':Env}(h:Off K b η η'){t:Nat}(ht:aw K.r t=true)(d:D):Off K b (η.setR t d) (η'.setR t d):=
 ⟨h.al.setR t d,fun u hu=>by rw[Env.setR_r,if_neg (fun e=>by rw[e,ht] at hu;cases hu)];exact h.r u hu,h.o⟩
theorem Off.setO {K:Lk}{b η η':Env}(h:Off K b η η'){t:Nat}(ht:t∈K.o)(d:D):Off K b (η.setO t d) (η'.setO t d):=
 ⟨h.al.setO t d,h.r,fun u hu=>by rw[Env.setO_o,if_neg (fun e=>hu (by rw[e];exact ht))];exact h.o u hu⟩
theorem Off.join {K:Lk}{b η η' ζ ζ':Env}(h:Off K b η η')(k:Off K b ζ ζ')(lr lo:List Nat):Off K b (η.join lr lo ζ) (η'.join lr lo ζ'):=
 ⟨h.al.join k.al lr lo,fun u hu=>by rw[Env.join_r];split;exact k.r u hu;exact h.r u hu,fun u hu=>by rw[Env.join_o];split;exact k.o u hu;exact h.o u hu⟩
theorem Qz {f:Nat→D}{b:D}{u:Nat}(h:f u=b):∀(ts:List Nat) (xs:List D),u∉ts→putL f ts xs u=b
 |[],xs,_=>by rw[JO];exact h
 |t::ts,[],_=>by simp only[putL];exact h
 |t::ts,x::xs,hu=>by rw[JN,if_neg (fun e=>hu (by simp[e]))];exact Qz h ts xs (fun e=>hu (by simp[e]))
theorem Off.put {K:Lk}{b η η':Env}(h:Off K b η η'){lr lo:List Nat}(hr:∀t,t∈lr→aw K.r t=true)(ho:∀t,t∈lo→t∈K.o)(vr vo:List D):Off K b (η.put lr vr lo vo) (η'.put lr vr lo vo):=
 ⟨h.al.put lr lo vr vo,fun u hu=>Qz (h.r u hu) lr vr (fun e=>by rw[hr u e] at hu;cases hu),fun u hu=>Qz (h.o u hu) lo vo (fun e=>hu (ho u e))⟩
theorem PI.run_off {Φ:aQ}{K:Lk}{b ρ ρ' η:Env}{p:PI}(hp:p.lkw.Le K)(h:Off K b ρ ρ')(hr:p.run Φ ρ=some η):∃η',p.run Φ ρ'=some η'∧Off K b η η':=by
 have wS:p.lk.Le K:=by cases p<;>first|exact hp|exact hp.of_un.1
 rw[PI.run_eff,PI.eff_alike p (h.al.le wS)];rw[PI.run_eff] at hr;cases he:p.eff Φ ρ with
 |none=>rw[he] at hr;cases hr
 |some x=>
  rw[he] at hr;simp only[ka,aU] at hr;subst hr;refine⟨_,rfl,?_⟩;have hb:∀{t:Nat} {a:Lk},(a.un ⟨dN t,[]⟩).Le K→aw K.r t=true:=fun h=>h.of_un.2.1 _ (qE _);have ho:∀{t:Nat} {a:Lk},(a.un ⟨0,[t]⟩).Le K→t∈K.o:=fun h=>h.of_un.2.2 _ (by simp);cases p with
  |setR t e=>simp only[PI.eff,aU] at he;subst he;exact h.setR (hb hp) _
  |setO t e=>simp only[PI.eff,aU] at he;subst he;exact h.setO (ho hp) _
  |chk e=>simp only[PI.eff] at he;cases wH:(e.ev ρ).b<;>rw[wH] at he<;>cases he;exact h
  |call gs d f aa=>
   simp only[PI.eff] at he;cases wH:holds gs ρ<;>simp only[wH,cond_true,cond_false,aU,aA] at he
   ·subst he;exact h
   ·obtain⟨y,_,rfl⟩:=he;exact h.setR (hb hp) _
  |callc gs d e aa=>
   simp only[PI.eff] at he;cases wH:holds gs ρ<;>simp only[wH,cond_true,cond_false,aU] at he
   ·subst he;exact h
   ·split at he
    ·simp only[aA] at he;obtain⟨y,_,rfl⟩:=he;exact h.setR (hb hp) _
    ·cases he
  |mcall j f aa=>simp only[PI.eff,aA] at he;obtain⟨y,_,rfl⟩:=he;exact h.setO (ho hp) _
theorem PI.runs_off {Φ:aQ}{K:Lk}{b:Env}:∀{l:List PI} {ρ ρ' η:Env},(l.foldr (fun p k=>p.lkw.un k) Lk.none).Le K→Off K b ρ ρ'→PI.runs Φ l ρ=some η→∃η',PI.runs Φ l ρ'=some η'∧Off K b η η'
 |[],ρ,ρ',η,_,h,hr=>by simp only[PI.runs,aU] at hr ⊢;subst hr;exact⟨_,rfl,h⟩
 |p::l,ρ,ρ',η,hl,h,hr=>by
  simp only[PI.runs,av] at hr;obtain⟨ρ1,h1,h2⟩:=hr;obtain⟨ρ2,h3,h4⟩:=PI.run_off hl.of_un.1 h h1;obtain⟨η',h5,h6⟩:=PI.runs_off (l:=l) hl.of_un.2 h4 h2;exact⟨η',by simp only[PI.runs,h3,j9,h5],h6⟩
theorem xp {K:Lk}{b η η':Env}(h:Off K b η η'){lo:List Nat}(ho:∀t,t∈lo→t∈K.o):lo.map η'.o=lo.map η.o:=tP fun t ht=>h.al.o t (ho t ht)
theorem ZF {K:Lk}{b η η':Env}(h:Off K b η η'){lr:List Nat}(hr:∀t,t∈lr→aw K.r t=true):lr.map η'.r=lr.map η.r:=tP fun t ht=>h.al.r t (hr t ht)
theorem PC.ev_off {Φ:aQ}{n:Nat}{K:Lk}:∀(c:PC),c.lk.Le K→∀{b ρ ρ':Env} {x:Out},Off K b ρ ρ'→c.ev Φ n ρ=some x→∃x',c.ev Φ n ρ'=some x'∧tT K b x x':=by
 intro c
 induction c with
 |skip=>intro _ b ρ ρ' x h hr;simp only[PC.ev,aU] at hr ⊢;subst hr;exact⟨_,rfl,_,rfl,h⟩
 |exit id=>intro _ b ρ ρ' x h hr;simp only[PC.ev,aU] at hr ⊢;subst hr;exact⟨_,rfl,_,rfl,h⟩
 |ret e=>intro hk B ρ ρ' x h hr;simp only[PC.ev,aU] at hr ⊢;subst hr;exact⟨_,rfl,by rw[PE.ev_alike e (h.al.le hk)];rfl⟩
 |is l=>
  intro hk B ρ ρ' x h hr;simp only[PC.ev,aA] at hr;obtain⟨η,h1,rfl⟩:=hr;obtain⟨η',h2,h3⟩:=PI.runs_off hk h h1;exact⟨.next η',by simp only[PC.ev,h2,ka],η',rfl,h3⟩
 |seq a b bm dC=>
  intro hk B ρ ρ' x h hr;simp only[PC.ev] at hr ⊢;cases ha:a.ev Φ n ρ with
  |none=>rw[ha] at hr;cases hr
  |some y=>
   obtain⟨y',h1,h2⟩:=bm hk.of_un.1 h ha;rw[ha] at hr;rw[h1];cases y with
   |next η=>obtain⟨η',rfl,h3⟩:=h2;exact dC hk.of_un.2 h3 hr
   |exit i η=>obtain⟨η',rfl,h3⟩:=h2;cases hr;exact⟨_,rfl,η',rfl,h3⟩
   |ret d=>cases h2;cases hr;exact⟨_,rfl,rfl⟩
 |ite c lr lo a b bm dC=>
  intro hk B ρ ρ' x h hr;have hc:(c.ev ρ').b=(c.ev ρ).b:=by rw[PE.ev_alike c (h.al.le hk.of_un.1)]
  have key:∀(d:PC),(∀{ρ ρ':Env} {x:Out},Off K B ρ ρ'→d.ev Φ n ρ=some x→∃x',d.ev Φ n ρ'=some x'∧tT K B x x')→(match d.ev Φ n ρ with|some (.next η)=>some (.next (ρ.join lr lo η))|x=>x)=some x→
      ∃x',(match d.ev Φ n ρ' with|some (.next η)=>some (.next (ρ'.join lr lo η))|x=>x)=some x'∧tT K B x x':=by
   intro d ih hr;cases ha:d.ev Φ n ρ with
   |none=>rw[ha] at hr;cases hr
   |some y=>
    obtain⟨y',h1,h2⟩:=ih h ha;rw[ha] at hr;rw[h1];cases y with
    |next η=>obtain⟨η',rfl,h3⟩:=h2;cases hr;exact⟨_,rfl,_,rfl,h.join h3 lr lo⟩
    |exit i η=>obtain⟨η',rfl,h3⟩:=h2;cases hr;exact⟨_,rfl,η',rfl,h3⟩
    |ret d=>cases h2;cases hr;exact⟨_,rfl,rfl⟩
  simp only[PC.ev,hc] at hr ⊢;cases iM:(c.ev ρ).b<;>simp only[iM,cond_true,cond_false] at hr ⊢
  ·exact key b (fun h1 h2=>dC hk.of_un.2.of_un.2 h1 h2) hr
  ·exact key a (fun h1 h2=>bm hk.of_un.2.of_un.1 h1 h2) hr
 |block id lr lo a bm=>
  intro hk B ρ ρ' x h hr;simp only[PC.ev] at hr ⊢;cases ha:a.ev Φ n ρ with
  |none=>rw[ha] at hr;cases hr
  |some y=>
   obtain⟨y',h1,h2⟩:=bm hk h ha;rw[ha] at hr;rw[h1];cases y with
   |next η=>obtain⟨η',rfl,h3⟩:=h2;cases hr;exact⟨_,rfl,_,rfl,h.join h3 lr lo⟩
   |exit i η=>
    obtain⟨η',rfl,h3⟩:=h2;simp only at hr ⊢;cases hb:Nat.beq i id<;>simp only[hb,cond_true,cond_false] at hr ⊢<;>cases hr
    ·exact⟨_,rfl,η',rfl,h3⟩
    ·exact⟨_,rfl,_,rfl,h.join h3 lr lo⟩
   |ret d=>cases h2;cases hr;exact⟨_,rfl,rfl⟩
 |loop lr lo a bm=>
  intro hk B ρ ρ' x h hr;have iP:∀t,t∈lr→aw K.r t=true:=fun t ht=>hk.of_un.1.1 t (Mv ht);have jT:∀t,t∈lo→t∈K.o:=fun t ht=>hk.of_un.1.2 t ht;have key:∀(m:Nat) (vr vo:List D),fL (a.ev Φ n) ρ lr lo m vr vo=some x→∃x',fL (a.ev Φ n) ρ' lr lo m vr vo=some x'∧tT K B x x':=by
   intro m
   induction m with
   |zero=>intro vr vo h;simp[fL] at h
   |succ m O3=>
    intro vr vo hr;simp only[fL] at hr ⊢;cases ha:a.ev Φ n (ρ.put lr vr lo vo) with
    |none=>rw[ha] at hr;cases hr
    |some y=>
     obtain⟨y',h1,h2⟩:=bm hk.of_un.2 (h.put iP jT vr vo) ha;rw[ha] at hr;rw[h1];cases y with
     |next η=>obtain⟨η',rfl,h3⟩:=h2;simp only[xp h3 jT,ZF h3 iP];exact O3 _ _ hr
     |exit i η=>obtain⟨η',rfl,h3⟩:=h2;cases hr;exact⟨_,rfl,η',rfl,h3⟩
     |ret d=>cases h2;cases hr;exact⟨_,rfl,rfl⟩
  simp only[PC.ev] at hr ⊢;rw[xp h jT,ZF h iP];exact key n _ _ hr
 |each e ps lo rt a bm=>
  intro hk B ρ ρ' x h hr;obtain⟨bl,bE⟩:=hk.of_un;obtain⟨bE,eG⟩:=bE.of_un;obtain⟨eG,m6⟩:=eG.of_un;have jT:∀t,t∈lo→t∈K.o:=fun t ht=>eG.2 t ht;have key:∀(xs vo:List D),gn (a.ev Φ n) ρ ps lo rt xs vo=some x→∃x',gn (a.ev Φ n) ρ' ps lo rt xs vo=some x'∧tT K B x x':=by
   intro xs
   induction xs with
   |nil=>intro vo hr;simp only[gn,aU] at hr ⊢;subst hr;exact⟨_,rfl,_,rfl,h.put (fun _ h=>by cases h) jT _ _⟩
   |cons y xs jr=>
    intro vo hr;simp only[gn] at hr ⊢;cases ha:a.ev Φ n (ρ.put ps (partsOf ps y) lo vo) with
    |none=>rw[ha] at hr;cases hr
    |some z=>
     have jn:Off K (ρ'.put ps (partsOf ps y) lo vo) (ρ.put ps (partsOf ps y) lo vo) (ρ'.put ps (partsOf ps y) lo vo):=⟨h.al.put ps lo _ _,fun _ _=>rfl,fun _ _=>rfl⟩
     obtain⟨z',h1,h2⟩:=bm m6 jn ha;rw[ha] at hr;rw[h1];cases z with
     |next η=>obtain⟨η',rfl,h3⟩:=h2;simp only[xp h3 jT];exact jr _ hr
     |exit i η=>
      obtain⟨η',rfl,h3⟩:=h2;simp only[xp h3 jT] at hr ⊢;have hp:=h.put (lr:=[]) (fun _ h=>by cases h) jT [] (lo.map η.o);cases hb:Nat.beq i cN<;>simp only[hb,cond_true,cond_false] at hr ⊢
      ·cases hr;exact⟨_,rfl,_,rfl,hp⟩
      ·cases rt with
       |none=>cases hr
       |some e2=>cases hr;exact⟨_,rfl,by show Out.ret _=Out.ret _;rw[PE.ev_alike e2 (hp.al.le bE)]⟩
     |ret d=>cases hr
  simp only[PC.ev] at hr ⊢;rw[PE.ev_alike e (h.al.le bl),xp h jT];exact key _ _ hr
 |meach J ps cO lo a bm=>
  intro hk B ρ ρ' x h hr;obtain⟨eG,m6⟩:=hk.of_un;have jT:∀t,t∈lo→t∈K.o:=fun t ht=>eG.2 t (dj _ ht);have hJ:ρ'.o J=ρ.o J:=h.al.o J (eG.2 J (dq ..));have key:∀(es:D) (xs done vo mM:List D),lE (a.ev Φ n) ρ J es ps cO lo xs done vo=some mM→lE (a.ev Φ n) ρ' J es ps cO lo xs done vo=some mM:=by
   intro es xs
   induction xs with
   |nil=>intro done vo mM h;exact h
   |cons y xs jr=>
    intro done vo mM hr;simp only[lE] at hr ⊢;cases ha:a.ev Φ n ((ρ.put ps (cO.map y.tget) lo vo).setO J (.tup [.list (done++[y]),es])) with
    |none=>rw[ha] at hr;cases hr
    |some z=>
     have jn:Off K ((ρ'.put ps (cO.map y.tget) lo vo).setO J (.tup [.list (done++[y]),es])) ((ρ.put ps (cO.map y.tget) lo vo).setO J (.tup [.list (done++[y]),es])) ((ρ'.put ps (cO.map y.tget) lo vo).setO J (.tup [.list (done++[y]),es])):=
          ⟨(h.al.put ps lo _ _).setO J _,fun _ _=>rfl,fun _ _=>rfl⟩
     obtain⟨z',h1,h2⟩:=bm m6 jn ha;rw[ha] at hr;rw[h1];cases z with
     |next η=>obtain⟨η',rfl,h3⟩:=h2;simp only[xp h3 jT];exact jr _ _ _ hr
     |exit i η=>cases hr
     |ret d=>cases hr
  simp only[PC.ev,xE] at hr;obtain⟨vo,⟨h1,h2⟩,rfl⟩:=hr;refine⟨.next (ρ'.put [] [] lo vo),?_,_,rfl,h.put (fun _ h=>by cases h) jT _ _⟩;simp only[PC.ev,xE];refine⟨vo,⟨by rw[hJ];exact h1,fun ys hy=>?_⟩,rfl⟩;rw[hJ] at hy ⊢;rw[xp h jT];exact key _ _ _ _ _ (h2 ys hy)
def nR:List Nat→PC→Bool
 |l,.exit id=>fo l id
 |l,.seq a b=>nR l a&&nR l b
 |l,.ite _ _ _ a b=>nR l a&&nR l b
 |l,.block id _ _ a=>nR (id::l) a
 |l,.loop _ _ a=>nR l a
 |l,.each _ _ _ _ a=>nR (cN::l) a
 |_,_=>true
theorem ag8 {Φ:aQ}{n:Nat}:∀(c:PC) {l:List Nat},nR l c=true→∀{ρ:Env} {i:Nat} {η:Env},c.ev Φ n ρ=some (.exit i η)→i∈l:=by
 intro c
 induction c with
 |skip=>intro l _ ρ i η h;simp[PC.ev] at h
 |exit id=>intro l hl ρ i η h;simp only[PC.ev,aU] at h;injection h with h1 h2;subst h1;exact(pX _ _).1 hl
 |ret e=>intro l _ ρ i η h;simp[PC.ev] at h
 |is _=>intro l _ ρ i η h;simp[PC.ev] at h
 |seq a b bm dC=>
  intro l hl ρ i η h;simp only[nR,ao] at hl;simp only[PC.ev] at h;split at h
  ·exact dC hl.2 h
  ·exact bm hl.1 h
 |ite c lr lo a b bm dC=>
  intro l hl ρ i η h;simp only[nR,ao] at hl;simp only[PC.ev] at h;cases hc:(c.ev ρ).b<;>simp only[hc,cond_true,cond_false] at h
  ·split at h
   ·cases h
   ·exact dC hl.2 h
  ·split at h
   ·cases h
   ·exact bm hl.1 h
 |block id lr lo a bm=>
  intro l hl ρ i η h;simp only[PC.ev] at h;split at h
  ·cases h
  ·rename_i bX ρ2 ha;cases hb:Nat.beq bX id<;>simp only[hb,cond_true,cond_false] at h<;>cases h;rcases cD.1 (bm hl ha) with e|e
   ·subst e;rw[gE] at hb;cases hb
   ·exact e
  ·rename_i h1 h2;exact absurd h (h2 _ _)
 |loop lr lo a bm=>
  intro l hl ρ i η h;have key:∀(m:Nat) (vr vo:List D),fL (a.ev Φ n) ρ lr lo m vr vo=some (.exit i η)→i∈l:=by
   intro m
   induction m with
   |zero=>intro vr vo h;simp[fL] at h
   |succ m O3=>
    intro vr vo h;simp only[fL] at h;split at h
    ·exact O3 _ _ h
    ·exact bm hl h
  exact key _ _ _ h
 |each e ps lo rt a bm=>
  intro l hl ρ i η h;have key:∀(xs vo:List D),gn (a.ev Φ n) ρ ps lo rt xs vo=some (.exit i η)→i∈l:=by
   intro xs
   induction xs with
   |nil=>intro vo h;simp[gn] at h
   |cons x xs jr=>
    intro vo h;simp only[gn] at h;split at h
    ·exact jr _ h
    ·rename_i bX ρ2 ha;cases hb:Nat.beq bX cN<;>simp only[hb,cond_true,cond_false] at h
     ·injection h with h;injection h with h1 h2;subst h1
      rcases cD.1 (bm hl ha) with e|e
      ·subst e;rw[gE] at hb;cases hb
      ·exact e
     ·cases rt<;>simp at h
    ·cases h
  exact key _ _ h
 |meach J ps cO lo a _=>
  intro l _ ρ i η h;simp only[PC.ev,xE] at h;obtain⟨vo,_,h⟩:=h;cases h
def YE (t:Nat):PE→Bool
 |.r u=>Nat.beq u t
 |_=>false
def YG (t:Nat):PE→Bool
 |.o u=>Nat.beq u t
 |_=>false
def fk (oo:Nat→PE→Bool)(p:Nat→Bool):List Nat→List (Nat×PE)→List (Nat×PE)
 |_,[]=>[]
 |seen,x::l=>bif p x.1&& !fo seen x.1 then(bif oo x.1 x.2 then fk oo p (x.1::seen) l else x::fk oo p (x.1::seen) l) else fk oo p seen l
theorem HV {oo:Nat→PE→Bool}{p:Nat→Bool}:∀{l:List (Nat×PE)} {seen:List Nat} {t:Nat},fo seen t=true→bH (fk oo p seen l) t=none
 |[],_,_,_=>rfl
 |x::l,seen,t,h=>by
  have h':fo (x.1::seen) t=true:=by rw[pX] at h ⊢;exact dj _ h
  simp only[fk];cases hb:(p x.1&& !fo seen x.1) with
  |false=>exact HV h
  |true=>
   simp only[cond_true];cases oo x.1 x.2 with
   |true=>exact HV h'
   |false=>
    simp only[cond_false,bH];have:Nat.beq x.1 t=false:=by
      cases e:Nat.beq x.1 t with
      |false=>rfl
      |true=>rw[cW e,h] at hb;simp at hb
    rw[this];exact HV h'
theorem CM {oo:Nat→PE→Bool}{p:Nat→Bool}{dflt:Nat→PE}(cG:∀t e,oo t e=true→e=dflt t):∀{l:List (Nat×PE)} {seen:List Nat} {t:Nat},p t=true→fo seen t=false→
 (match bH (fk oo p seen l) t with|some e=>e|none=>dflt t)=(match bH l t with|some e=>e|none=>dflt t)
 |[],_,_,_,_=>rfl
 |x::l,seen,t,hp,hs=>by
  simp only[fk,bH];cases e:Nat.beq x.1 t with
  |true=>
   have e':=cW e;rw[e',hp,hs];simp only[Bool.not_false,Bool.and_self,cond_true];cases hi:oo t x.2 with
   |true=>simp only[cond_true];rw[HV (by rw[pX];exact dq ..)];exact(cG _ _ hi).symm
   |false=>simp only[cond_false,bH,e,cond_true]
  |false=>
   simp only[cond_false];cases hb:(p x.1&& !fo seen x.1) with
   |false=>exact CM cG hp hs
   |true=>
    have eI:fo (x.1::seen) t=false:=by
      cases hm:fo (x.1::seen) t with
      |false=>rfl
      |true=>
       rcases cD.1 ((pX _ _).1 hm) with h|h
       ·rw[h,gE] at e;cases e
       ·rw[(pX _ _).2 h] at hs;cases hs
    simp only[cond_true];cases oo x.1 x.2 with
    |true=>exact CM cG hp eI
    |false=>simp only[cond_false,bH,e];exact CM cG hp eI
def SE.cut (s:SE)(k:Lk):SE:=⟨fk YE (aw k.r) [] s.r,fk YG (fo k.o) [] s.o⟩
def Pf (l:List (Nat×PE)):Lk:=l.foldr (fun x k=>x.2.lk.un k) .none
def SE.lks (s:SE):Lk:=(Pf s.r).un (Pf s.o)
theorem Pg:∀{l:List (Nat×PE)} {t:Nat} {e:PE},bH l t=some e→e.lk.Le (Pf l)
 |[],_,_,h=>by cases h
 |x::l,t,e,h=>by
  simp only[bH] at h;cases hb:Nat.beq x.1 t<;>simp only[hb,cond_true,cond_false] at h
  ·exact(Pg h).trans (Lk.le_r _ _)
  ·cases h;exact Lk.le_l _ _
theorem SE.cut_al {s:SE}{L:Lk}{ρ1 ρ2:Env}(h:Alike (L.un (s.cut L).lks) ρ1 ρ2):Alike L ((s.cut L).ev ρ1) (s.ev ρ2):=by
 have hL:=h.le (Lk.le_l _ _);have hs:=h.le (Lk.le_r _ _);constructor
 ·intro t ht;show(s.getR t).ev ρ2=((s.cut L).getR t).ev ρ1;have e:(s.cut L).getR t=s.getR t:=CM (dflt:=.r) (fun t e he=>by unfold YE at he;split at he;rw[cW he];cases he) ht rfl;rw[←e];cases hl:bH (s.cut L).r t with
  |none=>have:(s.cut L).getR t=.r t:=by unfold SE.getR;rw[hl]
         rw[this];exact hL.r t ht
  |some x=>have:(s.cut L).getR t=x:=by unfold SE.getR;rw[hl]
           rw[this];exact PE.ev_alike x (hs.le ((Pg hl).trans (Lk.le_l _ _)))
 ·intro t ht;show(s.getO t).ev ρ2=((s.cut L).getO t).ev ρ1;have e:(s.cut L).getO t=s.getO t:=CM (dflt:=.o) (fun t e he=>by unfold YG at he;split at he;rw[cW he];cases he) ((pX _ _).2 ht) rfl;rw[←e];cases hl:bH (s.cut L).o t with
  |none=>have:(s.cut L).getO t=.o t:=by unfold SE.getO;rw[hl]
         rw[this];exact hL.o t ht
  |some x=>have:(s.cut L).getO t=x:=by unfold SE.getO;rw[hl]
           rw[this];exact PE.ev_alike x (hs.le ((Pg hl).trans (Lk.le_r _ _)))
structure LC where
 next:Lk
 ov:List (Nat×Lk)
def LC.all (c:LC):Lk:=c.ov.foldr (fun x k=>x.2.un k) .none
def LB (c:LC)(Q1 Q2:Out→Prop):Prop:=
 (∀ρ1 ρ2,Alike c.next ρ1 ρ2→Q1 (.next ρ1)→Q2 (.next ρ2))∧(∀id k ρ1 ρ2,bH c.ov id=some k→Alike k ρ1 ρ2→Q1 (.exit id ρ1)→Q2 (.exit id ρ2))∧∀d,Q1 (.ret d)→Q2 (.ret d)
def fO:LC→PT→Option (PT×Lk)
 |c,.next s=>some (.next (s.cut c.next),c.next.un (s.cut c.next).lks)
 |c,.exit id s=>(bH c.ov id).map fun k=>(.exit id (s.cut k),k.un (s.cut k).lks)
 |_,.ret e=>some (.ret e,e.lk)
 |c,.chk e k=>(fO c k).map fun r=>(.chk e r.1,e.lk.un r.2)
 |c,.ite e a b=>(fO c a).bind fun x=>(fO c b).map fun y=>(.ite e x.1 y.1,e.lk.un (x.2.un y.2))
 |c,.call s gs dst f args k=>(fO c k).map fun r=>(.call (s.cut (r.2.un (l5 gs))) gs dst f args r.1,(PE.lks args).un ((r.2.un (l5 gs)).un (s.cut (r.2.un (l5 gs))).lks))
 |c,.callc s gs dst e args k=>(fO c k).map fun r=>(.callc (s.cut (r.2.un (l5 gs))) gs dst e args r.1,(e.lk.un (PE.lks args)).un ((r.2.un (l5 gs)).un (s.cut (r.2.un (l5 gs))).lks))
 |c,.mcall s j f args k=>(fO c k).map fun r=>(.mcall (s.cut r.2) j f args r.1,(PE.lks args).un (r.2.un (s.cut r.2).lks))
 |c,.iteS s e lr lo a b k=>(fO c k).bind fun r=>(fO ⟨r.2,c.ov⟩ a).bind fun x=>(fO ⟨r.2,c.ov⟩ b).map fun y=>
    (.iteS (s.cut (r.2.un (x.2.un y.2))) e lr lo x.1 y.1 r.1,e.lk.un ((r.2.un (x.2.un y.2)).un (s.cut (r.2.un (x.2.un y.2))).lks))
 |c,.blockS s id lr lo a k=>(fO c k).bind fun r=>(fO ⟨r.2,(id,r.2)::c.ov⟩ a).map fun x=>(.blockS (s.cut (r.2.un x.2)) id lr lo x.1 r.1,(r.2.un x.2).un (s.cut (r.2.un x.2)).lks)
 |c,.brk s p k=>(fO c k).bind fun r=>bif nR (c.ov.map (·.1)) p then some (.brk (s.cut (p.lk.un (r.2.un c.all))) p r.1,(p.lk.un (r.2.un c.all)).un (s.cut (p.lk.un (r.2.un c.all))).lks) else none
theorem LC.all_le:∀{l:List (Nat×Lk)} {id:Nat} {k:Lk},bH l id=some k→k.Le (l.foldr (fun x k=>x.2.un k) .none)
 |[],_,_,h=>by cases h
 |x::l,t,e,h=>by
  simp only[bH] at h;cases hb:Nat.beq x.1 t<;>simp only[hb,cond_true,cond_false] at h
  ·exact(LC.all_le h).trans (Lk.le_r _ _)
  ·cases h;exact Lk.le_l _ _
theorem Zg:∀{l:List (Nat×Lk)} {id:Nat},id∈l.map (·.1)→∃k,bH l id=some k
 |[],_,h=>by cases h
 |x::l,id,h=>by
  simp only[bH];cases hb:Nat.beq x.1 id with
  |true=>exact⟨_,rfl⟩
  |false=>
   simp only[cond_false];rcases cD.1 h with e|h
   ·rw[e,gE] at hb;cases hb
   ·exact Zg h
theorem apu {T:cI}:∀(t:PT) {c:LC} {t':PT} {L:Lk},fO c t=some (t',L)→∀{Q1 Q2:Out→Prop} {ρ1 ρ2:Env},LB c Q1 Q2→Alike L ρ1 ρ2→aI T t' ρ1 Q1→aI T t ρ2 Q2:=by
 intro t
 induction t with
 |next s=>
  intro c t' L hp Q1 Q2 ρ1 ρ2 hQ hA h;simp only[fO,aU,nL] at hp;obtain⟨rfl,rfl⟩:=hp;exact hQ.1 _ _ (SE.cut_al hA) h
 |exit id s=>
  intro c t' L hp Q1 Q2 ρ1 ρ2 hQ hA h;simp only[fO,aA,nL] at hp;obtain⟨k,hk,rfl,rfl⟩:=hp;exact hQ.2.1 _ k _ _ hk (SE.cut_al hA) h
 |ret e=>
  intro c t' L hp Q1 Q2 ρ1 ρ2 hQ hA h;simp only[fO,aU,nL] at hp;obtain⟨rfl,rfl⟩:=hp;show Q2 (.ret (e.ev ρ2));rw[PE.ev_alike e hA];exact hQ.2.2 _ h
 |chk e k ih=>
  intro c t' L hp Q1 Q2 ρ1 ρ2 hQ hA h;simp only[fO,aA,nL] at hp;obtain⟨r,hr,rfl,rfl⟩:=hp;exact⟨by rw[PE.ev_alike e (hA.le (Lk.le_l _ _))];exact h.1,ih hr hQ (hA.le (Lk.le_r _ _)) h.2⟩
 |ite e a b bm dC=>
  intro c t' L hp Q1 Q2 ρ1 ρ2 hQ hA h;simp only[fO,av,aA,nL] at hp;obtain⟨x,hx,y,hy,rfl,rfl⟩:=hp;have h2:=hA.le (Lk.le_r _ _);simp only[aI] at h ⊢;rw[PE.ev_alike e (hA.le (Lk.le_l _ _))];split
  ·rename_i hc;rw[if_pos hc] at h;exact bm hx hQ (h2.le (Lk.le_l _ _)) h
  ·rename_i hc;rw[if_neg hc] at h;exact dC hy hQ (h2.le (Lk.le_r _ _)) h
 |call s gs dst f args k ih=>
  intro c t' L hp Q1 Q2 ρ1 ρ2 hQ hA h;simp only[fO,aA,nL] at hp;obtain⟨r,hr,rfl,rfl⟩:=hp;have hS:=SE.cut_al (hA.le (Lk.le_r _ _));simp only[aI] at h ⊢;rw[PE.evs_alike args (hA.le (Lk.le_l _ _)),Ad (hS.le (Lk.le_r _ _))];split
  ·rename_i hc;rw[if_pos hc] at h;obtain⟨d,hd,h⟩:=h;exact⟨d,hd,ih hr hQ ((hS.le (Lk.le_l _ _)).setR dst d) h⟩
  ·rename_i hc;rw[if_neg hc] at h;exact ih hr hQ (hS.le (Lk.le_l _ _)) h
 |callc s gs dst e args k ih=>
  intro c t' L hp Q1 Q2 ρ1 ρ2 hQ hA h;simp only[fO,aA,nL] at hp;obtain⟨r,hr,rfl,rfl⟩:=hp;have hS:=SE.cut_al (hA.le (Lk.le_r _ _));have hE:=hA.le (Lk.le_l _ _);simp only[aI] at h ⊢;rw[PE.ev_alike e (hE.le (Lk.le_l _ _)),PE.evs_alike args (hE.le (Lk.le_r _ _)),Ad (hS.le (Lk.le_r _ _))];split
  ·rename_i hc;rw[if_pos hc] at h;obtain⟨f,caps,d,he,hd,h⟩:=h;exact⟨f,caps,d,he,hd,ih hr hQ ((hS.le (Lk.le_l _ _)).setR dst d) h⟩
  ·rename_i hc;rw[if_neg hc] at h;exact ih hr hQ (hS.le (Lk.le_l _ _)) h
 |mcall s j f args k ih=>
  intro c t' L hp Q1 Q2 ρ1 ρ2 hQ hA h;simp only[fO,aA,nL] at hp;obtain⟨r,hr,rfl,rfl⟩:=hp;have hS:=SE.cut_al (hA.le (Lk.le_r _ _));simp only[aI] at h ⊢;rw[PE.evs_alike args (hA.le (Lk.le_l _ _))];obtain⟨d,hd,h⟩:=h;exact⟨d,hd,ih hr hQ (hS.setO j d) h⟩
 |iteS s e lr lo a b k bm dC kr=>
  intro c t' L hp Q1 Q2 ρ1 ρ2 hQ hA h;simp only[fO,av,aA,nL] at hp;obtain⟨r,hr,x,hx,y,hy,rfl,rfl⟩:=hp;have hS:=SE.cut_al (hA.le (Lk.le_r _ _));have Ib:=hS.le (Lk.le_l _ _);have CY:=hS.le ((Lk.le_l _ _).trans (Lk.le_r _ _));have hSy:=hS.le ((Lk.le_r _ _).trans (Lk.le_r _ _))
  have rel:LB ⟨r.2,c.ov⟩ (kU ((s.cut (r.2.un (x.2.un y.2))).ev ρ1) lr lo (gA (fun ρ'=>aI T r.1 ρ' Q1) Q1)) (kU (s.ev ρ2) lr lo (gA (fun ρ'=>aI T k ρ' Q2) Q2)):=
   ⟨fun η1 η2 ha hq=>kr hr hQ (Ib.join ha lr lo) hq,fun id k' η1 η2 hk ha hq=>hQ.2.1 id k' _ _ hk ha hq,fun d hq=>hQ.2.2 d hq⟩
  simp only[aI] at h ⊢;rw[PE.ev_alike e (hA.le (Lk.le_l _ _))];split
  ·rename_i hc;rw[if_pos hc] at h;exact bm hx rel CY h
  ·rename_i hc;rw[if_neg hc] at h;exact dC hy rel hSy h
 |blockS s id lr lo a k bm kr=>
  intro c t' L hp Q1 Q2 ρ1 ρ2 hQ hA h;simp only[fO,av,aA,nL] at hp;obtain⟨r,hr,x,hx,rfl,rfl⟩:=hp;have hS:=SE.cut_al hA;have Ib:=hS.le (Lk.le_l _ _);refine bm hx (Q1:=lY ((s.cut (r.2.un x.2)).ev ρ1) id lr lo (gA (fun ρ'=>aI T r.1 ρ' Q1) Q1)) ⟨fun η1 η2 ha hq=>kr hr hQ (Ib.join ha lr lo) hq,fun bX k' η1 η2 hk ha hq=>?_,fun d hq=>hQ.2.2 d hq⟩ (hS.le (Lk.le_r _ _)) h;simp only[lY] at hq ⊢;simp only[bH] at hk;by_cases e:bX=id
  ·subst e;simp only[gE,cond_true,aU] at hk;subst hk;rw[if_pos rfl] at hq ⊢;exact kr hr hQ (Ib.join ha lr lo) hq
  ·rw[if_neg e] at hq ⊢;rw[ej (fun h=>e h.symm),cond_false] at hk;exact hQ.2.1 bX k' _ _ hk ha hq
 |brk s p k kr=>
  intro c t' L hp Q1 Q2 ρ1 ρ2 hQ hA h;simp only[fO,av] at hp;obtain⟨r,hr,hp⟩:=hp;cases hx:nR (c.ov.map (·.1)) p<;>simp only[hx,cond_true,cond_false,aU,nL] at hp
  ·cases hp
  obtain⟨rfl,rfl⟩:=hp;have hS:=SE.cut_al hA;have jn:Off (p.lk.un (r.2.un c.all)) (s.ev ρ2) ((s.cut (p.lk.un (r.2.un c.all))).ev ρ1) (s.ev ρ2):=⟨hS,fun _ _=>rfl,fun _ _=>rfl⟩
  obtain⟨x,hq,n0,hn⟩:=h;have step:=fun n (hle:n0≤n)=>PC.ev_off p (Lk.le_l _ _) jn (hn n hle);obtain⟨x',h1,h2⟩:=step n0 (bk _);refine⟨x',?_,n0,fun n hle=>?_⟩
  ·cases x with
   |next η=>obtain⟨η',rfl,h3⟩:=h2;exact kr hr hQ (h3.al.le ((Lk.le_l _ _).trans (Lk.le_r _ _))) hq
   |exit i η=>
    obtain⟨η',rfl,h3⟩:=h2;obtain⟨k',aW⟩:=Zg (ag8 p hx (hn n0 (bk _)));exact hQ.2.1 i k' _ _ aW (h3.al.le ((LC.all_le aW).trans ((Lk.le_r _ _).trans (Lk.le_r _ _)))) hq
   |ret d=>cases h2;exact hQ.2.2 d hq
  ·obtain⟨x2,h3,h4⟩:=step n hle;rw[h3,h2.uniq h4]
def Ei (c:LC)(t:PT):PT:=match fO c t with|some r=>r.1|none=>t
theorem JM {T:cI}{c:LC}{t:PT}{Q:Out→Prop}{ρ:Env}(hQ:LB c Q Q)(h:aI T (Ei c t) ρ Q):aI T t ρ Q:=by
 unfold Ei at h;split at h
 ·rename_i r hr;exact apu t hr hQ ⟨fun _ _=>rfl,fun _ _=>rfl⟩ h
 ·exact h
def adR (c:PC):PT:=sx c [] .id (fun _ s=>.next s) (fun _ id s=>.exit id s)
theorem adS {T:cI}{c:PC}{ρ:Env}{Q:Out→Prop}(h:aI T (adR c) ρ Q):aP T c ρ Q:=
 KZ (s:=.id) c (cl.ok_nil _) h (fun ρ' ab s _ _ h=>h) (fun ρ' ab id s _ _ h=>h) (fun _ _ _ h=>h) (fun _ h=>h)
def tree (c:PC):PT:=Ei ⟨.none,[]⟩ (adR c)
theorem Lc {T:cI}{c:PC}{ρ:Env}{d:D}(h:aI T (tree c) ρ fun x=>x=.ret d):aP T c ρ fun x=>x=.ret d:=
 adS (JM ⟨fun _ _ _ h=>(by cases h),fun _ _ _ _ _ _ h=>(by cases h),fun _ h=>h⟩ h)
def SE.keep (s:SE)(lr lo:List Nat):SE:=⟨lr.map fun t=>(t,s.getR t),lo.map fun t=>(t,s.getO t)⟩
theorem SE.keep_r (s:SE)(lr lo:List Nat)(ρ:Env):lr.map ((s.keep lr lo).ev ρ).r=lr.map (s.ev ρ).r:=by
 apply tP;intro t ht;show((s.keep lr lo).getR t).ev ρ=(s.getR t).ev ρ;have:=xm (f:=fun t=>s.getR t) (l:=[]) (u:=t) lr;rw[lf,if_pos ht] at this;have e:(s.keep lr lo).getR t=s.getR t:=by unfold SE.getR SE.keep;simp only[];rw[this];rfl
 rw[e]
theorem SE.keep_o (s:SE)(lr lo:List Nat)(ρ:Env):lo.map ((s.keep lr lo).ev ρ).o=lo.map (s.ev ρ).o:=by
 apply tP;intro t ht;show((s.keep lr lo).getO t).ev ρ=(s.getO t).ev ρ;have:=xm (f:=fun t=>s.getO t) (l:=[]) (u:=t) lo;rw[lf,if_pos ht] at this;have e:(s.keep lr lo).getO t=s.getO t:=by unfold SE.getO SE.keep;simp only[];rw[this];rfl
 rw[e]
def adb (id:Nat)(bC bB lr lo:List Nat)(a:PC):PT:=
 sx a [] .id (fun _ s=>.next (s.keep lr lo)) (fun _ bX s=>bif Nat.beq bX id then .exit id (s.keep bC bB) else .exit bX s)
def eR (ρ:Env)(id:Nat)(bC bB lr lo:List Nat)(K:List D→List D→Prop)(Q:Out→Prop):Out→Prop
 |.next ρ'=>K (lr.map ρ'.r) (lo.map ρ'.o)
 |.exit bX ρ'=>if bX=id then Q (.next (ρ.put bC (bC.map ρ'.r) bB (bB.map ρ'.o))) else Q (.exit bX ρ')
 |.ret d=>Q (.ret d)
def round (id:Nat)(bC bB lr lo:List Nat)(a:PC):PT:=Ei ⟨⟨bits lr,lo⟩,[(id,⟨bits bC,bB⟩)]⟩ (adb id bC bB lr lo a)
theorem ZE {k:Lk}{lr:List Nat}{ρ1 ρ2:Env}(h:Alike k ρ1 ρ2)(hk:∀t,t∈lr→aw k.r t=true):lr.map ρ2.r=lr.map ρ1.r:=tP fun t ht=>h.r t (hk t ht)
theorem Je {k:Lk}{lo:List Nat}{ρ1 ρ2:Env}(h:Alike k ρ1 ρ2)(hk:∀t,t∈lo→t∈k.o):lo.map ρ2.o=lo.map ρ1.o:=tP fun t ht=>h.o t (hk t ht)
theorem aqN {T:cI}{id:Nat}{bC bB lr lo:List Nat}{a:PC}{ρ ρ0:Env}{K:List D→List D→Prop}{Q:Out→Prop}(h:aI T (round id bC bB lr lo a) ρ (eR ρ0 id bC bB lr lo K Q)):aI T (adb id bC bB lr lo a) ρ (eR ρ0 id bC bB lr lo K Q):=by
 refine JM ⟨fun ρ1 ρ2 ha hq=>?_,fun bX k ρ1 ρ2 hk ha hq=>?_,fun d hq=>hq⟩ h
 ·simp only[eR] at hq ⊢;rw[ZE ha fun t ht=>Mv ht,Je ha fun t ht=>ht];exact hq
 ·simp only[bH] at hk;cases hb:Nat.beq id bX<;>simp only[hb,cond_true,cond_false] at hk
  ·cases hk
  ·cases hk;have:=cW hb;subst this;simp only[eR,if_true] at hq ⊢;rw[ZE ha fun t ht=>Mv ht,Je ha fun t ht=>ht];exact hq
theorem aP.forLoop {T:cI}{id:Nat}{bC bB lr lo:List Nat}{a:PC}{ρ:Env}{Q:Out→Prop}{α:Type}(inv:α→List D→List D→Prop)(uW:α→Nat)(s0:α)(h0:inv s0 (lr.map ρ.r) (lo.map ρ.o))
 (step:∀s vr vo,inv s vr vo→aI T (round id bC bB lr lo a) (ρ.put lr vr lo vo) (eR ρ id bC bB lr lo (fun vr vo=>∃s',uW s'<uW s∧inv s' vr vo) Q)):aP T (.block id bC bB (.loop lr lo a)) ρ Q:=by
 refine .block (.loop inv uW s0 h0 fun s vr vo hi=>?_);have h:=aqN (step s vr vo hi);refine KZ (s:=.id) a (cl.ok_nil _) h (fun ρ' ab s' _ _ h=>?_) (fun ρ' ab bX s' _ _ h=>?_) (fun _ bX ρ' h=>?_) (fun d h=>h)
 ·simp only[aI,eR] at h;rw[SE.keep_r,SE.keep_o] at h;exact h
 ·simp only[gA,lY];by_cases cG:bX=id
  ·subst cG;simp only[gE,cond_true,aI,eR,if_true] at h;rw[SE.keep_r,SE.keep_o] at h;rw[if_pos rfl];exact h
  ·rw[ej cG,cond_false] at h;simp only[aI,eR] at h;rw[if_neg cG] at h ⊢;exact h
 ·simp only[gA,lY];simp only[eR] at h;split
  ·rename_i e;rw[if_pos e] at h;exact h
  ·rename_i e;rw[if_neg e] at h;exact h
def ade (lo:List Nat)(a:PC):PT:=sx a [] .id (fun _ s=>.next (s.keep [] lo)) (fun _ id s=>.exit id (s.keep [] lo))
def qo (lo:List Nat)(a:PC):PT:=Ei ⟨⟨0,lo⟩,[(cN,⟨0,lo⟩)]⟩ (ade lo a)
theorem adf {T:cI}{lo:List Nat}{a:PC}{ρ:Env}{Q:Out→Prop}(hn:∀ρ1 ρ2,lo.map ρ2.o=lo.map ρ1.o→Q (.next ρ1)→Q (.next ρ2))(hx:∀ρ1 ρ2,lo.map ρ2.o=lo.map ρ1.o→Q (.exit cN ρ1)→Q (.exit cN ρ2))(h:aI T (qo lo a) ρ Q):aI T (ade lo a) ρ Q:=by
 refine JM ⟨fun ρ1 ρ2 ha hq=>hn ρ1 ρ2 (Je ha fun t ht=>ht) hq,fun bX k ρ1 ρ2 hk ha hq=>?_,fun d hq=>hq⟩ h;simp only[bH] at hk;cases hb:Nat.beq cN bX<;>simp only[hb,cond_true,cond_false] at hk
 ·cases hk
 ·cases hk;have:=cW hb;subst this;exact hx ρ1 ρ2 (Je ha fun t ht=>ht) hq
theorem aP.eachR {T:cI}{e:PE}{ps lo:List Nat}{rt:Option PE}{a:PC}{ρ:Env}{Q:Out→Prop}(xs:List D)(he:(e.ev ρ).l=xs)(inv:Nat→List D→Prop)(h0:inv 0 (lo.map ρ.o))
 (step:∀k x vo,xs[k]?=some x→inv k vo→aI T (qo lo a) (ρ.put ps (partsOf ps x) lo vo) (su ρ lo rt (inv (k+1)) Q)) (done:∀vo,inv xs.length vo→Q (.next (ρ.put [] [] lo vo))):aP T (.each e ps lo rt a) ρ Q:=by
 refine .each xs he inv h0 (fun k x vo hx hi=>?_) done;have h:=adf (fun ρ1 ρ2 e hq=>by simp only[su] at hq ⊢;rw[e];exact hq) (fun ρ1 ρ2 e hq=>by simp only[su,if_true] at hq ⊢;rw[e];exact hq) (step k x vo hx hi);refine KZ (s:=.id) a (cl.ok_nil _) h (fun ρ' ab s' _ _ h=>?_) (fun ρ' ab bX s' _ _ h=>?_) (fun _ bX ρ' h=>h) (fun d h=>h)
 ·simp only[aI,su] at h;rw[SE.keep_o] at h;exact h
 ·simp only[aI,su] at h;rw[SE.keep_o] at h;exact h
theorem aP.meachR {T:cI}{J:Nat}{ps cO lo:List Nat}{a:PC}{ρ:Env}{Q:Out→Prop}(es:List (D×D))(he:ρ.o J=.tup [.list [],.map es])(inv:List D→List D→Prop)(h0:inv [] (lo.map ρ.o))
 (step:∀done x rest vo,(done++x::rest).Perm (il (.map es))→inv done vo→aI T (qo lo a) ((ρ.put ps (cO.map x.tget) lo vo).setO J (.tup [.list (done++[x]),.map es])) (fun y=>∃ρ',y=.next ρ'∧inv (done++[x]) (lo.map ρ'.o)))
 (last:∃vo,(∀done,done.Perm (il (.map es))→∀mM,inv done mM→mM=vo)∧Q (.next (ρ.put [] [] lo vo))):aP T (.meach J ps cO lo a) ρ Q:=by
 refine .meach es he inv h0 (fun done x rest vo hp hi=>?_) last;have h:=adf (fun ρ1 ρ2 e ⟨ρ',e1,hq⟩=>by cases e1;exact⟨_,rfl,by rw[e];exact hq⟩) (fun ρ1 ρ2 e ⟨ρ',e1,hq⟩=>by cases e1) (step done x rest vo hp hi);refine KZ (s:=.id) a (cl.ok_nil _) h (fun ρ' ab s' _ _ h=>?_) (fun ρ' ab bX s' _ _ h=>?_) (fun _ bX ρ' h=>?_) (fun d h=>?_)
 ·simp only[aI] at h;obtain⟨ρ2,e,h⟩:=h;injection e with e;subst e;rw[SE.keep_o] at h;exact⟨_,rfl,h⟩
 ·simp only[aI] at h;obtain⟨ρ2,e,h⟩:=h;cases e
 ·obtain⟨ρ2,e,_⟩:=h;cases e
 ·obtain⟨ρ2,e,_⟩:=h;cases e
theorem yn {T:cI}:∀(t:PT) {ρ:Env} {Q Q':Out→Prop},(∀x,Q x→Q' x)→aI T t ρ Q→aI T t ρ Q':=by
 intro t
 induction t with
 |next s=>intro ρ Q Q' h hx;exact h _ hx
 |exit id s=>intro ρ Q Q' h hx;exact h _ hx
 |ret e=>intro ρ Q Q' h hx;exact h _ hx
 |chk e k ih=>intro ρ Q Q' h hx;exact⟨hx.1,ih h hx.2⟩
 |ite c a b bm dC=>
  intro ρ Q Q' h hx;simp only[aI] at hx ⊢;split
  ·rename_i hc;rw[if_pos hc] at hx;exact bm h hx
  ·rename_i hc;rw[if_neg hc] at hx;exact dC h hx
 |call s gs dst f args k ih=>
  intro ρ Q Q' h hx;simp only[aI] at hx ⊢;split
  ·rename_i hc;rw[if_pos hc] at hx;obtain⟨d,hd,hx⟩:=hx;exact⟨d,hd,ih h hx⟩
  ·rename_i hc;rw[if_neg hc] at hx;exact ih h hx
 |callc s gs dst e args k ih=>
  intro ρ Q Q' h hx;simp only[aI] at hx ⊢;split
  ·rename_i hc;rw[if_pos hc] at hx;obtain⟨f,c,d,he,hd,hx⟩:=hx;exact⟨f,c,d,he,hd,ih h hx⟩
  ·rename_i hc;rw[if_neg hc] at hx;exact ih h hx
 |mcall s j f args k ih=>intro ρ Q Q' h hx;obtain⟨d,hd,hx⟩:=hx;exact⟨d,hd,ih h hx⟩
 |iteS s c lr lo a b k bm dC kr=>
  intro ρ Q Q' h hx
  have hq:∀x,kU (s.ev ρ) lr lo (gA (fun ρ'=>aI T k ρ' Q) Q) x→kU (s.ev ρ) lr lo (gA (fun ρ'=>aI T k ρ' Q') Q') x:=by
   intro x hx;cases x with
   |next ρ'=>exact kr h hx
   |exit id ρ'=>exact h _ hx
   |ret d=>exact h _ hx
  simp only[aI] at hx ⊢;split
  ·rename_i hc;rw[if_pos hc] at hx;exact bm hq hx
  ·rename_i hc;rw[if_neg hc] at hx;exact dC hq hx
 |blockS s id lr lo a k bm kr=>
  intro ρ Q Q' h hx;refine bm (fun x hx=>?_) hx;cases x with
  |next ρ'=>exact kr h hx
  |exit bX ρ'=>
   simp only[lY] at hx ⊢;split
   ·rename_i e;rw[if_pos e] at hx;exact kr h hx
   ·rename_i e;rw[if_neg e] at hx;exact h _ hx
  |ret d=>exact h _ hx
 |brk s c k ih=>
  intro ρ Q Q' h hx;refine aP.mono hx fun x hx=>?_;cases x with
  |next ρ'=>exact ih h hx
  |exit id ρ'=>exact h _ hx
  |ret d=>exact h _ hx
theorem aP.forRounds {T:cI}{id:Nat}{bC bB lr lo:List Nat}{a:PC}{ρ:Env}{Q:Out→Prop}(N:Nat)(str fy:Nat→List D)(h0:lr.map ρ.r=str 0∧lo.map ρ.o=fy 0)
 (step:∀k,k<N→aI T (round id bC bB lr lo a) (ρ.put lr (str k) lo (fy k)) (eR ρ id bC bB lr lo (fun vr vo=>vr=str (k+1)∧vo=fy (k+1)) Q))
 (last:aI T (round id bC bB lr lo a) (ρ.put lr (str N) lo (fy N)) (eR ρ id bC bB lr lo (fun _ _=>False) Q)):aP T (.block id bC bB (.loop lr lo a)) ρ Q:=by
 refine .forLoop (α:=Nat) (fun k vr vo=>k≤N∧vr=str k∧vo=fy k) (fun k=>N-k) 0 ⟨nK _,h0.1,h0.2⟩ ?_;rintro k vr vo ⟨hk,rfl,rfl⟩;have mono:∀{K K':List D→List D→Prop},(∀a b,K a b→K' a b)→∀x,eR ρ id bC bB lr lo K Q x→eR ρ id bC bB lr lo K' Q x:=by
  intro K K' h x hx;cases x with
  |next ρ'=>exact h _ _ hx
  |exit bX ρ'=>exact hx
  |ret d=>exact hx
 by_cases ah:k<N
 ·exact yn _ (mono fun a b ⟨h1,h2⟩=>⟨k+1,by omega,by omega,h1,h2⟩) (step k ah)
 ·obtain rfl:k=N:=by omega
  exact yn _ (mono fun a b h=>h.elim) last
theorem R4 {ρ:Env}{id:Nat}{bC bB lr lo:List Nat}{K K':List D→List D→Prop}{Q:Out→Prop}(h:∀a b,K a b→K' a b):∀x,eR ρ id bC bB lr lo K Q x→eR ρ id bC bB lr lo K' Q x:=by
 intro x hx;cases x with
 |next ρ'=>exact h _ _ hx
 |exit bX ρ'=>exact hx
 |ret d=>exact hx
theorem aP.scan {T:cI}{id:Nat}{bC bB lr lo:List Nat}{a:PC}{ρ:Env}{Q:Out→Prop}(N:Nat)(ok:Nat→Prop)(str fy:Nat→List D)(h0:lr.map ρ.r=str 0∧lo.map ρ.o=fy 0)
 (step:∀k,k<N→(∀j,j<k→ok j)→ok k→aI T (round id bC bB lr lo a) (ρ.put lr (str k) lo (fy k)) (eR ρ id bC bB lr lo (fun vr vo=>vr=str (k+1)∧vo=fy (k+1)) Q))
 (bad:∀k,k<N→(∀j,j<k→ok j)→¬ok k→aI T (round id bC bB lr lo a) (ρ.put lr (str k) lo (fy k)) (eR ρ id bC bB lr lo (fun _ _=>False) Q))
 (last:(∀j,j<N→ok j)→aI T (round id bC bB lr lo a) (ρ.put lr (str N) lo (fy N)) (eR ρ id bC bB lr lo (fun _ _=>False) Q)):aP T (.block id bC bB (.loop lr lo a)) ρ Q:=by
 refine .forLoop (α:=Nat) (fun k vr vo=>k≤N∧(∀j,j<k→ok j)∧vr=str k∧vo=fy k) (fun k=>N-k) 0 ⟨nK _,fun j hj=>by omega,h0.1,h0.2⟩ ?_;rintro k vr vo ⟨hk,hj,rfl,rfl⟩;by_cases ah:k<N
 ·by_cases aB:ok k
  ·refine yn _ (R4 fun a b ⟨h1,h2⟩=>⟨k+1,by omega,by omega,fun j Iy=>?_,h1,h2⟩) (step k ah hj aB);by_cases e:j=k
   ·subst e;exact aB
   ·exact hj j (by omega)
  ·exact yn _ (R4 fun a b h=>h.elim) (bad k ah hj aB)
 ·obtain rfl:k=N:=by omega
  exact yn _ (R4 fun a b h=>h.elim) (last hj)
def ax (n:Nat)(e:PE):PE:=.mk ((List.range n).map fun i=>.cell e i)
def ke (n:Nat)(d:D):D:=.agg ((List.range n).flatMap fun i=>(d.c i).cells)
theorem ag6 (ρ:Env)(n:Nat)(e:PE):(ax n e).ev ρ=ke n (e.ev ρ):=by
 have key:∀l:List Nat,PE.evc ρ (l.map fun i=>.cell e i)=l.flatMap fun i=>((e.ev ρ).c i).cells:=by
  intro l
  induction l with
  |nil=>rfl
  |cons i l ih=>simp only[gU,PE.evc,PE.ev,vT,ih]
 show D.agg _=_;rw[key];rfl
end Cx
namespace Cx
open Go Go.RowKit
def aN (n:Int):Prop:=-9223372036854775808≤n∧n≤9223372036854775807
def ints (l:List Int):D:=.list (l.map .int)
theorem bL {n:Int}(h:-9223372036854775808≤n∧n≤9223372036854775807):IntKind.i64.wrap n=n:=by
 simp only[IntKind.wrap,IntKind.signed,IntKind.bits];simp;split<;>omega
theorem DTy.int_inv {k:IntKind}{d:D}(h:DTy (.int k) d):∃n,d=.v (.int k n)∧k.min≤n∧n≤k.max:=by
 cases h with
 |int k n h1 h2=>exact⟨n,rfl,h1,h2⟩
 |other t d h=>exact h.elim
theorem DTy.i64_inv {d:D}(h:DTy (.int .i64) d):∃n,d=.int n∧aN n:=by
 obtain⟨n,rfl,h1,h2⟩:=h.int_inv;exact⟨n,rfl,by simpa [IntKind.min,IntKind.max,IntKind.signed,IntKind.bits] using h1,by simpa [IntKind.min,IntKind.max,IntKind.signed,IntKind.bits] using h2⟩
theorem DTy.bool_inv {d:D}(h:DTy .bool d):∃b,d=.bool b:=by
 cases h with
 |bool b=>exact⟨b,rfl⟩
 |other t d h=>exact h.elim
theorem DTy.slice_inv {e:Ty}{d:D}(h:DTy (.slice e) d):∃xs,d=.list xs∧xs.length≤maxLen∧∀x,x∈xs→DTy e.unf x:=by
 cases h with
 |slice e xs hm h=>exact⟨xs,rfl,hm,h⟩
 |other t d h=>exact h.elim
theorem DTy.agg_inv {ts:List Ty}{d:D}(h:DTy (.agg ts) d):∃ds,d=.agg ds∧DTys ts ds:=by
 cases h with
 |agg ts ds h=>exact⟨ds,rfl,h⟩
 |other t d h=>exact h.elim
theorem DTys.cons_inv {t:Ty}{ts:List Ty}{ds:List D}(h:DTys (t::ts) ds):∃d ds',ds=d::ds'∧DTy t d∧DTys ts ds':=by
 cases h with
 |cons h hs=>exact⟨_,_,rfl,h,hs⟩
theorem DTys.nil_inv {ds:List D}(h:DTys [] ds):ds=[]:=by cases h;rfl
theorem jW {α:Type}{enc:α→D}{P:α→Prop}{xs:List D}(h:∀x,x∈xs→∃a,x=enc a∧P a):∃l:List α,xs=l.map enc∧∀a,a∈l→P a:=by
 induction xs with
 |nil=>exact⟨[],rfl,fun _ h=>nomatch h⟩
 |cons x xs ih=>
  obtain⟨l,hl,hp⟩:=ih fun y hy=>h y (dj _ hy);obtain⟨a,ha,pa⟩:=h x (dq ..)
  exact⟨a::l,by rw[hl,ha];rfl,fun b hb=>by
   rcases cD.1 hb with e|hb
   ·rw[e];exact pa
   ·exact hp b hb⟩
theorem DTy.ints_inv {d:D}(h:DTy (.slice (.int .i64)) d):∃l:List Int,d=ints l∧l.length≤maxLen∧∀x,x∈l→aN x:=by
 obtain⟨xs,rfl,hm,hx⟩:=h.slice_inv;obtain⟨l,rfl,hl⟩:=jW (enc:=D.int) (P:=aN) fun x hh=>(hx x hh).i64_inv;exact⟨l,rfl,by simpa using hm,hl⟩
theorem Pr:maxLen=9223372036854775807:=rfl
section
variable (ρ:Env) (T:cI)
@[simp] theorem ayt (t:Nat):PE.ev ρ (.r t)=ρ.r t:=_root_.id rfl
@[simp] theorem ayq (t:Nat):PE.ev ρ (.o t)=ρ.o t:=_root_.id rfl
@[simp] theorem ayb (d:D):PE.ev ρ (.con d)=d:=_root_.id rfl
@[simp] theorem ax8 (e:PE)(i:Nat):PE.ev ρ (.cell e i)=(PE.ev ρ e).c i:=_root_.id rfl
@[simp] theorem ayD (e:PE)(a n:Nat):PE.ev ρ (.sub e a n)=.agg (((PE.ev ρ e).cells.drop a).take n):=_root_.id rfl
@[simp] theorem ayw (e x:PE)(n:Nat):PE.ev ρ (.setc e n x)=.agg (bO (PE.ev ρ e).cells n (PE.ev ρ x).cells):=_root_.id rfl
@[simp] theorem ayj (es:List PE):PE.ev ρ (.mk es)=.agg (PE.evc ρ es):=_root_.id rfl
@[simp] theorem ax3 (op:BinOp)(k:IntKind)(x y:PE):PE.ev ρ (.ai op k x y)=.v (.int k (cP op k (PE.ev ρ x).i (PE.ev ρ y).i)):=_root_.id rfl
@[simp] theorem ax9 (op:BinOp)(x y:PE):PE.ev ρ (.ci op x y)=.v (.bool (je op (PE.ev ρ x).i (PE.ev ρ y).i)):=_root_.id rfl
@[simp] theorem ax7 (op:BinOp)(x y:PE):PE.ev ρ (.cb op x y)=.v (.bool (zr op (PE.ev ρ x).b (PE.ev ρ y).b)):=_root_.id rfl
@[simp] theorem ayd (op:BinOp)(x y:PE):PE.ev ρ (.cs op x y)=.v (.bool (zu op (PE.ev ρ x).s (PE.ev ρ y).s)):=_root_.id rfl
@[simp] theorem ayo (x:PE):PE.ev ρ (.nt x)=.v (.bool (!(PE.ev ρ x).b)):=_root_.id rfl
@[simp] theorem ayc (k:IntKind)(x:PE):PE.ev ρ (.conv k x)=.v (.int k (k.wrap (PE.ev ρ x).i)):=_root_.id rfl
@[simp] theorem ayr (c a b:PE):PE.ev ρ (.pick c a b)=if(PE.ev ρ c).b=true then PE.ev ρ a else PE.ev ρ b:=by
  simp only[PE.ev];cases(PE.ev ρ c).b<;>rfl
@[simp] theorem ayk (n:Nat)(e:PE):PE.ev ρ (ax n e)=ke n (PE.ev ρ e):=ag6 ρ n e
@[simp] theorem ax6 (x:PE):PE.ev ρ (.bytes x)=.list ((PE.ev ρ x).s.data.toList.map fun b=>.v (.int .u8 b.toNat)):=_root_.id rfl
@[simp] theorem ayg (x:PE):PE.ev ρ (.llen x)=.v (.int .i64 (PE.ev ρ x).l.length):=_root_.id rfl
@[simp] theorem ayA (x:PE):PE.ev ρ (.slen x)=.v (.int .i64 (PE.ev ρ x).s.size):=_root_.id rfl
@[simp] theorem ayl (x:PE):PE.ev ρ (.mlen x)=.v (.int .i64 (PE.ev ρ x).m.length):=_root_.id rfl
@[simp] theorem ayp (x i:PE):PE.ev ρ (.nth x i)=(PE.ev ρ x).l.getD (PE.ev ρ i).i.toNat .none:=_root_.id rfl
@[simp] theorem ayf (x i:PE):PE.ev ρ (.idx x i)=.v (.bool (decide (0≤(PE.ev ρ i).i∧(PE.ev ρ i).i<(PE.ev ρ x).l.length))):=_root_.id rfl
@[simp] theorem ayx (x i y:PE)(n:Nat):PE.ev ρ (.setn x i n y)=.list ((PE.ev ρ x).l.set (PE.ev ρ i).i.toNat (vA ((PE.ev ρ x).l.getD (PE.ev ρ i).i.toNat .none) n (PE.ev ρ y))):=_root_.id rfl
@[simp] theorem ax5 (x y:PE):PE.ev ρ (.app x y)=.list ((PE.ev ρ x).l++(PE.ev ρ y).l):=_root_.id rfl
@[simp] theorem ayi (es:List PE):PE.ev ρ (.lst es)=.list (PE.evs ρ es):=_root_.id rfl
@[simp] theorem ayv (x y:PE):PE.ev ρ (.rep x y)=.list (List.replicate (PE.ev ρ x).i.toNat (PE.ev ρ y)):=_root_.id rfl
@[simp] theorem ayz (x a b:PE):PE.ev ρ (.slc x a b)=.list (((PE.ev ρ x).l.take (PE.ev ρ b).i.toNat).drop (PE.ev ρ a).i.toNat):=_root_.id rfl
@[simp] theorem ayB (x a b:PE):PE.ev ρ (.slok x a b)=.v (.bool (decide (0≤(PE.ev ρ a).i∧(PE.ev ρ a).i≤(PE.ev ρ b).i∧(PE.ev ρ b).i≤(PE.ev ρ x).l.length))):=_root_.id rfl
@[simp] theorem ayu (x:PE):PE.ev ρ (.ref x)=.ref (PE.ev ρ x):=_root_.id rfl
@[simp] theorem aye (x:PE):PE.ev ρ (.deref x)=(PE.ev ρ x).deref:=_root_.id rfl
@[simp] theorem ayh (m k z:PE):PE.ev ρ (.look m k z)=(dR (PE.ev ρ k) (PE.ev ρ m).m).getD (PE.ev ρ z):=_root_.id rfl
@[simp] theorem ays (m k v:PE):PE.ev ρ (.put m k v)=.map (dc (PE.ev ρ k) (PE.ev ρ v) (PE.ev ρ m).m):=_root_.id rfl
@[simp] theorem aym (x y:PE):PE.ev ρ (.mn x y)=if(PE.ev ρ y).i<(PE.ev ρ x).i then PE.ev ρ y else PE.ev ρ x:=by
  simp only[PE.ev];by_cases h:(PE.ev ρ y).i<(PE.ev ρ x).i<;>simp[h]
@[simp] theorem ayn (x y:PE):PE.ev ρ (.mx x y)=if(PE.ev ρ y).i>(PE.ev ρ x).i then PE.ev ρ y else PE.ev ρ x:=by
  simp only[PE.ev];by_cases h:(PE.ev ρ y).i>(PE.ev ρ x).i<;>simp[h]
@[simp] theorem ayF (es:List PE):PE.ev ρ (.tup es)=.tup (PE.evs ρ es):=_root_.id rfl
@[simp] theorem ayE (x:PE)(i:Nat):PE.ev ρ (.tget x i)=(PE.ev ρ x).tget i:=_root_.id rfl
@[simp] theorem aya (f:Nat)(es:List PE):PE.ev ρ (.clo f es)=.clo f (PE.evs ρ es):=_root_.id rfl
@[simp] theorem ax4 (x y:PE):PE.ev ρ (.an x y)=.v (.bool ((PE.ev ρ x).b&&(PE.ev ρ y).b)):=_root_.id rfl
@[simp] theorem ayJ:PE.evs ρ []=[]:=_root_.id rfl
@[simp] theorem ayI (e:PE)(es:List PE):PE.evs ρ (e::es)=PE.ev ρ e::PE.evs ρ es:=_root_.id rfl
@[simp] theorem ayH:PE.evc ρ []=[]:=_root_.id rfl
@[simp] theorem ayG (e:PE)(es:List PE):PE.evc ρ (e::es)=(PE.ev ρ e).cells++PE.evc ρ es:=_root_.id rfl
@[simp] theorem MO (x:Bool):(D.bool x).b=x:=_root_.id rfl
@[simp] theorem axX (k:IntKind)(n:Int):(D.v (.int k n)).i=n:=_root_.id rfl
@[simp] theorem axN (n:Int):(D.int n).i=n:=_root_.id rfl
@[simp] theorem axT (x:List D):(D.list x).l=x:=_root_.id rfl
@[simp] theorem axR (l:List Int):(ints l).l=l.map .int:=_root_.id rfl
@[simp] theorem axU (x:List (D×D)):(D.map x).m=x:=_root_.id rfl
@[simp] theorem axF (x:List D)(i:Nat):(D.agg x).c i=x.getD i .none:=_root_.id rfl
@[simp] theorem axG (x:List D):(D.agg x).cells=x:=_root_.id rfl
@[simp] theorem axS (x:List D):(D.list x).cells=[.list x]:=_root_.id rfl
@[simp] theorem axQ (x:List Int):(ints x).cells=[ints x]:=_root_.id rfl
@[simp] theorem axM (n:Int):(D.int n).cells=[.int n]:=_root_.id rfl
@[simp] theorem axI (n:Bool):(D.bool n).cells=[.bool n]:=_root_.id rfl
@[simp] theorem axW (x:List D)(i:Nat):(D.tup x).tget i=x.getD i .none:=_root_.id rfl
@[simp] theorem axV (x:D):(D.ref x).deref=x:=_root_.id rfl
@[simp] theorem aAI (s:SE)(t:Nat):(s.ev ρ).r t=PE.ev ρ (s.getR t):=_root_.id rfl
@[simp] theorem aAH (s:SE)(t:Nat):(s.ev ρ).o t=PE.ev ρ (s.getO t):=_root_.id rfl
@[simp] theorem ayT (o:List (Nat×PE))(u:Nat):SE.getR ⟨[],o⟩ u=.r u:=_root_.id rfl
@[simp] theorem ayS (t:Nat)(e:PE)(r o:List (Nat×PE))(u:Nat):SE.getR ⟨(t,e)::r,o⟩ u=if t=u then e else SE.getR ⟨r,o⟩ u:=by
  simp only[SE.getR,bH];by_cases h:t=u
  ·subst h;simp
  ·simp[ej h,h]
@[simp] theorem ayR (r:List (Nat×PE))(u:Nat):SE.getO ⟨r,[]⟩ u=.o u:=_root_.id rfl
@[simp] theorem ayQ (t:Nat)(e:PE)(r o:List (Nat×PE))(u:Nat):SE.getO ⟨r,(t,e)::o⟩ u=if t=u then e else SE.getO ⟨r,o⟩ u:=by
  simp only[SE.getO,bH];by_cases h:t=u
  ·subst h;simp
  ·simp[ej h,h]
@[simp] theorem setR_r (t u:Nat)(d:D):(ρ.setR t d).r u=if u=t then d else ρ.r u:=Env.setR_r ρ t u d
@[simp] theorem aAO (t u:Nat)(d:D):(ρ.setR t d).o u=ρ.o u:=_root_.id rfl
@[simp] theorem setO_o (t u:Nat)(d:D):(ρ.setO t d).o u=if u=t then d else ρ.o u:=Env.setO_o ρ t u d
@[simp] theorem aAN (t u:Nat)(d:D):(ρ.setO t d).r u=ρ.r u:=_root_.id rfl
@[simp] theorem aAx (lr lo:List Nat)(vr vo:List D)(u:Nat):(ρ.put lr vr lo vo).r u=putL ρ.r lr vr u:=_root_.id rfl
@[simp] theorem aAw (lr lo:List Nat)(vr vo:List D)(u:Nat):(ρ.put lr vr lo vo).o u=putL ρ.o lo vo u:=_root_.id rfl
@[simp] theorem join_r (ρ':Env)(lr lo:List Nat)(u:Nat):(ρ.join lr lo ρ').r u=if u∈lr then ρ'.r u else ρ.r u:=Env.join_r ρ ρ' lr lo u
@[simp] theorem join_o (ρ':Env)(lr lo:List Nat)(u:Nat):(ρ.join lr lo ρ').o u=if u∈lo then ρ'.o u else ρ.o u:=Env.join_o ρ ρ' lr lo u
@[simp] theorem aAu (f:Nat→D)(i:Nat)(is:List Nat)(x:D)(xs:List D)(u:Nat):putL f (i::is) (x::xs) u=if u=i then x else putL f is xs u:=JN f i is x xs u
@[simp] theorem aAv (f:Nat→D)(xs:List D)(u:Nat):putL f [] xs u=f u:=JO f xs u
@[simp] theorem ax0 (ds:List D)(u:Nat):(kL ds).r u=ds.getD u .none:=_root_.id rfl
@[simp] theorem azk:holds [] ρ=true:=_root_.id rfl
@[simp] theorem azj (g:Nat×Bool)(gs:List (Nat×Bool)):holds (g::gs) ρ=((ρ.r g.1).b==g.2&&holds gs ρ):=_root_.id rfl
variable (Q:Out→Prop)
@[simp] theorem aBn (s:SE):aI T (.next s) ρ Q=Q (.next (s.ev ρ)):=_root_.id rfl
@[simp] theorem aBk (id:Nat)(s:SE):aI T (.exit id s) ρ Q=Q (.exit id (s.ev ρ)):=_root_.id rfl
@[simp] theorem aBo (e:PE):aI T (.ret e) ρ Q=Q (.ret (e.ev ρ)):=_root_.id rfl
@[simp] theorem aBj (e:PE)(k:PT):aI T (.chk e k) ρ Q=((e.ev ρ).b=true∧aI T k ρ Q):=_root_.id rfl
@[simp] theorem aBl (c:PE)(a b:PT):aI T (.ite c a b) ρ Q=if(c.ev ρ).b=true then aI T a ρ Q else aI T b ρ Q:=_root_.id rfl
@[simp] theorem aBh (s:SE)(gs:List (Nat×Bool))(dst f:Nat)(args:List PE)(k:PT):aI T (.call s gs dst f args k) ρ Q=if holds gs (s.ev ρ)=true then ∃d,aq T f (PE.evs ρ args) d∧aI T k ((s.ev ρ).setR dst d) Q else aI T k (s.ev ρ) Q:=_root_.id rfl
@[simp] theorem aBm (s:SE)(c:PE)(lr lo:List Nat)(a b k:PT):aI T (.iteS s c lr lo a b k) ρ Q=if(c.ev ρ).b=true then aI T a (s.ev ρ) (kU (s.ev ρ) lr lo (gA (fun ρ'=>aI T k ρ' Q) Q)) else aI T b (s.ev ρ) (kU (s.ev ρ) lr lo (gA (fun ρ'=>aI T k ρ' Q) Q)):=_root_.id rfl
@[simp] theorem aBf (s:SE)(id:Nat)(lr lo:List Nat)(a k:PT):aI T (.blockS s id lr lo a k) ρ Q=aI T a (s.ev ρ) (lY (s.ev ρ) id lr lo (gA (fun ρ'=>aI T k ρ' Q) Q)):=_root_.id rfl
@[simp] theorem aBg (s:SE)(c:PC)(k:PT):aI T (.brk s c k) ρ Q=aP T c (s.ev ρ) (gA (fun ρ'=>aI T k ρ' Q) Q):=_root_.id rfl
variable (K:Env→Prop) (id:Nat) (lr lo bC bB:List Nat) (K2:List D→List D→Prop)
@[simp] theorem aAL (ρ':Env):gA K Q (.next ρ')=K ρ':=_root_.id rfl
@[simp] theorem aAK (i:Nat)(ρ':Env):gA K Q (.exit i ρ')=Q (.exit i ρ'):=_root_.id rfl
@[simp] theorem aAM (d:D):gA K Q (.ret d)=Q (.ret d):=_root_.id rfl
@[simp] theorem azC (ρ':Env):kU ρ lr lo Q (.next ρ')=Q (.next (ρ.join lr lo ρ')):=_root_.id rfl
@[simp] theorem azD (d:D):kU ρ lr lo Q (.ret d)=Q (.ret d):=_root_.id rfl
@[simp] theorem axo (ρ':Env):lY ρ id lr lo Q (.next ρ')=Q (.next (ρ.join lr lo ρ')):=_root_.id rfl
@[simp] theorem axn (i:Nat)(ρ':Env):lY ρ id lr lo Q (.exit i ρ')=if i=id then Q (.next (ρ.join lr lo ρ')) else Q (.exit i ρ'):=_root_.id rfl
@[simp] theorem axp (d:D):lY ρ id lr lo Q (.ret d)=Q (.ret d):=_root_.id rfl
@[simp] theorem aAD (ρ':Env):eR ρ id bC bB lr lo K2 Q (.next ρ')=K2 (lr.map ρ'.r) (lo.map ρ'.o):=_root_.id rfl
@[simp] theorem aAC (i:Nat)(ρ':Env):eR ρ id bC bB lr lo K2 Q (.exit i ρ')=if i=id then Q (.next (ρ.put bC (bC.map ρ'.r) bB (bB.map ρ'.o))) else Q (.exit i ρ'):=_root_.id rfl
@[simp] theorem aAE (d:D):eR ρ id bC bB lr lo K2 Q (.ret d)=Q (.ret d):=_root_.id rfl
@[simp] theorem aBi (s:SE)(gs:List (Nat×Bool))(dst:Nat)(e:PE)(args:List PE)(k:PT):aI T (.callc s gs dst e args k) ρ Q=if holds gs (s.ev ρ)=true then ∃f caps d,e.ev ρ=.clo f caps∧aq T f (PE.evs ρ args++caps) d∧aI T k ((s.ev ρ).setR dst d) Q else aI T k (s.ev ρ) Q:=_root_.id rfl
@[simp] theorem axZ (rt:Option PE)(K3:List D→Prop)(ρ':Env):su ρ lo rt K3 Q (.next ρ')=K3 (lo.map ρ'.o):=_root_.id rfl
@[simp] theorem axY (rt:Option PE)(K3:List D→Prop)(i:Nat)(ρ':Env):su ρ lo rt K3 Q (.exit i ρ')=if i=cN then ∃e,rt=some e∧Q (.ret (e.ev (ρ.put [] [] lo (lo.map ρ'.o)))) else Q (.exit i (ρ.put [] [] lo (lo.map ρ'.o))):=_root_.id rfl
@[simp] theorem ax1 (J:Nat)(ds:List D)(u:Nat):(zC J ds).r u=(D.none::ds).getD u .none:=_root_.id rfl
theorem ag3 (J:Nat)(ds:List D)(u:Nat):(zC J ds).o u=if u=J then .list [] else .none:=by
 show(bif Nat.beq u J then D.list [] else .none)=_;by_cases h:u=J
 ·subst h;simp
 ·simp[ej h,h]
@[simp] theorem aAs (p q:Nat)(x:D):partsOf [p,q] x=[x.tget 0,x.tget 1]:=_root_.id rfl
end
section
variable (k:IntKind) (a b:Int)
@[simp] theorem axg:cP .add k a b=k.wrap (a+b):=_root_.id rfl
@[simp] theorem axk:cP .sub k a b=k.wrap (a-b):=_root_.id rfl
@[simp] theorem axh:cP .mul k a b=k.wrap (a*b):=_root_.id rfl
@[simp] theorem axi:cP .quo k a b=k.wrap (a.tdiv b):=_root_.id rfl
@[simp] theorem axj:cP .rem k a b=a.tmod b:=_root_.id rfl
@[simp] theorem axx:je .eql a b=(a==b):=_root_.id rfl
@[simp] theorem axC:je .neq a b=(a !=b):=_root_.id rfl
@[simp] theorem axB:je .lss a b=decide (a<b):=_root_.id rfl
@[simp] theorem axA:je .leq a b=decide (a≤b):=_root_.id rfl
@[simp] theorem axz:je .gtr a b=decide (a>b):=_root_.id rfl
@[simp] theorem axy:je .geq a b=decide (a≥b):=_root_.id rfl
variable (x y:Bool)
@[simp] theorem axq:zr .eql x y=(x==y):=_root_.id rfl
@[simp] theorem axr:zr .neq x y=(!(x==y)):=_root_.id rfl
end
theorem aq.of_tree {tab:Nat→Option PC}{ext:Nat→Option (aQ→List D→Option D)}{f:Nat}{pc:PC}{t:PT}{ds:List D}{d:D}(hx:ext f=none)(ht:tab f=some pc)(he:tree pc=t)(h:aI (dV tab ext) t (kL ds) (fun x=>x=.ret d)):aq (dV tab ext) f ds d:=
 .of_pc hx ht (Lc (he▸h))
@[simp] theorem axP (n:Int):D.v (.int .i64 n)=D.int n:=_root_.id rfl
@[simp] theorem axK (b:Bool):D.v (.bool b)=D.bool b:=_root_.id rfl
@[simp] theorem axO (a b:Int):(D.int a=D.int b)=(a=b):=by
  apply propext;constructor
  ·intro h;injection h with h;injection h
  ·intro h;rw[h]
@[simp] theorem axJ (a b:Bool):(D.bool a=D.bool b)=(a=b):=by
  apply propext;constructor
  ·intro h;injection h with h;injection h
  ·intro h;rw[h]
section
variable (c:Prop) [Decidable c] (x y:D)
@[simp] theorem azA:(if c then x else y).b=if c then x.b else y.b:=by split<;>rfl
@[simp] theorem azB:(if c then x else y).i=if c then x.i else y.i:=by split<;>rfl
end
@[simp] theorem aBp:IntKind.i64.wrap 1=1:=bL (by omega)
@[simp] theorem aBq:IntKind.i64.wrap 0=0:=bL (by omega)
end Cx
namespace Cx
open Go
inductive Tm where
 |mk (op n:Int) (args:List Tm)
instance:Inhabited Tm:=⟨.mk 0 0 []⟩
namespace Tm
def op:Tm→Int|.mk o _ _=>o
def n:Tm→Int|.mk _ n _=>n
def args:Tm→List Tm|.mk _ _ aa=>aa
end Tm
mutual
def dO:Tm→D
 |.mk o n aa=>.agg [.int o,.int n,.list (HL aa)]
def HL:List Tm→List D
 |[]=>[]
 |t::ts=>dO t::HL ts
end
theorem MZ:∀l:List Tm,HL l=l.map dO
 |[]=>rfl
 |t::l=>by rw[HL,MZ l];rfl
theorem CC (t:Tm):dO t=.agg [.int t.op,.int t.n,.list (t.args.map dO)]:=by
 cases t with
 |mk o n aa=>rw[dO,MZ];rfl
inductive Tm.OK:Tm→Prop where
 |mk (o n:Int) (aa:List Tm) (h1:aN o) (h2:aN n) (h3:aa.length≤maxLen) (h:∀a,a∈aa→Tm.OK a):Tm.OK (.mk o n aa)
theorem DTy.trm_inv {d:D}(h:DTy .trmA d):∃t:Tm,d=dO t∧t.OK:=by
 suffices hs:∀(m:Nat) (d:D),sizeOf d≤m→DTy .trmA d→∃t:Tm,d=dO t∧t.OK from hs _ d (bk _) h
 intro m
 induction m with
 |zero=>
  intro d hm h;cases d<;>simp at hm
 |succ m ih=>
  intro d hm h;obtain⟨ds,rfl,hs⟩:=DTy.agg_inv h;obtain⟨d1,ds,rfl,h1,hs⟩:=hs.cons_inv;obtain⟨d2,ds,rfl,h2,hs⟩:=hs.cons_inv;obtain⟨d3,ds,rfl,h3,hs⟩:=hs.cons_inv;obtain rfl:=hs.nil_inv;obtain⟨o,rfl,b1⟩:=h1.i64_inv;obtain⟨n,rfl,b2⟩:=h2.i64_inv;obtain⟨xs,rfl,hl,hx⟩:=h3.slice_inv
  obtain⟨l,rfl,aB⟩:=jW (enc:=dO) (P:=Tm.OK) fun x hh=>ih x (by
   have:=List.sizeOf_lt_of_mem hh;simp at hm;omega) (hx x hh)
  exact⟨.mk o n l,by rw[dO,MZ],.mk o n l b1 b2 (by simpa using hl) aB⟩
theorem DTy.trms_inv {d:D}(h:DTy (.slice .trm) d):∃l:List Tm,d=.list (l.map dO)∧l.length≤maxLen∧∀t,t∈l→t.OK:=by
 obtain⟨xs,rfl,hl,hx⟩:=h.slice_inv;obtain⟨l,rfl,aB⟩:=jW (enc:=dO) (P:=Tm.OK) fun x hh=>DTy.trm_inv (hx x hh);exact⟨l,rfl,by simpa using hl,aB⟩
end Cx
namespace Cx
open Go
def Si (g:Nat)(zs:List Int):Nat→Option (Ty×D):=fun k=>bif Nat.beq k g then some (.agg (zs.map fun _=>.int .i64),.agg (zs.map fun z=>.v (.int .i64 z))) else none
theorem arn {C:Ctx}{g:Nat}{zs:List Int}{name:String}{W:World}(hC:C.glob=Si g zs)(hg:C.P.globalNamed name=some g)(hz:zs.all (fun z=>decide (IntKind.i64.min≤z)&&decide (z≤IntKind.i64.max))=true)
 (h:Lib.TabIs C.P W name .i64 zs):CtxOK C (nk W):=by
 refine⟨fun k x hx=>?_⟩;rw[hC] at hx;unfold Si at hx;cases hk:Nat.beq k g<;>simp only[hk,cond_true,cond_false] at hx
 ·cases hx
 cases hx;obtain rfl:=az hk
 have w5:Rep C.cap (nk W) (.agg (zs.map fun _=>.int .i64)) (.agg (zs.map fun z=>Value.int .i64 z).toArray) (.agg (zs.map fun z=>.v (.int .i64 z))):=by
  refine .agg _ _ _ (by simp) (by simp) (fun i t ht=>?_) (fun i t ht=>?_)
  ·rw[cC,aA] at ht;obtain⟨z,xg,rfl⟩:=ht;rw[aJ,aJ,cC,cC,xg];have:=bJ.1 hz z (lV xg);simp only[ao,decide_eq_true_eq] at this;exact .int _ _ this.1 this.2
  ·rw[cC,aA] at ht;obtain⟨z,_,rfl⟩:=ht;rfl
 refine .ref _ k 0 _ _ w5 fun j u hu=>?_;simp only[Value.cells,F1,cC,aA] at hu;obtain⟨z,xg,rfl⟩:=hu;have ah:=(eC.1 xg).1;have:=h.cell hg j ah;show W.cell? ⟨k,0+j,none⟩=_;rw[gF,this,aJ,xg];rfl
end Cx
namespace Cx
open Go Go.RowKit
def loops:PC→List PC
 |.seq a b=>loops a++loops b
 |.ite _ _ _ a b=>loops a++loops b
 |.block id lr lo (.loop Po Ph a)=>loops a++[.block id lr lo (.loop Po Ph a)]
 |.block _ _ _ a=>loops a
 |.loop _ _ a=>loops a
 |.each e ps lo rt a=>loops a++[.each e ps lo rt a]
 |.meach J ps cO lo a=>loops a++[.meach J ps cO lo a]
 |_=>[]
def Mw:PC→PC
 |.block _ _ _ (.loop _ _ a)=>a
 |.each _ _ _ _ a=>a
 |.meach _ _ _ _ a=>a
 |_=>.skip
def Jc (c:PC)(k:Nat):PC:=(loops c).getD k .skip
def rnd:PC→PT
 |.block id lr lo (.loop Po Ph a)=>round id lr lo Po Ph a
 |.each _ _ lo _ a=>qo lo a
 |.meach _ _ _ lo a=>qo lo a
 |_=>.next .id
inductive Shp where
 |lp (id:Nat) (bC bB lr lo:List Nat)
 |ea (lo:List Nat)
 |no
def Br:PC→Shp
 |.block id bC bB (.loop lr lo _)=>.lp id bC bB lr lo
 |.each _ _ lo _ _=>.ea lo
 |.meach _ _ _ lo _=>.ea lo
 |_=>.no
def told (c:PC):PT×List (Shp×PT):=(tree c,(loops c).map fun l=>(Br l,rnd l))
theorem K4 {o:Option PC}{t:PT}{l:List (Shp×PT)}(h:o.map told=some (t,l)):o=some (o.getD .skip)∧tree (o.getD .skip)=t∧∀k x,l[k]?=some x→(Br (Jc (o.getD .skip) k),rnd (Jc (o.getD .skip) k))=x:=by
 cases o with
 |none=>cases h
 |some c=>
  have h1:told c=(t,l):=by injection h
  unfold told at h1;injection h1 with h1 h2
  refine⟨rfl,h1,fun k x hx=>?_⟩;subst h2;simp only[cC,aA] at hx;obtain⟨y,hy,rfl⟩:=hx;have:Jc ((some c:Option PC).getD .skip) k=y:=by
   show(loops c).getD k .skip=y;rw[aJ,hy];rfl
  rw[this]
theorem aqn {c:PC}{id:Nat}{bC bB lr lo:List Nat}{t:PT}(h:(Br c,rnd c)=(.lp id bC bB lr lo,t)):round id bC bB lr lo (Mw c)=t:=by
 injection h with h1 h2
 subst h2;unfold Br at h1;split at h1
 ·cases h1;rfl
 all_goals cases h1
theorem agL {c:PC}{lo:List Nat}{t:PT}(h:(Br c,rnd c)=(.ea lo,t)):qo lo (Mw c)=t:=by
 injection h with h1 h2
 subst h2;unfold Br at h1;split at h1
 ·cases h1
 ·cases h1;rfl
 ·cases h1;rfl
 ·cases h1
def cG {α:Type}(x:α):α:=Classical.choose (⟨x,rfl⟩:∃y,y=x)
theorem Dj {α:Type}(x:α):cG x=x:=Ve (⟨x,rfl⟩:∃y,y=x)
def br (o:Option PC):Nat→PC:=fun k=>Mw (Jc (o.getD .skip) k)
abbrev ae (o:Option PC):PC:=cG (o.getD .skip)
abbrev bx (o:Option PC):Nat→PC:=cG (br o)
section
variable {o:Option PC} {F:(Nat→PC)→PT×List (Shp×PT)}
theorem arB (h:o.map told=some (F (br o))):o=some (ae o):=by unfold ae;rw[Dj];exact(K4 (t:=(F (br o)).1) (l:=(F (br o)).2) h).1
theorem bN (h:o.map told=some (F (br o))):tree (ae o)=(F (bx o)).1:=by unfold ae bx;rw[Dj,Dj];exact(K4 (t:=(F (br o)).1) (l:=(F (br o)).2) h).2.1
theorem bj (h:o.map told=some (F (br o)))(k:Nat){id:Nat}{bC bB lr lo:List Nat}{t:(Nat→PC)→PT}(hk:∀b,(F b).2[k]?=some (.lp id bC bB lr lo,t b)):round id bC bB lr lo (bx o k)=t (bx o):=by
 unfold bx;rw[Dj];exact aqn ((K4 (t:=(F (br o)).1) (l:=(F (br o)).2) h).2.2 k _ (hk _))
theorem Sp (h:o.map told=some (F (br o)))(k:Nat){lo:List Nat}{t:(Nat→PC)→PT}(hk:∀b,(F b).2[k]?=some (.ea lo,t b)):qo lo (bx o k)=t (bx o):=by
 unfold bx;rw[Dj];exact agL ((K4 (t:=(F (br o)).1) (l:=(F (br o)).2) h).2.2 k _ (hk _))
end
theorem aF {α:Type}{R:Nat→α→Prop}{f:Nat}{x:α}{l:List (Nat×α)}(h:R f x)(k:FT R l):FT R ((f,x)::l):=⟨h,k⟩
theorem Zq {α:Type}:∀{l:List (Nat×α)},(l.map (·.1)).Nodup→∀{k f:Nat} {x:α},l[k]?=some (f,x)→bH l f=some x
 |[],_,k,f,x,h=>by simp at h
 |y::l,hn,0,f,x,h=>by
  simp only[Lq,aU] at h;subst h;simp[bH]
 |y::l,hn,k+1,f,x,h=>by
  simp only[F0] at h;rw[gU,mS] at hn;have hm:f∈l.map (·.1):=dM.2 ⟨(f,x),lV h,rfl⟩;have hb:Nat.beq y.1 f=false:=by
   cases e:Nat.beq y.1 f with
   |false=>rfl
   |true=>rw[cW e] at hn;exact absurd hm hn.1
  simp only[bH,hb,cond_false];exact Zq hn.2 h
abbrev pT:PE:=.con (.bool true)
abbrev pF:PE:=.con (.bool false)
abbrev pN:PE:=.con .none
abbrev pL:PE:=.con (.list [])
abbrev pi (n:Int):PE:=.con (.int n)
abbrev bu (a b:PE):PE:=.ai .add .i64 a b
abbrev bK (a b:PE):PE:=.ai .sub .i64 a b
abbrev af (a b:PE):PE:=.ci .eql a b
abbrev aR (a b:PE):PE:=.ci .neq a b
abbrev aj (a b:PE):PE:=.ci .lss a b
abbrev bU (a b:PE):PE:=.ci .leq a b
abbrev aV (a b:PE):PE:=.ci .gtr a b
abbrev cX (a b:PE):PE:=.ci .geq a b
abbrev pc (a:PE)(i:Nat):PE:=.cell a i
abbrev pn (a b:PE):PE:=.nth a b
abbrev ar (a b:PE):PE:=.idx a b
abbrev z2:PE:=.con (.agg [(.int 0),(.int 0)])
abbrev z3:PE:=.con (.agg [(.int 0),(.int 0),(.int 0)])
abbrev z4:PE:=.con (.agg [(.int 0),(.int 0),(.int 0),(.int 0)])
abbrev z5:PE:=.con (.agg [(.int 0),(.int 0),(.int 0),(.int 0),(.int 0)])
abbrev z6:PE:=.con (.agg [(.int 0),(.int 0),(.int 0),(.int 0),(.int 0),(.int 0)])
abbrev z9:PE:=.con (.agg [(.int 0),(.int 0),(.int 0),(.int 0),(.int 0),(.int 0),(.int 0),(.int 0),(.int 0)])
abbrev FQ:PE:=.con (.agg [(.int 0),(.int 0),(.int 0),(.int 0),(.int 0),(.int 0),(.int 0),(.int 0),(.int 0),(.int 0),(.int 0),(.int 0),(.int 0),(.int 0),(.int 0)])
abbrev r0:PE:=.r 0
abbrev r1:PE:=.r 1
abbrev r2:PE:=.r 2
abbrev r3:PE:=.r 3
abbrev r4:PE:=.r 4
abbrev r5:PE:=.r 5
abbrev r6:PE:=.r 6
abbrev r7:PE:=.r 7
abbrev r8:PE:=.r 8
abbrev r9:PE:=.r 9
abbrev cM:PE:=.r 10
abbrev bF:PE:=.r 11
abbrev cg:PE:=.r 12
abbrev dD:PE:=.r 13
abbrev cj:PE:=.r 14
abbrev kZ:PE:=.r 15
abbrev dh:PE:=.r 16
abbrev qg:PE:=.r 17
abbrev kz:PE:=.r 18
abbrev jz:PE:=.r 19
abbrev eP:PE:=.r 20
abbrev rp:PE:=.r 21
abbrev J6:PE:=.r 22
abbrev mB:PE:=.r 23
abbrev oG:PE:=.r 24
abbrev iX:PE:=.r 25
abbrev jA:PE:=.r 26
abbrev fP:PE:=.r 27
abbrev qh:PE:=.r 28
abbrev mC:PE:=.r 29
abbrev oH:PE:=.r 30
abbrev rq:PE:=.r 31
abbrev A8:PE:=.r 32
abbrev A9:PE:=.r 33
abbrev r34:PE:=.r 34
abbrev Ba:PE:=.r 35
abbrev oI:PE:=.r 36
abbrev mD:PE:=.r 37
abbrev fQ:PE:=.r 38
abbrev xN:PE:=.r 39
abbrev qj:PE:=.r 40
abbrev tB:PE:=.r 41
abbrev ru:PE:=.r 42
abbrev rv:PE:=.r 43
abbrev xO:PE:=.r 44
abbrev ry:PE:=.r 45
abbrev J7:PE:=.r 46
abbrev J8:PE:=.r 47
abbrev mE:PE:=.r 48
abbrev qk:PE:=.r 49
abbrev mF:PE:=.r 50
abbrev la:PE:=.r 51
abbrev J9:PE:=.r 52
abbrev QT:PE:=.r 53
abbrev rz:PE:=.r 54
abbrev xP:PE:=.r 55
abbrev ql:PE:=.r 56
abbrev Bb:PE:=.r 57
abbrev Ev:PE:=.r 58
abbrev rA:PE:=.r 59
abbrev tC:PE:=.r 60
abbrev oJ:PE:=.r 61
abbrev nw:PE:=.r 62
abbrev Ew:PE:=.r 63
abbrev lL:PE:=.r 64
abbrev Bc:PE:=.r 65
abbrev r66:PE:=.r 66
abbrev rB:PE:=.r 67
abbrev Ka:PE:=.r 68
abbrev xQ:PE:=.r 69
abbrev QU:PE:=.r 70
abbrev Bd:PE:=.r 72
abbrev Ex:PE:=.r 73
abbrev QV:PE:=.r 74
abbrev Kb:PE:=.r 75
abbrev vh:PE:=.r 76
abbrev QW:PE:=.r 77
abbrev Kc:PE:=.r 78
abbrev r79:PE:=.r 79
abbrev vi:PE:=.r 80
abbrev vj:PE:=.r 81
abbrev lb:PE:=.r 82
abbrev QX:PE:=.r 84
abbrev r85:PE:=.r 85
abbrev r86:PE:=.r 86
abbrev Ey:PE:=.r 87
abbrev Kd:PE:=.r 88
abbrev r89:PE:=.r 89
abbrev r90:PE:=.r 90
abbrev Ke:PE:=.r 91
abbrev r92:PE:=.r 92
abbrev Kf:PE:=.r 93
abbrev r94:PE:=.r 94
abbrev r95:PE:=.r 95
abbrev r96:PE:=.r 96
abbrev r98:PE:=.r 98
abbrev Kg:PE:=.r 99
abbrev apK:PE:=.r 102
abbrev acp:PE:=.r 103
abbrev apL:PE:=.r 104
abbrev apM:PE:=.r 106
abbrev J5:PE:=.r 108
abbrev apN:PE:=.r 109
abbrev aAy:PE:=.r 110
abbrev QR:PE:=.r 112
abbrev apQ:PE:=.r 115
abbrev aAz:PE:=.r 119
abbrev apR:PE:=.r 120
abbrev acr:PE:=.r 121
abbrev apS:PE:=.r 123
abbrev acs:PE:=.r 127
abbrev apT:PE:=.r 129
abbrev o0:PE:=.o 0
abbrev o1:PE:=.o 1
abbrev o2:PE:=.o 2
abbrev o3:PE:=.o 3
abbrev o4:PE:=.o 4
abbrev o5:PE:=.o 5
abbrev o6:PE:=.o 6
abbrev o7:PE:=.o 7
abbrev o8:PE:=.o 8
abbrev o9:PE:=.o 9
abbrev cT:PE:=.o 10
abbrev mm:PE:=.o 11
abbrev Z1:PE:=.o 12
abbrev jy:PE:=.o 13
abbrev Jp:PE:=.o 14
abbrev uZ:PE:=.o 15
abbrev o16:PE:=.o 16
abbrev o17:PE:=.o 17
abbrev o18:PE:=.o 18
abbrev Z2:PE:=.o 28
abbrev Jq:PE:=.o 45
end Cx
