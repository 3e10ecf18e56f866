/-
  Shared texts of this claim.
-/
import Derived.Test.YtipjidjopglknaaGreatDoorNAI
import Derived.Lib.LaidTab
set_option linter.unusedSimpArgs false
set_option linter.unusedVariables false
noncomputable section
namespace Cx
open Go Go.RowKit
structure SE where
 r:List (Nat×PE)
 o:List (Nat×PE)
def SE.getR (s:SE)(t:Nat):PE:=match aV s.r t with|some e=>e|none=>.r t
def SE.getO (s:SE)(t:Nat):PE:=match aV s.o t with|some e=>e|none=>.o t
def SE.setR (s:SE)(t:Nat)(e:PE):SE:=⟨(t,e)::s.r,s.o⟩
def SE.setO (s:SE)(t:Nat)(e:PE):SE:=⟨s.r,(t,e)::s.o⟩
def SE.id:SE:=⟨[],[]⟩
def SE.ev (s:SE)(ρ:Env):Env:=⟨fun t=>(s.getR t).ev ρ,fun t=>(s.getO t).ev ρ⟩
def SE.join (s:SE)(lr lo:List Nat)(s':SE):SE:=⟨lr.map (fun t=>(t,s'.getR t))++s.r,lo.map (fun t=>(t,s'.getO t))++s.o⟩
theorem SE.setR_ev (s:SE)(t:Nat)(e:PE)(ρ:Env):(s.setR t e).ev ρ=(s.ev ρ).setR t (e.ev ρ):=by
 have h:(fun u=>((s.setR t e).getR u).ev ρ)=bT (fun u=>(s.getR u).ev ρ) t (e.ev ρ):=by
  funext u;simp only[SE.getR,SE.setR,aV,fj];by_cases h:t=u
  ·subst h;simp
  ·have h':¬u=t:=fun e=>h e.symm;simp[eH h,h']
 simp only[SE.ev,Env.setR];rw[h];rfl
theorem SE.setO_ev (s:SE)(t:Nat)(e:PE)(ρ:Env):(s.setO t e).ev ρ=(s.ev ρ).setO t (e.ev ρ):=by
 have h:(fun u=>((s.setO t e).getO u).ev ρ)=bT (fun u=>(s.getO u).ev ρ) t (e.ev ρ):=by
  funext u;simp only[SE.getO,SE.setO,aV,fj];by_cases h:t=u
  ·subst h;simp
  ·have h':¬u=t:=fun e=>h e.symm;simp[eH h,h']
 simp only[SE.ev,Env.setO];rw[h];rfl
theorem xm {f:Nat→PE}{l:List (Nat×PE)}{u:Nat}:∀(lr:List Nat),aV (lr.map (fun t=>(t,f t))++l) u=if u∈lr then some (f u) else aV l u
 |[]=>by simp
 |t::lr=>by
  simp only[gk,GG,aV,xm lr,cT];by_cases h:t=u
  ·subst h;simp
  ·have h':¬u=t:=fun e=>h e.symm;simp[eH h,h']
theorem SE.join_ev (s s':SE)(lr lo:List Nat)(ρ:Env):(s.join lr lo s').ev ρ=(s.ev ρ).join lr lo (s'.ev ρ):=by
 have h1:∀u,((s.join lr lo s').getR u).ev ρ=((s.ev ρ).join lr lo (s'.ev ρ)).r u:=by
  intro u;rw[Env.join_r];have e:aV (s.join lr lo s').r u=if u∈lr then some (s'.getR u) else aV s.r u:=xm lr;unfold SE.getR;rw[e];by_cases h:u∈lr
  ·simp only[h,if_true];rfl
  ·simp only[h,if_false];rfl
 have h2:∀u,((s.join lr lo s').getO u).ev ρ=((s.ev ρ).join lr lo (s'.ev ρ)).o u:=by
  intro u;rw[Env.join_o];have e:aV (s.join lr lo s').o u=if u∈lo then some (s'.getO u) else aV s.o u:=xm lo;unfold SE.getO;rw[e];by_cases h:u∈lo
  ·simp only[h,if_true];rfl
  ·simp only[h,if_false];rfl
 have e1:(fun u=>((s.join lr lo s').getR u).ev ρ)=((s.ev ρ).join lr lo (s'.ev ρ)).r:=funext h1;have e2:(fun u=>((s.join lr lo s').getO u).ev ρ)=((s.ev ρ).join lr lo (s'.ev ρ)).o:=funext h2;show Env.mk _ _=_;rw[e1,e2]
abbrev bW:=List (PE×Bool)
def bW.ok (ab:bW)(ρ:Env):Prop:=∀x,x∈ab→(x.1.ev ρ).b=x.2
def G1 (e:PE):bW→Option Bool
 |[]=>none
 |x::l=>bif PE.beq x.1 e then some x.2 else G1 e l
theorem Wm {e:PE}{ρ:Env}{b:Bool}:∀{ab:bW},ab.ok ρ→G1 e ab=some b→(e.ev ρ).b=b
 |[],_,h=>by cases h
 |x::l,av,h=>by
  simp only[G1] at h;cases hb:PE.beq x.1 e<;>simp only[hb,cond_true,cond_false] at h
  ·exact Wm (fun y hy=>av y (dy _ hy)) h
  ·cases h;rw[←PE.beq_eq _ _ hb];exact av x (dB ..)
def vA (ab:bW):PE→Option Bool
 |.con (.v (.bool b))=>some b
 |.nt x=>(vA ab x).map (!·)
 |e=>G1 e ab
theorem yf {ab:bW}{ρ:Env}(h:ab.ok ρ):∀{e:PE} {b:Bool},vA ab e=some b→(e.ev ρ).b=b
 |.con (.v (.bool b)),b',he=>by simp only[vA,aS] at he;subst he;rfl
 |.nt x,b',he=>by
  simp only[vA,az] at he;obtain⟨c,hc,rfl⟩:=he;simp only[PE.ev,D.b_bool,yf h hc]
 |e,b',he=>by
  unfold vA at he;split at he
  ·cases he;rfl
  ·rename_i x;simp only[az] at he;obtain⟨c,hc,rfl⟩:=he;simp only[PE.ev,D.b_bool,yf h hc]
  ·exact Wm h he
def tu (ab:bW)(c a b:PE):PE:=match vA ab c with|some true=>a|some false=>b|none=>.pick c a b
theorem QT {ab:bW}{ρ:Env}(h:ab.ok ρ)(c a b:PE):(tu ab c a b).ev ρ=(PE.pick c a b).ev ρ:=by
 unfold tu;split
 ·rename_i ht;simp[PE.ev,yf h ht]
 ·rename_i ht;simp[PE.ev,yf h ht]
 ·rfl
def Nh:PE→PE
 |.ref x=>x
 |x=>.deref x
theorem ahS (x:PE)(ρ:Env):(Nh x).ev ρ=(PE.deref x).ev ρ:=by unfold Nh;split<;>rfl
def SZ:PE→Nat→PE
 |.tup es,i=>es.getD i (.con .none)
 |x,i=>.tget x i
theorem asM (x:PE)(i:Nat)(ρ:Env):(SZ x i).ev ρ=(PE.tget x i).ev ρ:=by
 unfold SZ;split
 ·rename_i es;simp only[PE.ev,D.tget_tup,PE.evs_eq,aJ,ct];cases es[i]?<;>rfl
 ·rfl
def EP:PE→Bool
 |.ai ..|.ci ..|.cb ..|.cs ..|.sadd ..|.nt _|.conv ..|.llen _|.bytes _|.slen _|.mlen _|.idx ..|.sidx ..|.sok ..|.slok ..|.lst _|.app ..|.setn ..|.rep ..|.slc ..|.ref _|.has ..|.put ..|.an ..|.imp ..|.tup _|.clo ..=>true
 |.con (.v _)|.con (.list _)|.con (.map _)=>true
 |_=>false
theorem apL {e:PE}(h:EP e=true)(ρ:Env):(e.ev ρ).cells=[e.ev ρ]:=by
 unfold EP at h;split at h<;>first|rfl|cases h
def M6:PE→Nat→PE
 |.mk es,i=>bif es.all EP then es.getD i (.con .none) else .cell (.mk es) i
 |x,i=>.cell x i
theorem Xo {ρ:Env}:∀{es:List PE},es.all EP=true→PE.evc ρ es=PE.evs ρ es
 |[],_=>rfl
 |e::es,h=>by
  simp only[qJ,ao] at h;simp only[PE.evc,PE.evs,apL h.1,Xo h.2];rfl
theorem ag9 (x:PE)(i:Nat)(ρ:Env):(M6 x i).ev ρ=(PE.cell x i).ev ρ:=by
 unfold M6;split
 ·rename_i es;cases hc:es.all EP
  ·rfl
  ·simp only[cond_true,PE.ev,Xo hc,D.c_agg,PE.evs_eq,aJ,ct];cases es[i]?<;>rfl
 ·rfl
def Dw (s:SE):List (Nat×Bool)→PE
 |[]=>.con (.v (.bool true))
 |g::gs=>.an (bif g.2 then s.getR g.1 else .nt (s.getR g.1)) (Dw s gs)
theorem XR (s:SE)(ρ:Env):∀gs,((Dw s gs).ev ρ).b=holds gs (s.ev ρ)
 |[]=>rfl
 |g::gs=>by
  have ih:=XR s ρ gs;rw[amp,←ih];have e:((s.ev ρ).r g.1)=(s.getR g.1).ev ρ:=rfl;rw[e];cases hg:g.2
  ·simp only[Dw,hg,cond_false,PE.ev,D.b_bool];cases((s.getR g.1).ev ρ).b<;>rfl
  ·simp only[Dw,hg,cond_true,PE.ev,D.b_bool];cases((s.getR g.1).ev ρ).b<;>rfl
mutual
def PE.sub' (ab:bW)(s:SE):PE→PE
 |.r t=>s.getR t
 |.o j=>s.getO j
 |.con d=>.con d
 |.cell e i=>M6 (PE.sub' ab s e) i
 |.sub e a b=>.sub (PE.sub' ab s e) a b
 |.setc e q x=>.setc (PE.sub' ab s e) q (PE.sub' ab s x)
 |.mk es=>.mk (PE.subs' ab s es)
 |.ai op k x y=>.ai op k (PE.sub' ab s x) (PE.sub' ab s y)
 |.ci op x y=>.ci op (PE.sub' ab s x) (PE.sub' ab s y)
 |.cb op x y=>.cb op (PE.sub' ab s x) (PE.sub' ab s y)
 |.cs op x y=>.cs op (PE.sub' ab s x) (PE.sub' ab s y)
 |.sadd x y=>.sadd (PE.sub' ab s x) (PE.sub' ab s y)
 |.nt x=>.nt (PE.sub' ab s x)
 |.conv k x=>.conv k (PE.sub' ab s x)
 |.pick c a b=>tu ab (PE.sub' ab s c) (PE.sub' ab s a) (PE.sub' ab s b)
 |.llen x=>.llen (PE.sub' ab s x)
 |.bytes x=>.bytes (PE.sub' ab s x)
 |.slen x=>.slen (PE.sub' ab s x)
 |.mlen x=>.mlen (PE.sub' ab s x)
 |.nth x y=>.nth (PE.sub' ab s x) (PE.sub' ab s y)
 |.idx x y=>.idx (PE.sub' ab s x) (PE.sub' ab s y)
 |.sidx x y=>.sidx (PE.sub' ab s x) (PE.sub' ab s y)
 |.sok x y=>.sok (PE.sub' ab s x) (PE.sub' ab s y)
 |.setn x y n z=>.setn (PE.sub' ab s x) (PE.sub' ab s y) n (PE.sub' ab s z)
 |.app x y=>.app (PE.sub' ab s x) (PE.sub' ab s y)
 |.lst es=>.lst (PE.subs' ab s es)
 |.rep x y=>.rep (PE.sub' ab s x) (PE.sub' ab s y)
 |.slc x y z=>.slc (PE.sub' ab s x) (PE.sub' ab s y) (PE.sub' ab s z)
 |.slok x y z=>.slok (PE.sub' ab s x) (PE.sub' ab s y) (PE.sub' ab s z)
 |.ref x=>.ref (PE.sub' ab s x)
 |.deref x=>Nh (PE.sub' ab s x)
 |.look x y z=>.look (PE.sub' ab s x) (PE.sub' ab s y) (PE.sub' ab s z)
 |.has x y=>.has (PE.sub' ab s x) (PE.sub' ab s y)
 |.put x y z=>.put (PE.sub' ab s x) (PE.sub' ab s y) (PE.sub' ab s z)
 |.mn x y=>.mn (PE.sub' ab s x) (PE.sub' ab s y)
 |.mx x y=>.mx (PE.sub' ab s x) (PE.sub' ab s y)
 |.tup es=>.tup (PE.subs' ab s es)
 |.tget x i=>SZ (PE.sub' ab s x) i
 |.clo f es=>.clo f (PE.subs' ab s es)
 |.an x y=>.an (PE.sub' ab s x) (PE.sub' ab s y)
 |.imp c x=>.nt (.an (Dw s c) (.nt (PE.sub' ab s x)))
def PE.subs' (ab:bW)(s:SE):List PE→List PE
 |[]=>[]
 |e::es=>PE.sub' ab s e::PE.subs' ab s es
end
mutual
theorem PE.sub_ev {ab:bW}{ρ:Env}(h:ab.ok ρ)(s:SE):∀(e:PE),(PE.sub' ab s e).ev ρ=e.ev (s.ev ρ)
 |.r t=>rfl
 |.o j=>rfl
 |.con d=>rfl
 |.cell e i=>by simp only[PE.sub',ag9,PE.ev,PE.sub_ev h s e]
 |.sub e a b=>by simp only[PE.sub',PE.ev,PE.sub_ev h s e]
 |.setc e q x=>by simp only[PE.sub',PE.ev,PE.sub_ev h s e,PE.sub_ev h s x]
 |.mk es=>by simp only[PE.sub',PE.ev,PE.subc_ev h s es]
 |.ai op k x y=>by simp only[PE.sub',PE.ev,PE.sub_ev h s x,PE.sub_ev h s y]
 |.ci op x y=>by simp only[PE.sub',PE.ev,PE.sub_ev h s x,PE.sub_ev h s y]
 |.cb op x y=>by simp only[PE.sub',PE.ev,PE.sub_ev h s x,PE.sub_ev h s y]
 |.cs op x y=>by simp only[PE.sub',PE.ev,PE.sub_ev h s x,PE.sub_ev h s y]
 |.sadd x y=>by simp only[PE.sub',PE.ev,PE.sub_ev h s x,PE.sub_ev h s y]
 |.nt x=>by simp only[PE.sub',PE.ev,PE.sub_ev h s x]
 |.conv k x=>by simp only[PE.sub',PE.ev,PE.sub_ev h s x]
 |.pick c a b=>by simp only[PE.sub',QT h,PE.ev,PE.sub_ev h s c,PE.sub_ev h s a,PE.sub_ev h s b]
 |.llen x=>by simp only[PE.sub',PE.ev,PE.sub_ev h s x]
 |.bytes x=>by simp only[PE.sub',PE.ev,PE.sub_ev h s x]
 |.slen x=>by simp only[PE.sub',PE.ev,PE.sub_ev h s x]
 |.mlen x=>by simp only[PE.sub',PE.ev,PE.sub_ev h s x]
 |.nth x y=>by simp only[PE.sub',PE.ev,PE.sub_ev h s x,PE.sub_ev h s y]
 |.idx x y=>by simp only[PE.sub',PE.ev,PE.sub_ev h s x,PE.sub_ev h s y]
 |.sidx x y=>by simp only[PE.sub',PE.ev,PE.sub_ev h s x,PE.sub_ev h s y]
 |.sok x y=>by simp only[PE.sub',PE.ev,PE.sub_ev h s x,PE.sub_ev h s y]
 |.setn x y n z=>by simp only[PE.sub',PE.ev,PE.sub_ev h s x,PE.sub_ev h s y,PE.sub_ev h s z]
 |.app x y=>by simp only[PE.sub',PE.ev,PE.sub_ev h s x,PE.sub_ev h s y]
 |.lst es=>by simp only[PE.sub',PE.ev,PE.subs_ev h s es]
 |.rep x y=>by simp only[PE.sub',PE.ev,PE.sub_ev h s x,PE.sub_ev h s y]
 |.slc x y z=>by simp only[PE.sub',PE.ev,PE.sub_ev h s x,PE.sub_ev h s y,PE.sub_ev h s z]
 |.slok x y z=>by simp only[PE.sub',PE.ev,PE.sub_ev h s x,PE.sub_ev h s y,PE.sub_ev h s z]
 |.ref x=>by simp only[PE.sub',PE.ev,PE.sub_ev h s x]
 |.deref x=>by simp only[PE.sub',ahS,PE.ev,PE.sub_ev h s x]
 |.look x y z=>by simp only[PE.sub',PE.ev,PE.sub_ev h s x,PE.sub_ev h s y,PE.sub_ev h s z]
 |.has x y=>by simp only[PE.sub',PE.ev,PE.sub_ev h s x,PE.sub_ev h s y]
 |.put x y z=>by simp only[PE.sub',PE.ev,PE.sub_ev h s x,PE.sub_ev h s y,PE.sub_ev h s z]
 |.mn x y=>by simp only[PE.sub',PE.ev,PE.sub_ev h s x,PE.sub_ev h s y]
 |.mx x y=>by simp only[PE.sub',PE.ev,PE.sub_ev h s x,PE.sub_ev h s y]
 |.tup es=>by simp only[PE.sub',PE.ev,PE.subs_ev h s es]
 |.tget x i=>by simp only[PE.sub',asM,PE.ev,PE.sub_ev h s x]
 |.clo f es=>by simp only[PE.sub',PE.ev,PE.subs_ev h s es]
 |.an x y=>by simp only[PE.sub',PE.ev,PE.sub_ev h s x,PE.sub_ev h s y]
 |.imp c x=>by
  simp only[PE.sub',PE.ev,D.b_bool,XR,PE.sub_ev h s x];cases holds c (s.ev ρ)<;>cases(x.ev (s.ev ρ)).b<;>rfl
theorem PE.subs_ev {ab:bW}{ρ:Env}(h:ab.ok ρ)(s:SE):∀(es:List PE),PE.evs ρ (PE.subs' ab s es)=PE.evs (s.ev ρ) es
 |[]=>rfl
 |e::es=>by simp only[PE.subs',PE.evs,PE.sub_ev h s e,PE.subs_ev h s es]
theorem PE.subc_ev {ab:bW}{ρ:Env}(h:ab.ok ρ)(s:SE):∀(es:List PE),PE.evc ρ (PE.subs' ab s es)=PE.evc (s.ev ρ) es
 |[]=>rfl
 |e::es=>by simp only[PE.subs',PE.evc,PE.sub_ev h s e,PE.subc_ev h s es]
end
inductive PT where
 |next (s:SE)
 |exit (id:Nat) (s:SE)
 |ret (e:PE)
 |chk (e:PE) (k:PT)
 |ite (c:PE) (a b:PT)
 |call (s:SE) (gs:List (Nat×Bool)) (dst f:Nat) (args:List PE) (k:PT)
 |callc (s:SE) (gs:List (Nat×Bool)) (dst:Nat) (e:PE) (args:List PE) (k:PT)
 |mcall (s:SE) (j f:Nat) (args:List PE) (k:PT)
 |iteS (s:SE) (c:PE) (lr lo:List Nat) (a b k:PT)
 |blockS (s:SE) (id:Nat) (lr lo:List Nat) (a k:PT)
 |brk (s:SE) (c:PC) (k:PT)
def aI (T:cC):PT→Env→(Out→Prop)→Prop
 |.next s,ρ,Q=>Q (.next (s.ev ρ))
 |.exit id s,ρ,Q=>Q (.exit id (s.ev ρ))
 |.ret e,ρ,Q=>Q (.ret (e.ev ρ))
 |.chk e k,ρ,Q=>(e.ev ρ).b=true∧aI T k ρ Q
 |.ite c a b,ρ,Q=>if(c.ev ρ).b=true then aI T a ρ Q else aI T b ρ Q
 |.call s gs dst f args k,ρ,Q=>if holds gs (s.ev ρ)=true then ∃d,ak T f (PE.evs ρ args) d∧aI T k ((s.ev ρ).setR dst d) Q else aI T k (s.ev ρ) Q
 |.callc s gs dst e args k,ρ,Q=>if holds gs (s.ev ρ)=true then ∃f caps d,e.ev ρ=.clo f caps∧ak T f (PE.evs ρ args++caps) d∧aI T k ((s.ev ρ).setR dst d) Q else aI T k (s.ev ρ) Q
 |.mcall s j f args k,ρ,Q=>∃d,ak T f (PE.evs ρ args) d∧aI T k ((s.ev ρ).setO j d) Q
 |.iteS s c lr lo a b k,ρ,Q=>if(c.ev ρ).b=true then aI T a (s.ev ρ) (kZ (s.ev ρ) lr lo (hZ (fun ρ'=>aI T k ρ' Q) Q)) else aI T b (s.ev ρ) (kZ (s.ev ρ) lr lo (hZ (fun ρ'=>aI T k ρ' Q) Q))
 |.blockS s id lr lo a k,ρ,Q=>aI T a (s.ev ρ) (me (s.ev ρ) id lr lo (hZ (fun ρ'=>aI T k ρ' Q) Q))
 |.brk s c k,ρ,Q=>aP T c (s.ev ρ) (hZ (fun ρ'=>aI T k ρ' Q) Q)
def oP:PI→Bool
 |.setR ..|.setO ..|.chk _=>true
 |_=>false
def dT:PC→Bool
 |.loop ..=>false
 |.each ..=>false
 |.meach ..=>false
 |.seq a b=>dT a&&dT b
 |.ite _ _ _ a b=>dT a&&dT b
 |.block _ _ _ a=>dT a
 |.is l=>l.all oP
 |_=>true
abbrev Kn:=bW→SE→PT
abbrev Kx:=bW→Nat→SE→PT
def nD:List PI→bW→SE→Kn→PT
 |[],ab,s,k=>k ab s
 |.setR t e::l,ab,s,k=>nD l ab (s.setR t (e.sub' ab s)) k
 |.setO t e::l,ab,s,k=>nD l ab (s.setO t (e.sub' ab s)) k
 |.chk e::l,ab,s,k=>
  match vA ab (e.sub' ab s) with
  |some true=>nD l ab s k
  |_=>.chk (e.sub' ab s) (nD l ((e.sub' ab s,true)::ab) s k)
 |.call gs dst f args::l,ab,s,k=>.call s gs dst f (PE.subs' ab s args) (nD l [] .id k)
 |.callc gs dst e args::l,ab,s,k=>.callc s gs dst (e.sub' ab s) (PE.subs' ab s args) (nD l [] .id k)
 |.mcall j f args::l,ab,s,k=>.mcall s j f (PE.subs' ab s args) (nD l [] .id k)
def SE.merge (s:SE)(ab:bW)(lr lo:List Nat)(c:PE)(a b:SE):SE:=⟨lr.map (fun t=>(t,tu ab c (a.getR t) (b.getR t)))++s.r,lo.map (fun t=>(t,tu ab c (a.getO t) (b.getO t)))++s.o⟩
def qs:List PI→bW→SE→Option SE
 |[],_,s=>some s
 |.setR t e::l,ab,s=>qs l ab (s.setR t (e.sub' ab s))
 |.setO t e::l,ab,s=>qs l ab (s.setO t (e.sub' ab s))
 |_::_,_,_=>none
def plain:PC→bW→SE→Option SE
 |.skip,_,s=>some s
 |.is l,ab,s=>qs l ab s
 |.seq a b,ab,s=>(plain a ab s).bind fun s=>plain b ab s
 |.ite c lr lo a b,ab,s=>(plain a ab s).bind fun sa=>(plain b ab s).map fun sb=>s.merge ab lr lo (c.sub' ab s) sa sb
 |_,_,_=>none
def ZO:PC→Bool
 |.loop ..=>true
 |_=>false
def sx:PC→bW→SE→Kn→Kx→PT
 |.skip,ab,s,k,_=>k ab s
 |.is l,ab,s,k,_=>nD l ab s k
 |.seq a b,ab,s,k,kx=>sx a ab s (fun ab s=>sx b ab s k kx) kx
 |.ite c lr lo a b,ab,s,k,kx=>
  match vA ab (c.sub' ab s) with
  |some true=>bif dT a then sx a ab s (fun ab s'=>k ab (s.join lr lo s')) kx else .iteS s (c.sub' ab s) lr lo (sx a [] .id (fun _ s=>.next s) (fun _ id s=>.exit id s)) (sx b [] .id (fun _ s=>.next s) (fun _ id s=>.exit id s)) (k [] .id)
  |some false=>bif dT b then sx b ab s (fun ab s'=>k ab (s.join lr lo s')) kx else .iteS s (c.sub' ab s) lr lo (sx a [] .id (fun _ s=>.next s) (fun _ id s=>.exit id s)) (sx b [] .id (fun _ s=>.next s) (fun _ id s=>.exit id s)) (k [] .id)
  |none=>
   match plain a ab s,plain b ab s with
   |some sa,some sb=>k ab (s.merge ab lr lo (c.sub' ab s) sa sb)
   |_,_=>
   bif dT a&&dT b then
    .ite (c.sub' ab s) (sx a ((c.sub' ab s,true)::ab) s (fun ab s'=>k ab (s.join lr lo s')) kx) (sx b ((c.sub' ab s,false)::ab) s (fun ab s'=>k ab (s.join lr lo s')) kx)
   else .iteS s (c.sub' ab s) lr lo (sx a [] .id (fun _ s=>.next s) (fun _ id s=>.exit id s)) (sx b [] .id (fun _ s=>.next s) (fun _ id s=>.exit id s)) (k [] .id)
 |.block id lr lo a,ab,s,k,kx=>
  bif dT a then sx a ab s (fun ab s'=>k ab (s.join lr lo s')) (fun ab bR s'=>bif Nat.beq bR id then k ab (s.join lr lo s') else kx ab bR s')
  else bif ZO a then .brk s (.block id lr lo a) (k [] .id)
  else .blockS s id lr lo (sx a [] .id (fun _ s=>.next s) (fun _ id s=>.exit id s)) (k [] .id)
 |.loop lr lo a,_,s,k,_=>.brk s (.loop lr lo a) (k [] .id)
 |.each e ps lo rt a,_,s,k,_=>.brk s (.each e ps lo rt a) (k [] .id)
 |.meach J ps de lo a,_,s,k,_=>.brk s (.meach J ps de lo a) (k [] .id)
 |.exit id,ab,s,_,kx=>kx ab id s
 |.ret e,ab,s,_,_=>.ret (e.sub' ab s)
theorem bW.ok_nil (ρ:Env):bW.ok [] ρ:=fun _ h=>nomatch h
theorem bW.ok_cons {ab:bW}{ρ:Env}{e:PE}{b:Bool}(h:ab.ok ρ)(he:(e.ev ρ).b=b):bW.ok ((e,b)::ab) ρ:=fun x hx=>by
 rcases cT.1 hx with e'|hx
 ·rw[e'];exact he
 ·exact h x hx
theorem rX {T:cC}{Q:Out→Prop}{K:Env→Prop}{k:Kn}:∀{l:List PI} {ab:bW} {s:SE} {ρ:Env},ab.ok ρ→aI T (nD l ab s k) ρ Q→
 (∀ρ' ab s,(l.all oP=true→ρ'=ρ)→ab.ok ρ'→aI T (k ab s) ρ' Q→K (s.ev ρ'))→ij T l (s.ev ρ) K
 |[],ab,s,ρ,ha,h,hk=>hk ρ ab s (fun _=>rfl) ha h
 |.setR t e::l,ab,s,ρ,ha,h,hk=>by
  simp only[ij];rw[←PE.sub_ev ha s e,←SE.setR_ev];exact rX ha h fun ρ' ab s hp=>hk ρ' ab s fun hl=>hp (by simpa [oP] using hl)
 |.setO t e::l,ab,s,ρ,ha,h,hk=>by
  simp only[ij];rw[←PE.sub_ev ha s e,←SE.setO_ev];exact rX ha h fun ρ' ab s hp=>hk ρ' ab s fun hl=>hp (by simpa [oP] using hl)
 |.chk e::l,ab,s,ρ,ha,h,hk=>by
  simp only[ij];rw[←PE.sub_ev ha s e];simp only[nD] at h;split at h
  ·rename_i ht;exact⟨yf ha ht,rX ha h fun ρ' ab s hp=>hk ρ' ab s fun hl=>hp (by simpa [oP] using hl)⟩
  ·exact⟨h.1,rX (bW.ok_cons ha h.1) h.2 fun ρ' ab s hp=>hk ρ' ab s fun hl=>hp (by simpa [oP] using hl)⟩
 |.call gs dst f args::l,ab,s,ρ,ha,h,hk=>by
  simp only[ij];simp only[nD,aI,PE.subs_ev ha,PE.sub_ev ha] at h;have bm:∀{ρ0:Env},∀ρ' ab s,(l.all oP=true→ρ'=ρ0)→ab.ok ρ'→aI T (k ab s) ρ' Q→K (s.ev ρ'):=fun ρ' ab s _=>hk ρ' ab s fun hl=>by simp[oP] at hl
  split at h
  ·rename_i hg;rw[if_pos hg];obtain⟨d,hd,h⟩:=h;exact⟨d,hd,rX (s:=.id) (bW.ok_nil _) h bm⟩
  ·rename_i hg;rw[if_neg hg];exact rX (s:=.id) (bW.ok_nil _) h bm
 |.callc gs dst e args::l,ab,s,ρ,ha,h,hk=>by
  simp only[ij];simp only[nD,aI,PE.subs_ev ha,PE.sub_ev ha] at h;have bm:∀{ρ0:Env},∀ρ' ab s,(l.all oP=true→ρ'=ρ0)→ab.ok ρ'→aI T (k ab s) ρ' Q→K (s.ev ρ'):=fun ρ' ab s _=>hk ρ' ab s fun hl=>by simp[oP] at hl
  split at h
  ·rename_i hg;rw[if_pos hg];obtain⟨f,caps,d,he,hd,h⟩:=h;exact⟨f,caps,d,he,hd,rX (s:=.id) (bW.ok_nil _) h bm⟩
  ·rename_i hg;rw[if_neg hg];exact rX (s:=.id) (bW.ok_nil _) h bm
 |.mcall j f args::l,ab,s,ρ,ha,h,hk=>by
  simp only[ij];simp only[nD,aI,PE.subs_ev ha,PE.sub_ev ha] at h;have bm:∀{ρ0:Env},∀ρ' ab s,(l.all oP=true→ρ'=ρ0)→ab.ok ρ'→aI T (k ab s) ρ' Q→K (s.ev ρ'):=fun ρ' ab s _=>hk ρ' ab s fun hl=>by simp[oP] at hl
  obtain⟨d,hd,h⟩:=h;exact⟨d,hd,rX (s:=.id) (bW.ok_nil _) h bm⟩
theorem SE.merge_ev {ab:bW}{ρ:Env}(h:ab.ok ρ)(s a b:SE)(lr lo:List Nat)(c:PE):(s.merge ab lr lo c a b).ev ρ=(s.ev ρ).join lr lo (if(c.ev ρ).b=true then a.ev ρ else b.ev ρ):=by
 have h1:∀u,((s.merge ab lr lo c a b).getR u).ev ρ=((s.ev ρ).join lr lo (if(c.ev ρ).b=true then a.ev ρ else b.ev ρ)).r u:=by
  intro u;rw[Env.join_r];have e:aV (s.merge ab lr lo c a b).r u=if u∈lr then some (tu ab c (a.getR u) (b.getR u)) else aV s.r u:=xm lr;have e2:(s.merge ab lr lo c a b).getR u=if u∈lr then tu ab c (a.getR u) (b.getR u) else s.getR u:=by
   unfold SE.getR;rw[e];by_cases h:u∈lr<;>simp[h,SE.getR]
  rw[e2];by_cases hu:u∈lr
  ·simp only[hu,if_true,QT h,PE.ev];cases hc:(c.ev ρ).b<;>simp[SE.ev]
  ·simp only[hu,if_false];rfl
 have h2:∀u,((s.merge ab lr lo c a b).getO u).ev ρ=((s.ev ρ).join lr lo (if(c.ev ρ).b=true then a.ev ρ else b.ev ρ)).o u:=by
  intro u;rw[Env.join_o];have e:aV (s.merge ab lr lo c a b).o u=if u∈lo then some (tu ab c (a.getO u) (b.getO u)) else aV s.o u:=xm lo;have e2:(s.merge ab lr lo c a b).getO u=if u∈lo then tu ab c (a.getO u) (b.getO u) else s.getO u:=by
   unfold SE.getO;rw[e];by_cases h:u∈lo<;>simp[h,SE.getO]
  rw[e2];by_cases hu:u∈lo
  ·simp only[hu,if_true,QT h,PE.ev];cases hc:(c.ev ρ).b<;>simp[SE.ev]
  ·simp only[hu,if_false];rfl
 have e1:(fun u=>((s.merge ab lr lo c a b).getR u).ev ρ)=((s.ev ρ).join lr lo (if(c.ev ρ).b=true then a.ev ρ else b.ev ρ)).r:=funext h1;have e2:(fun u=>((s.merge ab lr lo c a b).getO u).ev ρ)=((s.ev ρ).join lr lo (if(c.ev ρ).b=true then a.ev ρ else b.ev ρ)).o:=funext h2;show Env.mk _ _=_;rw[e1,e2]
theorem QY {T:cC}{ab:bW}{ρ:Env}(ha:ab.ok ρ):∀{l:List PI} {s s':SE},qs l ab s=some s'→∀{K:Env→Prop},K (s'.ev ρ)→ij T l (s.ev ρ) K
 |[],s,s',h,K,hk=>by simp only[qs,aS] at h;subst h;exact hk
 |.setR t e::l,s,s',h,K,hk=>by simp only[ij];rw[←PE.sub_ev ha s e,←SE.setR_ev];exact QY (l:=l) ha (show qs l ab _=some s' from h) hk
 |.setO t e::l,s,s',h,K,hk=>by simp only[ij];rw[←PE.sub_ev ha s e,←SE.setO_ev];exact QY (l:=l) ha (show qs l ab _=some s' from h) hk
 |.chk _::_,_,_,h,_,_=>by simp[qs] at h
 |.call ..::_,_,_,h,_,_=>by simp[qs] at h
 |.callc ..::_,_,_,h,_,_=>by simp[qs] at h
 |.mcall ..::_,_,_,h,_,_=>by simp[qs] at h
theorem aqH {T:cC}{ab:bW}{ρ:Env}(ha:ab.ok ρ):∀(c:PC) {s s':SE},plain c ab s=some s'→∀{Q:Out→Prop},Q (.next (s'.ev ρ))→aP T c (s.ev ρ) Q:=by
 intro c
 induction c with
 |skip=>intro s s' h Q hq;simp only[plain,aS] at h;subst h;exact .skip hq
 |is l=>intro s s' h Q hq;exact .is (QY ha h hq)
 |seq a b bC eC=>
  intro s s' h Q hq;simp only[plain,aq] at h;obtain⟨s1,h1,h2⟩:=h;exact .seq (bC h1 (eC h2 hq))
 |ite c lr lo a b bC eC=>
  intro s s' h Q hq;simp only[plain,aq,az] at h;obtain⟨sa,h1,sb,h2,rfl⟩:=h;rw[SE.merge_ev ha,PE.sub_ev ha] at hq;refine .ite ?_;split
  ·rename_i hc;rw[if_pos hc] at hq;exact bC h1 hq
  ·rename_i hc;rw[if_neg hc] at hq;exact eC h2 hq
 |_=>intro s s' h;simp[plain] at h
theorem Lp {T:cC}:∀(c:PC) {ab:bW} {s:SE} {k:Kn} {kx:Kx} {ρ:Env} {Q Q':Out→Prop},ab.ok ρ→aI T (sx c ab s k kx) ρ Q→
 (∀ρ' ab s,(dT c=true→ρ'=ρ)→ab.ok ρ'→aI T (k ab s) ρ' Q→Q' (.next (s.ev ρ')))→
 (∀ρ' ab id s,(dT c=true→ρ'=ρ)→ab.ok ρ'→aI T (kx ab id s) ρ' Q→Q' (.exit id (s.ev ρ')))→(dT c=false→∀id ρ',Q (.exit id ρ')→Q' (.exit id ρ'))→(∀d,Q (.ret d)→Q' (.ret d))→aP T c (s.ev ρ) Q':=by
 intro c;have alone:∀(a:PC),(∀{ab:bW} {s:SE} {k:Kn} {kx:Kx} {ρ:Env} {Q Q':Out→Prop},ab.ok ρ→aI T (sx a ab s k kx) ρ Q→
  (∀ρ' ab s,(dT a=true→ρ'=ρ)→ab.ok ρ'→aI T (k ab s) ρ' Q→Q' (.next (s.ev ρ')))→
  (∀ρ' ab id s,(dT a=true→ρ'=ρ)→ab.ok ρ'→aI T (kx ab id s) ρ' Q→Q' (.exit id (s.ev ρ')))→(dT a=false→∀id ρ',Q (.exit id ρ')→Q' (.exit id ρ'))→(∀d,Q (.ret d)→Q' (.ret d))→aP T a (s.ev ρ) Q')→
  ∀{ρ:Env} {Q:Out→Prop},aI T (sx a [] .id (fun _ s=>.next s) (fun _ id s=>.exit id s)) ρ Q→aP T a ρ Q:=by
  intro a ih ρ Q h;exact ih (s:=.id) (bW.ok_nil _) h (fun ρ' ab s _ _ h=>h) (fun ρ' ab id s _ _ h=>h) (fun _ _ _ h=>h) (fun _ h=>h)
 induction c with
 |skip=>intro ab s k kx ρ Q Q' ha h hk _ _ _;exact .skip (hk ρ ab s (fun _=>rfl) ha h)
 |is l=>intro ab s k kx ρ Q Q' ha h hk _ _ _;exact .is (rX (K:=fun ρ'=>Q' (.next ρ')) ha h hk)
 |seq a b bC eC=>
  intro ab s k kx ρ Q Q' ha h hk hx kr hr;refine .seq (bC ha h (Q':=hZ (fun ρ'=>aP T b ρ' Q') Q') (fun ρ' ab s hp wD h'=>?_) (fun ρ' ab id s hp wD h'=>?_) (fun hp=>?_) hr)
  ·refine eC wD h' (fun ρ2 ab s fB=>hk ρ2 ab s fun hl=>?_) (fun ρ2 ab id s fB=>hx ρ2 ab id s fun hl=>?_) (fun fB=>?_) hr
   ·simp only[dT,ao] at hl;rw[fB hl.2,hp hl.1]
   ·simp only[dT,ao] at hl;rw[fB hl.2,hp hl.1]
   ·exact kr (by simp[dT,fB])
  ·exact hx ρ' ab id s (fun hl=>by simp only[dT,ao] at hl;exact hp hl.1) wD h'
  ·exact kr (by simp[dT,hp])
 |ite c lr lo a b bC eC=>
  intro ab s k kx ρ Q Q' ha h hk hx kr hr;have bK:((c.sub' ab s).ev ρ).b=(c.ev (s.ev ρ)).b:=by rw[PE.sub_ev ha]
  have struct:(dT a&&dT b)=false→aI T (.iteS s (c.sub' ab s) lr lo (sx a [] .id (fun _ s=>.next s) (fun _ id s=>.exit id s)) (sx b [] .id (fun _ s=>.next s) (fun _ id s=>.exit id s)) (k [] .id)) ρ Q→aP T (.ite c lr lo a b) (s.ev ρ) Q':=by
   intro Eh h;have rn:dT (.ite c lr lo a b)=false:=Eh;simp only[aI,bK] at h
   have conv:∀x,kZ (s.ev ρ) lr lo (hZ (fun ρ'=>aI T (k [] .id) ρ' Q) Q) x→kZ (s.ev ρ) lr lo Q' x:=by
      intro x dm;cases x with
      |next ρ'=>exact hk _ [] .id (fun hl=>by rw[rn] at hl;cases hl) (bW.ok_nil _) dm
      |exit id ρ'=>exact kr rn id ρ' dm
      |ret d=>exact hr d dm
   refine .ite ?_;split at h
   ·rename_i hc;rw[if_pos hc];exact(alone a bC h).mono conv
   ·rename_i hc;rw[if_neg hc];exact(alone b eC h).mono conv
  have ZC:∀vV,vV.ok ρ→dT a=true→aI T (sx a vV s (fun ab s'=>k ab (s.join lr lo s')) kx) ρ Q→aP T a (s.ev ρ) (kZ (s.ev ρ) lr lo Q'):=by
   intro vV wD eB h';refine bC wD h' (fun ρ' ab s' hp og kO=>?_) (fun ρ' ab id s' hp og kO=>?_) (fun hp=>by rw[eB] at hp;cases hp) hr
   ·have e:=hp eB;subst e;show Q' (.next _);rw[←SE.join_ev];exact hk ρ' ab _ (fun _=>rfl) og kO
   ·have e:=hp eB;subst e;exact hx ρ' ab id s' (fun _=>rfl) og kO
  have aC:∀vV,vV.ok ρ→dT b=true→aI T (sx b vV s (fun ab s'=>k ab (s.join lr lo s')) kx) ρ Q→aP T b (s.ev ρ) (kZ (s.ev ρ) lr lo Q'):=by
   intro vV wD eB h';refine eC wD h' (fun ρ' ab s' hp og kO=>?_) (fun ρ' ab id s' hp og kO=>?_) (fun hp=>by rw[eB] at hp;cases hp) hr
   ·have e:=hp eB;subst e;show Q' (.next _);rw[←SE.join_ev];exact hk ρ' ab _ (fun _=>rfl) og kO
   ·have e:=hp eB;subst e;exact hx ρ' ab id s' (fun _=>rfl) og kO
  simp only[sx] at h;split at h
  ·rename_i ht;cases eB:dT a<;>simp only[eB,cond_true,cond_false] at h
   ·exact struct (by simp[eB]) h
   ·refine .ite ?_;rw[if_pos (by rw[←bK];exact yf ha ht)];exact ZC ab ha eB h
  ·rename_i ht;cases eB:dT b<;>simp only[eB,cond_true,cond_false] at h
   ·exact struct (by simp[eB]) h
   ·refine .ite ?_;rw[if_neg (by rw[←bK,yf ha ht];simp)];exact aC ab ha eB h
  ·split at h
   ·rename_i sa sb hsa kq;have fC:plain (.ite c lr lo a b) ab s=some (s.merge ab lr lo (c.sub' ab s) sa sb):=by simp[plain,hsa,kq]
    exact aqH ha _ fC (hk ρ ab _ (fun _=>rfl) ha h)
   cases eB:(dT a&&dT b)<;>simp only[eB,cond_true,cond_false] at h
   ·exact struct eB h
   ·simp only[ao] at eB;simp only[aI] at h;refine .ite ?_;rw[←bK];split at h
    ·rename_i hc;rw[if_pos hc];exact ZC _ (bW.ok_cons ha hc) eB.1 h
    ·rename_i hc;rw[if_neg hc];exact aC _ (bW.ok_cons ha (by simpa using hc)) eB.2 h
 |block id lr lo a bC=>
  intro ab s k kx ρ Q Q' ha h hk hx kr hr;simp only[sx] at h;cases eB:dT a<;>simp only[eB,cond_true,cond_false] at h
  ·have rn:dT (.block id lr lo a)=false:=eB;cases hl:ZO a<;>simp only[hl,cond_true,cond_false] at h
   case true=>
        simp only[aI] at h;refine aP.mono h fun x dm=>?_;cases x with
        |next ρ'=>exact hk _ [] .id (fun hl=>by rw[rn] at hl;cases hl) (bW.ok_nil _) dm
        |exit id ρ'=>exact kr rn id ρ' dm
        |ret d=>exact hr d dm
   simp only[aI] at h;refine .block ((alone a bC h).mono fun x dm=>?_);cases x with
   |next ρ'=>exact hk _ [] .id (fun hl=>by rw[rn] at hl;cases hl) (bW.ok_nil _) dm
   |exit bR ρ'=>
    simp only[me] at dm ⊢;split
    ·rename_i e;rw[if_pos e] at dm;exact hk _ [] .id (fun hl=>by rw[rn] at hl;cases hl) (bW.ok_nil _) dm
    ·rename_i e;rw[if_neg e] at dm;exact kr rn bR ρ' dm
   |ret d=>exact hr d dm
  ·refine .block (bC ha h (fun ρ' ab s' hp og kO=>?_) (fun ρ' ab bR s' hp og kO=>?_) (fun hp=>by rw[eB] at hp;cases hp) hr)
   ·have e:=hp eB;subst e;show Q' (.next _);rw[←SE.join_ev];exact hk ρ' ab _ (fun _=>rfl) og kO
   ·have e:=hp eB;subst e;simp only[me];by_cases cE:bR=id
    ·subst cE;simp only[gR,cond_true] at kO;rw[if_pos rfl,←SE.join_ev];exact hk ρ' ab _ (fun _=>rfl) og kO
    ·rw[eH cE,cond_false] at kO;rw[if_neg cE];exact hx ρ' ab bR s' (fun _=>rfl) og kO
 |loop lr lo a bC=>
  intro ab s k kx ρ Q Q' ha h hk hx kr hr;simp only[sx,aI] at h;refine aP.mono h fun x dm=>?_;cases x with
  |next ρ'=>exact hk _ [] .id (fun hl=>by cases hl) (bW.ok_nil _) dm
  |exit id ρ'=>exact kr rfl id ρ' dm
  |ret d=>exact hr d dm
 |each e ps lo rt a bC=>
  intro ab s k kx ρ Q Q' ha h hk hx kr hr;simp only[sx,aI] at h;refine aP.mono h fun x dm=>?_;cases x with
  |next ρ'=>exact hk _ [] .id (fun hl=>by cases hl) (bW.ok_nil _) dm
  |exit id ρ'=>exact kr rfl id ρ' dm
  |ret d=>exact hr d dm
 |meach J ps de lo a bC=>
  intro ab s k kx ρ Q Q' ha h hk hx kr hr;simp only[sx,aI] at h;refine aP.mono h fun x dm=>?_;cases x with
  |next ρ'=>exact hk _ [] .id (fun hl=>by cases hl) (bW.ok_nil _) dm
  |exit id ρ'=>exact kr rfl id ρ' dm
  |ret d=>exact hr d dm
 |exit id=>intro ab s k kx ρ Q Q' ha h _ hx _ _;exact .exit (hx ρ ab id s (fun _=>rfl) ha h)
 |ret e=>
  intro ab s k kx ρ Q Q' ha h _ _ _ hr;simp only[sx,aI] at h;refine .ret (hr _ ?_);rw[PE.sub_ev ha] at h;exact h
def Lk.un (a b:Lk):Lk:=⟨Nat.lor a.r b.r,jJ a.o b.o⟩
def bits (l:List Nat):Nat:=l.foldr (fun t m=>Nat.lor (dK t) m) 0
theorem M0 {l:List Nat}{t:Nat}(h:t∈l):au (bits l) t=true:=by
 induction l with
 |nil=>cases h
 |cons x l ih=>
  show au (Nat.lor (dK x) (bits l)) t=true;rw[fp];rcases cT.1 h with e|h
  ·subst e;rw[qT];rfl
  ·rw[ih h,nH]
theorem Vm:∀{a b:List Nat} {x:Nat},x∈jJ a b↔x∈a∨x∈b
 |[],b,x=>by simp[jJ]
 |y::a,b,x=>by
  have ih:=Vm (a:=a) (b:=bif fe b y then b else y::b) (x:=x);show x∈jJ a _↔_;rw[ih];cases hb:fe b y with
  |true=>simp only[cond_true,cT];have:=(ql b y).1 hb;constructor
         ·rintro(h|h);exact .inl (.inr h);exact .inr h
         ·rintro((rfl|h)|h);exact .inr this;exact .inl h;exact .inr h
  |false=>simp only[cond_false,cT];constructor
          ·rintro(h|h|h);exact .inl (.inr h);exact .inl (.inl h);exact .inr h
          ·rintro((h|h)|h);exact .inr (.inl h);exact .inl h;exact .inr (.inr h)
def Lk.Le (a K:Lk):Prop:=(∀t,au a.r t=true→au K.r t=true)∧∀j,j∈a.o→j∈K.o
theorem Lk.le_l (a b:Lk):a.Le (a.un b):=⟨fun t h=>by simp only[Lk.un,fp,h,yo],fun j h=>Vm.2 (.inl h)⟩
theorem Lk.le_r (a b:Lk):b.Le (a.un b):=⟨fun t h=>by simp only[Lk.un,fp,h,nH],fun j h=>Vm.2 (.inr h)⟩
theorem Lk.Le.trans {a b c:Lk}(h:a.Le b)(k:b.Le c):a.Le c:=⟨fun t ht=>k.1 t (h.1 t ht),fun j hj=>k.2 j (h.2 j hj)⟩
theorem Alike.le {a K:Lk}{ρ ρ':Env}(h:Alike K ρ ρ')(k:a.Le K):Alike a ρ ρ':=⟨fun t ht=>h.r t (k.1 t ht),fun j hj=>h.o j (k.2 j hj)⟩
theorem Lk.Le.of_un {a b K:Lk}(h:(a.un b).Le K):a.Le K∧b.Le K:=⟨(Lk.le_l a b).trans h,(Lk.le_r a b).trans h⟩
theorem Alike.setR {K:Lk}{ρ ρ':Env}(h:Alike K ρ ρ')(t:Nat)(d:D):Alike K (ρ.setR t d) (ρ'.setR t d):=⟨fun u hu=>by rw[Env.setR_r,Env.setR_r];split;rfl;exact h.r u hu,h.o⟩
theorem Alike.setO {K:Lk}{ρ ρ':Env}(h:Alike K ρ ρ')(t:Nat)(d:D):Alike K (ρ.setO t d) (ρ'.setO t d):=⟨h.r,fun u hu=>by rw[Env.setO_o,Env.setO_o];split;rfl;exact h.o u hu⟩
theorem Alike.join {K:Lk}{ρ ρ' η η':Env}(h:Alike K ρ ρ')(k:Alike K η η')(lr lo:List Nat):Alike K (ρ.join lr lo η) (ρ'.join lr lo η'):=
 ⟨fun u hu=>by rw[Env.join_r,Env.join_r];split;exact k.r u hu;exact h.r u hu,fun u hu=>by rw[Env.join_o,Env.join_o];split;exact k.o u hu;exact h.o u hu⟩
theorem Q0 {f g:Nat→D}{u:Nat}(h:g u=f u):∀(ts:List Nat) (xs:List D),putL g ts xs u=putL f ts xs u
 |[],xs=>by rw[Kj,Kj];exact h
 |t::ts,[]=>by simp only[putL];exact h
 |t::ts,x::xs=>by rw[Ki,Ki];split;rfl;exact Q0 h ts xs
theorem Alike.put {K:Lk}{ρ ρ':Env}(h:Alike K ρ ρ')(lr lo:List Nat)(vr vo:List D):Alike K (ρ.put lr vr lo vo) (ρ'.put lr vr lo vo):=⟨fun u hu=>Q0 (h.r u hu) lr vr,fun u hu=>Q0 (h.o u hu) lo vo⟩
def PI.lkw:PI→Lk
 |.setR t e=>e.lk.un ⟨dK t,[]⟩
 |.setO j e=>e.lk.un ⟨0,[j]⟩
 |.chk e=>e.lk
 |.call gs dst f aa=>(PI.call gs dst f aa).lk.un ⟨dK dst,[]⟩
 |.callc gs dst e aa=>(PI.callc gs dst e aa).lk.un ⟨dK dst,[]⟩
 |.mcall j f aa=>(PI.mcall j f aa).lk.un ⟨0,[j]⟩
def PC.lk:PC→Lk
 |.skip=>.none
 |.exit _=>.none
 |.is l=>l.foldr (fun p k=>p.lkw.un k) .none
 |.seq a b=>(PC.lk a).un (PC.lk b)
 |.ite c _ _ a b=>c.lk.un ((PC.lk a).un (PC.lk b))
 |.block _ _ _ a=>PC.lk a
 |.loop lr lo a=>(⟨bits lr,lo⟩:Lk).un (PC.lk a)
 |.ret e=>e.lk
 |.each e _ lo rt a=>e.lk.un ((match rt with|some e=>e.lk|none=>.none).un ((⟨0,lo⟩:Lk).un (PC.lk a)))
 |.meach J _ _ lo a=>(⟨0,J::lo⟩:Lk).un (PC.lk a)
structure Off (K:Lk) (b η η':Env):Prop where
 al:Alike K η η'
 r:∀t,au K.r t=false→η'.r t=b.r t
 o:∀j,j∉K.o→η'.o j=b.o j
def ub (K:Lk)(b:Env):Out→Out→Prop
 |.next η,x=>∃η',x=.next η'∧Off K b η η'
 |.exit i η,x=>∃η',x=.exit i η'∧Off K b η η'
 |.ret d,x=>x=.ret d
theorem Off.uniq {K:Lk}{b η η' η2:Env}(h:Off K b η η')(k:Off K b η η2):η2=η':=by
 have h1:∀t,η2.r t=η'.r t:=fun t=>by
  cases hb:au K.r t with
  |true=>rw[k.al.r t hb,h.al.r t hb]
  |false=>rw[k.r t hb,h.r t hb]
 have h2:∀t,η2.o t=η'.o t:=fun t=>by
  by_cases hb:t∈K.o
  ·rw[k.al.o t hb,h.al.o t hb]
  ·rw[k.o t hb,h.o t hb]
 cases η2;cases η'
 congr
 ·exact funext h1
 ·exact funext h2
theorem ub.uniq {K:Lk}{b:Env}{x y z:Out}(h:ub K b x y)(k:ub K b x z):z=y:=by
 cases x with
 |next η=>obtain⟨a,rfl,h⟩:=h;obtain⟨c,rfl,k⟩:=k;rw[h.uniq k]
 |exit i η=>obtain⟨a,rfl,h⟩:=h;obtain⟨c,rfl,k⟩:=k;rw[h.uniq k]
 |ret d=>rw[h,k]
theorem Off.setR {K:Lk}{b η η':Env}(h:Off K b η η'){t:Nat}(ht:au K.r t=true)(d:D):Off K b (η.setR t d) (η'.setR t d):=
 ⟨h.al.setR t d,fun u hu=>by rw[Env.setR_r,if_neg (fun e=>by rw[e,ht] at hu;cases hu)];exact h.r u hu,h.o⟩
theorem Off.setO {K:Lk}{b η η':Env}(h:Off K b η η'){t:Nat}(ht:t∈K.o)(d:D):Off K b (η.setO t d) (η'.setO t d):=
 ⟨h.al.setO t d,h.r,fun u hu=>by rw[Env.setO_o,if_neg (fun e=>hu (by rw[e];exact ht))];exact h.o u hu⟩
theorem Off.join {K:Lk}{b η η' ζ ζ':Env}(h:Off K b η η')(k:Off K b ζ ζ')(lr lo:List Nat):Off K b (η.join lr lo ζ) (η'.join lr lo ζ'):=
 ⟨h.al.join k.al lr lo,fun u hu=>by rw[Env.join_r];split;exact k.r u hu;exact h.r u hu,fun u hu=>by rw[Env.join_o];split;exact k.o u hu;exact h.o u hu⟩
theorem Q5 {f:Nat→D}{b:D}{u:Nat}(h:f u=b):∀(ts:List Nat) (xs:List D),u∉ts→putL f ts xs u=b
 |[],xs,_=>by rw[Kj];exact h
 |t::ts,[],_=>by simp only[putL];exact h
 |t::ts,x::xs,hu=>by rw[Ki,if_neg (fun e=>hu (by simp[e]))];exact Q5 h ts xs (fun e=>hu (by simp[e]))
theorem Off.put {K:Lk}{b η η':Env}(h:Off K b η η'){lr lo:List Nat}(hr:∀t,t∈lr→au K.r t=true)(ho:∀t,t∈lo→t∈K.o)(vr vo:List D):Off K b (η.put lr vr lo vo) (η'.put lr vr lo vo):=
 ⟨h.al.put lr lo vr vo,fun u hu=>Q5 (h.r u hu) lr vr (fun e=>by rw[hr u e] at hu;cases hu),fun u hu=>Q5 (h.o u hu) lo vo (fun e=>hu (ho u e))⟩
theorem PI.run_off {Φ:aL}{K:Lk}{b ρ ρ' η:Env}{p:PI}(hp:p.lkw.Le K)(h:Off K b ρ ρ')(hr:p.run Φ ρ=some η):∃η',p.run Φ ρ'=some η'∧Off K b η η':=by
 have wP:p.lk.Le K:=by cases p<;>first|exact hp|exact hp.of_un.1
 rw[PI.run_eff,PI.eff_alike p (h.al.le wP)];rw[PI.run_eff] at hr;cases he:p.eff Φ ρ with
 |none=>rw[he] at hr;cases hr
 |some x=>
  rw[he] at hr;simp only[ka,aS] at hr;subst hr;refine⟨_,rfl,?_⟩;have hb:∀{t:Nat} {a:Lk},(a.un ⟨dK t,[]⟩).Le K→au K.r t=true:=fun h=>h.of_un.2.1 _ (qT _);have ho:∀{t:Nat} {a:Lk},(a.un ⟨0,[t]⟩).Le K→t∈K.o:=fun h=>h.of_un.2.2 _ (by simp);cases p with
  |setR t e=>simp only[PI.eff,aS] at he;subst he;exact h.setR (hb hp) _
  |setO t e=>simp only[PI.eff,aS] at he;subst he;exact h.setO (ho hp) _
  |chk e=>simp only[PI.eff] at he;cases wF:(e.ev ρ).b<;>rw[wF] at he<;>cases he;exact h
  |call gs d f aa=>
   simp only[PI.eff] at he;cases wF:holds gs ρ<;>simp only[wF,cond_true,cond_false,aS,az] at he
   ·subst he;exact h
   ·obtain⟨y,_,rfl⟩:=he;exact h.setR (hb hp) _
  |callc gs d e aa=>
   simp only[PI.eff] at he;cases wF:holds gs ρ<;>simp only[wF,cond_true,cond_false,aS] at he
   ·subst he;exact h
   ·split at he
    ·simp only[az] at he;obtain⟨y,_,rfl⟩:=he;exact h.setR (hb hp) _
    ·cases he
  |mcall j f aa=>simp only[PI.eff,az] at he;obtain⟨y,_,rfl⟩:=he;exact h.setO (ho hp) _
theorem PI.runs_off {Φ:aL}{K:Lk}{b:Env}:∀{l:List PI} {ρ ρ' η:Env},(l.foldr (fun p k=>p.lkw.un k) Lk.none).Le K→Off K b ρ ρ'→PI.runs Φ l ρ=some η→∃η',PI.runs Φ l ρ'=some η'∧Off K b η η'
 |[],ρ,ρ',η,_,h,hr=>by simp only[PI.runs,aS] at hr ⊢;subst hr;exact⟨_,rfl,h⟩
 |p::l,ρ,ρ',η,hl,h,hr=>by
  simp only[PI.runs,aq] at hr;obtain⟨ρ1,h1,h2⟩:=hr;obtain⟨ρ2,h3,h4⟩:=PI.run_off hl.of_un.1 h h1;obtain⟨η',h5,h6⟩:=PI.runs_off (l:=l) hl.of_un.2 h4 h2;exact⟨η',by simp only[PI.runs,h3,j8,h5],h6⟩
theorem xq {K:Lk}{b η η':Env}(h:Off K b η η'){lo:List Nat}(ho:∀t,t∈lo→t∈K.o):lo.map η'.o=lo.map η.o:=yy fun t ht=>h.al.o t (ho t ht)
theorem aal {K:Lk}{b η η':Env}(h:Off K b η η'){lr:List Nat}(hr:∀t,t∈lr→au K.r t=true):lr.map η'.r=lr.map η.r:=yy fun t ht=>h.al.r t (hr t ht)
theorem PC.ev_off {Φ:aL}{n:Nat}{K:Lk}:∀(c:PC),c.lk.Le K→∀{b ρ ρ':Env} {x:Out},Off K b ρ ρ'→c.ev Φ n ρ=some x→∃x',c.ev Φ n ρ'=some x'∧ub K b x x':=by
 intro c
 induction c with
 |skip=>intro _ b ρ ρ' x h hr;simp only[PC.ev,aS] at hr ⊢;subst hr;exact⟨_,rfl,_,rfl,h⟩
 |exit id=>intro _ b ρ ρ' x h hr;simp only[PC.ev,aS] at hr ⊢;subst hr;exact⟨_,rfl,_,rfl,h⟩
 |ret e=>intro hk B ρ ρ' x h hr;simp only[PC.ev,aS] at hr ⊢;subst hr;exact⟨_,rfl,by rw[PE.ev_alike e (h.al.le hk)];rfl⟩
 |is l=>
  intro hk B ρ ρ' x h hr;simp only[PC.ev,az] at hr;obtain⟨η,h1,rfl⟩:=hr;obtain⟨η',h2,h3⟩:=PI.runs_off hk h h1;exact⟨.next η',by simp only[PC.ev,h2,ka],η',rfl,h3⟩
 |seq a b bC eC=>
  intro hk B ρ ρ' x h hr;simp only[PC.ev] at hr ⊢;cases ha:a.ev Φ n ρ with
  |none=>rw[ha] at hr;cases hr
  |some y=>
   obtain⟨y',h1,h2⟩:=bC hk.of_un.1 h ha;rw[ha] at hr;rw[h1];cases y with
   |next η=>obtain⟨η',rfl,h3⟩:=h2;exact eC hk.of_un.2 h3 hr
   |exit i η=>obtain⟨η',rfl,h3⟩:=h2;cases hr;exact⟨_,rfl,η',rfl,h3⟩
   |ret d=>cases h2;cases hr;exact⟨_,rfl,rfl⟩
 |ite c lr lo a b bC eC=>
  intro hk B ρ ρ' x h hr;have hc:(c.ev ρ').b=(c.ev ρ).b:=by rw[PE.ev_alike c (h.al.le hk.of_un.1)]
  have key:∀(d:PC),(∀{ρ ρ':Env} {x:Out},Off K B ρ ρ'→d.ev Φ n ρ=some x→∃x',d.ev Φ n ρ'=some x'∧ub K B x x')→(match d.ev Φ n ρ with|some (.next η)=>some (.next (ρ.join lr lo η))|x=>x)=some x→
      ∃x',(match d.ev Φ n ρ' with|some (.next η)=>some (.next (ρ'.join lr lo η))|x=>x)=some x'∧ub K B x x':=by
   intro d ih hr;cases ha:d.ev Φ n ρ with
   |none=>rw[ha] at hr;cases hr
   |some y=>
    obtain⟨y',h1,h2⟩:=ih h ha;rw[ha] at hr;rw[h1];cases y with
    |next η=>obtain⟨η',rfl,h3⟩:=h2;cases hr;exact⟨_,rfl,_,rfl,h.join h3 lr lo⟩
    |exit i η=>obtain⟨η',rfl,h3⟩:=h2;cases hr;exact⟨_,rfl,η',rfl,h3⟩
    |ret d=>cases h2;cases hr;exact⟨_,rfl,rfl⟩
  simp only[PC.ev,hc] at hr ⊢;cases jc:(c.ev ρ).b<;>simp only[jc,cond_true,cond_false] at hr ⊢
  ·exact key b (fun h1 h2=>eC hk.of_un.2.of_un.2 h1 h2) hr
  ·exact key a (fun h1 h2=>bC hk.of_un.2.of_un.1 h1 h2) hr
 |block id lr lo a bC=>
  intro hk B ρ ρ' x h hr;simp only[PC.ev] at hr ⊢;cases ha:a.ev Φ n ρ with
  |none=>rw[ha] at hr;cases hr
  |some y=>
   obtain⟨y',h1,h2⟩:=bC hk h ha;rw[ha] at hr;rw[h1];cases y with
   |next η=>obtain⟨η',rfl,h3⟩:=h2;cases hr;exact⟨_,rfl,_,rfl,h.join h3 lr lo⟩
   |exit i η=>
    obtain⟨η',rfl,h3⟩:=h2;simp only at hr ⊢;cases hb:Nat.beq i id<;>simp only[hb,cond_true,cond_false] at hr ⊢<;>cases hr
    ·exact⟨_,rfl,η',rfl,h3⟩
    ·exact⟨_,rfl,_,rfl,h.join h3 lr lo⟩
   |ret d=>cases h2;cases hr;exact⟨_,rfl,rfl⟩
 |loop lr lo a bC=>
  intro hk B ρ ρ' x h hr;have jf:∀t,t∈lr→au K.r t=true:=fun t ht=>hk.of_un.1.1 t (M0 ht);have jV:∀t,t∈lo→t∈K.o:=fun t ht=>hk.of_un.1.2 t ht;have key:∀(m:Nat) (vr vo:List D),iO (a.ev Φ n) ρ lr lo m vr vo=some x→∃x',iO (a.ev Φ n) ρ' lr lo m vr vo=some x'∧ub K B x x':=by
   intro m
   induction m with
   |zero=>intro vr vo h;simp[iO] at h
   |succ m Px=>
    intro vr vo hr;simp only[iO] at hr ⊢;cases ha:a.ev Φ n (ρ.put lr vr lo vo) with
    |none=>rw[ha] at hr;cases hr
    |some y=>
     obtain⟨y',h1,h2⟩:=bC hk.of_un.2 (h.put jf jV vr vo) ha;rw[ha] at hr;rw[h1];cases y with
     |next η=>obtain⟨η',rfl,h3⟩:=h2;simp only[xq h3 jV,aal h3 jf];exact Px _ _ hr
     |exit i η=>obtain⟨η',rfl,h3⟩:=h2;cases hr;exact⟨_,rfl,η',rfl,h3⟩
     |ret d=>cases h2;cases hr;exact⟨_,rfl,rfl⟩
  simp only[PC.ev] at hr ⊢;rw[xq h jV,aal h jf];exact key n _ _ hr
 |each e ps lo rt a bC=>
  intro hk B ρ ρ' x h hr;obtain⟨bu,cm⟩:=hk.of_un;obtain⟨cm,mm⟩:=cm.of_un;obtain⟨mm,Ap⟩:=mm.of_un;have jV:∀t,t∈lo→t∈K.o:=fun t ht=>mm.2 t ht;have key:∀(xs vo:List D),iY (a.ev Φ n) ρ ps lo rt xs vo=some x→∃x',iY (a.ev Φ n) ρ' ps lo rt xs vo=some x'∧ub K B x x':=by
   intro xs
   induction xs with
   |nil=>intro vo hr;simp only[iY,aS] at hr ⊢;subst hr;exact⟨_,rfl,_,rfl,h.put (fun _ h=>by cases h) jV _ _⟩
   |cons y xs jD=>
    intro vo hr;simp only[iY] at hr ⊢;cases ha:a.ev Φ n (ρ.put ps (partsOf ps y) lo vo) with
    |none=>rw[ha] at hr;cases hr
    |some z=>
     have jA:Off K (ρ'.put ps (partsOf ps y) lo vo) (ρ.put ps (partsOf ps y) lo vo) (ρ'.put ps (partsOf ps y) lo vo):=⟨h.al.put ps lo _ _,fun _ _=>rfl,fun _ _=>rfl⟩
     obtain⟨z',h1,h2⟩:=bC Ap jA ha;rw[ha] at hr;rw[h1];cases z with
     |next η=>obtain⟨η',rfl,h3⟩:=h2;simp only[xq h3 jV];exact jD _ hr
     |exit i η=>
      obtain⟨η',rfl,h3⟩:=h2;simp only[xq h3 jV] at hr ⊢;have hp:=h.put (lr:=[]) (fun _ h=>by cases h) jV [] (lo.map η.o);cases hb:Nat.beq i cO<;>simp only[hb,cond_true,cond_false] at hr ⊢
      ·cases hr;exact⟨_,rfl,_,rfl,hp⟩
      ·cases rt with
       |none=>cases hr
       |some e2=>cases hr;exact⟨_,rfl,by show Out.ret _=Out.ret _;rw[PE.ev_alike e2 (hp.al.le cm)]⟩
     |ret d=>cases hr
  simp only[PC.ev] at hr ⊢;rw[PE.ev_alike e (h.al.le bu),xq h jV];exact key _ _ hr
 |meach J ps de lo a bC=>
  intro hk B ρ ρ' x h hr;obtain⟨mm,Ap⟩:=hk.of_un;have jV:∀t,t∈lo→t∈K.o:=fun t ht=>mm.2 t (dy _ ht);have hJ:ρ'.o J=ρ.o J:=h.al.o J (mm.2 J (dB ..));have key:∀(es:D) (xs done vo rZ:List D),oO (a.ev Φ n) ρ J es ps de lo xs done vo=some rZ→oO (a.ev Φ n) ρ' J es ps de lo xs done vo=some rZ:=by
   intro es xs
   induction xs with
   |nil=>intro done vo rZ h;exact h
   |cons y xs jD=>
    intro done vo rZ hr;simp only[oO] at hr ⊢;cases ha:a.ev Φ n ((ρ.put ps (de.map y.tget) lo vo).setO J (.tup [.list (done++[y]),es])) with
    |none=>rw[ha] at hr;cases hr
    |some z=>
     have jA:Off K ((ρ'.put ps (de.map y.tget) lo vo).setO J (.tup [.list (done++[y]),es])) ((ρ.put ps (de.map y.tget) lo vo).setO J (.tup [.list (done++[y]),es])) ((ρ'.put ps (de.map y.tget) lo vo).setO J (.tup [.list (done++[y]),es])):=
          ⟨(h.al.put ps lo _ _).setO J _,fun _ _=>rfl,fun _ _=>rfl⟩
     obtain⟨z',h1,h2⟩:=bC Ap jA ha;rw[ha] at hr;rw[h1];cases z with
     |next η=>obtain⟨η',rfl,h3⟩:=h2;simp only[xq h3 jV];exact jD _ _ _ hr
     |exit i η=>cases hr
     |ret d=>cases hr
  simp only[PC.ev,Bb] at hr;obtain⟨vo,⟨h1,h2⟩,rfl⟩:=hr;refine⟨.next (ρ'.put [] [] lo vo),?_,_,rfl,h.put (fun _ h=>by cases h) jV _ _⟩;simp only[PC.ev,Bb];refine⟨vo,⟨by rw[hJ];exact h1,fun ys hy=>?_⟩,rfl⟩;rw[hJ] at hy ⊢;rw[xq h jV];exact key _ _ _ _ _ (h2 ys hy)
def oa:List Nat→PC→Bool
 |l,.exit id=>fe l id
 |l,.seq a b=>oa l a&&oa l b
 |l,.ite _ _ _ a b=>oa l a&&oa l b
 |l,.block id _ _ a=>oa (id::l) a
 |l,.loop _ _ a=>oa l a
 |l,.each _ _ _ _ a=>oa (cO::l) a
 |_,_=>true
theorem aiX {Φ:aL}{n:Nat}:∀(c:PC) {l:List Nat},oa l c=true→∀{ρ:Env} {i:Nat} {η:Env},c.ev Φ n ρ=some (.exit i η)→i∈l:=by
 intro c
 induction c with
 |skip=>intro l _ ρ i η h;simp[PC.ev] at h
 |exit id=>intro l hl ρ i η h;simp only[PC.ev,aS] at h;injection h with h1 h2;subst h1;exact(ql _ _).1 hl
 |ret e=>intro l _ ρ i η h;simp[PC.ev] at h
 |is _=>intro l _ ρ i η h;simp[PC.ev] at h
 |seq a b bC eC=>
  intro l hl ρ i η h;simp only[oa,ao] at hl;simp only[PC.ev] at h;split at h
  ·exact eC hl.2 h
  ·exact bC hl.1 h
 |ite c lr lo a b bC eC=>
  intro l hl ρ i η h;simp only[oa,ao] at hl;simp only[PC.ev] at h;cases hc:(c.ev ρ).b<;>simp only[hc,cond_true,cond_false] at h
  ·split at h
   ·cases h
   ·exact eC hl.2 h
  ·split at h
   ·cases h
   ·exact bC hl.1 h
 |block id lr lo a bC=>
  intro l hl ρ i η h;simp only[PC.ev] at h;split at h
  ·cases h
  ·rename_i bR ρ2 ha;cases hb:Nat.beq bR id<;>simp only[hb,cond_true,cond_false] at h<;>cases h;rcases cT.1 (bC hl ha) with e|e
   ·subst e;rw[gR] at hb;cases hb
   ·exact e
  ·rename_i h1 h2;exact absurd h (h2 _ _)
 |loop lr lo a bC=>
  intro l hl ρ i η h;have key:∀(m:Nat) (vr vo:List D),iO (a.ev Φ n) ρ lr lo m vr vo=some (.exit i η)→i∈l:=by
   intro m
   induction m with
   |zero=>intro vr vo h;simp[iO] at h
   |succ m Px=>
    intro vr vo h;simp only[iO] at h;split at h
    ·exact Px _ _ h
    ·exact bC hl h
  exact key _ _ _ h
 |each e ps lo rt a bC=>
  intro l hl ρ i η h;have key:∀(xs vo:List D),iY (a.ev Φ n) ρ ps lo rt xs vo=some (.exit i η)→i∈l:=by
   intro xs
   induction xs with
   |nil=>intro vo h;simp[iY] at h
   |cons x xs jD=>
    intro vo h;simp only[iY] at h;split at h
    ·exact jD _ h
    ·rename_i bR ρ2 ha;cases hb:Nat.beq bR cO<;>simp only[hb,cond_true,cond_false] at h
     ·injection h with h;injection h with h1 h2;subst h1
      rcases cT.1 (bC hl ha) with e|e
      ·subst e;rw[gR] at hb;cases hb
      ·exact e
     ·cases rt<;>simp at h
    ·cases h
  exact key _ _ h
 |meach J ps de lo a _=>
  intro l _ ρ i η h;simp only[PC.ev,Bb] at h;obtain⟨vo,_,h⟩:=h;cases h
def ZL (t:Nat):PE→Bool
 |.r u=>Nat.beq u t
 |_=>false
def ZM (t:Nat):PE→Bool
 |.o u=>Nat.beq u t
 |_=>false
def fk (oE:Nat→PE→Bool)(p:Nat→Bool):List Nat→List (Nat×PE)→List (Nat×PE)
 |_,[]=>[]
 |seen,x::l=>bif p x.1&& !fe seen x.1 then(bif oE x.1 x.2 then fk oE p (x.1::seen) l else x::fk oE p (x.1::seen) l) else fk oE p seen l
theorem Ir {oE:Nat→PE→Bool}{p:Nat→Bool}:∀{l:List (Nat×PE)} {seen:List Nat} {t:Nat},fe seen t=true→aV (fk oE p seen l) t=none
 |[],_,_,_=>rfl
 |x::l,seen,t,h=>by
  have h':fe (x.1::seen) t=true:=by rw[ql] at h ⊢;exact dy _ h
  simp only[fk];cases hb:(p x.1&& !fe seen x.1) with
  |false=>exact Ir h
  |true=>
   simp only[cond_true];cases oE x.1 x.2 with
   |true=>exact Ir h'
   |false=>
    simp only[cond_false,aV];have:Nat.beq x.1 t=false:=by
      cases e:Nat.beq x.1 t with
      |false=>rfl
      |true=>rw[cU e,h] at hb;simp at hb
    rw[this];exact Ir h'
theorem Dn {oE:Nat→PE→Bool}{p:Nat→Bool}{dflt:Nat→PE}(cE:∀t e,oE t e=true→e=dflt t):∀{l:List (Nat×PE)} {seen:List Nat} {t:Nat},p t=true→fe seen t=false→
 (match aV (fk oE p seen l) t with|some e=>e|none=>dflt t)=(match aV l t with|some e=>e|none=>dflt t)
 |[],_,_,_,_=>rfl
 |x::l,seen,t,hp,hs=>by
  simp only[fk,aV];cases e:Nat.beq x.1 t with
  |true=>
   have e':=cU e;rw[e',hp,hs];simp only[Bool.not_false,Bool.and_self,cond_true];cases hi:oE t x.2 with
   |true=>simp only[cond_true];rw[Ir (by rw[ql];exact dB ..)];exact(cE _ _ hi).symm
   |false=>simp only[cond_false,aV,e,cond_true]
  |false=>
   simp only[cond_false];cases hb:(p x.1&& !fe seen x.1) with
   |false=>exact Dn cE hp hs
   |true=>
    have eT:fe (x.1::seen) t=false:=by
      cases hm:fe (x.1::seen) t with
      |false=>rfl
      |true=>
       rcases cT.1 ((ql _ _).1 hm) with h|h
       ·rw[h,gR] at e;cases e
       ·rw[(ql _ _).2 h] at hs;cases hs
    simp only[cond_true];cases oE x.1 x.2 with
    |true=>exact Dn cE hp eT
    |false=>simp only[cond_false,aV,e];exact Dn cE hp eT
def SE.cut (s:SE)(k:Lk):SE:=⟨fk ZL (au k.r) [] s.r,fk ZM (fe k.o) [] s.o⟩
def PO (l:List (Nat×PE)):Lk:=l.foldr (fun x k=>x.2.lk.un k) .none
def SE.lks (s:SE):Lk:=(PO s.r).un (PO s.o)
theorem PQ:∀{l:List (Nat×PE)} {t:Nat} {e:PE},aV l t=some e→e.lk.Le (PO l)
 |[],_,_,h=>by cases h
 |x::l,t,e,h=>by
  simp only[aV] at h;cases hb:Nat.beq x.1 t<;>simp only[hb,cond_true,cond_false] at h
  ·exact(PQ h).trans (Lk.le_r _ _)
  ·cases h;exact Lk.le_l _ _
theorem SE.cut_al {s:SE}{L:Lk}{ρ1 ρ2:Env}(h:Alike (L.un (s.cut L).lks) ρ1 ρ2):Alike L ((s.cut L).ev ρ1) (s.ev ρ2):=by
 have hL:=h.le (Lk.le_l _ _);have hs:=h.le (Lk.le_r _ _);constructor
 ·intro t ht;show(s.getR t).ev ρ2=((s.cut L).getR t).ev ρ1;have e:(s.cut L).getR t=s.getR t:=Dn (dflt:=.r) (fun t e he=>by unfold ZL at he;split at he;rw[cU he];cases he) ht rfl;rw[←e];cases hl:aV (s.cut L).r t with
  |none=>have:(s.cut L).getR t=.r t:=by unfold SE.getR;rw[hl]
         rw[this];exact hL.r t ht
  |some x=>have:(s.cut L).getR t=x:=by unfold SE.getR;rw[hl]
           rw[this];exact PE.ev_alike x (hs.le ((PQ hl).trans (Lk.le_l _ _)))
 ·intro t ht;show(s.getO t).ev ρ2=((s.cut L).getO t).ev ρ1;have e:(s.cut L).getO t=s.getO t:=Dn (dflt:=.o) (fun t e he=>by unfold ZM at he;split at he;rw[cU he];cases he) ((ql _ _).2 ht) rfl;rw[←e];cases hl:aV (s.cut L).o t with
  |none=>have:(s.cut L).getO t=.o t:=by unfold SE.getO;rw[hl]
         rw[this];exact hL.o t ht
  |some x=>have:(s.cut L).getO t=x:=by unfold SE.getO;rw[hl]
           rw[this];exact PE.ev_alike x (hs.le ((PQ hl).trans (Lk.le_r _ _)))
structure LC where
 next:Lk
 ov:List (Nat×Lk)
def LC.all (c:LC):Lk:=c.ov.foldr (fun x k=>x.2.un k) .none
def L9 (c:LC)(Q1 Q2:Out→Prop):Prop:=
 (∀ρ1 ρ2,Alike c.next ρ1 ρ2→Q1 (.next ρ1)→Q2 (.next ρ2))∧(∀id k ρ1 ρ2,aV c.ov id=some k→Alike k ρ1 ρ2→Q1 (.exit id ρ1)→Q2 (.exit id ρ2))∧∀d,Q1 (.ret d)→Q2 (.ret d)
def ga:LC→PT→Option (PT×Lk)
 |c,.next s=>some (.next (s.cut c.next),c.next.un (s.cut c.next).lks)
 |c,.exit id s=>(aV c.ov id).map fun k=>(.exit id (s.cut k),k.un (s.cut k).lks)
 |_,.ret e=>some (.ret e,e.lk)
 |c,.chk e k=>(ga c k).map fun r=>(.chk e r.1,e.lk.un r.2)
 |c,.ite e a b=>(ga c a).bind fun x=>(ga c b).map fun y=>(.ite e x.1 y.1,e.lk.un (x.2.un y.2))
 |c,.call s gs dst f args k=>(ga c k).map fun r=>(.call (s.cut (r.2.un (mh gs))) gs dst f args r.1,(PE.lks args).un ((r.2.un (mh gs)).un (s.cut (r.2.un (mh gs))).lks))
 |c,.callc s gs dst e args k=>(ga c k).map fun r=>(.callc (s.cut (r.2.un (mh gs))) gs dst e args r.1,(e.lk.un (PE.lks args)).un ((r.2.un (mh gs)).un (s.cut (r.2.un (mh gs))).lks))
 |c,.mcall s j f args k=>(ga c k).map fun r=>(.mcall (s.cut r.2) j f args r.1,(PE.lks args).un (r.2.un (s.cut r.2).lks))
 |c,.iteS s e lr lo a b k=>(ga c k).bind fun r=>(ga ⟨r.2,c.ov⟩ a).bind fun x=>(ga ⟨r.2,c.ov⟩ b).map fun y=>
    (.iteS (s.cut (r.2.un (x.2.un y.2))) e lr lo x.1 y.1 r.1,e.lk.un ((r.2.un (x.2.un y.2)).un (s.cut (r.2.un (x.2.un y.2))).lks))
 |c,.blockS s id lr lo a k=>(ga c k).bind fun r=>(ga ⟨r.2,(id,r.2)::c.ov⟩ a).map fun x=>(.blockS (s.cut (r.2.un x.2)) id lr lo x.1 r.1,(r.2.un x.2).un (s.cut (r.2.un x.2)).lks)
 |c,.brk s p k=>(ga c k).bind fun r=>bif oa (c.ov.map (·.1)) p then some (.brk (s.cut (p.lk.un (r.2.un c.all))) p r.1,(p.lk.un (r.2.un c.all)).un (s.cut (p.lk.un (r.2.un c.all))).lks) else none
theorem LC.all_le:∀{l:List (Nat×Lk)} {id:Nat} {k:Lk},aV l id=some k→k.Le (l.foldr (fun x k=>x.2.un k) .none)
 |[],_,_,h=>by cases h
 |x::l,t,e,h=>by
  simp only[aV] at h;cases hb:Nat.beq x.1 t<;>simp only[hb,cond_true,cond_false] at h
  ·exact(LC.all_le h).trans (Lk.le_r _ _)
  ·cases h;exact Lk.le_l _ _
theorem Z4:∀{l:List (Nat×Lk)} {id:Nat},id∈l.map (·.1)→∃k,aV l id=some k
 |[],_,h=>by cases h
 |x::l,id,h=>by
  simp only[aV];cases hb:Nat.beq x.1 id with
  |true=>exact⟨_,rfl⟩
  |false=>
   simp only[cond_false];rcases cT.1 h with e|h
   ·rw[e,gR] at hb;cases hb
   ·exact Z4 h
theorem aqN {T:cC}:∀(t:PT) {c:LC} {t':PT} {L:Lk},ga c t=some (t',L)→∀{Q1 Q2:Out→Prop} {ρ1 ρ2:Env},L9 c Q1 Q2→Alike L ρ1 ρ2→aI T t' ρ1 Q1→aI T t ρ2 Q2:=by
 intro t
 induction t with
 |next s=>
  intro c t' L hp Q1 Q2 ρ1 ρ2 hQ hA h;simp only[ga,aS,nO] at hp;obtain⟨rfl,rfl⟩:=hp;exact hQ.1 _ _ (SE.cut_al hA) h
 |exit id s=>
  intro c t' L hp Q1 Q2 ρ1 ρ2 hQ hA h;simp only[ga,az,nO] at hp;obtain⟨k,hk,rfl,rfl⟩:=hp;exact hQ.2.1 _ k _ _ hk (SE.cut_al hA) h
 |ret e=>
  intro c t' L hp Q1 Q2 ρ1 ρ2 hQ hA h;simp only[ga,aS,nO] at hp;obtain⟨rfl,rfl⟩:=hp;show Q2 (.ret (e.ev ρ2));rw[PE.ev_alike e hA];exact hQ.2.2 _ h
 |chk e k ih=>
  intro c t' L hp Q1 Q2 ρ1 ρ2 hQ hA h;simp only[ga,az,nO] at hp;obtain⟨r,hr,rfl,rfl⟩:=hp;exact⟨by rw[PE.ev_alike e (hA.le (Lk.le_l _ _))];exact h.1,ih hr hQ (hA.le (Lk.le_r _ _)) h.2⟩
 |ite e a b bC eC=>
  intro c t' L hp Q1 Q2 ρ1 ρ2 hQ hA h;simp only[ga,aq,az,nO] at hp;obtain⟨x,hx,y,hy,rfl,rfl⟩:=hp;have h2:=hA.le (Lk.le_r _ _);simp only[aI] at h ⊢;rw[PE.ev_alike e (hA.le (Lk.le_l _ _))];split
  ·rename_i hc;rw[if_pos hc] at h;exact bC hx hQ (h2.le (Lk.le_l _ _)) h
  ·rename_i hc;rw[if_neg hc] at h;exact eC hy hQ (h2.le (Lk.le_r _ _)) h
 |call s gs dst f args k ih=>
  intro c t' L hp Q1 Q2 ρ1 ρ2 hQ hA h;simp only[ga,az,nO] at hp;obtain⟨r,hr,rfl,rfl⟩:=hp;have hS:=SE.cut_al (hA.le (Lk.le_r _ _));simp only[aI] at h ⊢;rw[PE.evs_alike args (hA.le (Lk.le_l _ _)),Au (hS.le (Lk.le_r _ _))];split
  ·rename_i hc;rw[if_pos hc] at h;obtain⟨d,hd,h⟩:=h;exact⟨d,hd,ih hr hQ ((hS.le (Lk.le_l _ _)).setR dst d) h⟩
  ·rename_i hc;rw[if_neg hc] at h;exact ih hr hQ (hS.le (Lk.le_l _ _)) h
 |callc s gs dst e args k ih=>
  intro c t' L hp Q1 Q2 ρ1 ρ2 hQ hA h;simp only[ga,az,nO] at hp;obtain⟨r,hr,rfl,rfl⟩:=hp;have hS:=SE.cut_al (hA.le (Lk.le_r _ _));have hE:=hA.le (Lk.le_l _ _);simp only[aI] at h ⊢;rw[PE.ev_alike e (hE.le (Lk.le_l _ _)),PE.evs_alike args (hE.le (Lk.le_r _ _)),Au (hS.le (Lk.le_r _ _))];split
  ·rename_i hc;rw[if_pos hc] at h;obtain⟨f,caps,d,he,hd,h⟩:=h;exact⟨f,caps,d,he,hd,ih hr hQ ((hS.le (Lk.le_l _ _)).setR dst d) h⟩
  ·rename_i hc;rw[if_neg hc] at h;exact ih hr hQ (hS.le (Lk.le_l _ _)) h
 |mcall s j f args k ih=>
  intro c t' L hp Q1 Q2 ρ1 ρ2 hQ hA h;simp only[ga,az,nO] at hp;obtain⟨r,hr,rfl,rfl⟩:=hp;have hS:=SE.cut_al (hA.le (Lk.le_r _ _));simp only[aI] at h ⊢;rw[PE.evs_alike args (hA.le (Lk.le_l _ _))];obtain⟨d,hd,h⟩:=h;exact⟨d,hd,ih hr hQ (hS.setO j d) h⟩
 |iteS s e lr lo a b k bC eC jX=>
  intro c t' L hp Q1 Q2 ρ1 ρ2 hQ hA h;simp only[ga,aq,az,nO] at hp;obtain⟨r,hr,x,hx,y,hy,rfl,rfl⟩:=hp;have hS:=SE.cut_al (hA.le (Lk.le_r _ _));have IG:=hS.le (Lk.le_l _ _);have Dz:=hS.le ((Lk.le_l _ _).trans (Lk.le_r _ _));have hSy:=hS.le ((Lk.le_r _ _).trans (Lk.le_r _ _))
  have rel:L9 ⟨r.2,c.ov⟩ (kZ ((s.cut (r.2.un (x.2.un y.2))).ev ρ1) lr lo (hZ (fun ρ'=>aI T r.1 ρ' Q1) Q1)) (kZ (s.ev ρ2) lr lo (hZ (fun ρ'=>aI T k ρ' Q2) Q2)):=
   ⟨fun η1 η2 ha hq=>jX hr hQ (IG.join ha lr lo) hq,fun id k' η1 η2 hk ha hq=>hQ.2.1 id k' _ _ hk ha hq,fun d hq=>hQ.2.2 d hq⟩
  simp only[aI] at h ⊢;rw[PE.ev_alike e (hA.le (Lk.le_l _ _))];split
  ·rename_i hc;rw[if_pos hc] at h;exact bC hx rel Dz h
  ·rename_i hc;rw[if_neg hc] at h;exact eC hy rel hSy h
 |blockS s id lr lo a k bC jX=>
  intro c t' L hp Q1 Q2 ρ1 ρ2 hQ hA h;simp only[ga,aq,az,nO] at hp;obtain⟨r,hr,x,hx,rfl,rfl⟩:=hp;have hS:=SE.cut_al hA;have IG:=hS.le (Lk.le_l _ _);refine bC hx (Q1:=me ((s.cut (r.2.un x.2)).ev ρ1) id lr lo (hZ (fun ρ'=>aI T r.1 ρ' Q1) Q1)) ⟨fun η1 η2 ha hq=>jX hr hQ (IG.join ha lr lo) hq,fun bR k' η1 η2 hk ha hq=>?_,fun d hq=>hQ.2.2 d hq⟩ (hS.le (Lk.le_r _ _)) h;simp only[me] at hq ⊢;simp only[aV] at hk;by_cases e:bR=id
  ·subst e;simp only[gR,cond_true,aS] at hk;subst hk;rw[if_pos rfl] at hq ⊢;exact jX hr hQ (IG.join ha lr lo) hq
  ·rw[if_neg e] at hq ⊢;rw[eH (fun h=>e h.symm),cond_false] at hk;exact hQ.2.1 bR k' _ _ hk ha hq
 |brk s p k jX=>
  intro c t' L hp Q1 Q2 ρ1 ρ2 hQ hA h;simp only[ga,aq] at hp;obtain⟨r,hr,hp⟩:=hp;cases hx:oa (c.ov.map (·.1)) p<;>simp only[hx,cond_true,cond_false,aS,nO] at hp
  ·cases hp
  obtain⟨rfl,rfl⟩:=hp;have hS:=SE.cut_al hA;have jA:Off (p.lk.un (r.2.un c.all)) (s.ev ρ2) ((s.cut (p.lk.un (r.2.un c.all))).ev ρ1) (s.ev ρ2):=⟨hS,fun _ _=>rfl,fun _ _=>rfl⟩
  obtain⟨x,hq,n0,hn⟩:=h;have step:=fun n (hle:n0≤n)=>PC.ev_off p (Lk.le_l _ _) jA (hn n hle);obtain⟨x',h1,h2⟩:=step n0 (bf _);refine⟨x',?_,n0,fun n hle=>?_⟩
  ·cases x with
   |next η=>obtain⟨η',rfl,h3⟩:=h2;exact jX hr hQ (h3.al.le ((Lk.le_l _ _).trans (Lk.le_r _ _))) hq
   |exit i η=>
    obtain⟨η',rfl,h3⟩:=h2;obtain⟨k',bm⟩:=Z4 (aiX p hx (hn n0 (bf _)));exact hQ.2.1 i k' _ _ bm (h3.al.le ((LC.all_le bm).trans ((Lk.le_r _ _).trans (Lk.le_r _ _)))) hq
   |ret d=>cases h2;exact hQ.2.2 d hq
  ·obtain⟨x2,h3,h4⟩:=step n hle;rw[h3,h2.uniq h4]
def EX (c:LC)(t:PT):PT:=match ga c t with|some r=>r.1|none=>t
theorem Kh {T:cC}{c:LC}{t:PT}{Q:Out→Prop}{ρ:Env}(hQ:L9 c Q Q)(h:aI T (EX c t) ρ Q):aI T t ρ Q:=by
 unfold EX at h;split at h
 ·rename_i r hr;exact aqN t hr hQ ⟨fun _ _=>rfl,fun _ _=>rfl⟩ h
 ·exact h
def aex (c:PC):PT:=sx c [] .id (fun _ s=>.next s) (fun _ id s=>.exit id s)
theorem aey {T:cC}{c:PC}{ρ:Env}{Q:Out→Prop}(h:aI T (aex c) ρ Q):aP T c ρ Q:=
 Lp (s:=.id) c (bW.ok_nil _) h (fun ρ' ab s _ _ h=>h) (fun ρ' ab id s _ _ h=>h) (fun _ _ _ h=>h) (fun _ h=>h)
def tree (c:PC):PT:=EX ⟨.none,[]⟩ (aex c)
theorem LJ {T:cC}{c:PC}{ρ:Env}{d:D}(h:aI T (tree c) ρ fun x=>x=.ret d):aP T c ρ fun x=>x=.ret d:=
 aey (Kh ⟨fun _ _ _ h=>(by cases h),fun _ _ _ _ _ _ h=>(by cases h),fun _ h=>h⟩ h)
def SE.keep (s:SE)(lr lo:List Nat):SE:=⟨lr.map fun t=>(t,s.getR t),lo.map fun t=>(t,s.getO t)⟩
theorem SE.keep_r (s:SE)(lr lo:List Nat)(ρ:Env):lr.map ((s.keep lr lo).ev ρ).r=lr.map (s.ev ρ).r:=by
 apply yy;intro t ht;show((s.keep lr lo).getR t).ev ρ=(s.getR t).ev ρ;have:=xm (f:=fun t=>s.getR t) (l:=[]) (u:=t) lr;rw[lz,if_pos ht] at this;have e:(s.keep lr lo).getR t=s.getR t:=by unfold SE.getR SE.keep;simp only[];rw[this];rfl
 rw[e]
theorem SE.keep_o (s:SE)(lr lo:List Nat)(ρ:Env):lo.map ((s.keep lr lo).ev ρ).o=lo.map (s.ev ρ).o:=by
 apply yy;intro t ht;show((s.keep lr lo).getO t).ev ρ=(s.getO t).ev ρ;have:=xm (f:=fun t=>s.getO t) (l:=[]) (u:=t) lo;rw[lz,if_pos ht] at this;have e:(s.keep lr lo).getO t=s.getO t:=by unfold SE.getO SE.keep;simp only[];rw[this];rfl
 rw[e]
def adT (id:Nat)(bz bx lr lo:List Nat)(a:PC):PT:=
 sx a [] .id (fun _ s=>.next (s.keep lr lo)) (fun _ bR s=>bif Nat.beq bR id then .exit id (s.keep bz bx) else .exit bR s)
def fg (ρ:Env)(id:Nat)(bz bx lr lo:List Nat)(K:List D→List D→Prop)(Q:Out→Prop):Out→Prop
 |.next ρ'=>K (lr.map ρ'.r) (lo.map ρ'.o)
 |.exit bR ρ'=>if bR=id then Q (.next (ρ.put bz (bz.map ρ'.r) bx (bx.map ρ'.o))) else Q (.exit bR ρ')
 |.ret d=>Q (.ret d)
def round (id:Nat)(bz bx lr lo:List Nat)(a:PC):PT:=EX ⟨⟨bits lr,lo⟩,[(id,⟨bits bz,bx⟩)]⟩ (adT id bz bx lr lo a)
theorem aak {k:Lk}{lr:List Nat}{ρ1 ρ2:Env}(h:Alike k ρ1 ρ2)(hk:∀t,t∈lr→au k.r t=true):lr.map ρ2.r=lr.map ρ1.r:=yy fun t ht=>h.r t (hk t ht)
theorem JG {k:Lk}{lo:List Nat}{ρ1 ρ2:Env}(h:Alike k ρ1 ρ2)(hk:∀t,t∈lo→t∈k.o):lo.map ρ2.o=lo.map ρ1.o:=yy fun t ht=>h.o t (hk t ht)
theorem arX {T:cC}{id:Nat}{bz bx lr lo:List Nat}{a:PC}{ρ ρ0:Env}{K:List D→List D→Prop}{Q:Out→Prop}(h:aI T (round id bz bx lr lo a) ρ (fg ρ0 id bz bx lr lo K Q)):aI T (adT id bz bx lr lo a) ρ (fg ρ0 id bz bx lr lo K Q):=by
 refine Kh ⟨fun ρ1 ρ2 ha hq=>?_,fun bR k ρ1 ρ2 hk ha hq=>?_,fun d hq=>hq⟩ h
 ·simp only[fg] at hq ⊢;rw[aak ha fun t ht=>M0 ht,JG ha fun t ht=>ht];exact hq
 ·simp only[aV] at hk;cases hb:Nat.beq id bR<;>simp only[hb,cond_true,cond_false] at hk
  ·cases hk
  ·cases hk;have:=cU hb;subst this;simp only[fg,if_true] at hq ⊢;rw[aak ha fun t ht=>M0 ht,JG ha fun t ht=>ht];exact hq
theorem aP.forLoop {T:cC}{id:Nat}{bz bx lr lo:List Nat}{a:PC}{ρ:Env}{Q:Out→Prop}{α:Type}(inv:α→List D→List D→Prop)(uY:α→Nat)(s0:α)(h0:inv s0 (lr.map ρ.r) (lo.map ρ.o))
 (step:∀s vr vo,inv s vr vo→aI T (round id bz bx lr lo a) (ρ.put lr vr lo vo) (fg ρ id bz bx lr lo (fun vr vo=>∃s',uY s'<uY s∧inv s' vr vo) Q)):aP T (.block id bz bx (.loop lr lo a)) ρ Q:=by
 refine .block (.loop inv uY s0 h0 fun s vr vo hi=>?_);have h:=arX (step s vr vo hi);refine Lp (s:=.id) a (bW.ok_nil _) h (fun ρ' ab s' _ _ h=>?_) (fun ρ' ab bR s' _ _ h=>?_) (fun _ bR ρ' h=>?_) (fun d h=>h)
 ·simp only[aI,fg] at h;rw[SE.keep_r,SE.keep_o] at h;exact h
 ·simp only[hZ,me];by_cases cE:bR=id
  ·subst cE;simp only[gR,cond_true,aI,fg,if_true] at h;rw[SE.keep_r,SE.keep_o] at h;rw[if_pos rfl];exact h
  ·rw[eH cE,cond_false] at h;simp only[aI,fg] at h;rw[if_neg cE] at h ⊢;exact h
 ·simp only[hZ,me];simp only[fg] at h;split
  ·rename_i e;rw[if_pos e] at h;exact h
  ·rename_i e;rw[if_neg e] at h;exact h
def adU (lo:List Nat)(a:PC):PT:=sx a [] .id (fun _ s=>.next (s.keep [] lo)) (fun _ id s=>.exit id (s.keep [] lo))
def qD (lo:List Nat)(a:PC):PT:=EX ⟨⟨0,lo⟩,[(cO,⟨0,lo⟩)]⟩ (adU lo a)
theorem adV {T:cC}{lo:List Nat}{a:PC}{ρ:Env}{Q:Out→Prop}(hn:∀ρ1 ρ2,lo.map ρ2.o=lo.map ρ1.o→Q (.next ρ1)→Q (.next ρ2))(hx:∀ρ1 ρ2,lo.map ρ2.o=lo.map ρ1.o→Q (.exit cO ρ1)→Q (.exit cO ρ2))(h:aI T (qD lo a) ρ Q):aI T (adU lo a) ρ Q:=by
 refine Kh ⟨fun ρ1 ρ2 ha hq=>hn ρ1 ρ2 (JG ha fun t ht=>ht) hq,fun bR k ρ1 ρ2 hk ha hq=>?_,fun d hq=>hq⟩ h;simp only[aV] at hk;cases hb:Nat.beq cO bR<;>simp only[hb,cond_true,cond_false] at hk
 ·cases hk
 ·cases hk;have:=cU hb;subst this;exact hx ρ1 ρ2 (JG ha fun t ht=>ht) hq
theorem aP.eachR {T:cC}{e:PE}{ps lo:List Nat}{rt:Option PE}{a:PC}{ρ:Env}{Q:Out→Prop}(xs:List D)(he:(e.ev ρ).l=xs)(inv:Nat→List D→Prop)(h0:inv 0 (lo.map ρ.o))
 (step:∀k x vo,xs[k]?=some x→inv k vo→aI T (qD lo a) (ρ.put ps (partsOf ps x) lo vo) (uq ρ lo rt (inv (k+1)) Q)) (done:∀vo,inv xs.length vo→Q (.next (ρ.put [] [] lo vo))):aP T (.each e ps lo rt a) ρ Q:=by
 refine .each xs he inv h0 (fun k x vo hx hi=>?_) done;have h:=adV (fun ρ1 ρ2 e hq=>by simp only[uq] at hq ⊢;rw[e];exact hq) (fun ρ1 ρ2 e hq=>by simp only[uq,if_true] at hq ⊢;rw[e];exact hq) (step k x vo hx hi);refine Lp (s:=.id) a (bW.ok_nil _) h (fun ρ' ab s' _ _ h=>?_) (fun ρ' ab bR s' _ _ h=>?_) (fun _ bR ρ' h=>h) (fun d h=>h)
 ·simp only[aI,uq] at h;rw[SE.keep_o] at h;exact h
 ·simp only[aI,uq] at h;rw[SE.keep_o] at h;exact h
theorem aP.meachR {T:cC}{J:Nat}{ps de lo:List Nat}{a:PC}{ρ:Env}{Q:Out→Prop}(es:List (D×D))(he:ρ.o J=.tup [.list [],.map es])(inv:List D→List D→Prop)(h0:inv [] (lo.map ρ.o))
 (step:∀done x rest vo,(done++x::rest).Perm (iQ (.map es))→inv done vo→aI T (qD lo a) ((ρ.put ps (de.map x.tget) lo vo).setO J (.tup [.list (done++[x]),.map es])) (fun y=>∃ρ',y=.next ρ'∧inv (done++[x]) (lo.map ρ'.o)))
 (last:∃vo,(∀done,done.Perm (iQ (.map es))→∀rZ,inv done rZ→rZ=vo)∧Q (.next (ρ.put [] [] lo vo))):aP T (.meach J ps de lo a) ρ Q:=by
 refine .meach es he inv h0 (fun done x rest vo hp hi=>?_) last;have h:=adV (fun ρ1 ρ2 e ⟨ρ',e1,hq⟩=>by cases e1;exact⟨_,rfl,by rw[e];exact hq⟩) (fun ρ1 ρ2 e ⟨ρ',e1,hq⟩=>by cases e1) (step done x rest vo hp hi);refine Lp (s:=.id) a (bW.ok_nil _) h (fun ρ' ab s' _ _ h=>?_) (fun ρ' ab bR s' _ _ h=>?_) (fun _ bR ρ' h=>?_) (fun d h=>?_)
 ·simp only[aI] at h;obtain⟨ρ2,e,h⟩:=h;injection e with e;subst e;rw[SE.keep_o] at h;exact⟨_,rfl,h⟩
 ·simp only[aI] at h;obtain⟨ρ2,e,h⟩:=h;cases e
 ·obtain⟨ρ2,e,_⟩:=h;cases e
 ·obtain⟨ρ2,e,_⟩:=h;cases e
theorem yA {T:cC}:∀(t:PT) {ρ:Env} {Q Q':Out→Prop},(∀x,Q x→Q' x)→aI T t ρ Q→aI T t ρ Q':=by
 intro t
 induction t with
 |next s=>intro ρ Q Q' h hx;exact h _ hx
 |exit id s=>intro ρ Q Q' h hx;exact h _ hx
 |ret e=>intro ρ Q Q' h hx;exact h _ hx
 |chk e k ih=>intro ρ Q Q' h hx;exact⟨hx.1,ih h hx.2⟩
 |ite c a b bC eC=>
  intro ρ Q Q' h hx;simp only[aI] at hx ⊢;split
  ·rename_i hc;rw[if_pos hc] at hx;exact bC h hx
  ·rename_i hc;rw[if_neg hc] at hx;exact eC h hx
 |call s gs dst f args k ih=>
  intro ρ Q Q' h hx;simp only[aI] at hx ⊢;split
  ·rename_i hc;rw[if_pos hc] at hx;obtain⟨d,hd,hx⟩:=hx;exact⟨d,hd,ih h hx⟩
  ·rename_i hc;rw[if_neg hc] at hx;exact ih h hx
 |callc s gs dst e args k ih=>
  intro ρ Q Q' h hx;simp only[aI] at hx ⊢;split
  ·rename_i hc;rw[if_pos hc] at hx;obtain⟨f,c,d,he,hd,hx⟩:=hx;exact⟨f,c,d,he,hd,ih h hx⟩
  ·rename_i hc;rw[if_neg hc] at hx;exact ih h hx
 |mcall s j f args k ih=>intro ρ Q Q' h hx;obtain⟨d,hd,hx⟩:=hx;exact⟨d,hd,ih h hx⟩
 |iteS s c lr lo a b k bC eC jX=>
  intro ρ Q Q' h hx
  have hq:∀x,kZ (s.ev ρ) lr lo (hZ (fun ρ'=>aI T k ρ' Q) Q) x→kZ (s.ev ρ) lr lo (hZ (fun ρ'=>aI T k ρ' Q') Q') x:=by
   intro x hx;cases x with
   |next ρ'=>exact jX h hx
   |exit id ρ'=>exact h _ hx
   |ret d=>exact h _ hx
  simp only[aI] at hx ⊢;split
  ·rename_i hc;rw[if_pos hc] at hx;exact bC hq hx
  ·rename_i hc;rw[if_neg hc] at hx;exact eC hq hx
 |blockS s id lr lo a k bC jX=>
  intro ρ Q Q' h hx;refine bC (fun x hx=>?_) hx;cases x with
  |next ρ'=>exact jX h hx
  |exit bR ρ'=>
   simp only[me] at hx ⊢;split
   ·rename_i e;rw[if_pos e] at hx;exact jX h hx
   ·rename_i e;rw[if_neg e] at hx;exact h _ hx
  |ret d=>exact h _ hx
 |brk s c k ih=>
  intro ρ Q Q' h hx;refine aP.mono hx fun x hx=>?_;cases x with
  |next ρ'=>exact ih h hx
  |exit id ρ'=>exact h _ hx
  |ret d=>exact h _ hx
theorem aP.forRounds {T:cC}{id:Nat}{bz bx lr lo:List Nat}{a:PC}{ρ:Env}{Q:Out→Prop}(N:Nat)(str fJ:Nat→List D)(h0:lr.map ρ.r=str 0∧lo.map ρ.o=fJ 0)
 (step:∀k,k<N→aI T (round id bz bx lr lo a) (ρ.put lr (str k) lo (fJ k)) (fg ρ id bz bx lr lo (fun vr vo=>vr=str (k+1)∧vo=fJ (k+1)) Q))
 (last:aI T (round id bz bx lr lo a) (ρ.put lr (str N) lo (fJ N)) (fg ρ id bz bx lr lo (fun _ _=>False) Q)):aP T (.block id bz bx (.loop lr lo a)) ρ Q:=by
 refine .forLoop (α:=Nat) (fun k vr vo=>k≤N∧vr=str k∧vo=fJ k) (fun k=>N-k) 0 ⟨pA _,h0.1,h0.2⟩ ?_;rintro k vr vo ⟨hk,rfl,rfl⟩;have mono:∀{K K':List D→List D→Prop},(∀a b,K a b→K' a b)→∀x,fg ρ id bz bx lr lo K Q x→fg ρ id bz bx lr lo K' Q x:=by
  intro K K' h x hx;cases x with
  |next ρ'=>exact h _ _ hx
  |exit bR ρ'=>exact hx
  |ret d=>exact hx
 by_cases af:k<N
 ·exact yA _ (mono fun a b ⟨h1,h2⟩=>⟨k+1,by omega,by omega,h1,h2⟩) (step k af)
 ·obtain rfl:k=N:=by omega
  exact yA _ (mono fun a b h=>h.elim) last
theorem SG {ρ:Env}{id:Nat}{bz bx lr lo:List Nat}{K K':List D→List D→Prop}{Q:Out→Prop}(h:∀a b,K a b→K' a b):∀x,fg ρ id bz bx lr lo K Q x→fg ρ id bz bx lr lo K' Q x:=by
 intro x hx;cases x with
 |next ρ'=>exact h _ _ hx
 |exit bR ρ'=>exact hx
 |ret d=>exact hx
theorem aP.scan {T:cC}{id:Nat}{bz bx lr lo:List Nat}{a:PC}{ρ:Env}{Q:Out→Prop}(N:Nat)(ok:Nat→Prop)(str fJ:Nat→List D)(h0:lr.map ρ.r=str 0∧lo.map ρ.o=fJ 0)
 (step:∀k,k<N→(∀j,j<k→ok j)→ok k→aI T (round id bz bx lr lo a) (ρ.put lr (str k) lo (fJ k)) (fg ρ id bz bx lr lo (fun vr vo=>vr=str (k+1)∧vo=fJ (k+1)) Q))
 (bad:∀k,k<N→(∀j,j<k→ok j)→¬ok k→aI T (round id bz bx lr lo a) (ρ.put lr (str k) lo (fJ k)) (fg ρ id bz bx lr lo (fun _ _=>False) Q))
 (last:(∀j,j<N→ok j)→aI T (round id bz bx lr lo a) (ρ.put lr (str N) lo (fJ N)) (fg ρ id bz bx lr lo (fun _ _=>False) Q)):aP T (.block id bz bx (.loop lr lo a)) ρ Q:=by
 refine .forLoop (α:=Nat) (fun k vr vo=>k≤N∧(∀j,j<k→ok j)∧vr=str k∧vo=fJ k) (fun k=>N-k) 0 ⟨pA _,fun j hj=>by omega,h0.1,h0.2⟩ ?_;rintro k vr vo ⟨hk,hj,rfl,rfl⟩;by_cases af:k<N
 ·by_cases av:ok k
  ·refine yA _ (SG fun a b ⟨h1,h2⟩=>⟨k+1,by omega,by omega,fun j I5=>?_,h1,h2⟩) (step k af hj av);by_cases e:j=k
   ·subst e;exact av
   ·exact hj j (by omega)
  ·exact yA _ (SG fun a b h=>h.elim) (bad k af hj av)
 ·obtain rfl:k=N:=by omega
  exact yA _ (SG fun a b h=>h.elim) (last hj)
def ax (n:Nat)(e:PE):PE:=.mk ((List.range n).map fun i=>.cell e i)
def kM (n:Nat)(d:D):D:=.agg ((List.range n).flatMap fun i=>(d.c i).cells)
theorem aiU (ρ:Env)(n:Nat)(e:PE):(ax n e).ev ρ=kM n (e.ev ρ):=by
 have key:∀l:List Nat,PE.evc ρ (l.map fun i=>.cell e i)=l.flatMap fun i=>((e.ev ρ).c i).cells:=by
  intro l
  induction l with
  |nil=>rfl
  |cons i l ih=>simp only[gk,PE.evc,PE.ev,vO,ih]
 show D.agg _=_;rw[key];rfl
end Cx
namespace Cx
open Go Go.RowKit
def aW (n:Int):Prop:=-9223372036854775808≤n∧n≤9223372036854775807
def ints (l:List Int):D:=.list (l.map .int)
theorem bU {n:Int}(h:-9223372036854775808≤n∧n≤9223372036854775807):IntKind.i64.wrap n=n:=by
 simp only[IntKind.wrap,IntKind.signed,IntKind.bits];simp;split<;>omega
theorem DTy.int_inv {k:IntKind}{d:D}(h:DTy (.int k) d):∃n,d=.v (.int k n)∧k.min≤n∧n≤k.max:=by
 cases h with
 |int k n h1 h2=>exact⟨n,rfl,h1,h2⟩
 |other t d h=>exact h.elim
theorem DTy.i64_inv {d:D}(h:DTy (.int .i64) d):∃n,d=.int n∧aW n:=by
 obtain⟨n,rfl,h1,h2⟩:=h.int_inv;exact⟨n,rfl,by simpa [IntKind.min,IntKind.max,IntKind.signed,IntKind.bits] using h1,by simpa [IntKind.min,IntKind.max,IntKind.signed,IntKind.bits] using h2⟩
theorem DTy.bool_inv {d:D}(h:DTy .bool d):∃b,d=.bool b:=by
 cases h with
 |bool b=>exact⟨b,rfl⟩
 |other t d h=>exact h.elim
theorem DTy.slice_inv {e:Ty}{d:D}(h:DTy (.slice e) d):∃xs,d=.list xs∧xs.length≤maxLen∧∀x,x∈xs→DTy e.unf x:=by
 cases h with
 |slice e xs hm h=>exact⟨xs,rfl,hm,h⟩
 |other t d h=>exact h.elim
theorem DTy.agg_inv {ts:List Ty}{d:D}(h:DTy (.agg ts) d):∃ds,d=.agg ds∧DTys ts ds:=by
 cases h with
 |agg ts ds h=>exact⟨ds,rfl,h⟩
 |other t d h=>exact h.elim
theorem DTys.cons_inv {t:Ty}{ts:List Ty}{ds:List D}(h:DTys (t::ts) ds):∃d ds',ds=d::ds'∧DTy t d∧DTys ts ds':=by
 cases h with
 |cons h hs=>exact⟨_,_,rfl,h,hs⟩
theorem DTys.nil_inv {ds:List D}(h:DTys [] ds):ds=[]:=by cases h;rfl
theorem ky {α:Type}{enc:α→D}{P:α→Prop}{xs:List D}(h:∀x,x∈xs→∃a,x=enc a∧P a):∃l:List α,xs=l.map enc∧∀a,a∈l→P a:=by
 induction xs with
 |nil=>exact⟨[],rfl,fun _ h=>nomatch h⟩
 |cons x xs ih=>
  obtain⟨l,hl,hp⟩:=ih fun y hy=>h y (dy _ hy);obtain⟨a,ha,pa⟩:=h x (dB ..)
  exact⟨a::l,by rw[hl,ha];rfl,fun b hb=>by
   rcases cT.1 hb with e|hb
   ·rw[e];exact pa
   ·exact hp b hb⟩
theorem DTy.ints_inv {d:D}(h:DTy (.slice (.int .i64)) d):∃l:List Int,d=ints l∧l.length≤maxLen∧∀x,x∈l→aW x:=by
 obtain⟨xs,rfl,hm,hx⟩:=h.slice_inv;obtain⟨l,rfl,hl⟩:=ky (enc:=D.int) (P:=aW) fun x hh=>(hx x hh).i64_inv;exact⟨l,rfl,by simpa using hm,hl⟩
section
variable (ρ:Env) (T:cC)
@[simp] theorem azi (t:Nat):PE.ev ρ (.r t)=ρ.r t:=_root_.id rfl
@[simp] theorem azf (t:Nat):PE.ev ρ (.o t)=ρ.o t:=_root_.id rfl
@[simp] theorem ay1 (d:D):PE.ev ρ (.con d)=d:=_root_.id rfl
@[simp] theorem ayY (e:PE)(i:Nat):PE.ev ρ (.cell e i)=(PE.ev ρ e).c i:=_root_.id rfl
@[simp] theorem azs (e:PE)(a n:Nat):PE.ev ρ (.sub e a n)=.agg (((PE.ev ρ e).cells.drop a).take n):=_root_.id rfl
@[simp] theorem azl (e x:PE)(n:Nat):PE.ev ρ (.setc e n x)=.agg (eM (PE.ev ρ e).cells n (PE.ev ρ x).cells):=_root_.id rfl
@[simp] theorem ay8 (es:List PE):PE.ev ρ (.mk es)=.agg (PE.evc ρ es):=_root_.id rfl
@[simp] theorem ayT (op:BinOp)(k:IntKind)(x y:PE):PE.ev ρ (.ai op k x y)=.v (.int k (cK op k (PE.ev ρ x).i (PE.ev ρ y).i)):=_root_.id rfl
@[simp] theorem ayZ (op:BinOp)(x y:PE):PE.ev ρ (.ci op x y)=.v (.bool (jt op (PE.ev ρ x).i (PE.ev ρ y).i)):=_root_.id rfl
@[simp] theorem ayX (op:BinOp)(x y:PE):PE.ev ρ (.cb op x y)=.v (.bool (zE op (PE.ev ρ x).b (PE.ev ρ y).b)):=_root_.id rfl
@[simp] theorem ay3 (op:BinOp)(x y:PE):PE.ev ρ (.cs op x y)=.v (.bool (zG op (PE.ev ρ x).s (PE.ev ρ y).s)):=_root_.id rfl
@[simp] theorem azd (x:PE):PE.ev ρ (.nt x)=.v (.bool (!(PE.ev ρ x).b)):=_root_.id rfl
@[simp] theorem ay2 (k:IntKind)(x:PE):PE.ev ρ (.conv k x)=.v (.int k (k.wrap (PE.ev ρ x).i)):=_root_.id rfl
@[simp] theorem azg (c a b:PE):PE.ev ρ (.pick c a b)=if(PE.ev ρ c).b=true then PE.ev ρ a else PE.ev ρ b:=by
  simp only[PE.ev];cases(PE.ev ρ c).b<;>rfl
@[simp] theorem ay9 (n:Nat)(e:PE):PE.ev ρ (ax n e)=kM n (PE.ev ρ e):=aiU ρ n e
@[simp] theorem ayW (x:PE):PE.ev ρ (.bytes x)=.list ((PE.ev ρ x).s.data.toList.map fun b=>.v (.int .u8 b.toNat)):=_root_.id rfl
@[simp] theorem ay6 (x:PE):PE.ev ρ (.llen x)=.v (.int .i64 (PE.ev ρ x).l.length):=_root_.id rfl
@[simp] theorem azp (x:PE):PE.ev ρ (.slen x)=.v (.int .i64 (PE.ev ρ x).s.size):=_root_.id rfl
@[simp] theorem aza (x:PE):PE.ev ρ (.mlen x)=.v (.int .i64 (PE.ev ρ x).m.length):=_root_.id rfl
@[simp] theorem aze (x i:PE):PE.ev ρ (.nth x i)=(PE.ev ρ x).l.getD (PE.ev ρ i).i.toNat .none:=_root_.id rfl
@[simp] theorem ay5 (x i:PE):PE.ev ρ (.idx x i)=.v (.bool (decide (0≤(PE.ev ρ i).i∧(PE.ev ρ i).i<(PE.ev ρ x).l.length))):=_root_.id rfl
@[simp] theorem azm (x i y:PE)(n:Nat):PE.ev ρ (.setn x i n y)=.list ((PE.ev ρ x).l.set (PE.ev ρ i).i.toNat (vu ((PE.ev ρ x).l.getD (PE.ev ρ i).i.toNat .none) n (PE.ev ρ y))):=_root_.id rfl
@[simp] theorem ayV (x y:PE):PE.ev ρ (.app x y)=.list ((PE.ev ρ x).l++(PE.ev ρ y).l):=_root_.id rfl
@[simp] theorem ay7 (es:List PE):PE.ev ρ (.lst es)=.list (PE.evs ρ es):=_root_.id rfl
@[simp] theorem azk (x y:PE):PE.ev ρ (.rep x y)=.list (List.replicate (PE.ev ρ x).i.toNat (PE.ev ρ y)):=_root_.id rfl
@[simp] theorem azo (x a b:PE):PE.ev ρ (.slc x a b)=.list (((PE.ev ρ x).l.take (PE.ev ρ b).i.toNat).drop (PE.ev ρ a).i.toNat):=_root_.id rfl
@[simp] theorem azq (x a b:PE):PE.ev ρ (.slok x a b)=.v (.bool (decide (0≤(PE.ev ρ a).i∧(PE.ev ρ a).i≤(PE.ev ρ b).i∧(PE.ev ρ b).i≤(PE.ev ρ x).l.length))):=_root_.id rfl
@[simp] theorem azj (x:PE):PE.ev ρ (.ref x)=.ref (PE.ev ρ x):=_root_.id rfl
@[simp] theorem ay4 (x:PE):PE.ev ρ (.deref x)=(PE.ev ρ x).deref:=_root_.id rfl
@[simp] theorem azh (m k v:PE):PE.ev ρ (.put m k v)=.map (lf (PE.ev ρ k) (PE.ev ρ v) (PE.ev ρ m).m):=_root_.id rfl
@[simp] theorem azb (x y:PE):PE.ev ρ (.mn x y)=if(PE.ev ρ y).i<(PE.ev ρ x).i then PE.ev ρ y else PE.ev ρ x:=by
  simp only[PE.ev];by_cases h:(PE.ev ρ y).i<(PE.ev ρ x).i<;>simp[h]
@[simp] theorem azc (x y:PE):PE.ev ρ (.mx x y)=if(PE.ev ρ y).i>(PE.ev ρ x).i then PE.ev ρ y else PE.ev ρ x:=by
  simp only[PE.ev];by_cases h:(PE.ev ρ y).i>(PE.ev ρ x).i<;>simp[h]
@[simp] theorem azu (es:List PE):PE.ev ρ (.tup es)=.tup (PE.evs ρ es):=_root_.id rfl
@[simp] theorem azt (x:PE)(i:Nat):PE.ev ρ (.tget x i)=(PE.ev ρ x).tget i:=_root_.id rfl
@[simp] theorem ay0 (f:Nat)(es:List PE):PE.ev ρ (.clo f es)=.clo f (PE.evs ρ es):=_root_.id rfl
@[simp] theorem ayU (x y:PE):PE.ev ρ (.an x y)=.v (.bool ((PE.ev ρ x).b&&(PE.ev ρ y).b)):=_root_.id rfl
@[simp] theorem azy:PE.evs ρ []=[]:=_root_.id rfl
@[simp] theorem azx (e:PE)(es:List PE):PE.evs ρ (e::es)=PE.ev ρ e::PE.evs ρ es:=_root_.id rfl
@[simp] theorem azw:PE.evc ρ []=[]:=_root_.id rfl
@[simp] theorem azv (e:PE)(es:List PE):PE.evc ρ (e::es)=(PE.ev ρ e).cells++PE.evc ρ es:=_root_.id rfl
@[simp] theorem ahQ (x:Bool):(D.bool x).b=x:=_root_.id rfl
@[simp] theorem ayO (k:IntKind)(n:Int):(D.v (.int k n)).i=n:=_root_.id rfl
@[simp] theorem ahT (n:Int):(D.int n).i=n:=_root_.id rfl
@[simp] theorem ayJ (x:List D):(D.list x).l=x:=_root_.id rfl
@[simp] theorem ayH (l:List Int):(ints l).l=l.map .int:=_root_.id rfl
@[simp] theorem ayK (x:List (D×D)):(D.map x).m=x:=_root_.id rfl
@[simp] theorem ayy (x:List D)(i:Nat):(D.agg x).c i=x.getD i .none:=_root_.id rfl
@[simp] theorem ayz (x:List D):(D.agg x).cells=x:=_root_.id rfl
@[simp] theorem ayI (x:List D):(D.list x).cells=[.list x]:=_root_.id rfl
@[simp] theorem ayG (x:List Int):(ints x).cells=[ints x]:=_root_.id rfl
@[simp] theorem ayD (n:Int):(D.int n).cells=[.int n]:=_root_.id rfl
@[simp] theorem ayA (n:Bool):(D.bool n).cells=[.bool n]:=_root_.id rfl
@[simp] theorem ayN (x:Value):(D.v x).cells=[.v x]:=_root_.id rfl
@[simp] theorem ayM (x:List D)(i:Nat):(D.tup x).tget i=x.getD i .none:=_root_.id rfl
@[simp] theorem ayL (x:D):(D.ref x).deref=x:=_root_.id rfl
@[simp] theorem aBw (s:SE)(t:Nat):(s.ev ρ).r t=PE.ev ρ (s.getR t):=_root_.id rfl
@[simp] theorem aBv (s:SE)(t:Nat):(s.ev ρ).o t=PE.ev ρ (s.getO t):=_root_.id rfl
@[simp] theorem azI (o:List (Nat×PE))(u:Nat):SE.getR ⟨[],o⟩ u=.r u:=_root_.id rfl
@[simp] theorem azH (t:Nat)(e:PE)(r o:List (Nat×PE))(u:Nat):SE.getR ⟨(t,e)::r,o⟩ u=if t=u then e else SE.getR ⟨r,o⟩ u:=by
  simp only[SE.getR,aV];by_cases h:t=u
  ·subst h;simp
  ·simp[eH h,h]
@[simp] theorem azG (r:List (Nat×PE))(u:Nat):SE.getO ⟨r,[]⟩ u=.o u:=_root_.id rfl
@[simp] theorem azF (t:Nat)(e:PE)(r o:List (Nat×PE))(u:Nat):SE.getO ⟨r,(t,e)::o⟩ u=if t=u then e else SE.getO ⟨r,o⟩ u:=by
  simp only[SE.getO,aV];by_cases h:t=u
  ·subst h;simp
  ·simp[eH h,h]
@[simp] theorem setR_r (t u:Nat)(d:D):(ρ.setR t d).r u=if u=t then d else ρ.r u:=Env.setR_r ρ t u d
@[simp] theorem aBC (t u:Nat)(d:D):(ρ.setR t d).o u=ρ.o u:=_root_.id rfl
@[simp] theorem setO_o (t u:Nat)(d:D):(ρ.setO t d).o u=if u=t then d else ρ.o u:=Env.setO_o ρ t u d
@[simp] theorem aBB (t u:Nat)(d:D):(ρ.setO t d).r u=ρ.r u:=_root_.id rfl
@[simp] theorem aBk (lr lo:List Nat)(vr vo:List D)(u:Nat):(ρ.put lr vr lo vo).r u=putL ρ.r lr vr u:=_root_.id rfl
@[simp] theorem aBj (lr lo:List Nat)(vr vo:List D)(u:Nat):(ρ.put lr vr lo vo).o u=putL ρ.o lo vo u:=_root_.id rfl
@[simp] theorem join_r (ρ':Env)(lr lo:List Nat)(u:Nat):(ρ.join lr lo ρ').r u=if u∈lr then ρ'.r u else ρ.r u:=Env.join_r ρ ρ' lr lo u
@[simp] theorem join_o (ρ':Env)(lr lo:List Nat)(u:Nat):(ρ.join lr lo ρ').o u=if u∈lo then ρ'.o u else ρ.o u:=Env.join_o ρ ρ' lr lo u
@[simp] theorem aBh (f:Nat→D)(i:Nat)(is:List Nat)(x:D)(xs:List D)(u:Nat):putL f (i::is) (x::xs) u=if u=i then x else putL f is xs u:=Ki f i is x xs u
@[simp] theorem aBi (f:Nat→D)(xs:List D)(u:Nat):putL f [] xs u=f u:=Kj f xs u
@[simp] theorem ayQ (ds:List D)(u:Nat):(lE ds).r u=ds.getD u .none:=_root_.id rfl
@[simp] theorem aAd:holds [] ρ=true:=_root_.id rfl
@[simp] theorem aAc (g:Nat×Bool)(gs:List (Nat×Bool)):holds (g::gs) ρ=((ρ.r g.1).b==g.2&&holds gs ρ):=_root_.id rfl
variable (Q:Out→Prop)
@[simp] theorem aCd (s:SE):aI T (.next s) ρ Q=Q (.next (s.ev ρ)):=_root_.id rfl
@[simp] theorem aCa (id:Nat)(s:SE):aI T (.exit id s) ρ Q=Q (.exit id (s.ev ρ)):=_root_.id rfl
@[simp] theorem aCe (e:PE):aI T (.ret e) ρ Q=Q (.ret (e.ev ρ)):=_root_.id rfl
@[simp] theorem aB9 (e:PE)(k:PT):aI T (.chk e k) ρ Q=((e.ev ρ).b=true∧aI T k ρ Q):=_root_.id rfl
@[simp] theorem aCb (c:PE)(a b:PT):aI T (.ite c a b) ρ Q=if(c.ev ρ).b=true then aI T a ρ Q else aI T b ρ Q:=_root_.id rfl
@[simp] theorem aB7 (s:SE)(gs:List (Nat×Bool))(dst f:Nat)(args:List PE)(k:PT):aI T (.call s gs dst f args k) ρ Q=if holds gs (s.ev ρ)=true then ∃d,ak T f (PE.evs ρ args) d∧aI T k ((s.ev ρ).setR dst d) Q else aI T k (s.ev ρ) Q:=_root_.id rfl
@[simp] theorem aCc (s:SE)(c:PE)(lr lo:List Nat)(a b k:PT):aI T (.iteS s c lr lo a b k) ρ Q=if(c.ev ρ).b=true then aI T a (s.ev ρ) (kZ (s.ev ρ) lr lo (hZ (fun ρ'=>aI T k ρ' Q) Q)) else aI T b (s.ev ρ) (kZ (s.ev ρ) lr lo (hZ (fun ρ'=>aI T k ρ' Q) Q)):=_root_.id rfl
@[simp] theorem aB5 (s:SE)(id:Nat)(lr lo:List Nat)(a k:PT):aI T (.blockS s id lr lo a k) ρ Q=aI T a (s.ev ρ) (me (s.ev ρ) id lr lo (hZ (fun ρ'=>aI T k ρ' Q) Q)):=_root_.id rfl
@[simp] theorem aB6 (s:SE)(c:PC)(k:PT):aI T (.brk s c k) ρ Q=aP T c (s.ev ρ) (hZ (fun ρ'=>aI T k ρ' Q) Q):=_root_.id rfl
variable (K:Env→Prop) (id:Nat) (lr lo bz bx:List Nat) (K2:List D→List D→Prop)
@[simp] theorem aBz (ρ':Env):hZ K Q (.next ρ')=K ρ':=_root_.id rfl
@[simp] theorem aBy (i:Nat)(ρ':Env):hZ K Q (.exit i ρ')=Q (.exit i ρ'):=_root_.id rfl
@[simp] theorem aBA (d:D):hZ K Q (.ret d)=Q (.ret d):=_root_.id rfl
@[simp] theorem aAv (ρ':Env):kZ ρ lr lo Q (.next ρ')=Q (.next (ρ.join lr lo ρ')):=_root_.id rfl
@[simp] theorem aAw (d:D):kZ ρ lr lo Q (.ret d)=Q (.ret d):=_root_.id rfl
@[simp] theorem ayh (ρ':Env):me ρ id lr lo Q (.next ρ')=Q (.next (ρ.join lr lo ρ')):=_root_.id rfl
@[simp] theorem ayg (i:Nat)(ρ':Env):me ρ id lr lo Q (.exit i ρ')=if i=id then Q (.next (ρ.join lr lo ρ')) else Q (.exit i ρ'):=_root_.id rfl
@[simp] theorem ayi (d:D):me ρ id lr lo Q (.ret d)=Q (.ret d):=_root_.id rfl
@[simp] theorem aBs (ρ':Env):fg ρ id bz bx lr lo K2 Q (.next ρ')=K2 (lr.map ρ'.r) (lo.map ρ'.o):=_root_.id rfl
@[simp] theorem aBr (i:Nat)(ρ':Env):fg ρ id bz bx lr lo K2 Q (.exit i ρ')=if i=id then Q (.next (ρ.put bz (bz.map ρ'.r) bx (bx.map ρ'.o))) else Q (.exit i ρ'):=_root_.id rfl
@[simp] theorem aBt (d:D):fg ρ id bz bx lr lo K2 Q (.ret d)=Q (.ret d):=_root_.id rfl
@[simp] theorem aB8 (s:SE)(gs:List (Nat×Bool))(dst:Nat)(e:PE)(args:List PE)(k:PT):aI T (.callc s gs dst e args k) ρ Q=if holds gs (s.ev ρ)=true then ∃f caps d,e.ev ρ=.clo f caps∧ak T f (PE.evs ρ args++caps) d∧aI T k ((s.ev ρ).setR dst d) Q else aI T k (s.ev ρ) Q:=_root_.id rfl
@[simp] theorem ayP (rt:Option PE)(K3:List D→Prop)(i:Nat)(ρ':Env):uq ρ lo rt K3 Q (.exit i ρ')=if i=cO then ∃e,rt=some e∧Q (.ret (e.ev (ρ.put [] [] lo (lo.map ρ'.o)))) else Q (.exit i (ρ.put [] [] lo (lo.map ρ'.o))):=_root_.id rfl
@[simp] theorem ayR (J:Nat)(ds:List D)(u:Nat):(zN J ds).r u=(D.none::ds).getD u .none:=_root_.id rfl
theorem aiR (J:Nat)(ds:List D)(u:Nat):(zN J ds).o u=if u=J then .list [] else .none:=by
 show(bif Nat.beq u J then D.list [] else .none)=_;by_cases h:u=J
 ·subst h;simp
 ·simp[eH h,h]
@[simp] theorem aBg (p:Nat)(x:D):partsOf [p] x=[x.tget 0]:=_root_.id rfl
end
section
variable (k:IntKind) (a b:Int)
@[simp] theorem ax9:cK .add k a b=k.wrap (a+b):=_root_.id rfl
@[simp] theorem ayd:cK .sub k a b=k.wrap (a-b):=_root_.id rfl
@[simp] theorem aya:cK .mul k a b=k.wrap (a*b):=_root_.id rfl
@[simp] theorem ayb:cK .quo k a b=k.wrap (a.tdiv b):=_root_.id rfl
@[simp] theorem ayc:cK .rem k a b=a.tmod b:=_root_.id rfl
@[simp] theorem ayq:jt .eql a b=(a==b):=_root_.id rfl
@[simp] theorem ayv:jt .neq a b=(a !=b):=_root_.id rfl
@[simp] theorem ayu:jt .lss a b=decide (a<b):=_root_.id rfl
@[simp] theorem ayt:jt .leq a b=decide (a≤b):=_root_.id rfl
@[simp] theorem ays:jt .gtr a b=decide (a>b):=_root_.id rfl
@[simp] theorem ayr:jt .geq a b=decide (a≥b):=_root_.id rfl
variable (x y:Bool)
@[simp] theorem ayj:zE .eql x y=(x==y):=_root_.id rfl
@[simp] theorem ayk:zE .neq x y=(!(x==y)):=_root_.id rfl
end
theorem ak.of_tree {tab:Nat→Option PC}{ext:Nat→Option (aL→List D→Option D)}{f:Nat}{pc:PC}{t:PT}{ds:List D}{d:D}(hx:ext f=none)(ht:tab f=some pc)(he:tree pc=t)(h:aI (ej tab ext) t (lE ds) (fun x=>x=.ret d)):ak (ej tab ext) f ds d:=
 .of_pc hx ht (LJ (he▸h))
@[simp] theorem ayF (n:Int):D.v (.int .i64 n)=D.int n:=_root_.id rfl
@[simp] theorem ayC (b:Bool):D.v (.bool b)=D.bool b:=_root_.id rfl
@[simp] theorem ayE (a b:Int):(D.int a=D.int b)=(a=b):=by
  apply propext;constructor
  ·intro h;injection h with h;injection h
  ·intro h;rw[h]
@[simp] theorem ayB (a b:Bool):(D.bool a=D.bool b)=(a=b):=by
  apply propext;constructor
  ·intro h;injection h with h;injection h
  ·intro h;rw[h]
section
variable (c:Prop) [Decidable c] (x y:D)
@[simp] theorem aAt:(if c then x else y).b=if c then x.b else y.b:=by split<;>rfl
@[simp] theorem aAu:(if c then x else y).i=if c then x.i else y.i:=by split<;>rfl
end
@[simp] theorem aCf:IntKind.i64.wrap 0=0:=bU (by omega)
end Cx
namespace Cx
open Go
inductive Tm where
 |mk (op n:Int) (args:List Tm)
instance:Inhabited Tm:=⟨.mk 0 0 []⟩
namespace Tm
def op:Tm→Int|.mk o _ _=>o
def n:Tm→Int|.mk _ n _=>n
def args:Tm→List Tm|.mk _ _ aa=>aa
end Tm
mutual
def du:Tm→D
 |.mk o n aa=>.agg [.int o,.int n,.list (Ij aa)]
def Ij:List Tm→List D
 |[]=>[]
 |t::ts=>du t::Ij ts
end
theorem Nq:∀l:List Tm,Ij l=l.map du
 |[]=>rfl
 |t::l=>by rw[Ij,Nq l];rfl
theorem De (t:Tm):du t=.agg [.int t.op,.int t.n,.list (t.args.map du)]:=by
 cases t with
 |mk o n aa=>rw[du,Nq];rfl
inductive Tm.OK:Tm→Prop where
 |mk (o n:Int) (aa:List Tm) (h1:aW o) (h2:aW n) (h3:aa.length≤maxLen) (h:∀a,a∈aa→Tm.OK a):Tm.OK (.mk o n aa)
theorem DTy.trm_inv {d:D}(h:DTy .trmA d):∃t:Tm,d=du t∧t.OK:=by
 suffices hs:∀(m:Nat) (d:D),sizeOf d≤m→DTy .trmA d→∃t:Tm,d=du t∧t.OK from hs _ d (bf _) h
 intro m
 induction m with
 |zero=>
  intro d hm h;cases d<;>simp at hm
 |succ m ih=>
  intro d hm h;obtain⟨ds,rfl,hs⟩:=DTy.agg_inv h;obtain⟨d1,ds,rfl,h1,hs⟩:=hs.cons_inv;obtain⟨d2,ds,rfl,h2,hs⟩:=hs.cons_inv;obtain⟨d3,ds,rfl,h3,hs⟩:=hs.cons_inv;obtain rfl:=hs.nil_inv;obtain⟨o,rfl,b1⟩:=h1.i64_inv;obtain⟨n,rfl,b2⟩:=h2.i64_inv;obtain⟨xs,rfl,hl,hx⟩:=h3.slice_inv
  obtain⟨l,rfl,av⟩:=ky (enc:=du) (P:=Tm.OK) fun x hh=>ih x (by
   have:=List.sizeOf_lt_of_mem hh;simp at hm;omega) (hx x hh)
  exact⟨.mk o n l,by rw[du,Nq],.mk o n l b1 b2 (by simpa using hl) av⟩
theorem DTy.trms_inv {d:D}(h:DTy (.slice .trm) d):∃l:List Tm,d=.list (l.map du)∧l.length≤maxLen∧∀t,t∈l→t.OK:=by
 obtain⟨xs,rfl,hl,hx⟩:=h.slice_inv;obtain⟨l,rfl,av⟩:=ky (enc:=du) (P:=Tm.OK) fun x hh=>DTy.trm_inv (hx x hh);exact⟨l,rfl,by simpa using hl,av⟩
end Cx
namespace Cx
open Go
def Lq (g:Nat)(zs:List Int):Nat→Option (Ty×D):=fun k=>bif Nat.beq k g then some (.agg (zs.map fun _=>.int .i64),.agg (zs.map fun z=>.v (.int .i64 z))) else none
theorem asw {C:Ctx}{g:Nat}{zs:List Int}{name:String}{W:World}(hC:C.glob=Lq g zs)(hg:C.P.globalNamed name=some g)(hz:zs.all (fun z=>decide (IntKind.i64.min≤z)&&decide (z≤IntKind.i64.max))=true)
 (h:Lib.TabIs C.P W name .i64 zs) (h0:g=0:=by rfl) (aw:0<zs.length:=by decide):CtxOK C (kW W):=by
 have uF:∀g' x,C.glob g'=some x→g'=g:=fun g' x hx=>by
  rw[hC] at hx;unfold Lq at hx;cases hk:Nat.beq g' g<;>simp only[hk,cond_true,cond_false] at hx
  ·cases hx
  ·exact ay hk
 refine⟨fun k x hx=>?_,fun k x hx=>?_⟩
 rotate_right
 ·obtain rfl:=uF k x hx;exact ZB (h.cell hg 0 aw)
 rw[hC] at hx;unfold Lq at hx;cases hk:Nat.beq k g<;>simp only[hk,cond_true,cond_false] at hx
 ·cases hx
 cases hx;obtain rfl:=ay hk
 have sW:Rep C.cap (kW W) (.agg (zs.map fun _=>.int .i64)) (.agg (zs.map fun z=>Value.int .i64 z).toArray) (.agg (zs.map fun z=>.v (.int .i64 z))):=by
  refine .agg _ _ _ (by simp) (by simp) (fun i t ht=>?_) (fun i t ht=>?_)
  ·rw[ct,az] at ht;obtain⟨z,td,rfl⟩:=ht;rw[aJ,aJ,ct,ct,td];have:=bF.1 hz z (jM td);simp only[ao,decide_eq_true_eq] at this;exact .int _ _ this.1 this.2
  ·rw[ct,az] at ht;obtain⟨z,_,rfl⟩:=ht;rfl
 refine .ref _ k 0 _ _ sW fun j u hu=>?_;simp only[Value.cells,GL,ct,az] at hu;obtain⟨z,td,rfl⟩:=hu;have af:=(fm.1 td).1;have:=h.cell hg j af;refine ZA ?_ (.inl h0);rw[gS,this,aJ,td];rfl
end Cx
namespace Cx
open Go Go.RowKit
def loops:PC→List PC
 |.seq a b=>loops a++loops b
 |.ite _ _ _ a b=>loops a++loops b
 |.block id lr lo (.loop PX PR a)=>loops a++[.block id lr lo (.loop PX PR a)]
 |.block _ _ _ a=>loops a
 |.loop _ _ a=>loops a
 |.each e ps lo rt a=>loops a++[.each e ps lo rt a]
 |.meach J ps de lo a=>loops a++[.meach J ps de lo a]
 |_=>[]
def M1:PC→PC
 |.block _ _ _ (.loop _ _ a)=>a
 |.each _ _ _ _ a=>a
 |.meach _ _ _ _ a=>a
 |_=>.skip
def JF (c:PC)(k:Nat):PC:=(loops c).getD k .skip
def rnd:PC→PT
 |.block id lr lo (.loop PX PR a)=>round id lr lo PX PR a
 |.each _ _ lo _ a=>qD lo a
 |.meach _ _ _ lo a=>qD lo a
 |_=>.next .id
inductive Shp where
 |lp (id:Nat) (bz bx lr lo:List Nat)
 |ea (lo:List Nat)
 |no
def BK:PC→Shp
 |.block id bz bx (.loop lr lo _)=>.lp id bz bx lr lo
 |.each _ _ lo _ _=>.ea lo
 |.meach _ _ _ lo _=>.ea lo
 |_=>.no
def told (c:PC):PT×List (Shp×PT):=(tree c,(loops c).map fun l=>(BK l,rnd l))
theorem Lu {o:Option PC}{t:PT}{l:List (Shp×PT)}(h:o.map told=some (t,l)):o=some (o.getD .skip)∧tree (o.getD .skip)=t∧∀k x,l[k]?=some x→(BK (JF (o.getD .skip) k),rnd (JF (o.getD .skip) k))=x:=by
 cases o with
 |none=>cases h
 |some c=>
  have h1:told c=(t,l):=by injection h
  unfold told at h1;injection h1 with h1 h2
  refine⟨rfl,h1,fun k x hx=>?_⟩;subst h2;simp only[ct,az] at hx;obtain⟨y,hy,rfl⟩:=hx;have:JF ((some c:Option PC).getD .skip) k=y:=by
   show(loops c).getD k .skip=y;rw[aJ,hy];rfl
  rw[this]
theorem arp {c:PC}{id:Nat}{bz bx lr lo:List Nat}{t:PT}(h:(BK c,rnd c)=(.lp id bz bx lr lo,t)):round id bz bx lr lo (M1 c)=t:=by
 injection h with h1 h2
 subst h2;unfold BK at h1;split at h1
 ·cases h1;rfl
 all_goals cases h1
theorem aiF {c:PC}{lo:List Nat}{t:PT}(h:(BK c,rnd c)=(.ea lo,t)):qD lo (M1 c)=t:=by
 injection h with h1 h2
 subst h2;unfold BK at h1;split at h1
 ·cases h1
 ·cases h1;rfl
 ·cases h1;rfl
 ·cases h1
def cE {α:Type}(x:α):α:=Classical.choose (⟨x,rfl⟩:∃y,y=x)
theorem DS {α:Type}(x:α):cE x=x:=VE (⟨x,rfl⟩:∃y,y=x)
def bq (o:Option PC):Nat→PC:=fun k=>M1 (JF (o.getD .skip) k)
abbrev ae (o:Option PC):PC:=cE (o.getD .skip)
abbrev br (o:Option PC):Nat→PC:=cE (bq o)
section
variable {o:Option PC} {F:(Nat→PC)→PT×List (Shp×PT)}
theorem asN (h:o.map told=some (F (bq o))):o=some (ae o):=by unfold ae;rw[DS];exact(Lu (t:=(F (bq o)).1) (l:=(F (bq o)).2) h).1
theorem bN (h:o.map told=some (F (bq o))):tree (ae o)=(F (br o)).1:=by unfold ae br;rw[DS,DS];exact(Lu (t:=(F (bq o)).1) (l:=(F (bq o)).2) h).2.1
theorem bj (h:o.map told=some (F (bq o)))(k:Nat){id:Nat}{bz bx lr lo:List Nat}{t:(Nat→PC)→PT}(hk:∀b,(F b).2[k]?=some (.lp id bz bx lr lo,t b)):round id bz bx lr lo (br o k)=t (br o):=by
 unfold br;rw[DS];exact arp ((Lu (t:=(F (bq o)).1) (l:=(F (bq o)).2) h).2.2 k _ (hk _))
theorem S6 (h:o.map told=some (F (bq o)))(k:Nat){lo:List Nat}{t:(Nat→PC)→PT}(hk:∀b,(F b).2[k]?=some (.ea lo,t b)):qD lo (br o k)=t (br o):=by
 unfold br;rw[DS];exact aiF ((Lu (t:=(F (bq o)).1) (l:=(F (bq o)).2) h).2.2 k _ (hk _))
end
theorem aD {α:Type}{R:Nat→α→Prop}{f:Nat}{x:α}{l:List (Nat×α)}(h:R f x)(k:GC R l):GC R ((f,x)::l):=⟨h,k⟩
theorem oI {α:Type}:∀{l:List (Nat×α)},(l.map (·.1)).Nodup→∀{k f:Nat} {x:α},l[k]?=some (f,x)→aV l f=some x
 |[],_,k,f,x,h=>by simp at h
 |y::l,hn,0,f,x,h=>by
  simp only[LZ,aS] at h;subst h;simp[aV]
 |y::l,hn,k+1,f,x,h=>by
  simp only[GK] at h;rw[gk,mU] at hn;have hm:f∈l.map (·.1):=ei.2 ⟨(f,x),jM h,rfl⟩;have hb:Nat.beq y.1 f=false:=by
   cases e:Nat.beq y.1 f with
   |false=>rfl
   |true=>rw[cU e] at hn;exact absurd hm hn.1
  simp only[aV,hb,cond_false];exact oI hn.2 h
abbrev pT:PE:=.con (.bool true)
abbrev pF:PE:=.con (.bool false)
abbrev pN:PE:=.con .none
abbrev pL:PE:=.con (.list [])
abbrev pi (n:Int):PE:=.con (.int n)
abbrev aN (a b:PE):PE:=.ai .add .i64 a b
abbrev bD (a b:PE):PE:=.ai .sub .i64 a b
abbrev peq (a b:PE):PE:=.ci .eql a b
abbrev aU (a b:PE):PE:=.ci .neq a b
abbrev aj (a b:PE):PE:=.ci .lss a b
abbrev bM (a b:PE):PE:=.ci .leq a b
abbrev aZ (a b:PE):PE:=.ci .gtr a b
abbrev cL (a b:PE):PE:=.ci .geq a b
abbrev pc (a:PE)(i:Nat):PE:=.cell a i
abbrev pn (a b:PE):PE:=.nth a b
abbrev ar (a b:PE):PE:=.idx a b
abbrev z2:PE:=.con (.agg [(.int 0),(.int 0)])
abbrev z3:PE:=.con (.agg [(.int 0),(.int 0),(.int 0)])
abbrev z4:PE:=.con (.agg [(.int 0),(.int 0),(.int 0),(.int 0)])
abbrev z5:PE:=.con (.agg [(.int 0),(.int 0),(.int 0),(.int 0),(.int 0)])
abbrev z6:PE:=.con (.agg [(.int 0),(.int 0),(.int 0),(.int 0),(.int 0),(.int 0)])
abbrev z9:PE:=.con (.agg [(.int 0),(.int 0),(.int 0),(.int 0),(.int 0),(.int 0),(.int 0),(.int 0),(.int 0)])
abbrev GA:PE:=.con (.agg [(.int 0),(.int 0),(.int 0),(.int 0),(.int 0),(.int 0),(.int 0),(.int 0),(.int 0),(.int 0),(.int 0),(.int 0),(.int 0),(.int 0),(.int 0)])
abbrev r0:PE:=.r 0
abbrev r1:PE:=.r 1
abbrev r2:PE:=.r 2
abbrev r3:PE:=.r 3
abbrev r4:PE:=.r 4
abbrev r5:PE:=.r 5
abbrev r6:PE:=.r 6
abbrev r7:PE:=.r 7
abbrev r8:PE:=.r 8
abbrev r9:PE:=.r 9
abbrev di:PE:=.r 10
abbrev bH:PE:=.r 11
abbrev cg:PE:=.r 12
abbrev cR:PE:=.r 13
abbrev dx:PE:=.r 14
abbrev gZ:PE:=.r 15
abbrev cN:PE:=.r 16
abbrev lS:PE:=.r 17
abbrev eg:PE:=.r 18
abbrev jH:PE:=.r 19
abbrev eZ:PE:=.r 20
abbrev mF:PE:=.r 21
abbrev E7:PE:=.r 22
abbrev j2:PE:=.r 23
abbrev oT:PE:=.r 24
abbrev jI:PE:=.r 25
abbrev lT:PE:=.r 26
abbrev fH:PE:=.r 27
abbrev rL:PE:=.r 28
abbrev rM:PE:=.r 29
abbrev tF:PE:=.r 30
abbrev rN:PE:=.r 31
abbrev E8:PE:=.r 32
abbrev tG:PE:=.r 33
abbrev r34:PE:=.r 34
abbrev xP:PE:=.r 35
abbrev lj:PE:=.r 36
abbrev mG:PE:=.r 37
abbrev jm:PE:=.r 38
abbrev E9:PE:=.r 39
abbrev oU:PE:=.r 40
abbrev rO:PE:=.r 41
abbrev r42:PE:=.r 42
abbrev rP:PE:=.r 43
abbrev vg:PE:=.r 44
abbrev rQ:PE:=.r 45
abbrev Fa:PE:=.r 46
abbrev Rt:PE:=.r 47
abbrev mH:PE:=.r 48
abbrev lU:PE:=.r 49
abbrev lV:PE:=.r 50
abbrev mI:PE:=.r 51
abbrev Kw:PE:=.r 52
abbrev Ru:PE:=.r 53
abbrev qx:PE:=.r 54
abbrev Br:PE:=.r 55
abbrev oV:PE:=.r 56
abbrev Ky:PE:=.r 57
abbrev Fb:PE:=.r 58
abbrev Rv:PE:=.r 59
abbrev Fc:PE:=.r 60
abbrev xQ:PE:=.r 61
abbrev ny:PE:=.r 62
abbrev Kz:PE:=.r 63
abbrev ln:PE:=.r 64
abbrev Bs:PE:=.r 65
abbrev KA:PE:=.r 66
abbrev vh:PE:=.r 67
abbrev r68:PE:=.r 68
abbrev tH:PE:=.r 69
abbrev Rw:PE:=.r 70
abbrev r71:PE:=.r 71
abbrev xR:PE:=.r 72
abbrev Fe:PE:=.r 73
abbrev Ff:PE:=.r 74
abbrev Fg:PE:=.r 75
abbrev qy:PE:=.r 76
abbrev KB:PE:=.r 77
abbrev Rx:PE:=.r 78
abbrev r79:PE:=.r 79
abbrev xS:PE:=.r 80
abbrev tI:PE:=.r 81
abbrev lq:PE:=.r 82
abbrev r84:PE:=.r 84
abbrev Fh:PE:=.r 85
abbrev r86:PE:=.r 86
abbrev r87:PE:=.r 87
abbrev KC:PE:=.r 88
abbrev r89:PE:=.r 89
abbrev Ry:PE:=.r 90
abbrev r91:PE:=.r 91
abbrev Fi:PE:=.r 92
abbrev Bt:PE:=.r 93
abbrev r94:PE:=.r 94
abbrev r95:PE:=.r 95
abbrev Rz:PE:=.r 96
abbrev r97:PE:=.r 97
abbrev RA:PE:=.r 98
abbrev KD:PE:=.r 99
abbrev ac2:PE:=.r 102
abbrev Kv:PE:=.r 103
abbrev Ro:PE:=.r 104
abbrev ac3:PE:=.r 105
abbrev Rp:PE:=.r 106
abbrev Rq:PE:=.r 108
abbrev aq3:PE:=.r 109
abbrev aBl:PE:=.r 110
abbrev Rr:PE:=.r 112
abbrev aBm:PE:=.r 113
abbrev aBn:PE:=.r 119
abbrev aBo:PE:=.r 120
abbrev aq4:PE:=.r 121
abbrev aBp:PE:=.r 126
abbrev aq5:PE:=.r 127
abbrev o0:PE:=.o 0
abbrev o1:PE:=.o 1
abbrev o2:PE:=.o 2
abbrev o3:PE:=.o 3
abbrev o4:PE:=.o 4
abbrev o5:PE:=.o 5
abbrev o6:PE:=.o 6
abbrev o7:PE:=.o 7
abbrev o8:PE:=.o 8
abbrev o9:PE:=.o 9
abbrev cA:PE:=.o 10
abbrev o11:PE:=.o 11
abbrev P8:PE:=.o 12
abbrev P9:PE:=.o 13
abbrev Qa:PE:=.o 14
abbrev o15:PE:=.o 15
abbrev Qb:PE:=.o 17
abbrev JS:PE:=.o 45
end Cx
