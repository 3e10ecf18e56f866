/-
  Shared texts of this claim.
-/
import Derived.Test.YtbagcfebdgiihaaGreatDoorTAH
import Derived.Lib.LaidTab
set_option linter.unusedSimpArgs false
set_option linter.unusedVariables false
noncomputable section
namespace Cx
open Go Go.RowKit
structure SE where
 r:List (Nat×PE)
 o:List (Nat×PE)
def SE.getR (s:SE)(t:Nat):PE:=match bu s.r t with|some e=>e|none=>.r t
def SE.getO (s:SE)(t:Nat):PE:=match bu s.o t with|some e=>e|none=>.o t
def SE.setR (s:SE)(t:Nat)(e:PE):SE:=⟨(t,e)::s.r,s.o⟩
def SE.setO (s:SE)(t:Nat)(e:PE):SE:=⟨s.r,(t,e)::s.o⟩
def SE.id:SE:=⟨[],[]⟩
def SE.ev (s:SE)(ρ:Env):Env:=⟨fun t=>(s.getR t).ev ρ,fun t=>(s.getO t).ev ρ⟩
def SE.join (s:SE)(lr lo:List Nat)(s':SE):SE:=⟨lr.map (fun t=>(t,s'.getR t))++s.r,lo.map (fun t=>(t,s'.getO t))++s.o⟩
theorem SE.setR_ev (s:SE)(t:Nat)(e:PE)(ρ:Env):(s.setR t e).ev ρ=(s.ev ρ).setR t (e.ev ρ):=by
 have h:(fun u=>((s.setR t e).getR u).ev ρ)=bT (fun u=>(s.getR u).ev ρ) t (e.ev ρ):=by
  funext u;simp only[SE.getR,SE.setR,bu,eX];by_cases h:t=u
  ·subst h;simp
  ·have h':¬u=t:=fun e=>h e.symm;simp[eJ h,h']
 simp only[SE.ev,Env.setR];rw[h];rfl
theorem SE.setO_ev (s:SE)(t:Nat)(e:PE)(ρ:Env):(s.setO t e).ev ρ=(s.ev ρ).setO t (e.ev ρ):=by
 have h:(fun u=>((s.setO t e).getO u).ev ρ)=bT (fun u=>(s.getO u).ev ρ) t (e.ev ρ):=by
  funext u;simp only[SE.getO,SE.setO,bu,eX];by_cases h:t=u
  ·subst h;simp
  ·have h':¬u=t:=fun e=>h e.symm;simp[eJ h,h']
 simp only[SE.ev,Env.setO];rw[h];rfl
theorem uT {f:Nat→PE}{l:List (Nat×PE)}{u:Nat}:∀(lr:List Nat),bu (lr.map (fun t=>(t,f t))++l) u=if u∈lr then some (f u) else bu l u
 |[]=>by simp
 |t::lr=>by
  simp only[fo,DS,bu,uT lr,cG];by_cases h:t=u
  ·subst h;simp
  ·have h':¬u=t:=fun e=>h e.symm;simp[eJ h,h']
theorem SE.join_ev (s s':SE)(lr lo:List Nat)(ρ:Env):(s.join lr lo s').ev ρ=(s.ev ρ).join lr lo (s'.ev ρ):=by
 have h1:∀u,((s.join lr lo s').getR u).ev ρ=((s.ev ρ).join lr lo (s'.ev ρ)).r u:=by
  intro u;rw[Env.join_r];have e:bu (s.join lr lo s').r u=if u∈lr then some (s'.getR u) else bu s.r u:=uT lr;unfold SE.getR;rw[e];by_cases h:u∈lr
  ·simp only[h,if_true];rfl
  ·simp only[h,if_false];rfl
 have h2:∀u,((s.join lr lo s').getO u).ev ρ=((s.ev ρ).join lr lo (s'.ev ρ)).o u:=by
  intro u;rw[Env.join_o];have e:bu (s.join lr lo s').o u=if u∈lo then some (s'.getO u) else bu s.o u:=uT lo;unfold SE.getO;rw[e];by_cases h:u∈lo
  ·simp only[h,if_true];rfl
  ·simp only[h,if_false];rfl
 have e1:(fun u=>((s.join lr lo s').getR u).ev ρ)=((s.ev ρ).join lr lo (s'.ev ρ)).r:=funext h1;have e2:(fun u=>((s.join lr lo s').getO u).ev ρ)=((s.ev ρ).join lr lo (s'.ev ρ)).o:=funext h2;show Env.mk _ _=_;rw[e1,e2]
abbrev bO:=List (PE×Bool)
def bO.ok (ab:bO)(ρ:Env):Prop:=∀x,x∈ab→(x.1.ev ρ).b=x.2
def Ed (e:PE):bO→Option Bool
 |[]=>none
 |x::l=>bif PE.beq x.1 e then some x.2 else Ed e l
theorem Tq {e:PE}{ρ:Env}{b:Bool}:∀{ab:bO},ab.ok ρ→Ed e ab=some b→(e.ev ρ).b=b
 |[],_,h=>by cases h
 |x::l,ar,h=>by
  simp only[Ed] at h;cases hb:PE.beq x.1 e<;>simp only[hb,cond_true,cond_false] at h
  ·exact Tq (fun y hy=>ar y (dY _ hy)) h
  ·cases h;rw[←PE.beq_eq _ _ hb];exact ar x (ej ..)
def sZ (ab:bO):PE→Option Bool
 |.con (.v (.bool b))=>some b
 |.nt x=>(sZ ab x).map (!·)
 |e=>Ed e ab
theorem vQ {ab:bO}{ρ:Env}(h:ab.ok ρ):∀{e:PE} {b:Bool},sZ ab e=some b→(e.ev ρ).b=b
 |.con (.v (.bool b)),b',he=>by simp only[sZ,aS] at he;subst he;rfl
 |.nt x,b',he=>by
  simp only[sZ,ax] at he;obtain⟨c,hc,rfl⟩:=he;simp only[PE.ev,D.b_bool,vQ h hc]
 |e,b',he=>by
  unfold sZ at he;split at he
  ·cases he;rfl
  ·rename_i x;simp only[ax] at he;obtain⟨c,hc,rfl⟩:=he;simp only[PE.ev,D.b_bool,vQ h hc]
  ·exact Tq h he
def qM (ab:bO)(c a b:PE):PE:=match sZ ab c with|some true=>a|some false=>b|none=>.pick c a b
theorem Ox {ab:bO}{ρ:Env}(h:ab.ok ρ)(c a b:PE):(qM ab c a b).ev ρ=(PE.pick c a b).ev ρ:=by
 unfold qM;split
 ·rename_i ht;simp[PE.ev,vQ h ht]
 ·rename_i ht;simp[PE.ev,vQ h ht]
 ·rfl
def KH:PE→PE
 |.ref x=>x
 |x=>.deref x
theorem adY (x:PE)(ρ:Env):(KH x).ev ρ=(PE.deref x).ev ρ:=by unfold KH;split<;>rfl
def Qg:PE→Nat→PE
 |.tup es,i=>es.getD i (.con .none)
 |x,i=>.tget x i
theorem apj (x:PE)(i:Nat)(ρ:Env):(Qg x i).ev ρ=(PE.tget x i).ev ρ:=by
 unfold Qg;split
 ·rename_i es;simp only[PE.ev,D.tget_tup,PE.evs_eq,aI,cf];cases es[i]?<;>rfl
 ·rfl
def Cp:PE→Bool
 |.ai ..|.ci ..|.cb ..|.cs ..|.sadd ..|.nt _|.conv ..|.llen _|.bytes _|.slen _|.mlen _|.idx ..|.sidx ..|.sok ..|.slok ..|.lst _|.app ..|.setn ..|.rep ..|.slc ..|.ref _|.has ..|.put ..|.an ..|.imp ..|.tup _|.clo ..=>true
 |.con (.v _)|.con (.list _)|.con (.map _)=>true
 |_=>false
theorem amF {e:PE}(h:Cp e=true)(ρ:Env):(e.ev ρ).cells=[e.ev ρ]:=by
 unfold Cp at h;split at h<;>first|rfl|cases h
def Kt:PE→Nat→PE
 |.mk es,i=>bif es.all Cp then es.getD i (.con .none) else .cell (.mk es) i
 |x,i=>.cell x i
theorem Uq {ρ:Env}:∀{es:List PE},es.all Cp=true→PE.evc ρ es=PE.evs ρ es
 |[],_=>rfl
 |e::es,h=>by
  simp only[nS,aq] at h;simp only[PE.evc,PE.evs,amF h.1,Uq h.2];rfl
theorem ac9 (x:PE)(i:Nat)(ρ:Env):(Kt x i).ev ρ=(PE.cell x i).ev ρ:=by
 unfold Kt;split
 ·rename_i es;cases hc:es.all Cp
  ·rfl
  ·simp only[cond_true,PE.ev,Uq hc,D.c_agg,PE.evs_eq,aI,cf];cases es[i]?<;>rfl
 ·rfl
def A1 (s:SE):List (Nat×Bool)→PE
 |[]=>.con (.v (.bool true))
 |g::gs=>.an (bif g.2 then s.getR g.1 else .nt (s.getR g.1)) (A1 s gs)
theorem UP (s:SE)(ρ:Env):∀gs,((A1 s gs).ev ρ).b=holds gs (s.ev ρ)
 |[]=>rfl
 |g::gs=>by
  have ih:=UP s ρ gs;rw[aiv,←ih];have e:((s.ev ρ).r g.1)=(s.getR g.1).ev ρ:=rfl;rw[e];cases hg:g.2
  ·simp only[A1,hg,cond_false,PE.ev,D.b_bool];cases((s.getR g.1).ev ρ).b<;>rfl
  ·simp only[A1,hg,cond_true,PE.ev,D.b_bool];cases((s.getR g.1).ev ρ).b<;>rfl
mutual
def PE.sub' (ab:bO)(s:SE):PE→PE
 |.r t=>s.getR t
 |.o j=>s.getO j
 |.con d=>.con d
 |.cell e i=>Kt (PE.sub' ab s e) i
 |.sub e a b=>.sub (PE.sub' ab s e) a b
 |.setc e q x=>.setc (PE.sub' ab s e) q (PE.sub' ab s x)
 |.mk es=>.mk (PE.subs' ab s es)
 |.ai op k x y=>.ai op k (PE.sub' ab s x) (PE.sub' ab s y)
 |.ci op x y=>.ci op (PE.sub' ab s x) (PE.sub' ab s y)
 |.cb op x y=>.cb op (PE.sub' ab s x) (PE.sub' ab s y)
 |.cs op x y=>.cs op (PE.sub' ab s x) (PE.sub' ab s y)
 |.sadd x y=>.sadd (PE.sub' ab s x) (PE.sub' ab s y)
 |.nt x=>.nt (PE.sub' ab s x)
 |.conv k x=>.conv k (PE.sub' ab s x)
 |.pick c a b=>qM ab (PE.sub' ab s c) (PE.sub' ab s a) (PE.sub' ab s b)
 |.llen x=>.llen (PE.sub' ab s x)
 |.bytes x=>.bytes (PE.sub' ab s x)
 |.slen x=>.slen (PE.sub' ab s x)
 |.mlen x=>.mlen (PE.sub' ab s x)
 |.nth x y=>.nth (PE.sub' ab s x) (PE.sub' ab s y)
 |.idx x y=>.idx (PE.sub' ab s x) (PE.sub' ab s y)
 |.sidx x y=>.sidx (PE.sub' ab s x) (PE.sub' ab s y)
 |.sok x y=>.sok (PE.sub' ab s x) (PE.sub' ab s y)
 |.setn x y n z=>.setn (PE.sub' ab s x) (PE.sub' ab s y) n (PE.sub' ab s z)
 |.app x y=>.app (PE.sub' ab s x) (PE.sub' ab s y)
 |.lst es=>.lst (PE.subs' ab s es)
 |.rep x y=>.rep (PE.sub' ab s x) (PE.sub' ab s y)
 |.slc x y z=>.slc (PE.sub' ab s x) (PE.sub' ab s y) (PE.sub' ab s z)
 |.slok x y z=>.slok (PE.sub' ab s x) (PE.sub' ab s y) (PE.sub' ab s z)
 |.ref x=>.ref (PE.sub' ab s x)
 |.deref x=>KH (PE.sub' ab s x)
 |.look x y z=>.look (PE.sub' ab s x) (PE.sub' ab s y) (PE.sub' ab s z)
 |.has x y=>.has (PE.sub' ab s x) (PE.sub' ab s y)
 |.put x y z=>.put (PE.sub' ab s x) (PE.sub' ab s y) (PE.sub' ab s z)
 |.mn x y=>.mn (PE.sub' ab s x) (PE.sub' ab s y)
 |.mx x y=>.mx (PE.sub' ab s x) (PE.sub' ab s y)
 |.tup es=>.tup (PE.subs' ab s es)
 |.tget x i=>Qg (PE.sub' ab s x) i
 |.clo f es=>.clo f (PE.subs' ab s es)
 |.an x y=>.an (PE.sub' ab s x) (PE.sub' ab s y)
 |.imp c x=>.nt (.an (A1 s c) (.nt (PE.sub' ab s x)))
def PE.subs' (ab:bO)(s:SE):List PE→List PE
 |[]=>[]
 |e::es=>PE.sub' ab s e::PE.subs' ab s es
end
mutual
theorem PE.sub_ev {ab:bO}{ρ:Env}(h:ab.ok ρ)(s:SE):∀(e:PE),(PE.sub' ab s e).ev ρ=e.ev (s.ev ρ)
 |.r t=>rfl
 |.o j=>rfl
 |.con d=>rfl
 |.cell e i=>by simp only[PE.sub',ac9,PE.ev,PE.sub_ev h s e]
 |.sub e a b=>by simp only[PE.sub',PE.ev,PE.sub_ev h s e]
 |.setc e q x=>by simp only[PE.sub',PE.ev,PE.sub_ev h s e,PE.sub_ev h s x]
 |.mk es=>by simp only[PE.sub',PE.ev,PE.subc_ev h s es]
 |.ai op k x y=>by simp only[PE.sub',PE.ev,PE.sub_ev h s x,PE.sub_ev h s y]
 |.ci op x y=>by simp only[PE.sub',PE.ev,PE.sub_ev h s x,PE.sub_ev h s y]
 |.cb op x y=>by simp only[PE.sub',PE.ev,PE.sub_ev h s x,PE.sub_ev h s y]
 |.cs op x y=>by simp only[PE.sub',PE.ev,PE.sub_ev h s x,PE.sub_ev h s y]
 |.sadd x y=>by simp only[PE.sub',PE.ev,PE.sub_ev h s x,PE.sub_ev h s y]
 |.nt x=>by simp only[PE.sub',PE.ev,PE.sub_ev h s x]
 |.conv k x=>by simp only[PE.sub',PE.ev,PE.sub_ev h s x]
 |.pick c a b=>by simp only[PE.sub',Ox h,PE.ev,PE.sub_ev h s c,PE.sub_ev h s a,PE.sub_ev h s b]
 |.llen x=>by simp only[PE.sub',PE.ev,PE.sub_ev h s x]
 |.bytes x=>by simp only[PE.sub',PE.ev,PE.sub_ev h s x]
 |.slen x=>by simp only[PE.sub',PE.ev,PE.sub_ev h s x]
 |.mlen x=>by simp only[PE.sub',PE.ev,PE.sub_ev h s x]
 |.nth x y=>by simp only[PE.sub',PE.ev,PE.sub_ev h s x,PE.sub_ev h s y]
 |.idx x y=>by simp only[PE.sub',PE.ev,PE.sub_ev h s x,PE.sub_ev h s y]
 |.sidx x y=>by simp only[PE.sub',PE.ev,PE.sub_ev h s x,PE.sub_ev h s y]
 |.sok x y=>by simp only[PE.sub',PE.ev,PE.sub_ev h s x,PE.sub_ev h s y]
 |.setn x y n z=>by simp only[PE.sub',PE.ev,PE.sub_ev h s x,PE.sub_ev h s y,PE.sub_ev h s z]
 |.app x y=>by simp only[PE.sub',PE.ev,PE.sub_ev h s x,PE.sub_ev h s y]
 |.lst es=>by simp only[PE.sub',PE.ev,PE.subs_ev h s es]
 |.rep x y=>by simp only[PE.sub',PE.ev,PE.sub_ev h s x,PE.sub_ev h s y]
 |.slc x y z=>by simp only[PE.sub',PE.ev,PE.sub_ev h s x,PE.sub_ev h s y,PE.sub_ev h s z]
 |.slok x y z=>by simp only[PE.sub',PE.ev,PE.sub_ev h s x,PE.sub_ev h s y,PE.sub_ev h s z]
 |.ref x=>by simp only[PE.sub',PE.ev,PE.sub_ev h s x]
 |.deref x=>by simp only[PE.sub',adY,PE.ev,PE.sub_ev h s x]
 |.look x y z=>by simp only[PE.sub',PE.ev,PE.sub_ev h s x,PE.sub_ev h s y,PE.sub_ev h s z]
 |.has x y=>by simp only[PE.sub',PE.ev,PE.sub_ev h s x,PE.sub_ev h s y]
 |.put x y z=>by simp only[PE.sub',PE.ev,PE.sub_ev h s x,PE.sub_ev h s y,PE.sub_ev h s z]
 |.mn x y=>by simp only[PE.sub',PE.ev,PE.sub_ev h s x,PE.sub_ev h s y]
 |.mx x y=>by simp only[PE.sub',PE.ev,PE.sub_ev h s x,PE.sub_ev h s y]
 |.tup es=>by simp only[PE.sub',PE.ev,PE.subs_ev h s es]
 |.tget x i=>by simp only[PE.sub',apj,PE.ev,PE.sub_ev h s x]
 |.clo f es=>by simp only[PE.sub',PE.ev,PE.subs_ev h s es]
 |.an x y=>by simp only[PE.sub',PE.ev,PE.sub_ev h s x,PE.sub_ev h s y]
 |.imp c x=>by
  simp only[PE.sub',PE.ev,D.b_bool,UP,PE.sub_ev h s x];cases holds c (s.ev ρ)<;>cases(x.ev (s.ev ρ)).b<;>rfl
theorem PE.subs_ev {ab:bO}{ρ:Env}(h:ab.ok ρ)(s:SE):∀(es:List PE),PE.evs ρ (PE.subs' ab s es)=PE.evs (s.ev ρ) es
 |[]=>rfl
 |e::es=>by simp only[PE.subs',PE.evs,PE.sub_ev h s e,PE.subs_ev h s es]
theorem PE.subc_ev {ab:bO}{ρ:Env}(h:ab.ok ρ)(s:SE):∀(es:List PE),PE.evc ρ (PE.subs' ab s es)=PE.evc (s.ev ρ) es
 |[]=>rfl
 |e::es=>by simp only[PE.subs',PE.evc,PE.sub_ev h s e,PE.subc_ev h s es]
end
inductive PT where
 |next (s:SE)
 |exit (id:Nat) (s:SE)
 |ret (e:PE)
 |chk (e:PE) (k:PT)
 |ite (c:PE) (a b:PT)
 |call (s:SE) (gs:List (Nat×Bool)) (dst f:Nat) (args:List PE) (k:PT)
 |callc (s:SE) (gs:List (Nat×Bool)) (dst:Nat) (e:PE) (args:List PE) (k:PT)
 |mcall (s:SE) (j f:Nat) (args:List PE) (k:PT)
 |iteS (s:SE) (c:PE) (lr lo:List Nat) (a b k:PT)
 |blockS (s:SE) (id:Nat) (lr lo:List Nat) (a k:PT)
 |brk (s:SE) (c:PC) (k:PT)
def aE (T:cA):PT→Env→(Out→Prop)→Prop
 |.next s,ρ,Q=>Q (.next (s.ev ρ))
 |.exit id s,ρ,Q=>Q (.exit id (s.ev ρ))
 |.ret e,ρ,Q=>Q (.ret (e.ev ρ))
 |.chk e k,ρ,Q=>(e.ev ρ).b=true∧aE T k ρ Q
 |.ite c a b,ρ,Q=>if(c.ev ρ).b=true then aE T a ρ Q else aE T b ρ Q
 |.call s gs dst f args k,ρ,Q=>if holds gs (s.ev ρ)=true then ∃d,ak T f (PE.evs ρ args) d∧aE T k ((s.ev ρ).setR dst d) Q else aE T k (s.ev ρ) Q
 |.callc s gs dst e args k,ρ,Q=>if holds gs (s.ev ρ)=true then ∃f caps d,e.ev ρ=.clo f caps∧ak T f (PE.evs ρ args++caps) d∧aE T k ((s.ev ρ).setR dst d) Q else aE T k (s.ev ρ) Q
 |.mcall s j f args k,ρ,Q=>∃d,ak T f (PE.evs ρ args) d∧aE T k ((s.ev ρ).setO j d) Q
 |.iteS s c lr lo a b k,ρ,Q=>if(c.ev ρ).b=true then aE T a (s.ev ρ) (jC (s.ev ρ) lr lo (fS (fun ρ'=>aE T k ρ' Q) Q)) else aE T b (s.ev ρ) (jC (s.ev ρ) lr lo (fS (fun ρ'=>aE T k ρ' Q) Q))
 |.blockS s id lr lo a k,ρ,Q=>aE T a (s.ev ρ) (kj (s.ev ρ) id lr lo (fS (fun ρ'=>aE T k ρ' Q) Q))
 |.brk s c k,ρ,Q=>aH T c (s.ev ρ) (fS (fun ρ'=>aE T k ρ' Q) Q)
def ml:PI→Bool
 |.setR ..|.setO ..|.chk _=>true
 |_=>false
def dt:PC→Bool
 |.loop ..=>false
 |.each ..=>false
 |.meach ..=>false
 |.seq a b=>dt a&&dt b
 |.ite _ _ _ a b=>dt a&&dt b
 |.block _ _ _ a=>dt a
 |.is l=>l.all ml
 |_=>true
abbrev Kn:=bO→SE→PT
abbrev Kx:=bO→Nat→SE→PT
def lP:List PI→bO→SE→Kn→PT
 |[],ab,s,k=>k ab s
 |.setR t e::l,ab,s,k=>lP l ab (s.setR t (e.sub' ab s)) k
 |.setO t e::l,ab,s,k=>lP l ab (s.setO t (e.sub' ab s)) k
 |.chk e::l,ab,s,k=>
  match sZ ab (e.sub' ab s) with
  |some true=>lP l ab s k
  |_=>.chk (e.sub' ab s) (lP l ((e.sub' ab s,true)::ab) s k)
 |.call gs dst f args::l,ab,s,k=>.call s gs dst f (PE.subs' ab s args) (lP l [] .id k)
 |.callc gs dst e args::l,ab,s,k=>.callc s gs dst (e.sub' ab s) (PE.subs' ab s args) (lP l [] .id k)
 |.mcall j f args::l,ab,s,k=>.mcall s j f (PE.subs' ab s args) (lP l [] .id k)
def SE.merge (s:SE)(ab:bO)(lr lo:List Nat)(c:PE)(a b:SE):SE:=⟨lr.map (fun t=>(t,qM ab c (a.getR t) (b.getR t)))++s.r,lo.map (fun t=>(t,qM ab c (a.getO t) (b.getO t)))++s.o⟩
def nB:List PI→bO→SE→Option SE
 |[],_,s=>some s
 |.setR t e::l,ab,s=>nB l ab (s.setR t (e.sub' ab s))
 |.setO t e::l,ab,s=>nB l ab (s.setO t (e.sub' ab s))
 |_::_,_,_=>none
def plain:PC→bO→SE→Option SE
 |.skip,_,s=>some s
 |.is l,ab,s=>nB l ab s
 |.seq a b,ab,s=>(plain a ab s).bind fun s=>plain b ab s
 |.ite c lr lo a b,ab,s=>(plain a ab s).bind fun sa=>(plain b ab s).map fun sb=>s.merge ab lr lo (c.sub' ab s) sa sb
 |_,_,_=>none
def Ww:PC→Bool
 |.loop ..=>true
 |_=>false
def sx:PC→bO→SE→Kn→Kx→PT
 |.skip,ab,s,k,_=>k ab s
 |.is l,ab,s,k,_=>lP l ab s k
 |.seq a b,ab,s,k,kx=>sx a ab s (fun ab s=>sx b ab s k kx) kx
 |.ite c lr lo a b,ab,s,k,kx=>
  match sZ ab (c.sub' ab s) with
  |some true=>bif dt a then sx a ab s (fun ab s'=>k ab (s.join lr lo s')) kx else .iteS s (c.sub' ab s) lr lo (sx a [] .id (fun _ s=>.next s) (fun _ id s=>.exit id s)) (sx b [] .id (fun _ s=>.next s) (fun _ id s=>.exit id s)) (k [] .id)
  |some false=>bif dt b then sx b ab s (fun ab s'=>k ab (s.join lr lo s')) kx else .iteS s (c.sub' ab s) lr lo (sx a [] .id (fun _ s=>.next s) (fun _ id s=>.exit id s)) (sx b [] .id (fun _ s=>.next s) (fun _ id s=>.exit id s)) (k [] .id)
  |none=>
   match plain a ab s,plain b ab s with
   |some sa,some sb=>k ab (s.merge ab lr lo (c.sub' ab s) sa sb)
   |_,_=>
   bif dt a&&dt b then
    .ite (c.sub' ab s) (sx a ((c.sub' ab s,true)::ab) s (fun ab s'=>k ab (s.join lr lo s')) kx) (sx b ((c.sub' ab s,false)::ab) s (fun ab s'=>k ab (s.join lr lo s')) kx)
   else .iteS s (c.sub' ab s) lr lo (sx a [] .id (fun _ s=>.next s) (fun _ id s=>.exit id s)) (sx b [] .id (fun _ s=>.next s) (fun _ id s=>.exit id s)) (k [] .id)
 |.block id lr lo a,ab,s,k,kx=>
  bif dt a then sx a ab s (fun ab s'=>k ab (s.join lr lo s')) (fun ab bM s'=>bif Nat.beq bM id then k ab (s.join lr lo s') else kx ab bM s')
  else bif Ww a then .brk s (.block id lr lo a) (k [] .id)
  else .blockS s id lr lo (sx a [] .id (fun _ s=>.next s) (fun _ id s=>.exit id s)) (k [] .id)
 |.loop lr lo a,_,s,k,_=>.brk s (.loop lr lo a) (k [] .id)
 |.each e ps lo rt a,_,s,k,_=>.brk s (.each e ps lo rt a) (k [] .id)
 |.meach J ps cE lo a,_,s,k,_=>.brk s (.meach J ps cE lo a) (k [] .id)
 |.exit id,ab,s,_,kx=>kx ab id s
 |.ret e,ab,s,_,_=>.ret (e.sub' ab s)
theorem bO.ok_nil (ρ:Env):bO.ok [] ρ:=fun _ h=>nomatch h
theorem bO.ok_cons {ab:bO}{ρ:Env}{e:PE}{b:Bool}(h:ab.ok ρ)(he:(e.ev ρ).b=b):bO.ok ((e,b)::ab) ρ:=fun x hx=>by
 rcases cG.1 hx with e'|hx
 ·rw[e'];exact he
 ·exact h x hx
theorem pB {T:cA}{Q:Out→Prop}{K:Env→Prop}{k:Kn}:∀{l:List PI} {ab:bO} {s:SE} {ρ:Env},ab.ok ρ→aE T (lP l ab s k) ρ Q→
 (∀ρ' ab s,(l.all ml=true→ρ'=ρ)→ab.ok ρ'→aE T (k ab s) ρ' Q→K (s.ev ρ'))→fT T l (s.ev ρ) K
 |[],ab,s,ρ,ha,h,hk=>hk ρ ab s (fun _=>rfl) ha h
 |.setR t e::l,ab,s,ρ,ha,h,hk=>by
  simp only[fT];rw[←PE.sub_ev ha s e,←SE.setR_ev];exact pB ha h fun ρ' ab s hp=>hk ρ' ab s fun hl=>hp (by simpa [ml] using hl)
 |.setO t e::l,ab,s,ρ,ha,h,hk=>by
  simp only[fT];rw[←PE.sub_ev ha s e,←SE.setO_ev];exact pB ha h fun ρ' ab s hp=>hk ρ' ab s fun hl=>hp (by simpa [ml] using hl)
 |.chk e::l,ab,s,ρ,ha,h,hk=>by
  simp only[fT];rw[←PE.sub_ev ha s e];simp only[lP] at h;split at h
  ·rename_i ht;exact⟨vQ ha ht,pB ha h fun ρ' ab s hp=>hk ρ' ab s fun hl=>hp (by simpa [ml] using hl)⟩
  ·exact⟨h.1,pB (bO.ok_cons ha h.1) h.2 fun ρ' ab s hp=>hk ρ' ab s fun hl=>hp (by simpa [ml] using hl)⟩
 |.call gs dst f args::l,ab,s,ρ,ha,h,hk=>by
  simp only[fT];simp only[lP,aE,PE.subs_ev ha,PE.sub_ev ha] at h;have bL:∀{ρ0:Env},∀ρ' ab s,(l.all ml=true→ρ'=ρ0)→ab.ok ρ'→aE T (k ab s) ρ' Q→K (s.ev ρ'):=fun ρ' ab s _=>hk ρ' ab s fun hl=>by simp[ml] at hl
  split at h
  ·rename_i hg;rw[if_pos hg];obtain⟨d,hd,h⟩:=h;exact⟨d,hd,pB (s:=.id) (bO.ok_nil _) h bL⟩
  ·rename_i hg;rw[if_neg hg];exact pB (s:=.id) (bO.ok_nil _) h bL
 |.callc gs dst e args::l,ab,s,ρ,ha,h,hk=>by
  simp only[fT];simp only[lP,aE,PE.subs_ev ha,PE.sub_ev ha] at h;have bL:∀{ρ0:Env},∀ρ' ab s,(l.all ml=true→ρ'=ρ0)→ab.ok ρ'→aE T (k ab s) ρ' Q→K (s.ev ρ'):=fun ρ' ab s _=>hk ρ' ab s fun hl=>by simp[ml] at hl
  split at h
  ·rename_i hg;rw[if_pos hg];obtain⟨f,caps,d,he,hd,h⟩:=h;exact⟨f,caps,d,he,hd,pB (s:=.id) (bO.ok_nil _) h bL⟩
  ·rename_i hg;rw[if_neg hg];exact pB (s:=.id) (bO.ok_nil _) h bL
 |.mcall j f args::l,ab,s,ρ,ha,h,hk=>by
  simp only[fT];simp only[lP,aE,PE.subs_ev ha,PE.sub_ev ha] at h;have bL:∀{ρ0:Env},∀ρ' ab s,(l.all ml=true→ρ'=ρ0)→ab.ok ρ'→aE T (k ab s) ρ' Q→K (s.ev ρ'):=fun ρ' ab s _=>hk ρ' ab s fun hl=>by simp[ml] at hl
  obtain⟨d,hd,h⟩:=h;exact⟨d,hd,pB (s:=.id) (bO.ok_nil _) h bL⟩
theorem SE.merge_ev {ab:bO}{ρ:Env}(h:ab.ok ρ)(s a b:SE)(lr lo:List Nat)(c:PE):(s.merge ab lr lo c a b).ev ρ=(s.ev ρ).join lr lo (if(c.ev ρ).b=true then a.ev ρ else b.ev ρ):=by
 have h1:∀u,((s.merge ab lr lo c a b).getR u).ev ρ=((s.ev ρ).join lr lo (if(c.ev ρ).b=true then a.ev ρ else b.ev ρ)).r u:=by
  intro u;rw[Env.join_r];have e:bu (s.merge ab lr lo c a b).r u=if u∈lr then some (qM ab c (a.getR u) (b.getR u)) else bu s.r u:=uT lr;have e2:(s.merge ab lr lo c a b).getR u=if u∈lr then qM ab c (a.getR u) (b.getR u) else s.getR u:=by
   unfold SE.getR;rw[e];by_cases h:u∈lr<;>simp[h,SE.getR]
  rw[e2];by_cases hu:u∈lr
  ·simp only[hu,if_true,Ox h,PE.ev];cases hc:(c.ev ρ).b<;>simp[SE.ev]
  ·simp only[hu,if_false];rfl
 have h2:∀u,((s.merge ab lr lo c a b).getO u).ev ρ=((s.ev ρ).join lr lo (if(c.ev ρ).b=true then a.ev ρ else b.ev ρ)).o u:=by
  intro u;rw[Env.join_o];have e:bu (s.merge ab lr lo c a b).o u=if u∈lo then some (qM ab c (a.getO u) (b.getO u)) else bu s.o u:=uT lo;have e2:(s.merge ab lr lo c a b).getO u=if u∈lo then qM ab c (a.getO u) (b.getO u) else s.getO u:=by
   unfold SE.getO;rw[e];by_cases h:u∈lo<;>simp[h,SE.getO]
  rw[e2];by_cases hu:u∈lo
  ·simp only[hu,if_true,Ox h,PE.ev];cases hc:(c.ev ρ).b<;>simp[SE.ev]
  ·simp only[hu,if_false];rfl
 have e1:(fun u=>((s.merge ab lr lo c a b).getR u).ev ρ)=((s.ev ρ).join lr lo (if(c.ev ρ).b=true then a.ev ρ else b.ev ρ)).r:=funext h1;have e2:(fun u=>((s.merge ab lr lo c a b).getO u).ev ρ)=((s.ev ρ).join lr lo (if(c.ev ρ).b=true then a.ev ρ else b.ev ρ)).o:=funext h2;show Env.mk _ _=_;rw[e1,e2]
theorem OA {T:cA}{ab:bO}{ρ:Env}(ha:ab.ok ρ):∀{l:List PI} {s s':SE},nB l ab s=some s'→∀{K:Env→Prop},K (s'.ev ρ)→fT T l (s.ev ρ) K
 |[],s,s',h,K,hk=>by simp only[nB,aS] at h;subst h;exact hk
 |.setR t e::l,s,s',h,K,hk=>by simp only[fT];rw[←PE.sub_ev ha s e,←SE.setR_ev];exact OA (l:=l) ha (show nB l ab _=some s' from h) hk
 |.setO t e::l,s,s',h,K,hk=>by simp only[fT];rw[←PE.sub_ev ha s e,←SE.setO_ev];exact OA (l:=l) ha (show nB l ab _=some s' from h) hk
 |.chk _::_,_,_,h,_,_=>by simp[nB] at h
 |.call ..::_,_,_,h,_,_=>by simp[nB] at h
 |.callc ..::_,_,_,h,_,_=>by simp[nB] at h
 |.mcall ..::_,_,_,h,_,_=>by simp[nB] at h
theorem anq {T:cA}{ab:bO}{ρ:Env}(ha:ab.ok ρ):∀(c:PC) {s s':SE},plain c ab s=some s'→∀{Q:Out→Prop},Q (.next (s'.ev ρ))→aH T c (s.ev ρ) Q:=by
 intro c
 induction c with
 |skip=>intro s s' h Q hq;simp only[plain,aS] at h;subst h;exact .skip hq
 |is l=>intro s s' h Q hq;exact .is (OA ha h hq)
 |seq a b aX cZ=>
  intro s s' h Q hq;simp only[plain,au] at h;obtain⟨s1,h1,h2⟩:=h;exact .seq (aX h1 (cZ h2 hq))
 |ite c lr lo a b aX cZ=>
  intro s s' h Q hq;simp only[plain,au,ax] at h;obtain⟨sa,h1,sb,h2,rfl⟩:=h;rw[SE.merge_ev ha,PE.sub_ev ha] at hq;refine .ite ?_;split
  ·rename_i hc;rw[if_pos hc] at hq;exact aX h1 hq
  ·rename_i hc;rw[if_neg hc] at hq;exact cZ h2 hq
 |_=>intro s s' h;simp[plain] at h
theorem I0 {T:cA}:∀(c:PC) {ab:bO} {s:SE} {k:Kn} {kx:Kx} {ρ:Env} {Q Q':Out→Prop},ab.ok ρ→aE T (sx c ab s k kx) ρ Q→
 (∀ρ' ab s,(dt c=true→ρ'=ρ)→ab.ok ρ'→aE T (k ab s) ρ' Q→Q' (.next (s.ev ρ')))→
 (∀ρ' ab id s,(dt c=true→ρ'=ρ)→ab.ok ρ'→aE T (kx ab id s) ρ' Q→Q' (.exit id (s.ev ρ')))→(dt c=false→∀id ρ',Q (.exit id ρ')→Q' (.exit id ρ'))→(∀d,Q (.ret d)→Q' (.ret d))→aH T c (s.ev ρ) Q':=by
 intro c;have alone:∀(a:PC),(∀{ab:bO} {s:SE} {k:Kn} {kx:Kx} {ρ:Env} {Q Q':Out→Prop},ab.ok ρ→aE T (sx a ab s k kx) ρ Q→
  (∀ρ' ab s,(dt a=true→ρ'=ρ)→ab.ok ρ'→aE T (k ab s) ρ' Q→Q' (.next (s.ev ρ')))→
  (∀ρ' ab id s,(dt a=true→ρ'=ρ)→ab.ok ρ'→aE T (kx ab id s) ρ' Q→Q' (.exit id (s.ev ρ')))→(dt a=false→∀id ρ',Q (.exit id ρ')→Q' (.exit id ρ'))→(∀d,Q (.ret d)→Q' (.ret d))→aH T a (s.ev ρ) Q')→
  ∀{ρ:Env} {Q:Out→Prop},aE T (sx a [] .id (fun _ s=>.next s) (fun _ id s=>.exit id s)) ρ Q→aH T a ρ Q:=by
  intro a ih ρ Q h;exact ih (s:=.id) (bO.ok_nil _) h (fun ρ' ab s _ _ h=>h) (fun ρ' ab id s _ _ h=>h) (fun _ _ _ h=>h) (fun _ h=>h)
 induction c with
 |skip=>intro ab s k kx ρ Q Q' ha h hk _ _ _;exact .skip (hk ρ ab s (fun _=>rfl) ha h)
 |is l=>intro ab s k kx ρ Q Q' ha h hk _ _ _;exact .is (pB (K:=fun ρ'=>Q' (.next ρ')) ha h hk)
 |seq a b aX cZ=>
  intro ab s k kx ρ Q Q' ha h hk hx iW hr;refine .seq (aX ha h (Q':=fS (fun ρ'=>aH T b ρ' Q') Q') (fun ρ' ab s hp ug h'=>?_) (fun ρ' ab id s hp ug h'=>?_) (fun hp=>?_) hr)
  ·refine cZ ug h' (fun ρ2 ab s eC=>hk ρ2 ab s fun hl=>?_) (fun ρ2 ab id s eC=>hx ρ2 ab id s fun hl=>?_) (fun eC=>?_) hr
   ·simp only[dt,aq] at hl;rw[eC hl.2,hp hl.1]
   ·simp only[dt,aq] at hl;rw[eC hl.2,hp hl.1]
   ·exact iW (by simp[dt,eC])
  ·exact hx ρ' ab id s (fun hl=>by simp only[dt,aq] at hl;exact hp hl.1) ug h'
  ·exact iW (by simp[dt,hp])
 |ite c lr lo a b aX cZ=>
  intro ab s k kx ρ Q Q' ha h hk hx iW hr;have bK:((c.sub' ab s).ev ρ).b=(c.ev (s.ev ρ)).b:=by rw[PE.sub_ev ha]
  have struct:(dt a&&dt b)=false→aE T (.iteS s (c.sub' ab s) lr lo (sx a [] .id (fun _ s=>.next s) (fun _ id s=>.exit id s)) (sx b [] .id (fun _ s=>.next s) (fun _ id s=>.exit id s)) (k [] .id)) ρ Q→aH T (.ite c lr lo a b) (s.ev ρ) Q':=by
   intro BM h;have oI:dt (.ite c lr lo a b)=false:=BM;simp only[aE,bK] at h
   have conv:∀x,jC (s.ev ρ) lr lo (fS (fun ρ'=>aE T (k [] .id) ρ' Q) Q) x→jC (s.ev ρ) lr lo Q' x:=by
      intro x cR;cases x with
      |next ρ'=>exact hk _ [] .id (fun hl=>by rw[oI] at hl;cases hl) (bO.ok_nil _) cR
      |exit id ρ'=>exact iW oI id ρ' cR
      |ret d=>exact hr d cR
   refine .ite ?_;split at h
   ·rename_i hc;rw[if_pos hc];exact(alone a aX h).mono conv
   ·rename_i hc;rw[if_neg hc];exact(alone b cZ h).mono conv
  have Wl:∀tz,tz.ok ρ→dt a=true→aE T (sx a tz s (fun ab s'=>k ab (s.join lr lo s')) kx) ρ Q→aH T a (s.ev ρ) (jC (s.ev ρ) lr lo Q'):=by
   intro tz ug ed h';refine aX ug h' (fun ρ' ab s' hp lZ jv=>?_) (fun ρ' ab id s' hp lZ jv=>?_) (fun hp=>by rw[ed] at hp;cases hp) hr
   ·have e:=hp ed;subst e;show Q' (.next _);rw[←SE.join_ev];exact hk ρ' ab _ (fun _=>rfl) lZ jv
   ·have e:=hp ed;subst e;exact hx ρ' ab id s' (fun _=>rfl) lZ jv
  have aD:∀tz,tz.ok ρ→dt b=true→aE T (sx b tz s (fun ab s'=>k ab (s.join lr lo s')) kx) ρ Q→aH T b (s.ev ρ) (jC (s.ev ρ) lr lo Q'):=by
   intro tz ug ed h';refine cZ ug h' (fun ρ' ab s' hp lZ jv=>?_) (fun ρ' ab id s' hp lZ jv=>?_) (fun hp=>by rw[ed] at hp;cases hp) hr
   ·have e:=hp ed;subst e;show Q' (.next _);rw[←SE.join_ev];exact hk ρ' ab _ (fun _=>rfl) lZ jv
   ·have e:=hp ed;subst e;exact hx ρ' ab id s' (fun _=>rfl) lZ jv
  simp only[sx] at h;split at h
  ·rename_i ht;cases ed:dt a<;>simp only[ed,cond_true,cond_false] at h
   ·exact struct (by simp[ed]) h
   ·refine .ite ?_;rw[if_pos (by rw[←bK];exact vQ ha ht)];exact Wl ab ha ed h
  ·rename_i ht;cases ed:dt b<;>simp only[ed,cond_true,cond_false] at h
   ·exact struct (by simp[ed]) h
   ·refine .ite ?_;rw[if_neg (by rw[←bK,vQ ha ht];simp)];exact aD ab ha ed h
  ·split at h
   ·rename_i sa sb hsa iV;have eD:plain (.ite c lr lo a b) ab s=some (s.merge ab lr lo (c.sub' ab s) sa sb):=by simp[plain,hsa,iV]
    exact anq ha _ eD (hk ρ ab _ (fun _=>rfl) ha h)
   cases ed:(dt a&&dt b)<;>simp only[ed,cond_true,cond_false] at h
   ·exact struct ed h
   ·simp only[aq] at ed;simp only[aE] at h;refine .ite ?_;rw[←bK];split at h
    ·rename_i hc;rw[if_pos hc];exact Wl _ (bO.ok_cons ha hc) ed.1 h
    ·rename_i hc;rw[if_neg hc];exact aD _ (bO.ok_cons ha (by simpa using hc)) ed.2 h
 |block id lr lo a aX=>
  intro ab s k kx ρ Q Q' ha h hk hx iW hr;simp only[sx] at h;cases ed:dt a<;>simp only[ed,cond_true,cond_false] at h
  ·have oI:dt (.block id lr lo a)=false:=ed;cases hl:Ww a<;>simp only[hl,cond_true,cond_false] at h
   case true=>
        simp only[aE] at h;refine aH.mono h fun x cR=>?_;cases x with
        |next ρ'=>exact hk _ [] .id (fun hl=>by rw[oI] at hl;cases hl) (bO.ok_nil _) cR
        |exit id ρ'=>exact iW oI id ρ' cR
        |ret d=>exact hr d cR
   simp only[aE] at h;refine .block ((alone a aX h).mono fun x cR=>?_);cases x with
   |next ρ'=>exact hk _ [] .id (fun hl=>by rw[oI] at hl;cases hl) (bO.ok_nil _) cR
   |exit bM ρ'=>
    simp only[kj] at cR ⊢;split
    ·rename_i e;rw[if_pos e] at cR;exact hk _ [] .id (fun hl=>by rw[oI] at hl;cases hl) (bO.ok_nil _) cR
    ·rename_i e;rw[if_neg e] at cR;exact iW oI bM ρ' cR
   |ret d=>exact hr d cR
  ·refine .block (aX ha h (fun ρ' ab s' hp lZ jv=>?_) (fun ρ' ab bM s' hp lZ jv=>?_) (fun hp=>by rw[ed] at hp;cases hp) hr)
   ·have e:=hp ed;subst e;show Q' (.next _);rw[←SE.join_ev];exact hk ρ' ab _ (fun _=>rfl) lZ jv
   ·have e:=hp ed;subst e;simp only[kj];by_cases ct:bM=id
    ·subst ct;simp only[jn,cond_true] at jv;rw[if_pos rfl,←SE.join_ev];exact hk ρ' ab _ (fun _=>rfl) lZ jv
    ·rw[eJ ct,cond_false] at jv;rw[if_neg ct];exact hx ρ' ab bM s' (fun _=>rfl) lZ jv
 |loop lr lo a aX=>
  intro ab s k kx ρ Q Q' ha h hk hx iW hr;simp only[sx,aE] at h;refine aH.mono h fun x cR=>?_;cases x with
  |next ρ'=>exact hk _ [] .id (fun hl=>by cases hl) (bO.ok_nil _) cR
  |exit id ρ'=>exact iW rfl id ρ' cR
  |ret d=>exact hr d cR
 |each e ps lo rt a aX=>
  intro ab s k kx ρ Q Q' ha h hk hx iW hr;simp only[sx,aE] at h;refine aH.mono h fun x cR=>?_;cases x with
  |next ρ'=>exact hk _ [] .id (fun hl=>by cases hl) (bO.ok_nil _) cR
  |exit id ρ'=>exact iW rfl id ρ' cR
  |ret d=>exact hr d cR
 |meach J ps cE lo a aX=>
  intro ab s k kx ρ Q Q' ha h hk hx iW hr;simp only[sx,aE] at h;refine aH.mono h fun x cR=>?_;cases x with
  |next ρ'=>exact hk _ [] .id (fun hl=>by cases hl) (bO.ok_nil _) cR
  |exit id ρ'=>exact iW rfl id ρ' cR
  |ret d=>exact hr d cR
 |exit id=>intro ab s k kx ρ Q Q' ha h _ hx _ _;exact .exit (hx ρ ab id s (fun _=>rfl) ha h)
 |ret e=>
  intro ab s k kx ρ Q Q' ha h _ _ _ hr;simp only[sx,aE] at h;refine .ret (hr _ ?_);rw[PE.sub_ev ha] at h;exact h
def Lk.un (a b:Lk):Lk:=⟨Nat.lor a.r b.r,gU a.o b.o⟩
def bits (l:List Nat):Nat:=l.foldr (fun t m=>Nat.lor (fO t) m) 0
theorem Km {l:List Nat}{t:Nat}(h:t∈l):aN (bits l) t=true:=by
 induction l with
 |nil=>cases h
 |cons x l ih=>
  show aN (Nat.lor (fO x) (bits l)) t=true;rw[fq];rcases cG.1 h with e|h
  ·subst e;rw[og];rfl
  ·rw[ih h,pE]
theorem Sp:∀{a b:List Nat} {x:Nat},x∈gU a b↔x∈a∨x∈b
 |[],b,x=>by simp[gU]
 |y::a,b,x=>by
  have ih:=Sp (a:=a) (b:=bif eE b y then b else y::b) (x:=x);show x∈gU a _↔_;rw[ih];cases hb:eE b y with
  |true=>simp only[cond_true,cG];have:=(nv b y).1 hb;constructor
         ·rintro(h|h);exact .inl (.inr h);exact .inr h
         ·rintro((rfl|h)|h);exact .inr this;exact .inl h;exact .inr h
  |false=>simp only[cond_false,cG];constructor
          ·rintro(h|h|h);exact .inl (.inr h);exact .inl (.inl h);exact .inr h
          ·rintro((h|h)|h);exact .inr (.inl h);exact .inl h;exact .inr (.inr h)
def Lk.Le (a K:Lk):Prop:=(∀t,aN a.r t=true→aN K.r t=true)∧∀j,j∈a.o→j∈K.o
theorem Lk.le_l (a b:Lk):a.Le (a.un b):=⟨fun t h=>by simp only[Lk.un,fq,h,zA],fun j h=>Sp.2 (.inl h)⟩
theorem Lk.le_r (a b:Lk):b.Le (a.un b):=⟨fun t h=>by simp only[Lk.un,fq,h,pE],fun j h=>Sp.2 (.inr h)⟩
theorem Lk.Le.trans {a b c:Lk}(h:a.Le b)(k:b.Le c):a.Le c:=⟨fun t ht=>k.1 t (h.1 t ht),fun j hj=>k.2 j (h.2 j hj)⟩
theorem Alike.le {a K:Lk}{ρ ρ':Env}(h:Alike K ρ ρ')(k:a.Le K):Alike a ρ ρ':=⟨fun t ht=>h.r t (k.1 t ht),fun j hj=>h.o j (k.2 j hj)⟩
theorem Lk.Le.of_un {a b K:Lk}(h:(a.un b).Le K):a.Le K∧b.Le K:=⟨(Lk.le_l a b).trans h,(Lk.le_r a b).trans h⟩
theorem Alike.setR {K:Lk}{ρ ρ':Env}(h:Alike K ρ ρ')(t:Nat)(d:D):Alike K (ρ.setR t d) (ρ'.setR t d):=⟨fun u hu=>by rw[Env.setR_r,Env.setR_r];split;rfl;exact h.r u hu,h.o⟩
theorem Alike.setO {K:Lk}{ρ ρ':Env}(h:Alike K ρ ρ')(t:Nat)(d:D):Alike K (ρ.setO t d) (ρ'.setO t d):=⟨h.r,fun u hu=>by rw[Env.setO_o,Env.setO_o];split;rfl;exact h.o u hu⟩
theorem Alike.join {K:Lk}{ρ ρ' η η':Env}(h:Alike K ρ ρ')(k:Alike K η η')(lr lo:List Nat):Alike K (ρ.join lr lo η) (ρ'.join lr lo η'):=
 ⟨fun u hu=>by rw[Env.join_r,Env.join_r];split;exact k.r u hu;exact h.r u hu,fun u hu=>by rw[Env.join_o,Env.join_o];split;exact k.o u hu;exact h.o u hu⟩
theorem OC {f g:Nat→D}{u:Nat}(h:g u=f u):∀(ts:List Nat) (xs:List D),putL g ts xs u=putL f ts xs u
 |[],xs=>by rw[HL,HL];exact h
 |t::ts,[]=>by simp only[putL];exact h
 |t::ts,x::xs=>by rw[HK,HK];split;rfl;exact OC h ts xs
theorem Alike.put {K:Lk}{ρ ρ':Env}(h:Alike K ρ ρ')(lr lo:List Nat)(vr vo:List D):Alike K (ρ.put lr vr lo vo) (ρ'.put lr vr lo vo):=⟨fun u hu=>OC (h.r u hu) lr vr,fun u hu=>OC (h.o u hu) lo vo⟩
def PI.lkw:PI→Lk
 |.setR t e=>e.lk.un ⟨fO t,[]⟩
 |.setO j e=>e.lk.un ⟨0,[j]⟩
 |.chk e=>e.lk
 |.call gs dst f aa=>(PI.call gs dst f aa).lk.un ⟨fO dst,[]⟩
 |.callc gs dst e aa=>(PI.callc gs dst e aa).lk.un ⟨fO dst,[]⟩
 |.mcall j f aa=>(PI.mcall j f aa).lk.un ⟨0,[j]⟩
def PC.lk:PC→Lk
 |.skip=>.none
 |.exit _=>.none
 |.is l=>l.foldr (fun p k=>p.lkw.un k) .none
 |.seq a b=>(PC.lk a).un (PC.lk b)
 |.ite c _ _ a b=>c.lk.un ((PC.lk a).un (PC.lk b))
 |.block _ _ _ a=>PC.lk a
 |.loop lr lo a=>(⟨bits lr,lo⟩:Lk).un (PC.lk a)
 |.ret e=>e.lk
 |.each e _ lo rt a=>e.lk.un ((match rt with|some e=>e.lk|none=>.none).un ((⟨0,lo⟩:Lk).un (PC.lk a)))
 |.meach J _ _ lo a=>(⟨0,J::lo⟩:Lk).un (PC.lk a)
structure Off (K:Lk) (b η η':Env):Prop where
 al:Alike K η η'
 r:∀t,aN K.r t=false→η'.r t=b.r t
 o:∀j,j∉K.o→η'.o j=b.o j
def rn (K:Lk)(b:Env):Out→Out→Prop
 |.next η,x=>∃η',x=.next η'∧Off K b η η'
 |.exit i η,x=>∃η',x=.exit i η'∧Off K b η η'
 |.ret d,x=>x=.ret d
theorem Off.uniq {K:Lk}{b η η' η2:Env}(h:Off K b η η')(k:Off K b η η2):η2=η':=by
 have h1:∀t,η2.r t=η'.r t:=fun t=>by
  cases hb:aN K.r t with
  |true=>rw[k.al.r t hb,h.al.r t hb]
  |false=>rw[k.r t hb,h.r t hb]
 have h2:∀t,η2.o t=η'.o t:=fun t=>by
  by_cases hb:t∈K.o
  ·rw[k.al.o t hb,h.al.o t hb]
  ·rw[k.o t hb,h.o t hb]
 cases η2;cases η'
 congr
 ·exact funext h1
 ·exact funext h2
theorem rn.uniq {K:Lk}{b:Env}{x y z:Out}(h:rn K b x y)(k:rn K b x z):z=y:=by
 cases x with
 |next η=>obtain⟨a,rfl,h⟩:=h;obtain⟨c,rfl,k⟩:=k;rw[h.uniq k]
 |exit i η=>obtain⟨a,rfl,h⟩:=h;obtain⟨c,rfl,k⟩:=k;rw[h.uniq k]
 |ret d=>rw[h,k]
theorem Off.setR {K:Lk}{b η η':Env}(h:Off K b η η'){t:Nat}(ht:aN K.r t=true)(d:D):Off K b (η.setR t d) (η'.setR t d):=
 ⟨h.al.setR t d,fun u hu=>by rw[Env.setR_r,if_neg (fun e=>by rw[e,ht] at hu;cases hu)];exact h.r u hu,h.o⟩
theorem Off.setO {K:Lk}{b η η':Env}(h:Off K b η η'){t:Nat}(ht:t∈K.o)(d:D):Off K b (η.setO t d) (η'.setO t d):=
 ⟨h.al.setO t d,h.r,fun u hu=>by rw[Env.setO_o,if_neg (fun e=>hu (by rw[e];exact ht))];exact h.o u hu⟩
theorem Off.join {K:Lk}{b η η' ζ ζ':Env}(h:Off K b η η')(k:Off K b ζ ζ')(lr lo:List Nat):Off K b (η.join lr lo ζ) (η'.join lr lo ζ'):=
 ⟨h.al.join k.al lr lo,fun u hu=>by rw[Env.join_r];split;exact k.r u hu;exact h.r u hu,fun u hu=>by rw[Env.join_o];split;exact k.o u hu;exact h.o u hu⟩
theorem OF {f:Nat→D}{b:D}{u:Nat}(h:f u=b):∀(ts:List Nat) (xs:List D),u∉ts→putL f ts xs u=b
 |[],xs,_=>by rw[HL];exact h
 |t::ts,[],_=>by simp only[putL];exact h
 |t::ts,x::xs,hu=>by rw[HK,if_neg (fun e=>hu (by simp[e]))];exact OF h ts xs (fun e=>hu (by simp[e]))
theorem Off.put {K:Lk}{b η η':Env}(h:Off K b η η'){lr lo:List Nat}(hr:∀t,t∈lr→aN K.r t=true)(ho:∀t,t∈lo→t∈K.o)(vr vo:List D):Off K b (η.put lr vr lo vo) (η'.put lr vr lo vo):=
 ⟨h.al.put lr lo vr vo,fun u hu=>OF (h.r u hu) lr vr (fun e=>by rw[hr u e] at hu;cases hu),fun u hu=>OF (h.o u hu) lo vo (fun e=>hu (ho u e))⟩
theorem PI.run_off {Φ:aJ}{K:Lk}{b ρ ρ' η:Env}{p:PI}(hp:p.lkw.Le K)(h:Off K b ρ ρ')(hr:p.run Φ ρ=some η):∃η',p.run Φ ρ'=some η'∧Off K b η η':=by
 have uw:p.lk.Le K:=by cases p<;>first|exact hp|exact hp.of_un.1
 rw[PI.run_eff,PI.eff_alike p (h.al.le uw)];rw[PI.run_eff] at hr;cases he:p.eff Φ ρ with
 |none=>rw[he] at hr;cases hr
 |some x=>
  rw[he] at hr;simp only[jq,aS] at hr;subst hr;refine⟨_,rfl,?_⟩;have hb:∀{t:Nat} {a:Lk},(a.un ⟨fO t,[]⟩).Le K→aN K.r t=true:=fun h=>h.of_un.2.1 _ (og _);have ho:∀{t:Nat} {a:Lk},(a.un ⟨0,[t]⟩).Le K→t∈K.o:=fun h=>h.of_un.2.2 _ (by simp);cases p with
  |setR t e=>simp only[PI.eff,aS] at he;subst he;exact h.setR (hb hp) _
  |setO t e=>simp only[PI.eff,aS] at he;subst he;exact h.setO (ho hp) _
  |chk e=>simp only[PI.eff] at he;cases uk:(e.ev ρ).b<;>rw[uk] at he<;>cases he;exact h
  |call gs d f aa=>
   simp only[PI.eff] at he;cases uk:holds gs ρ<;>simp only[uk,cond_true,cond_false,aS,ax] at he
   ·subst he;exact h
   ·obtain⟨y,_,rfl⟩:=he;exact h.setR (hb hp) _
  |callc gs d e aa=>
   simp only[PI.eff] at he;cases uk:holds gs ρ<;>simp only[uk,cond_true,cond_false,aS] at he
   ·subst he;exact h
   ·split at he
    ·simp only[ax] at he;obtain⟨y,_,rfl⟩:=he;exact h.setR (hb hp) _
    ·cases he
  |mcall j f aa=>simp only[PI.eff,ax] at he;obtain⟨y,_,rfl⟩:=he;exact h.setO (ho hp) _
theorem PI.runs_off {Φ:aJ}{K:Lk}{b:Env}:∀{l:List PI} {ρ ρ' η:Env},(l.foldr (fun p k=>p.lkw.un k) Lk.none).Le K→Off K b ρ ρ'→PI.runs Φ l ρ=some η→∃η',PI.runs Φ l ρ'=some η'∧Off K b η η'
 |[],ρ,ρ',η,_,h,hr=>by simp only[PI.runs,aS] at hr ⊢;subst hr;exact⟨_,rfl,h⟩
 |p::l,ρ,ρ',η,hl,h,hr=>by
  simp only[PI.runs,au] at hr;obtain⟨ρ1,h1,h2⟩:=hr;obtain⟨ρ2,h3,h4⟩:=PI.run_off hl.of_un.1 h h1;obtain⟨η',h5,h6⟩:=PI.runs_off (l:=l) hl.of_un.2 h4 h2;exact⟨η',by simp only[PI.runs,h3,nY,h5],h6⟩
theorem uW {K:Lk}{b η η':Env}(h:Off K b η η'){lo:List Nat}(ho:∀t,t∈lo→t∈K.o):lo.map η'.o=lo.map η.o:=rj fun t ht=>h.al.o t (ho t ht)
theorem Xe {K:Lk}{b η η':Env}(h:Off K b η η'){lr:List Nat}(hr:∀t,t∈lr→aN K.r t=true):lr.map η'.r=lr.map η.r:=rj fun t ht=>h.al.r t (hr t ht)
theorem PC.ev_off {Φ:aJ}{n:Nat}{K:Lk}:∀(c:PC),c.lk.Le K→∀{b ρ ρ':Env} {x:Out},Off K b ρ ρ'→c.ev Φ n ρ=some x→∃x',c.ev Φ n ρ'=some x'∧rn K b x x':=by
 intro c
 induction c with
 |skip=>intro _ b ρ ρ' x h hr;simp only[PC.ev,aS] at hr ⊢;subst hr;exact⟨_,rfl,_,rfl,h⟩
 |exit id=>intro _ b ρ ρ' x h hr;simp only[PC.ev,aS] at hr ⊢;subst hr;exact⟨_,rfl,_,rfl,h⟩
 |ret e=>intro hk B ρ ρ' x h hr;simp only[PC.ev,aS] at hr ⊢;subst hr;exact⟨_,rfl,by rw[PE.ev_alike e (h.al.le hk)];rfl⟩
 |is l=>
  intro hk B ρ ρ' x h hr;simp only[PC.ev,ax] at hr;obtain⟨η,h1,rfl⟩:=hr;obtain⟨η',h2,h3⟩:=PI.runs_off hk h h1;exact⟨.next η',by simp only[PC.ev,h2,jq],η',rfl,h3⟩
 |seq a b aX cZ=>
  intro hk B ρ ρ' x h hr;simp only[PC.ev] at hr ⊢;cases ha:a.ev Φ n ρ with
  |none=>rw[ha] at hr;cases hr
  |some y=>
   obtain⟨y',h1,h2⟩:=aX hk.of_un.1 h ha;rw[ha] at hr;rw[h1];cases y with
   |next η=>obtain⟨η',rfl,h3⟩:=h2;exact cZ hk.of_un.2 h3 hr
   |exit i η=>obtain⟨η',rfl,h3⟩:=h2;cases hr;exact⟨_,rfl,η',rfl,h3⟩
   |ret d=>cases h2;cases hr;exact⟨_,rfl,rfl⟩
 |ite c lr lo a b aX cZ=>
  intro hk B ρ ρ' x h hr;have hc:(c.ev ρ').b=(c.ev ρ).b:=by rw[PE.ev_alike c (h.al.le hk.of_un.1)]
  have key:∀(d:PC),(∀{ρ ρ':Env} {x:Out},Off K B ρ ρ'→d.ev Φ n ρ=some x→∃x',d.ev Φ n ρ'=some x'∧rn K B x x')→(match d.ev Φ n ρ with|some (.next η)=>some (.next (ρ.join lr lo η))|x=>x)=some x→
      ∃x',(match d.ev Φ n ρ' with|some (.next η)=>some (.next (ρ'.join lr lo η))|x=>x)=some x'∧rn K B x x':=by
   intro d ih hr;cases ha:d.ev Φ n ρ with
   |none=>rw[ha] at hr;cases hr
   |some y=>
    obtain⟨y',h1,h2⟩:=ih h ha;rw[ha] at hr;rw[h1];cases y with
    |next η=>obtain⟨η',rfl,h3⟩:=h2;cases hr;exact⟨_,rfl,_,rfl,h.join h3 lr lo⟩
    |exit i η=>obtain⟨η',rfl,h3⟩:=h2;cases hr;exact⟨_,rfl,η',rfl,h3⟩
    |ret d=>cases h2;cases hr;exact⟨_,rfl,rfl⟩
  simp only[PC.ev,hc] at hr ⊢;cases gw:(c.ev ρ).b<;>simp only[gw,cond_true,cond_false] at hr ⊢
  ·exact key b (fun h1 h2=>cZ hk.of_un.2.of_un.2 h1 h2) hr
  ·exact key a (fun h1 h2=>aX hk.of_un.2.of_un.1 h1 h2) hr
 |block id lr lo a aX=>
  intro hk B ρ ρ' x h hr;simp only[PC.ev] at hr ⊢;cases ha:a.ev Φ n ρ with
  |none=>rw[ha] at hr;cases hr
  |some y=>
   obtain⟨y',h1,h2⟩:=aX hk h ha;rw[ha] at hr;rw[h1];cases y with
   |next η=>obtain⟨η',rfl,h3⟩:=h2;cases hr;exact⟨_,rfl,_,rfl,h.join h3 lr lo⟩
   |exit i η=>
    obtain⟨η',rfl,h3⟩:=h2;simp only at hr ⊢;cases hb:Nat.beq i id<;>simp only[hb,cond_true,cond_false] at hr ⊢<;>cases hr
    ·exact⟨_,rfl,η',rfl,h3⟩
    ·exact⟨_,rfl,_,rfl,h.join h3 lr lo⟩
   |ret d=>cases h2;cases hr;exact⟨_,rfl,rfl⟩
 |loop lr lo a aX=>
  intro hk B ρ ρ' x h hr;have j3:∀t,t∈lr→aN K.r t=true:=fun t ht=>hk.of_un.1.1 t (Km ht);have iv:∀t,t∈lo→t∈K.o:=fun t ht=>hk.of_un.1.2 t ht;have key:∀(m:Nat) (vr vo:List D),eP (a.ev Φ n) ρ lr lo m vr vo=some x→∃x',eP (a.ev Φ n) ρ' lr lo m vr vo=some x'∧rn K B x x':=by
   intro m
   induction m with
   |zero=>intro vr vo h;simp[eP] at h
   |succ m MK=>
    intro vr vo hr;simp only[eP] at hr ⊢;cases ha:a.ev Φ n (ρ.put lr vr lo vo) with
    |none=>rw[ha] at hr;cases hr
    |some y=>
     obtain⟨y',h1,h2⟩:=aX hk.of_un.2 (h.put j3 iv vr vo) ha;rw[ha] at hr;rw[h1];cases y with
     |next η=>obtain⟨η',rfl,h3⟩:=h2;simp only[uW h3 iv,Xe h3 j3];exact MK _ _ hr
     |exit i η=>obtain⟨η',rfl,h3⟩:=h2;cases hr;exact⟨_,rfl,η',rfl,h3⟩
     |ret d=>cases h2;cases hr;exact⟨_,rfl,rfl⟩
  simp only[PC.ev] at hr ⊢;rw[uW h iv,Xe h j3];exact key n _ _ hr
 |each e ps lo rt a aX=>
  intro hk B ρ ρ' x h hr;obtain⟨bP,cn⟩:=hk.of_un;obtain⟨cn,kq⟩:=cn.of_un;obtain⟨kq,ya⟩:=kq.of_un;have iv:∀t,t∈lo→t∈K.o:=fun t ht=>kq.2 t ht;have key:∀(xs vo:List D),fw (a.ev Φ n) ρ ps lo rt xs vo=some x→∃x',fw (a.ev Φ n) ρ' ps lo rt xs vo=some x'∧rn K B x x':=by
   intro xs
   induction xs with
   |nil=>intro vo hr;simp only[fw,aS] at hr ⊢;subst hr;exact⟨_,rfl,_,rfl,h.put (fun _ h=>by cases h) iv _ _⟩
   |cons y xs gN=>
    intro vo hr;simp only[fw] at hr ⊢;cases ha:a.ev Φ n (ρ.put ps (partsOf ps y) lo vo) with
    |none=>rw[ha] at hr;cases hr
    |some z=>
     have gL:Off K (ρ'.put ps (partsOf ps y) lo vo) (ρ.put ps (partsOf ps y) lo vo) (ρ'.put ps (partsOf ps y) lo vo):=⟨h.al.put ps lo _ _,fun _ _=>rfl,fun _ _=>rfl⟩
     obtain⟨z',h1,h2⟩:=aX ya gL ha;rw[ha] at hr;rw[h1];cases z with
     |next η=>obtain⟨η',rfl,h3⟩:=h2;simp only[uW h3 iv];exact gN _ hr
     |exit i η=>
      obtain⟨η',rfl,h3⟩:=h2;simp only[uW h3 iv] at hr ⊢;have hp:=h.put (lr:=[]) (fun _ h=>by cases h) iv [] (lo.map η.o);cases hb:Nat.beq i cD<;>simp only[hb,cond_true,cond_false] at hr ⊢
      ·cases hr;exact⟨_,rfl,_,rfl,hp⟩
      ·cases rt with
       |none=>cases hr
       |some e2=>cases hr;exact⟨_,rfl,by show Out.ret _=Out.ret _;rw[PE.ev_alike e2 (hp.al.le cn)]⟩
     |ret d=>cases hr
  simp only[PC.ev] at hr ⊢;rw[PE.ev_alike e (h.al.le bP),uW h iv];exact key _ _ hr
 |meach J ps cE lo a aX=>
  intro hk B ρ ρ' x h hr;obtain⟨kq,ya⟩:=hk.of_un;have iv:∀t,t∈lo→t∈K.o:=fun t ht=>kq.2 t (dY _ ht);have hJ:ρ'.o J=ρ.o J:=h.al.o J (kq.2 J (ej ..));have key:∀(es:D) (xs done vo kQ:List D),j7 (a.ev Φ n) ρ J es ps cE lo xs done vo=some kQ→j7 (a.ev Φ n) ρ' J es ps cE lo xs done vo=some kQ:=by
   intro es xs
   induction xs with
   |nil=>intro done vo kQ h;exact h
   |cons y xs gN=>
    intro done vo kQ hr;simp only[j7] at hr ⊢;cases ha:a.ev Φ n ((ρ.put ps (cE.map y.tget) lo vo).setO J (.tup [.list (done++[y]),es])) with
    |none=>rw[ha] at hr;cases hr
    |some z=>
     have gL:Off K ((ρ'.put ps (cE.map y.tget) lo vo).setO J (.tup [.list (done++[y]),es])) ((ρ.put ps (cE.map y.tget) lo vo).setO J (.tup [.list (done++[y]),es])) ((ρ'.put ps (cE.map y.tget) lo vo).setO J (.tup [.list (done++[y]),es])):=
          ⟨(h.al.put ps lo _ _).setO J _,fun _ _=>rfl,fun _ _=>rfl⟩
     obtain⟨z',h1,h2⟩:=aX ya gL ha;rw[ha] at hr;rw[h1];cases z with
     |next η=>obtain⟨η',rfl,h3⟩:=h2;simp only[uW h3 iv];exact gN _ _ _ hr
     |exit i η=>cases hr
     |ret d=>cases hr
  simp only[PC.ev,vi] at hr;obtain⟨vo,⟨h1,h2⟩,rfl⟩:=hr;refine⟨.next (ρ'.put [] [] lo vo),?_,_,rfl,h.put (fun _ h=>by cases h) iv _ _⟩;simp only[PC.ev,vi];refine⟨vo,⟨by rw[hJ];exact h1,fun ys hy=>?_⟩,rfl⟩;rw[hJ] at hy ⊢;rw[uW h iv];exact key _ _ _ _ _ (h2 ys hy)
def lX:List Nat→PC→Bool
 |l,.exit id=>eE l id
 |l,.seq a b=>lX l a&&lX l b
 |l,.ite _ _ _ a b=>lX l a&&lX l b
 |l,.block id _ _ a=>lX (id::l) a
 |l,.loop _ _ a=>lX l a
 |l,.each _ _ _ _ a=>lX (cD::l) a
 |_,_=>true
theorem aeY {Φ:aJ}{n:Nat}:∀(c:PC) {l:List Nat},lX l c=true→∀{ρ:Env} {i:Nat} {η:Env},c.ev Φ n ρ=some (.exit i η)→i∈l:=by
 intro c
 induction c with
 |skip=>intro l _ ρ i η h;simp[PC.ev] at h
 |exit id=>intro l hl ρ i η h;simp only[PC.ev,aS] at h;injection h with h1 h2;subst h1;exact(nv _ _).1 hl
 |ret e=>intro l _ ρ i η h;simp[PC.ev] at h
 |is _=>intro l _ ρ i η h;simp[PC.ev] at h
 |seq a b aX cZ=>
  intro l hl ρ i η h;simp only[lX,aq] at hl;simp only[PC.ev] at h;split at h
  ·exact cZ hl.2 h
  ·exact aX hl.1 h
 |ite c lr lo a b aX cZ=>
  intro l hl ρ i η h;simp only[lX,aq] at hl;simp only[PC.ev] at h;cases hc:(c.ev ρ).b<;>simp only[hc,cond_true,cond_false] at h
  ·split at h
   ·cases h
   ·exact cZ hl.2 h
  ·split at h
   ·cases h
   ·exact aX hl.1 h
 |block id lr lo a aX=>
  intro l hl ρ i η h;simp only[PC.ev] at h;split at h
  ·cases h
  ·rename_i bM ρ2 ha;cases hb:Nat.beq bM id<;>simp only[hb,cond_true,cond_false] at h<;>cases h;rcases cG.1 (aX hl ha) with e|e
   ·subst e;rw[jn] at hb;cases hb
   ·exact e
  ·rename_i h1 h2;exact absurd h (h2 _ _)
 |loop lr lo a aX=>
  intro l hl ρ i η h;have key:∀(m:Nat) (vr vo:List D),eP (a.ev Φ n) ρ lr lo m vr vo=some (.exit i η)→i∈l:=by
   intro m
   induction m with
   |zero=>intro vr vo h;simp[eP] at h
   |succ m MK=>
    intro vr vo h;simp only[eP] at h;split at h
    ·exact MK _ _ h
    ·exact aX hl h
  exact key _ _ _ h
 |each e ps lo rt a aX=>
  intro l hl ρ i η h;have key:∀(xs vo:List D),fw (a.ev Φ n) ρ ps lo rt xs vo=some (.exit i η)→i∈l:=by
   intro xs
   induction xs with
   |nil=>intro vo h;simp[fw] at h
   |cons x xs gN=>
    intro vo h;simp only[fw] at h;split at h
    ·exact gN _ h
    ·rename_i bM ρ2 ha;cases hb:Nat.beq bM cD<;>simp only[hb,cond_true,cond_false] at h
     ·injection h with h;injection h with h1 h2;subst h1
      rcases cG.1 (aX hl ha) with e|e
      ·subst e;rw[jn] at hb;cases hb
      ·exact e
     ·cases rt<;>simp at h
    ·cases h
  exact key _ _ h
 |meach J ps cE lo a _=>
  intro l _ ρ i η h;simp only[PC.ev,vi] at h;obtain⟨vo,_,h⟩:=h;cases h
def Wt (t:Nat):PE→Bool
 |.r u=>Nat.beq u t
 |_=>false
def Wu (t:Nat):PE→Bool
 |.o u=>Nat.beq u t
 |_=>false
def fk (me:Nat→PE→Bool)(p:Nat→Bool):List Nat→List (Nat×PE)→List (Nat×PE)
 |_,[]=>[]
 |seen,x::l=>bif p x.1&& !eE seen x.1 then(bif me x.1 x.2 then fk me p (x.1::seen) l else x::fk me p (x.1::seen) l) else fk me p seen l
theorem FN {me:Nat→PE→Bool}{p:Nat→Bool}:∀{l:List (Nat×PE)} {seen:List Nat} {t:Nat},eE seen t=true→bu (fk me p seen l) t=none
 |[],_,_,_=>rfl
 |x::l,seen,t,h=>by
  have h':eE (x.1::seen) t=true:=by rw[nv] at h ⊢;exact dY _ h
  simp only[fk];cases hb:(p x.1&& !eE seen x.1) with
  |false=>exact FN h
  |true=>
   simp only[cond_true];cases me x.1 x.2 with
   |true=>exact FN h'
   |false=>
    simp only[cond_false,bu];have:Nat.beq x.1 t=false:=by
      cases e:Nat.beq x.1 t with
      |false=>rfl
      |true=>rw[cV e,h] at hb;simp at hb
    rw[this];exact FN h'
theorem AU {me:Nat→PE→Bool}{p:Nat→Bool}{dflt:Nat→PE}(ct:∀t e,me t e=true→e=dflt t):∀{l:List (Nat×PE)} {seen:List Nat} {t:Nat},p t=true→eE seen t=false→
 (match bu (fk me p seen l) t with|some e=>e|none=>dflt t)=(match bu l t with|some e=>e|none=>dflt t)
 |[],_,_,_,_=>rfl
 |x::l,seen,t,hp,hs=>by
  simp only[fk,bu];cases e:Nat.beq x.1 t with
  |true=>
   have e':=cV e;rw[e',hp,hs];simp only[Bool.not_false,Bool.and_self,cond_true];cases hi:me t x.2 with
   |true=>simp only[cond_true];rw[FN (by rw[nv];exact ej ..)];exact(ct _ _ hi).symm
   |false=>simp only[cond_false,bu,e,cond_true]
  |false=>
   simp only[cond_false];cases hb:(p x.1&& !eE seen x.1) with
   |false=>exact AU ct hp hs
   |true=>
    have jz:eE (x.1::seen) t=false:=by
      cases hm:eE (x.1::seen) t with
      |false=>rfl
      |true=>
       rcases cG.1 ((nv _ _).1 hm) with h|h
       ·rw[h,jn] at e;cases e
       ·rw[(nv _ _).2 h] at hs;cases hs
    simp only[cond_true];cases me x.1 x.2 with
    |true=>exact AU ct hp jz
    |false=>simp only[cond_false,bu,e];exact AU ct hp jz
def SE.cut (s:SE)(k:Lk):SE:=⟨fk Wt (aN k.r) [] s.r,fk Wu (eE k.o) [] s.o⟩
def Nb (l:List (Nat×PE)):Lk:=l.foldr (fun x k=>x.2.lk.un k) .none
def SE.lks (s:SE):Lk:=(Nb s.r).un (Nb s.o)
theorem Nc:∀{l:List (Nat×PE)} {t:Nat} {e:PE},bu l t=some e→e.lk.Le (Nb l)
 |[],_,_,h=>by cases h
 |x::l,t,e,h=>by
  simp only[bu] at h;cases hb:Nat.beq x.1 t<;>simp only[hb,cond_true,cond_false] at h
  ·exact(Nc h).trans (Lk.le_r _ _)
  ·cases h;exact Lk.le_l _ _
theorem SE.cut_al {s:SE}{L:Lk}{ρ1 ρ2:Env}(h:Alike (L.un (s.cut L).lks) ρ1 ρ2):Alike L ((s.cut L).ev ρ1) (s.ev ρ2):=by
 have hL:=h.le (Lk.le_l _ _);have hs:=h.le (Lk.le_r _ _);constructor
 ·intro t ht;show(s.getR t).ev ρ2=((s.cut L).getR t).ev ρ1;have e:(s.cut L).getR t=s.getR t:=AU (dflt:=.r) (fun t e he=>by unfold Wt at he;split at he;rw[cV he];cases he) ht rfl;rw[←e];cases hl:bu (s.cut L).r t with
  |none=>have:(s.cut L).getR t=.r t:=by unfold SE.getR;rw[hl]
         rw[this];exact hL.r t ht
  |some x=>have:(s.cut L).getR t=x:=by unfold SE.getR;rw[hl]
           rw[this];exact PE.ev_alike x (hs.le ((Nc hl).trans (Lk.le_l _ _)))
 ·intro t ht;show(s.getO t).ev ρ2=((s.cut L).getO t).ev ρ1;have e:(s.cut L).getO t=s.getO t:=AU (dflt:=.o) (fun t e he=>by unfold Wu at he;split at he;rw[cV he];cases he) ((nv _ _).2 ht) rfl;rw[←e];cases hl:bu (s.cut L).o t with
  |none=>have:(s.cut L).getO t=.o t:=by unfold SE.getO;rw[hl]
         rw[this];exact hL.o t ht
  |some x=>have:(s.cut L).getO t=x:=by unfold SE.getO;rw[hl]
           rw[this];exact PE.ev_alike x (hs.le ((Nc hl).trans (Lk.le_r _ _)))
structure LC where
 next:Lk
 ov:List (Nat×Lk)
def LC.all (c:LC):Lk:=c.ov.foldr (fun x k=>x.2.un k) .none
def JC (c:LC)(Q1 Q2:Out→Prop):Prop:=
 (∀ρ1 ρ2,Alike c.next ρ1 ρ2→Q1 (.next ρ1)→Q2 (.next ρ2))∧(∀id k ρ1 ρ2,bu c.ov id=some k→Alike k ρ1 ρ2→Q1 (.exit id ρ1)→Q2 (.exit id ρ2))∧∀d,Q1 (.ret d)→Q2 (.ret d)
def eU:LC→PT→Option (PT×Lk)
 |c,.next s=>some (.next (s.cut c.next),c.next.un (s.cut c.next).lks)
 |c,.exit id s=>(bu c.ov id).map fun k=>(.exit id (s.cut k),k.un (s.cut k).lks)
 |_,.ret e=>some (.ret e,e.lk)
 |c,.chk e k=>(eU c k).map fun r=>(.chk e r.1,e.lk.un r.2)
 |c,.ite e a b=>(eU c a).bind fun x=>(eU c b).map fun y=>(.ite e x.1 y.1,e.lk.un (x.2.un y.2))
 |c,.call s gs dst f args k=>(eU c k).map fun r=>(.call (s.cut (r.2.un (ko gs))) gs dst f args r.1,(PE.lks args).un ((r.2.un (ko gs)).un (s.cut (r.2.un (ko gs))).lks))
 |c,.callc s gs dst e args k=>(eU c k).map fun r=>(.callc (s.cut (r.2.un (ko gs))) gs dst e args r.1,(e.lk.un (PE.lks args)).un ((r.2.un (ko gs)).un (s.cut (r.2.un (ko gs))).lks))
 |c,.mcall s j f args k=>(eU c k).map fun r=>(.mcall (s.cut r.2) j f args r.1,(PE.lks args).un (r.2.un (s.cut r.2).lks))
 |c,.iteS s e lr lo a b k=>(eU c k).bind fun r=>(eU ⟨r.2,c.ov⟩ a).bind fun x=>(eU ⟨r.2,c.ov⟩ b).map fun y=>
    (.iteS (s.cut (r.2.un (x.2.un y.2))) e lr lo x.1 y.1 r.1,e.lk.un ((r.2.un (x.2.un y.2)).un (s.cut (r.2.un (x.2.un y.2))).lks))
 |c,.blockS s id lr lo a k=>(eU c k).bind fun r=>(eU ⟨r.2,(id,r.2)::c.ov⟩ a).map fun x=>(.blockS (s.cut (r.2.un x.2)) id lr lo x.1 r.1,(r.2.un x.2).un (s.cut (r.2.un x.2)).lks)
 |c,.brk s p k=>(eU c k).bind fun r=>bif lX (c.ov.map (·.1)) p then some (.brk (s.cut (p.lk.un (r.2.un c.all))) p r.1,(p.lk.un (r.2.un c.all)).un (s.cut (p.lk.un (r.2.un c.all))).lks) else none
theorem LC.all_le:∀{l:List (Nat×Lk)} {id:Nat} {k:Lk},bu l id=some k→k.Le (l.foldr (fun x k=>x.2.un k) .none)
 |[],_,_,h=>by cases h
 |x::l,t,e,h=>by
  simp only[bu] at h;cases hb:Nat.beq x.1 t<;>simp only[hb,cond_true,cond_false] at h
  ·exact(LC.all_le h).trans (Lk.le_r _ _)
  ·cases h;exact Lk.le_l _ _
theorem WO:∀{l:List (Nat×Lk)} {id:Nat},id∈l.map (·.1)→∃k,bu l id=some k
 |[],_,h=>by cases h
 |x::l,id,h=>by
  simp only[bu];cases hb:Nat.beq x.1 id with
  |true=>exact⟨_,rfl⟩
  |false=>
   simp only[cond_false];rcases cG.1 h with e|h
   ·rw[e,jn] at hb;cases hb
   ·exact WO h
theorem anv {T:cA}:∀(t:PT) {c:LC} {t':PT} {L:Lk},eU c t=some (t',L)→∀{Q1 Q2:Out→Prop} {ρ1 ρ2:Env},JC c Q1 Q2→Alike L ρ1 ρ2→aE T t' ρ1 Q1→aE T t ρ2 Q2:=by
 intro t
 induction t with
 |next s=>
  intro c t' L hp Q1 Q2 ρ1 ρ2 hQ hA h;simp only[eU,aS,lV] at hp;obtain⟨rfl,rfl⟩:=hp;exact hQ.1 _ _ (SE.cut_al hA) h
 |exit id s=>
  intro c t' L hp Q1 Q2 ρ1 ρ2 hQ hA h;simp only[eU,ax,lV] at hp;obtain⟨k,hk,rfl,rfl⟩:=hp;exact hQ.2.1 _ k _ _ hk (SE.cut_al hA) h
 |ret e=>
  intro c t' L hp Q1 Q2 ρ1 ρ2 hQ hA h;simp only[eU,aS,lV] at hp;obtain⟨rfl,rfl⟩:=hp;show Q2 (.ret (e.ev ρ2));rw[PE.ev_alike e hA];exact hQ.2.2 _ h
 |chk e k ih=>
  intro c t' L hp Q1 Q2 ρ1 ρ2 hQ hA h;simp only[eU,ax,lV] at hp;obtain⟨r,hr,rfl,rfl⟩:=hp;exact⟨by rw[PE.ev_alike e (hA.le (Lk.le_l _ _))];exact h.1,ih hr hQ (hA.le (Lk.le_r _ _)) h.2⟩
 |ite e a b aX cZ=>
  intro c t' L hp Q1 Q2 ρ1 ρ2 hQ hA h;simp only[eU,au,ax,lV] at hp;obtain⟨x,hx,y,hy,rfl,rfl⟩:=hp;have h2:=hA.le (Lk.le_r _ _);simp only[aE] at h ⊢;rw[PE.ev_alike e (hA.le (Lk.le_l _ _))];split
  ·rename_i hc;rw[if_pos hc] at h;exact aX hx hQ (h2.le (Lk.le_l _ _)) h
  ·rename_i hc;rw[if_neg hc] at h;exact cZ hy hQ (h2.le (Lk.le_r _ _)) h
 |call s gs dst f args k ih=>
  intro c t' L hp Q1 Q2 ρ1 ρ2 hQ hA h;simp only[eU,ax,lV] at hp;obtain⟨r,hr,rfl,rfl⟩:=hp;have hS:=SE.cut_al (hA.le (Lk.le_r _ _));simp only[aE] at h ⊢;rw[PE.evs_alike args (hA.le (Lk.le_l _ _)),ye (hS.le (Lk.le_r _ _))];split
  ·rename_i hc;rw[if_pos hc] at h;obtain⟨d,hd,h⟩:=h;exact⟨d,hd,ih hr hQ ((hS.le (Lk.le_l _ _)).setR dst d) h⟩
  ·rename_i hc;rw[if_neg hc] at h;exact ih hr hQ (hS.le (Lk.le_l _ _)) h
 |callc s gs dst e args k ih=>
  intro c t' L hp Q1 Q2 ρ1 ρ2 hQ hA h;simp only[eU,ax,lV] at hp;obtain⟨r,hr,rfl,rfl⟩:=hp;have hS:=SE.cut_al (hA.le (Lk.le_r _ _));have hE:=hA.le (Lk.le_l _ _);simp only[aE] at h ⊢;rw[PE.ev_alike e (hE.le (Lk.le_l _ _)),PE.evs_alike args (hE.le (Lk.le_r _ _)),ye (hS.le (Lk.le_r _ _))];split
  ·rename_i hc;rw[if_pos hc] at h;obtain⟨f,caps,d,he,hd,h⟩:=h;exact⟨f,caps,d,he,hd,ih hr hQ ((hS.le (Lk.le_l _ _)).setR dst d) h⟩
  ·rename_i hc;rw[if_neg hc] at h;exact ih hr hQ (hS.le (Lk.le_l _ _)) h
 |mcall s j f args k ih=>
  intro c t' L hp Q1 Q2 ρ1 ρ2 hQ hA h;simp only[eU,ax,lV] at hp;obtain⟨r,hr,rfl,rfl⟩:=hp;have hS:=SE.cut_al (hA.le (Lk.le_r _ _));simp only[aE] at h ⊢;rw[PE.evs_alike args (hA.le (Lk.le_l _ _))];obtain⟨d,hd,h⟩:=h;exact⟨d,hd,ih hr hQ (hS.setO j d) h⟩
 |iteS s e lr lo a b k aX cZ iX=>
  intro c t' L hp Q1 Q2 ρ1 ρ2 hQ hA h;simp only[eU,au,ax,lV] at hp;obtain⟨r,hr,x,hx,y,hy,rfl,rfl⟩:=hp;have hS:=SE.cut_al (hA.le (Lk.le_r _ _));have F9:=hS.le (Lk.le_l _ _);have A5:=hS.le ((Lk.le_l _ _).trans (Lk.le_r _ _));have hSy:=hS.le ((Lk.le_r _ _).trans (Lk.le_r _ _))
  have rel:JC ⟨r.2,c.ov⟩ (jC ((s.cut (r.2.un (x.2.un y.2))).ev ρ1) lr lo (fS (fun ρ'=>aE T r.1 ρ' Q1) Q1)) (jC (s.ev ρ2) lr lo (fS (fun ρ'=>aE T k ρ' Q2) Q2)):=
   ⟨fun η1 η2 ha hq=>iX hr hQ (F9.join ha lr lo) hq,fun id k' η1 η2 hk ha hq=>hQ.2.1 id k' _ _ hk ha hq,fun d hq=>hQ.2.2 d hq⟩
  simp only[aE] at h ⊢;rw[PE.ev_alike e (hA.le (Lk.le_l _ _))];split
  ·rename_i hc;rw[if_pos hc] at h;exact aX hx rel A5 h
  ·rename_i hc;rw[if_neg hc] at h;exact cZ hy rel hSy h
 |blockS s id lr lo a k aX iX=>
  intro c t' L hp Q1 Q2 ρ1 ρ2 hQ hA h;simp only[eU,au,ax,lV] at hp;obtain⟨r,hr,x,hx,rfl,rfl⟩:=hp;have hS:=SE.cut_al hA;have F9:=hS.le (Lk.le_l _ _);refine aX hx (Q1:=kj ((s.cut (r.2.un x.2)).ev ρ1) id lr lo (fS (fun ρ'=>aE T r.1 ρ' Q1) Q1)) ⟨fun η1 η2 ha hq=>iX hr hQ (F9.join ha lr lo) hq,fun bM k' η1 η2 hk ha hq=>?_,fun d hq=>hQ.2.2 d hq⟩ (hS.le (Lk.le_r _ _)) h;simp only[kj] at hq ⊢;simp only[bu] at hk;by_cases e:bM=id
  ·subst e;simp only[jn,cond_true,aS] at hk;subst hk;rw[if_pos rfl] at hq ⊢;exact iX hr hQ (F9.join ha lr lo) hq
  ·rw[if_neg e] at hq ⊢;rw[eJ (fun h=>e h.symm),cond_false] at hk;exact hQ.2.1 bM k' _ _ hk ha hq
 |brk s p k iX=>
  intro c t' L hp Q1 Q2 ρ1 ρ2 hQ hA h;simp only[eU,au] at hp;obtain⟨r,hr,hp⟩:=hp;cases hx:lX (c.ov.map (·.1)) p<;>simp only[hx,cond_true,cond_false,aS,lV] at hp
  ·cases hp
  obtain⟨rfl,rfl⟩:=hp;have hS:=SE.cut_al hA;have gL:Off (p.lk.un (r.2.un c.all)) (s.ev ρ2) ((s.cut (p.lk.un (r.2.un c.all))).ev ρ1) (s.ev ρ2):=⟨hS,fun _ _=>rfl,fun _ _=>rfl⟩
  obtain⟨x,hq,n0,hn⟩:=h;have step:=fun n (hle:n0≤n)=>PC.ev_off p (Lk.le_l _ _) gL (hn n hle);obtain⟨x',h1,h2⟩:=step n0 (aU _);refine⟨x',?_,n0,fun n hle=>?_⟩
  ·cases x with
   |next η=>obtain⟨η',rfl,h3⟩:=h2;exact iX hr hQ (h3.al.le ((Lk.le_l _ _).trans (Lk.le_r _ _))) hq
   |exit i η=>
    obtain⟨η',rfl,h3⟩:=h2;obtain⟨k',bL⟩:=WO (aeY p hx (hn n0 (aU _)));exact hQ.2.1 i k' _ _ bL (h3.al.le ((LC.all_le bL).trans ((Lk.le_r _ _).trans (Lk.le_r _ _)))) hq
   |ret d=>cases h2;exact hQ.2.2 d hq
  ·obtain⟨x2,h3,h4⟩:=step n hle;rw[h3,h2.uniq h4]
def Cv (c:LC)(t:PT):PT:=match eU c t with|some r=>r.1|none=>t
theorem HJ {T:cA}{c:LC}{t:PT}{Q:Out→Prop}{ρ:Env}(hQ:JC c Q Q)(h:aE T (Cv c t) ρ Q):aE T t ρ Q:=by
 unfold Cv at h;split at h
 ·rename_i r hr;exact anv t hr hQ ⟨fun _ _=>rfl,fun _ _=>rfl⟩ h
 ·exact h
def abe (c:PC):PT:=sx c [] .id (fun _ s=>.next s) (fun _ id s=>.exit id s)
theorem abf {T:cA}{c:PC}{ρ:Env}{Q:Out→Prop}(h:aE T (abe c) ρ Q):aH T c ρ Q:=
 I0 (s:=.id) c (bO.ok_nil _) h (fun ρ' ab s _ _ h=>h) (fun ρ' ab id s _ _ h=>h) (fun _ _ _ h=>h) (fun _ h=>h)
def tree (c:PC):PT:=Cv ⟨.none,[]⟩ (abe c)
theorem Jg {T:cA}{c:PC}{ρ:Env}{d:D}(h:aE T (tree c) ρ fun x=>x=.ret d):aH T c ρ fun x=>x=.ret d:=
 abf (HJ ⟨fun _ _ _ h=>(by cases h),fun _ _ _ _ _ _ h=>(by cases h),fun _ h=>h⟩ h)
def SE.keep (s:SE)(lr lo:List Nat):SE:=⟨lr.map fun t=>(t,s.getR t),lo.map fun t=>(t,s.getO t)⟩
theorem SE.keep_r (s:SE)(lr lo:List Nat)(ρ:Env):lr.map ((s.keep lr lo).ev ρ).r=lr.map (s.ev ρ).r:=by
 apply rj;intro t ht;show((s.keep lr lo).getR t).ev ρ=(s.getR t).ev ρ;have:=uT (f:=fun t=>s.getR t) (l:=[]) (u:=t) lr;rw[rf,if_pos ht] at this;have e:(s.keep lr lo).getR t=s.getR t:=by unfold SE.getR SE.keep;simp only[];rw[this];rfl
 rw[e]
theorem SE.keep_o (s:SE)(lr lo:List Nat)(ρ:Env):lo.map ((s.keep lr lo).ev ρ).o=lo.map (s.ev ρ).o:=by
 apply rj;intro t ht;show((s.keep lr lo).getO t).ev ρ=(s.getO t).ev ρ;have:=uT (f:=fun t=>s.getO t) (l:=[]) (u:=t) lo;rw[rf,if_pos ht] at this;have e:(s.keep lr lo).getO t=s.getO t:=by unfold SE.getO SE.keep;simp only[];rw[this];rfl
 rw[e]
def aaF (id:Nat)(bo bn lr lo:List Nat)(a:PC):PT:=
 sx a [] .id (fun _ s=>.next (s.keep lr lo)) (fun _ bM s=>bif Nat.beq bM id then .exit id (s.keep bo bn) else .exit bM s)
def eg (ρ:Env)(id:Nat)(bo bn lr lo:List Nat)(K:List D→List D→Prop)(Q:Out→Prop):Out→Prop
 |.next ρ'=>K (lr.map ρ'.r) (lo.map ρ'.o)
 |.exit bM ρ'=>if bM=id then Q (.next (ρ.put bo (bo.map ρ'.r) bn (bn.map ρ'.o))) else Q (.exit bM ρ')
 |.ret d=>Q (.ret d)
def round (id:Nat)(bo bn lr lo:List Nat)(a:PC):PT:=Cv ⟨⟨bits lr,lo⟩,[(id,⟨bits bo,bn⟩)]⟩ (aaF id bo bn lr lo a)
theorem Xd {k:Lk}{lr:List Nat}{ρ1 ρ2:Env}(h:Alike k ρ1 ρ2)(hk:∀t,t∈lr→aN k.r t=true):lr.map ρ2.r=lr.map ρ1.r:=rj fun t ht=>h.r t (hk t ht)
theorem G7 {k:Lk}{lo:List Nat}{ρ1 ρ2:Env}(h:Alike k ρ1 ρ2)(hk:∀t,t∈lo→t∈k.o):lo.map ρ2.o=lo.map ρ1.o:=rj fun t ht=>h.o t (hk t ht)
theorem aow {T:cA}{id:Nat}{bo bn lr lo:List Nat}{a:PC}{ρ ρ0:Env}{K:List D→List D→Prop}{Q:Out→Prop}(h:aE T (round id bo bn lr lo a) ρ (eg ρ0 id bo bn lr lo K Q)):aE T (aaF id bo bn lr lo a) ρ (eg ρ0 id bo bn lr lo K Q):=by
 refine HJ ⟨fun ρ1 ρ2 ha hq=>?_,fun bM k ρ1 ρ2 hk ha hq=>?_,fun d hq=>hq⟩ h
 ·simp only[eg] at hq ⊢;rw[Xd ha fun t ht=>Km ht,G7 ha fun t ht=>ht];exact hq
 ·simp only[bu] at hk;cases hb:Nat.beq id bM<;>simp only[hb,cond_true,cond_false] at hk
  ·cases hk
  ·cases hk;have:=cV hb;subst this;simp only[eg,if_true] at hq ⊢;rw[Xd ha fun t ht=>Km ht,G7 ha fun t ht=>ht];exact hq
theorem aH.forLoop {T:cA}{id:Nat}{bo bn lr lo:List Nat}{a:PC}{ρ:Env}{Q:Out→Prop}{α:Type}(inv:α→List D→List D→Prop)(sv:α→Nat)(s0:α)(h0:inv s0 (lr.map ρ.r) (lo.map ρ.o))
 (step:∀s vr vo,inv s vr vo→aE T (round id bo bn lr lo a) (ρ.put lr vr lo vo) (eg ρ id bo bn lr lo (fun vr vo=>∃s',sv s'<sv s∧inv s' vr vo) Q)):aH T (.block id bo bn (.loop lr lo a)) ρ Q:=by
 refine .block (.loop inv sv s0 h0 fun s vr vo hi=>?_);have h:=aow (step s vr vo hi);refine I0 (s:=.id) a (bO.ok_nil _) h (fun ρ' ab s' _ _ h=>?_) (fun ρ' ab bM s' _ _ h=>?_) (fun _ bM ρ' h=>?_) (fun d h=>h)
 ·simp only[aE,eg] at h;rw[SE.keep_r,SE.keep_o] at h;exact h
 ·simp only[fS,kj];by_cases ct:bM=id
  ·subst ct;simp only[jn,cond_true,aE,eg,if_true] at h;rw[SE.keep_r,SE.keep_o] at h;rw[if_pos rfl];exact h
  ·rw[eJ ct,cond_false] at h;simp only[aE,eg] at h;rw[if_neg ct] at h ⊢;exact h
 ·simp only[fS,kj];simp only[eg] at h;split
  ·rename_i e;rw[if_pos e] at h;exact h
  ·rename_i e;rw[if_neg e] at h;exact h
def aaG (lo:List Nat)(a:PC):PT:=sx a [] .id (fun _ s=>.next (s.keep [] lo)) (fun _ id s=>.exit id (s.keep [] lo))
def nN (lo:List Nat)(a:PC):PT:=Cv ⟨⟨0,lo⟩,[(cD,⟨0,lo⟩)]⟩ (aaG lo a)
theorem aaH {T:cA}{lo:List Nat}{a:PC}{ρ:Env}{Q:Out→Prop}(hn:∀ρ1 ρ2,lo.map ρ2.o=lo.map ρ1.o→Q (.next ρ1)→Q (.next ρ2))(hx:∀ρ1 ρ2,lo.map ρ2.o=lo.map ρ1.o→Q (.exit cD ρ1)→Q (.exit cD ρ2))(h:aE T (nN lo a) ρ Q):aE T (aaG lo a) ρ Q:=by
 refine HJ ⟨fun ρ1 ρ2 ha hq=>hn ρ1 ρ2 (G7 ha fun t ht=>ht) hq,fun bM k ρ1 ρ2 hk ha hq=>?_,fun d hq=>hq⟩ h;simp only[bu] at hk;cases hb:Nat.beq cD bM<;>simp only[hb,cond_true,cond_false] at hk
 ·cases hk
 ·cases hk;have:=cV hb;subst this;exact hx ρ1 ρ2 (G7 ha fun t ht=>ht) hq
theorem aH.eachR {T:cA}{e:PE}{ps lo:List Nat}{rt:Option PE}{a:PC}{ρ:Env}{Q:Out→Prop}(xs:List D)(he:(e.ev ρ).l=xs)(inv:Nat→List D→Prop)(h0:inv 0 (lo.map ρ.o))
 (step:∀k x vo,xs[k]?=some x→inv k vo→aE T (nN lo a) (ρ.put ps (partsOf ps x) lo vo) (rC ρ lo rt (inv (k+1)) Q)) (done:∀vo,inv xs.length vo→Q (.next (ρ.put [] [] lo vo))):aH T (.each e ps lo rt a) ρ Q:=by
 refine .each xs he inv h0 (fun k x vo hx hi=>?_) done;have h:=aaH (fun ρ1 ρ2 e hq=>by simp only[rC] at hq ⊢;rw[e];exact hq) (fun ρ1 ρ2 e hq=>by simp only[rC,if_true] at hq ⊢;rw[e];exact hq) (step k x vo hx hi);refine I0 (s:=.id) a (bO.ok_nil _) h (fun ρ' ab s' _ _ h=>?_) (fun ρ' ab bM s' _ _ h=>?_) (fun _ bM ρ' h=>h) (fun d h=>h)
 ·simp only[aE,rC] at h;rw[SE.keep_o] at h;exact h
 ·simp only[aE,rC] at h;rw[SE.keep_o] at h;exact h
theorem aH.meachR {T:cA}{J:Nat}{ps cE lo:List Nat}{a:PC}{ρ:Env}{Q:Out→Prop}(es:List (D×D))(he:ρ.o J=.tup [.list [],.map es])(inv:List D→List D→Prop)(h0:inv [] (lo.map ρ.o))
 (step:∀done x rest vo,(done++x::rest).Perm (gl (.map es))→inv done vo→aE T (nN lo a) ((ρ.put ps (cE.map x.tget) lo vo).setO J (.tup [.list (done++[x]),.map es])) (fun y=>∃ρ',y=.next ρ'∧inv (done++[x]) (lo.map ρ'.o)))
 (last:∃vo,(∀done,done.Perm (gl (.map es))→∀kQ,inv done kQ→kQ=vo)∧Q (.next (ρ.put [] [] lo vo))):aH T (.meach J ps cE lo a) ρ Q:=by
 refine .meach es he inv h0 (fun done x rest vo hp hi=>?_) last;have h:=aaH (fun ρ1 ρ2 e ⟨ρ',e1,hq⟩=>by cases e1;exact⟨_,rfl,by rw[e];exact hq⟩) (fun ρ1 ρ2 e ⟨ρ',e1,hq⟩=>by cases e1) (step done x rest vo hp hi);refine I0 (s:=.id) a (bO.ok_nil _) h (fun ρ' ab s' _ _ h=>?_) (fun ρ' ab bM s' _ _ h=>?_) (fun _ bM ρ' h=>?_) (fun d h=>?_)
 ·simp only[aE] at h;obtain⟨ρ2,e,h⟩:=h;injection e with e;subst e;rw[SE.keep_o] at h;exact⟨_,rfl,h⟩
 ·simp only[aE] at h;obtain⟨ρ2,e,h⟩:=h;cases e
 ·obtain⟨ρ2,e,_⟩:=h;cases e
 ·obtain⟨ρ2,e,_⟩:=h;cases e
theorem wu {T:cA}:∀(t:PT) {ρ:Env} {Q Q':Out→Prop},(∀x,Q x→Q' x)→aE T t ρ Q→aE T t ρ Q':=by
 intro t
 induction t with
 |next s=>intro ρ Q Q' h hx;exact h _ hx
 |exit id s=>intro ρ Q Q' h hx;exact h _ hx
 |ret e=>intro ρ Q Q' h hx;exact h _ hx
 |chk e k ih=>intro ρ Q Q' h hx;exact⟨hx.1,ih h hx.2⟩
 |ite c a b aX cZ=>
  intro ρ Q Q' h hx;simp only[aE] at hx ⊢;split
  ·rename_i hc;rw[if_pos hc] at hx;exact aX h hx
  ·rename_i hc;rw[if_neg hc] at hx;exact cZ h hx
 |call s gs dst f args k ih=>
  intro ρ Q Q' h hx;simp only[aE] at hx ⊢;split
  ·rename_i hc;rw[if_pos hc] at hx;obtain⟨d,hd,hx⟩:=hx;exact⟨d,hd,ih h hx⟩
  ·rename_i hc;rw[if_neg hc] at hx;exact ih h hx
 |callc s gs dst e args k ih=>
  intro ρ Q Q' h hx;simp only[aE] at hx ⊢;split
  ·rename_i hc;rw[if_pos hc] at hx;obtain⟨f,c,d,he,hd,hx⟩:=hx;exact⟨f,c,d,he,hd,ih h hx⟩
  ·rename_i hc;rw[if_neg hc] at hx;exact ih h hx
 |mcall s j f args k ih=>intro ρ Q Q' h hx;obtain⟨d,hd,hx⟩:=hx;exact⟨d,hd,ih h hx⟩
 |iteS s c lr lo a b k aX cZ iX=>
  intro ρ Q Q' h hx
  have hq:∀x,jC (s.ev ρ) lr lo (fS (fun ρ'=>aE T k ρ' Q) Q) x→jC (s.ev ρ) lr lo (fS (fun ρ'=>aE T k ρ' Q') Q') x:=by
   intro x hx;cases x with
   |next ρ'=>exact iX h hx
   |exit id ρ'=>exact h _ hx
   |ret d=>exact h _ hx
  simp only[aE] at hx ⊢;split
  ·rename_i hc;rw[if_pos hc] at hx;exact aX hq hx
  ·rename_i hc;rw[if_neg hc] at hx;exact cZ hq hx
 |blockS s id lr lo a k aX iX=>
  intro ρ Q Q' h hx;refine aX (fun x hx=>?_) hx;cases x with
  |next ρ'=>exact iX h hx
  |exit bM ρ'=>
   simp only[kj] at hx ⊢;split
   ·rename_i e;rw[if_pos e] at hx;exact iX h hx
   ·rename_i e;rw[if_neg e] at hx;exact h _ hx
  |ret d=>exact h _ hx
 |brk s c k ih=>
  intro ρ Q Q' h hx;refine aH.mono hx fun x hx=>?_;cases x with
  |next ρ'=>exact ih h hx
  |exit id ρ'=>exact h _ hx
  |ret d=>exact h _ hx
theorem aH.forRounds {T:cA}{id:Nat}{bo bn lr lo:List Nat}{a:PC}{ρ:Env}{Q:Out→Prop}(N:Nat)(str eF:Nat→List D)(h0:lr.map ρ.r=str 0∧lo.map ρ.o=eF 0)
 (step:∀k,k<N→aE T (round id bo bn lr lo a) (ρ.put lr (str k) lo (eF k)) (eg ρ id bo bn lr lo (fun vr vo=>vr=str (k+1)∧vo=eF (k+1)) Q))
 (last:aE T (round id bo bn lr lo a) (ρ.put lr (str N) lo (eF N)) (eg ρ id bo bn lr lo (fun _ _=>False) Q)):aH T (.block id bo bn (.loop lr lo a)) ρ Q:=by
 refine .forLoop (α:=Nat) (fun k vr vo=>k≤N∧vr=str k∧vo=eF k) (fun k=>N-k) 0 ⟨mQ _,h0.1,h0.2⟩ ?_;rintro k vr vo ⟨hk,rfl,rfl⟩;have mono:∀{K K':List D→List D→Prop},(∀a b,K a b→K' a b)→∀x,eg ρ id bo bn lr lo K Q x→eg ρ id bo bn lr lo K' Q x:=by
  intro K K' h x hx;cases x with
  |next ρ'=>exact h _ _ hx
  |exit bM ρ'=>exact hx
  |ret d=>exact hx
 by_cases af:k<N
 ·exact wu _ (mono fun a b ⟨h1,h2⟩=>⟨k+1,by omega,by omega,h1,h2⟩) (step k af)
 ·obtain rfl:k=N:=by omega
  exact wu _ (mono fun a b h=>h.elim) last
theorem P1 {ρ:Env}{id:Nat}{bo bn lr lo:List Nat}{K K':List D→List D→Prop}{Q:Out→Prop}(h:∀a b,K a b→K' a b):∀x,eg ρ id bo bn lr lo K Q x→eg ρ id bo bn lr lo K' Q x:=by
 intro x hx;cases x with
 |next ρ'=>exact h _ _ hx
 |exit bM ρ'=>exact hx
 |ret d=>exact hx
theorem aH.scan {T:cA}{id:Nat}{bo bn lr lo:List Nat}{a:PC}{ρ:Env}{Q:Out→Prop}(N:Nat)(ok:Nat→Prop)(str eF:Nat→List D)(h0:lr.map ρ.r=str 0∧lo.map ρ.o=eF 0)
 (step:∀k,k<N→(∀j,j<k→ok j)→ok k→aE T (round id bo bn lr lo a) (ρ.put lr (str k) lo (eF k)) (eg ρ id bo bn lr lo (fun vr vo=>vr=str (k+1)∧vo=eF (k+1)) Q))
 (bad:∀k,k<N→(∀j,j<k→ok j)→¬ok k→aE T (round id bo bn lr lo a) (ρ.put lr (str k) lo (eF k)) (eg ρ id bo bn lr lo (fun _ _=>False) Q))
 (last:(∀j,j<N→ok j)→aE T (round id bo bn lr lo a) (ρ.put lr (str N) lo (eF N)) (eg ρ id bo bn lr lo (fun _ _=>False) Q)):aH T (.block id bo bn (.loop lr lo a)) ρ Q:=by
 refine .forLoop (α:=Nat) (fun k vr vo=>k≤N∧(∀j,j<k→ok j)∧vr=str k∧vo=eF k) (fun k=>N-k) 0 ⟨mQ _,fun j hj=>by omega,h0.1,h0.2⟩ ?_;rintro k vr vo ⟨hk,hj,rfl,rfl⟩;by_cases af:k<N
 ·by_cases ar:ok k
  ·refine wu _ (P1 fun a b ⟨h1,h2⟩=>⟨k+1,by omega,by omega,fun j nj=>?_,h1,h2⟩) (step k af hj ar);by_cases e:j=k
   ·subst e;exact ar
   ·exact hj j (by omega)
  ·exact wu _ (P1 fun a b h=>h.elim) (bad k af hj ar)
 ·obtain rfl:k=N:=by omega
  exact wu _ (P1 fun a b h=>h.elim) (last hj)
def aC (n:Nat)(e:PE):PE:=.mk ((List.range n).map fun i=>.cell e i)
def gZ (n:Nat)(d:D):D:=.agg ((List.range n).flatMap fun i=>(d.c i).cells)
theorem aeW (ρ:Env)(n:Nat)(e:PE):(aC n e).ev ρ=gZ n (e.ev ρ):=by
 have key:∀l:List Nat,PE.evc ρ (l.map fun i=>.cell e i)=l.flatMap fun i=>((e.ev ρ).c i).cells:=by
  intro l
  induction l with
  |nil=>rfl
  |cons i l ih=>simp only[fo,PE.evc,PE.ev,zE,ih]
 show D.agg _=_;rw[key];rfl
end Cx
namespace Cx
open Go Go.RowKit
def aY (n:Int):Prop:=-9223372036854775808≤n∧n≤9223372036854775807
def ints (l:List Int):D:=.list (l.map .int)
theorem bE {n:Int}(h:-9223372036854775808≤n∧n≤9223372036854775807):IntKind.i64.wrap n=n:=by
 simp only[IntKind.wrap,IntKind.signed,IntKind.bits];simp;split<;>omega
theorem DTy.int_inv {k:IntKind}{d:D}(h:DTy (.int k) d):∃n,d=.v (.int k n)∧k.min≤n∧n≤k.max:=by
 cases h with
 |int k n h1 h2=>exact⟨n,rfl,h1,h2⟩
 |other t d h=>exact h.elim
theorem DTy.i64_inv {d:D}(h:DTy (.int .i64) d):∃n,d=.int n∧aY n:=by
 obtain⟨n,rfl,h1,h2⟩:=h.int_inv;exact⟨n,rfl,by simpa [IntKind.min,IntKind.max,IntKind.signed,IntKind.bits] using h1,by simpa [IntKind.min,IntKind.max,IntKind.signed,IntKind.bits] using h2⟩
theorem DTy.bool_inv {d:D}(h:DTy .bool d):∃b,d=.bool b:=by
 cases h with
 |bool b=>exact⟨b,rfl⟩
 |other t d h=>exact h.elim
theorem DTy.slice_inv {e:Ty}{d:D}(h:DTy (.slice e) d):∃xs,d=.list xs∧xs.length≤maxLen∧∀x,x∈xs→DTy e.unf x:=by
 cases h with
 |slice e xs hm h=>exact⟨xs,rfl,hm,h⟩
 |other t d h=>exact h.elim
theorem DTy.agg_inv {ts:List Ty}{d:D}(h:DTy (.agg ts) d):∃ds,d=.agg ds∧DTys ts ds:=by
 cases h with
 |agg ts ds h=>exact⟨ds,rfl,h⟩
 |other t d h=>exact h.elim
theorem DTys.cons_inv {t:Ty}{ts:List Ty}{ds:List D}(h:DTys (t::ts) ds):∃d ds',ds=d::ds'∧DTy t d∧DTys ts ds':=by
 cases h with
 |cons h hs=>exact⟨_,_,rfl,h,hs⟩
theorem DTys.nil_inv {ds:List D}(h:DTys [] ds):ds=[]:=by cases h;rfl
theorem iy {α:Type}{enc:α→D}{P:α→Prop}{xs:List D}(h:∀x,x∈xs→∃a,x=enc a∧P a):∃l:List α,xs=l.map enc∧∀a,a∈l→P a:=by
 induction xs with
 |nil=>exact⟨[],rfl,fun _ h=>nomatch h⟩
 |cons x xs ih=>
  obtain⟨l,hl,hp⟩:=ih fun y hy=>h y (dY _ hy);obtain⟨a,ha,pa⟩:=h x (ej ..)
  exact⟨a::l,by rw[hl,ha];rfl,fun b hb=>by
   rcases cG.1 hb with e|hb
   ·rw[e];exact pa
   ·exact hp b hb⟩
theorem DTy.ints_inv {d:D}(h:DTy (.slice (.int .i64)) d):∃l:List Int,d=ints l∧l.length≤maxLen∧∀x,x∈l→aY x:=by
 obtain⟨xs,rfl,hm,hx⟩:=h.slice_inv;obtain⟨l,rfl,hl⟩:=iy (enc:=D.int) (P:=aY) fun x hh=>(hx x hh).i64_inv;exact⟨l,rfl,by simpa using hm,hl⟩
theorem Ci:maxLen=9223372036854775807:=rfl
section
variable (ρ:Env) (T:cA)
@[simp] theorem av3 (t:Nat):PE.ev ρ (.r t)=ρ.r t:=_root_.id rfl
@[simp] theorem av0 (t:Nat):PE.ev ρ (.o t)=ρ.o t:=_root_.id rfl
@[simp] theorem avL (d:D):PE.ev ρ (.con d)=d:=_root_.id rfl
@[simp] theorem avI (e:PE)(i:Nat):PE.ev ρ (.cell e i)=(PE.ev ρ e).c i:=_root_.id rfl
@[simp] theorem awb (e:PE)(a n:Nat):PE.ev ρ (.sub e a n)=.agg (((PE.ev ρ e).cells.drop a).take n):=_root_.id rfl
@[simp] theorem av6 (e x:PE)(n:Nat):PE.ev ρ (.setc e n x)=.agg (cw (PE.ev ρ e).cells n (PE.ev ρ x).cells):=_root_.id rfl
@[simp] theorem avT (es:List PE):PE.ev ρ (.mk es)=.agg (PE.evc ρ es):=_root_.id rfl
@[simp] theorem avD (op:BinOp)(k:IntKind)(x y:PE):PE.ev ρ (.ai op k x y)=.v (.int k (cB op k (PE.ev ρ x).i (PE.ev ρ y).i)):=_root_.id rfl
@[simp] theorem avJ (op:BinOp)(x y:PE):PE.ev ρ (.ci op x y)=.v (.bool (gq op (PE.ev ρ x).i (PE.ev ρ y).i)):=_root_.id rfl
@[simp] theorem avH (op:BinOp)(x y:PE):PE.ev ρ (.cb op x y)=.v (.bool (tO op (PE.ev ρ x).b (PE.ev ρ y).b)):=_root_.id rfl
@[simp] theorem avN (op:BinOp)(x y:PE):PE.ev ρ (.cs op x y)=.v (.bool (tP op (PE.ev ρ x).s (PE.ev ρ y).s)):=_root_.id rfl
@[simp] theorem avY (x:PE):PE.ev ρ (.nt x)=.v (.bool (!(PE.ev ρ x).b)):=_root_.id rfl
@[simp] theorem avM (k:IntKind)(x:PE):PE.ev ρ (.conv k x)=.v (.int k (k.wrap (PE.ev ρ x).i)):=_root_.id rfl
@[simp] theorem av1 (c a b:PE):PE.ev ρ (.pick c a b)=if(PE.ev ρ c).b=true then PE.ev ρ a else PE.ev ρ b:=by
  simp only[PE.ev];cases(PE.ev ρ c).b<;>rfl
@[simp] theorem avU (n:Nat)(e:PE):PE.ev ρ (aC n e)=gZ n (PE.ev ρ e):=aeW ρ n e
@[simp] theorem avG (x:PE):PE.ev ρ (.bytes x)=.list ((PE.ev ρ x).s.data.toList.map fun b=>.v (.int .u8 b.toNat)):=_root_.id rfl
@[simp] theorem avQ (x:PE):PE.ev ρ (.llen x)=.v (.int .i64 (PE.ev ρ x).l.length):=_root_.id rfl
@[simp] theorem av9 (x:PE):PE.ev ρ (.slen x)=.v (.int .i64 (PE.ev ρ x).s.size):=_root_.id rfl
@[simp] theorem avV (x:PE):PE.ev ρ (.mlen x)=.v (.int .i64 (PE.ev ρ x).m.length):=_root_.id rfl
@[simp] theorem avZ (x i:PE):PE.ev ρ (.nth x i)=(PE.ev ρ x).l.getD (PE.ev ρ i).i.toNat .none:=_root_.id rfl
@[simp] theorem avP (x i:PE):PE.ev ρ (.idx x i)=.v (.bool (decide (0≤(PE.ev ρ i).i∧(PE.ev ρ i).i<(PE.ev ρ x).l.length))):=_root_.id rfl
@[simp] theorem av7 (x i y:PE)(n:Nat):PE.ev ρ (.setn x i n y)=.list ((PE.ev ρ x).l.set (PE.ev ρ i).i.toNat (sU ((PE.ev ρ x).l.getD (PE.ev ρ i).i.toNat .none) n (PE.ev ρ y))):=_root_.id rfl
@[simp] theorem avF (x y:PE):PE.ev ρ (.app x y)=.list ((PE.ev ρ x).l++(PE.ev ρ y).l):=_root_.id rfl
@[simp] theorem avS (es:List PE):PE.ev ρ (.lst es)=.list (PE.evs ρ es):=_root_.id rfl
@[simp] theorem av5 (x y:PE):PE.ev ρ (.rep x y)=.list (List.replicate (PE.ev ρ x).i.toNat (PE.ev ρ y)):=_root_.id rfl
@[simp] theorem av8 (x a b:PE):PE.ev ρ (.slc x a b)=.list (((PE.ev ρ x).l.take (PE.ev ρ b).i.toNat).drop (PE.ev ρ a).i.toNat):=_root_.id rfl
@[simp] theorem awa (x a b:PE):PE.ev ρ (.slok x a b)=.v (.bool (decide (0≤(PE.ev ρ a).i∧(PE.ev ρ a).i≤(PE.ev ρ b).i∧(PE.ev ρ b).i≤(PE.ev ρ x).l.length))):=_root_.id rfl
@[simp] theorem av4 (x:PE):PE.ev ρ (.ref x)=.ref (PE.ev ρ x):=_root_.id rfl
@[simp] theorem avO (x:PE):PE.ev ρ (.deref x)=(PE.ev ρ x).deref:=_root_.id rfl
@[simp] theorem avR (m k z:PE):PE.ev ρ (.look m k z)=(gk (PE.ev ρ k) (PE.ev ρ m).m).getD (PE.ev ρ z):=_root_.id rfl
@[simp] theorem av2 (m k v:PE):PE.ev ρ (.put m k v)=.map (ef (PE.ev ρ k) (PE.ev ρ v) (PE.ev ρ m).m):=_root_.id rfl
@[simp] theorem avW (x y:PE):PE.ev ρ (.mn x y)=if(PE.ev ρ y).i<(PE.ev ρ x).i then PE.ev ρ y else PE.ev ρ x:=by
  simp only[PE.ev];by_cases h:(PE.ev ρ y).i<(PE.ev ρ x).i<;>simp[h]
@[simp] theorem avX (x y:PE):PE.ev ρ (.mx x y)=if(PE.ev ρ y).i>(PE.ev ρ x).i then PE.ev ρ y else PE.ev ρ x:=by
  simp only[PE.ev];by_cases h:(PE.ev ρ y).i>(PE.ev ρ x).i<;>simp[h]
@[simp] theorem awd (es:List PE):PE.ev ρ (.tup es)=.tup (PE.evs ρ es):=_root_.id rfl
@[simp] theorem awc (x:PE)(i:Nat):PE.ev ρ (.tget x i)=(PE.ev ρ x).tget i:=_root_.id rfl
@[simp] theorem avK (f:Nat)(es:List PE):PE.ev ρ (.clo f es)=.clo f (PE.evs ρ es):=_root_.id rfl
@[simp] theorem avE (x y:PE):PE.ev ρ (.an x y)=.v (.bool ((PE.ev ρ x).b&&(PE.ev ρ y).b)):=_root_.id rfl
@[simp] theorem awh:PE.evs ρ []=[]:=_root_.id rfl
@[simp] theorem awg (e:PE)(es:List PE):PE.evs ρ (e::es)=PE.ev ρ e::PE.evs ρ es:=_root_.id rfl
@[simp] theorem awf:PE.evc ρ []=[]:=_root_.id rfl
@[simp] theorem awe (e:PE)(es:List PE):PE.evc ρ (e::es)=(PE.ev ρ e).cells++PE.evc ρ es:=_root_.id rfl
@[simp] theorem adS (x:Bool):(D.bool x).b=x:=_root_.id rfl
@[simp] theorem avx (k:IntKind)(n:Int):(D.v (.int k n)).i=n:=_root_.id rfl
@[simp] theorem adZ (n:Int):(D.int n).i=n:=_root_.id rfl
@[simp] theorem avt (x:List D):(D.list x).l=x:=_root_.id rfl
@[simp] theorem avr (l:List Int):(ints l).l=l.map .int:=_root_.id rfl
@[simp] theorem avu (x:List (D×D)):(D.map x).m=x:=_root_.id rfl
@[simp] theorem avi (x:List D)(i:Nat):(D.agg x).c i=x.getD i .none:=_root_.id rfl
@[simp] theorem avj (x:List D):(D.agg x).cells=x:=_root_.id rfl
@[simp] theorem avs (x:List D):(D.list x).cells=[.list x]:=_root_.id rfl
@[simp] theorem avq (x:List Int):(ints x).cells=[ints x]:=_root_.id rfl
@[simp] theorem avn (n:Int):(D.int n).cells=[.int n]:=_root_.id rfl
@[simp] theorem avk (n:Bool):(D.bool n).cells=[.bool n]:=_root_.id rfl
@[simp] theorem avw (x:List D)(i:Nat):(D.tup x).tget i=x.getD i .none:=_root_.id rfl
@[simp] theorem avv (x:D):(D.ref x).deref=x:=_root_.id rfl
@[simp] theorem aye (s:SE)(t:Nat):(s.ev ρ).r t=PE.ev ρ (s.getR t):=_root_.id rfl
@[simp] theorem ayd (s:SE)(t:Nat):(s.ev ρ).o t=PE.ev ρ (s.getO t):=_root_.id rfl
@[simp] theorem awr (o:List (Nat×PE))(u:Nat):SE.getR ⟨[],o⟩ u=.r u:=_root_.id rfl
@[simp] theorem awq (t:Nat)(e:PE)(r o:List (Nat×PE))(u:Nat):SE.getR ⟨(t,e)::r,o⟩ u=if t=u then e else SE.getR ⟨r,o⟩ u:=by
  simp only[SE.getR,bu];by_cases h:t=u
  ·subst h;simp
  ·simp[eJ h,h]
@[simp] theorem awp (r:List (Nat×PE))(u:Nat):SE.getO ⟨r,[]⟩ u=.o u:=_root_.id rfl
@[simp] theorem awo (t:Nat)(e:PE)(r o:List (Nat×PE))(u:Nat):SE.getO ⟨r,(t,e)::o⟩ u=if t=u then e else SE.getO ⟨r,o⟩ u:=by
  simp only[SE.getO,bu];by_cases h:t=u
  ·subst h;simp
  ·simp[eJ h,h]
@[simp] theorem setR_r (t u:Nat)(d:D):(ρ.setR t d).r u=if u=t then d else ρ.r u:=Env.setR_r ρ t u d
@[simp] theorem ayk (t u:Nat)(d:D):(ρ.setR t d).o u=ρ.o u:=_root_.id rfl
@[simp] theorem setO_o (t u:Nat)(d:D):(ρ.setO t d).o u=if u=t then d else ρ.o u:=Env.setO_o ρ t u d
@[simp] theorem ayj (t u:Nat)(d:D):(ρ.setO t d).r u=ρ.r u:=_root_.id rfl
@[simp] theorem ax6 (lr lo:List Nat)(vr vo:List D)(u:Nat):(ρ.put lr vr lo vo).r u=putL ρ.r lr vr u:=_root_.id rfl
@[simp] theorem ax5 (lr lo:List Nat)(vr vo:List D)(u:Nat):(ρ.put lr vr lo vo).o u=putL ρ.o lo vo u:=_root_.id rfl
@[simp] theorem join_r (ρ':Env)(lr lo:List Nat)(u:Nat):(ρ.join lr lo ρ').r u=if u∈lr then ρ'.r u else ρ.r u:=Env.join_r ρ ρ' lr lo u
@[simp] theorem join_o (ρ':Env)(lr lo:List Nat)(u:Nat):(ρ.join lr lo ρ').o u=if u∈lo then ρ'.o u else ρ.o u:=Env.join_o ρ ρ' lr lo u
@[simp] theorem ax3 (f:Nat→D)(i:Nat)(is:List Nat)(x:D)(xs:List D)(u:Nat):putL f (i::is) (x::xs) u=if u=i then x else putL f is xs u:=HK f i is x xs u
@[simp] theorem ax4 (f:Nat→D)(xs:List D)(u:Nat):putL f [] xs u=f u:=HL f xs u
@[simp] theorem avA (ds:List D)(u:Nat):(jt ds).r u=ds.getD u .none:=_root_.id rfl
@[simp] theorem awX:holds [] ρ=true:=_root_.id rfl
@[simp] theorem awW (g:Nat×Bool)(gs:List (Nat×Bool)):holds (g::gs) ρ=((ρ.r g.1).b==g.2&&holds gs ρ):=_root_.id rfl
variable (Q:Out→Prop)
@[simp] theorem ay2 (s:SE):aE T (.next s) ρ Q=Q (.next (s.ev ρ)):=_root_.id rfl
@[simp] theorem ayY (id:Nat)(s:SE):aE T (.exit id s) ρ Q=Q (.exit id (s.ev ρ)):=_root_.id rfl
@[simp] theorem ay3 (e:PE):aE T (.ret e) ρ Q=Q (.ret (e.ev ρ)):=_root_.id rfl
@[simp] theorem ayX (e:PE)(k:PT):aE T (.chk e k) ρ Q=((e.ev ρ).b=true∧aE T k ρ Q):=_root_.id rfl
@[simp] theorem ayZ (c:PE)(a b:PT):aE T (.ite c a b) ρ Q=if(c.ev ρ).b=true then aE T a ρ Q else aE T b ρ Q:=_root_.id rfl
@[simp] theorem ayV (s:SE)(gs:List (Nat×Bool))(dst f:Nat)(args:List PE)(k:PT):aE T (.call s gs dst f args k) ρ Q=if holds gs (s.ev ρ)=true then ∃d,ak T f (PE.evs ρ args) d∧aE T k ((s.ev ρ).setR dst d) Q else aE T k (s.ev ρ) Q:=_root_.id rfl
@[simp] theorem ay1 (s:SE)(j f:Nat)(args:List PE)(k:PT):aE T (.mcall s j f args k) ρ Q=∃d,ak T f (PE.evs ρ args) d∧aE T k ((s.ev ρ).setO j d) Q:=_root_.id rfl
@[simp] theorem ay0 (s:SE)(c:PE)(lr lo:List Nat)(a b k:PT):aE T (.iteS s c lr lo a b k) ρ Q=if(c.ev ρ).b=true then aE T a (s.ev ρ) (jC (s.ev ρ) lr lo (fS (fun ρ'=>aE T k ρ' Q) Q)) else aE T b (s.ev ρ) (jC (s.ev ρ) lr lo (fS (fun ρ'=>aE T k ρ' Q) Q)):=_root_.id rfl
@[simp] theorem ayT (s:SE)(id:Nat)(lr lo:List Nat)(a k:PT):aE T (.blockS s id lr lo a k) ρ Q=aE T a (s.ev ρ) (kj (s.ev ρ) id lr lo (fS (fun ρ'=>aE T k ρ' Q) Q)):=_root_.id rfl
@[simp] theorem ayU (s:SE)(c:PC)(k:PT):aE T (.brk s c k) ρ Q=aH T c (s.ev ρ) (fS (fun ρ'=>aE T k ρ' Q) Q):=_root_.id rfl
variable (K:Env→Prop) (id:Nat) (lr lo bo bn:List Nat) (K2:List D→List D→Prop)
@[simp] theorem ayh (ρ':Env):fS K Q (.next ρ')=K ρ':=_root_.id rfl
@[simp] theorem ayg (i:Nat)(ρ':Env):fS K Q (.exit i ρ')=Q (.exit i ρ'):=_root_.id rfl
@[simp] theorem ayi (d:D):fS K Q (.ret d)=Q (.ret d):=_root_.id rfl
@[simp] theorem axg (ρ':Env):jC ρ lr lo Q (.next ρ')=Q (.next (ρ.join lr lo ρ')):=_root_.id rfl
@[simp] theorem axh (d:D):jC ρ lr lo Q (.ret d)=Q (.ret d):=_root_.id rfl
@[simp] theorem auZ (ρ':Env):kj ρ id lr lo Q (.next ρ')=Q (.next (ρ.join lr lo ρ')):=_root_.id rfl
@[simp] theorem auY (i:Nat)(ρ':Env):kj ρ id lr lo Q (.exit i ρ')=if i=id then Q (.next (ρ.join lr lo ρ')) else Q (.exit i ρ'):=_root_.id rfl
@[simp] theorem au0 (d:D):kj ρ id lr lo Q (.ret d)=Q (.ret d):=_root_.id rfl
@[simp] theorem aya (ρ':Env):eg ρ id bo bn lr lo K2 Q (.next ρ')=K2 (lr.map ρ'.r) (lo.map ρ'.o):=_root_.id rfl
@[simp] theorem ax9 (i:Nat)(ρ':Env):eg ρ id bo bn lr lo K2 Q (.exit i ρ')=if i=id then Q (.next (ρ.put bo (bo.map ρ'.r) bn (bn.map ρ'.o))) else Q (.exit i ρ'):=_root_.id rfl
@[simp] theorem ayb (d:D):eg ρ id bo bn lr lo K2 Q (.ret d)=Q (.ret d):=_root_.id rfl
@[simp] theorem ayW (s:SE)(gs:List (Nat×Bool))(dst:Nat)(e:PE)(args:List PE)(k:PT):aE T (.callc s gs dst e args k) ρ Q=if holds gs (s.ev ρ)=true then ∃f caps d,e.ev ρ=.clo f caps∧ak T f (PE.evs ρ args++caps) d∧aE T k ((s.ev ρ).setR dst d) Q else aE T k (s.ev ρ) Q:=_root_.id rfl
@[simp] theorem avy (rt:Option PE)(K3:List D→Prop)(i:Nat)(ρ':Env):rC ρ lo rt K3 Q (.exit i ρ')=if i=cD then ∃e,rt=some e∧Q (.ret (e.ev (ρ.put [] [] lo (lo.map ρ'.o)))) else Q (.exit i (ρ.put [] [] lo (lo.map ρ'.o))):=_root_.id rfl
@[simp] theorem avB (J:Nat)(ds:List D)(u:Nat):(xD J ds).r u=(D.none::ds).getD u .none:=_root_.id rfl
theorem aeT (J:Nat)(ds:List D)(u:Nat):(xD J ds).o u=if u=J then .list [] else .none:=by
 show(bif Nat.beq u J then D.list [] else .none)=_;by_cases h:u=J
 ·subst h;simp
 ·simp[eJ h,h]
@[simp] theorem ax1 (p:Nat)(x:D):partsOf [p] x=[x.tget 0]:=_root_.id rfl
end
section
variable (k:IntKind) (a b:Int)
@[simp] theorem auR:cB .add k a b=k.wrap (a+b):=_root_.id rfl
@[simp] theorem auV:cB .sub k a b=k.wrap (a-b):=_root_.id rfl
@[simp] theorem auS:cB .mul k a b=k.wrap (a*b):=_root_.id rfl
@[simp] theorem auT:cB .quo k a b=k.wrap (a.tdiv b):=_root_.id rfl
@[simp] theorem auU:cB .rem k a b=a.tmod b:=_root_.id rfl
@[simp] theorem ava:gq .eql a b=(a==b):=_root_.id rfl
@[simp] theorem avf:gq .neq a b=(a !=b):=_root_.id rfl
@[simp] theorem ave:gq .lss a b=decide (a<b):=_root_.id rfl
@[simp] theorem avd:gq .leq a b=decide (a≤b):=_root_.id rfl
@[simp] theorem avc:gq .gtr a b=decide (a>b):=_root_.id rfl
@[simp] theorem avb:gq .geq a b=decide (a≥b):=_root_.id rfl
variable (x y:Bool)
@[simp] theorem au3:tO .eql x y=(x==y):=_root_.id rfl
@[simp] theorem au4:tO .neq x y=(!(x==y)):=_root_.id rfl
end
theorem ak.of_tree {tab:Nat→Option PC}{ext:Nat→Option (aJ→List D→Option D)}{f:Nat}{pc:PC}{t:PT}{ds:List D}{d:D}(hx:ext f=none)(ht:tab f=some pc)(he:tree pc=t)(h:aE (cH tab ext) t (jt ds) (fun x=>x=.ret d)):ak (cH tab ext) f ds d:=
 .of_pc hx ht (Jg (he▸h))
@[simp] theorem avp (n:Int):D.v (.int .i64 n)=D.int n:=_root_.id rfl
@[simp] theorem avm (b:Bool):D.v (.bool b)=D.bool b:=_root_.id rfl
@[simp] theorem avo (a b:Int):(D.int a=D.int b)=(a=b):=by
  apply propext;constructor
  ·intro h;injection h with h;injection h
  ·intro h;rw[h]
@[simp] theorem avl (a b:Bool):(D.bool a=D.bool b)=(a=b):=by
  apply propext;constructor
  ·intro h;injection h with h;injection h
  ·intro h;rw[h]
section
variable (c:Prop) [Decidable c] (x y:D)
@[simp] theorem axe:(if c then x else y).b=if c then x.b else y.b:=by split<;>rfl
@[simp] theorem axf:(if c then x else y).i=if c then x.i else y.i:=by split<;>rfl
end
@[simp] theorem ay4:IntKind.i64.wrap 1=1:=bE (by omega)
@[simp] theorem ay5:IntKind.i64.wrap 0=0:=bE (by omega)
end Cx
namespace Cx
open Go
inductive Tm where
 |mk (op n:Int) (args:List Tm)
instance:Inhabited Tm:=⟨.mk 0 0 []⟩
namespace Tm
def op:Tm→Int|.mk o _ _=>o
def n:Tm→Int|.mk _ n _=>n
def args:Tm→List Tm|.mk _ _ aa=>aa
end Tm
mutual
def dm:Tm→D
 |.mk o n aa=>.agg [.int o,.int n,.list (FC aa)]
def FC:List Tm→List D
 |[]=>[]
 |t::ts=>dm t::FC ts
end
theorem KQ:∀l:List Tm,FC l=l.map dm
 |[]=>rfl
 |t::l=>by rw[FC,KQ l];rfl
theorem AL (t:Tm):dm t=.agg [.int t.op,.int t.n,.list (t.args.map dm)]:=by
 cases t with
 |mk o n aa=>rw[dm,KQ];rfl
inductive Tm.OK:Tm→Prop where
 |mk (o n:Int) (aa:List Tm) (h1:aY o) (h2:aY n) (h3:aa.length≤maxLen) (h:∀a,a∈aa→Tm.OK a):Tm.OK (.mk o n aa)
theorem DTy.trm_inv {d:D}(h:DTy .trmA d):∃t:Tm,d=dm t∧t.OK:=by
 suffices hs:∀(m:Nat) (d:D),sizeOf d≤m→DTy .trmA d→∃t:Tm,d=dm t∧t.OK from hs _ d (aU _) h
 intro m
 induction m with
 |zero=>
  intro d hm h;cases d<;>simp at hm
 |succ m ih=>
  intro d hm h;obtain⟨ds,rfl,hs⟩:=DTy.agg_inv h;obtain⟨d1,ds,rfl,h1,hs⟩:=hs.cons_inv;obtain⟨d2,ds,rfl,h2,hs⟩:=hs.cons_inv;obtain⟨d3,ds,rfl,h3,hs⟩:=hs.cons_inv;obtain rfl:=hs.nil_inv;obtain⟨o,rfl,b1⟩:=h1.i64_inv;obtain⟨n,rfl,b2⟩:=h2.i64_inv;obtain⟨xs,rfl,hl,hx⟩:=h3.slice_inv
  obtain⟨l,rfl,ar⟩:=iy (enc:=dm) (P:=Tm.OK) fun x hh=>ih x (by
   have:=List.sizeOf_lt_of_mem hh;simp at hm;omega) (hx x hh)
  exact⟨.mk o n l,by rw[dm,KQ],.mk o n l b1 b2 (by simpa using hl) ar⟩
theorem DTy.trms_inv {d:D}(h:DTy (.slice .trm) d):∃l:List Tm,d=.list (l.map dm)∧l.length≤maxLen∧∀t,t∈l→t.OK:=by
 obtain⟨xs,rfl,hl,hx⟩:=h.slice_inv;obtain⟨l,rfl,ar⟩:=iy (enc:=dm) (P:=Tm.OK) fun x hh=>DTy.trm_inv (hx x hh);exact⟨l,rfl,by simpa using hl,ar⟩
end Cx
namespace Cx
open Go
def Qd (g:Nat)(zs:List Int):Nat→Option (Ty×D):=fun k=>bif Nat.beq k g then some (.agg (zs.map fun _=>.int .i64),.agg (zs.map fun z=>.v (.int .i64 z))) else none
theorem ao8 {C:Ctx}{g:Nat}{zs:List Int}{name:String}{W:World}(hC:C.glob=Qd g zs)(hg:C.P.globalNamed name=some g)(hz:zs.all (fun z=>decide (IntKind.i64.min≤z)&&decide (z≤IntKind.i64.max))=true)
 (h:Lib.TabIs C.P W name .i64 zs):CtxOK C (lD W):=by
 refine⟨fun k x hx=>?_⟩;rw[hC] at hx;unfold Qd at hx;cases hk:Nat.beq k g<;>simp only[hk,cond_true,cond_false] at hx
 ·cases hx
 cases hx;obtain rfl:=aw hk
 have lz:Rep C.cap (lD W) (.agg (zs.map fun _=>.int .i64)) (.agg (zs.map fun z=>Value.int .i64 z).toArray) (.agg (zs.map fun z=>.v (.int .i64 z))):=by
  refine .agg _ _ _ (by simp) (by simp) (fun i t ht=>?_) (fun i t ht=>?_)
  ·rw[cf,ax] at ht;obtain⟨z,uM,rfl⟩:=ht;rw[aI,aI,cf,cf,uM];have:=db.1 hz z (jm uM);simp only[aq,decide_eq_true_eq] at this;exact .int _ _ this.1 this.2
  ·rw[cf,ax] at ht;obtain⟨z,_,rfl⟩:=ht;rfl
 refine .ref _ k 0 _ _ lz fun j u hu=>?_;simp only[Value.cells,DX,cf,ax] at hu;obtain⟨z,uM,rfl⟩:=hu;have af:=(dX.1 uM).1;have:=h.cell hg j af;show W.cell? ⟨k,0+j,none⟩=_;rw[jo,this,aI,uM];rfl
end Cx
namespace Cx
open Go Go.RowKit
def loops:PC→List PC
 |.seq a b=>loops a++loops b
 |.ite _ _ _ a b=>loops a++loops b
 |.block id lr lo (.loop Nj Nd a)=>loops a++[.block id lr lo (.loop Nj Nd a)]
 |.block _ _ _ a=>loops a
 |.loop _ _ a=>loops a
 |.each e ps lo rt a=>loops a++[.each e ps lo rt a]
 |.meach J ps cE lo a=>loops a++[.meach J ps cE lo a]
 |_=>[]
def Ko:PC→PC
 |.block _ _ _ (.loop _ _ a)=>a
 |.each _ _ _ _ a=>a
 |.meach _ _ _ _ a=>a
 |_=>.skip
def G5 (c:PC)(k:Nat):PC:=(loops c).getD k .skip
def rnd:PC→PT
 |.block id lr lo (.loop Nj Nd a)=>round id lr lo Nj Nd a
 |.each _ _ lo _ a=>nN lo a
 |.meach _ _ _ lo a=>nN lo a
 |_=>.next .id
inductive Shp where
 |lp (id:Nat) (bo bn lr lo:List Nat)
 |ea (lo:List Nat)
 |no
def zf:PC→Shp
 |.block id bo bn (.loop lr lo _)=>.lp id bo bn lr lo
 |.each _ _ lo _ _=>.ea lo
 |.meach _ _ _ lo _=>.ea lo
 |_=>.no
def told (c:PC):PT×List (Shp×PT):=(tree c,(loops c).map fun l=>(zf l,rnd l))
theorem I5 {o:Option PC}{t:PT}{l:List (Shp×PT)}(h:o.map told=some (t,l)):o=some (o.getD .skip)∧tree (o.getD .skip)=t∧∀k x,l[k]?=some x→(zf (G5 (o.getD .skip) k),rnd (G5 (o.getD .skip) k))=x:=by
 cases o with
 |none=>cases h
 |some c=>
  have h1:told c=(t,l):=by injection h
  unfold told at h1;injection h1 with h1 h2
  refine⟨rfl,h1,fun k x hx=>?_⟩;subst h2;simp only[cf,ax] at hx;obtain⟨y,hy,rfl⟩:=hx;have:G5 ((some c:Option PC).getD .skip) k=y:=by
   show(loops c).getD k .skip=y;rw[aI,hy];rfl
  rw[this]
theorem an2 {c:PC}{id:Nat}{bo bn lr lo:List Nat}{t:PT}(h:(zf c,rnd c)=(.lp id bo bn lr lo,t)):round id bo bn lr lo (Ko c)=t:=by
 injection h with h1 h2
 subst h2;unfold zf at h1;split at h1
 ·cases h1;rfl
 all_goals cases h1
theorem aeG {c:PC}{lo:List Nat}{t:PT}(h:(zf c,rnd c)=(.ea lo,t)):nN lo (Ko c)=t:=by
 injection h with h1 h2
 subst h2;unfold zf at h1;split at h1
 ·cases h1
 ·cases h1;rfl
 ·cases h1;rfl
 ·cases h1
def ct {α:Type}(x:α):α:=Classical.choose (⟨x,rfl⟩:∃y,y=x)
theorem Bp {α:Type}(x:α):ct x=x:=Jr (⟨x,rfl⟩:∃y,y=x)
def bk (o:Option PC):Nat→PC:=fun k=>Ko (G5 (o.getD .skip) k)
abbrev ae (o:Option PC):PC:=ct (o.getD .skip)
abbrev br (o:Option PC):Nat→PC:=ct (bk o)
section
variable {o:Option PC} {F:(Nat→PC)→PT×List (Shp×PT)}
theorem apn (h:o.map told=some (F (bk o))):o=some (ae o):=by unfold ae;rw[Bp];exact(I5 (t:=(F (bk o)).1) (l:=(F (bk o)).2) h).1
theorem bN (h:o.map told=some (F (bk o))):tree (ae o)=(F (br o)).1:=by unfold ae br;rw[Bp,Bp];exact(I5 (t:=(F (bk o)).1) (l:=(F (bk o)).2) h).2.1
theorem be (h:o.map told=some (F (bk o)))(k:Nat){id:Nat}{bo bn lr lo:List Nat}{t:(Nat→PC)→PT}(hk:∀b,(F b).2[k]?=some (.lp id bo bn lr lo,t b)):round id bo bn lr lo (br o k)=t (br o):=by
 unfold br;rw[Bp];exact an2 ((I5 (t:=(F (bk o)).1) (l:=(F (bk o)).2) h).2.2 k _ (hk _))
theorem Qi (h:o.map told=some (F (bk o)))(k:Nat){lo:List Nat}{t:(Nat→PC)→PT}(hk:∀b,(F b).2[k]?=some (.ea lo,t b)):nN lo (br o k)=t (br o):=by
 unfold br;rw[Bp];exact aeG ((I5 (t:=(F (bk o)).1) (l:=(F (bk o)).2) h).2.2 k _ (hk _))
end
theorem aA {α:Type}{R:Nat→α→Prop}{f:Nat}{x:α}{l:List (Nat×α)}(h:R f x)(k:DO R l):DO R ((f,x)::l):=⟨h,k⟩
theorem WZ {α:Type}:∀{l:List (Nat×α)},(l.map (·.1)).Nodup→∀{k f:Nat} {x:α},l[k]?=some (f,x)→bu l f=some x
 |[],_,k,f,x,h=>by simp at h
 |y::l,hn,0,f,x,h=>by
  simp only[Ju,aS] at h;subst h;simp[bu]
 |y::l,hn,k+1,f,x,h=>by
  simp only[SR] at h;rw[fo,mM] at hn;have hm:f∈l.map (·.1):=cX.2 ⟨(f,x),jm h,rfl⟩;have hb:Nat.beq y.1 f=false:=by
   cases e:Nat.beq y.1 f with
   |false=>rfl
   |true=>rw[cV e] at hn;exact absurd hm hn.1
  simp only[bu,hb,cond_false];exact WZ hn.2 h
abbrev pT:PE:=.con (.bool true)
abbrev pF:PE:=.con (.bool false)
abbrev pN:PE:=.con .none
abbrev pL:PE:=.con (.list [])
abbrev pi (n:Int):PE:=.con (.int n)
abbrev aG (a b:PE):PE:=.ai .add .i64 a b
abbrev bH (a b:PE):PE:=.ai .sub .i64 a b
abbrev peq (a b:PE):PE:=.ci .eql a b
abbrev aO (a b:PE):PE:=.ci .neq a b
abbrev ah (a b:PE):PE:=.ci .lss a b
abbrev bB (a b:PE):PE:=.ci .leq a b
abbrev bj (a b:PE):PE:=.ci .gtr a b
abbrev bZ (a b:PE):PE:=.ci .geq a b
abbrev pc (a:PE)(i:Nat):PE:=.cell a i
abbrev pn (a b:PE):PE:=.nth a b
abbrev ao (a b:PE):PE:=.idx a b
abbrev z2:PE:=.con (.agg [(.int 0),(.int 0)])
abbrev z3:PE:=.con (.agg [(.int 0),(.int 0),(.int 0)])
abbrev z4:PE:=.con (.agg [(.int 0),(.int 0),(.int 0),(.int 0)])
abbrev z5:PE:=.con (.agg [(.int 0),(.int 0),(.int 0),(.int 0),(.int 0)])
abbrev z6:PE:=.con (.agg [(.int 0),(.int 0),(.int 0),(.int 0),(.int 0),(.int 0)])
abbrev z9:PE:=.con (.agg [(.int 0),(.int 0),(.int 0),(.int 0),(.int 0),(.int 0),(.int 0),(.int 0),(.int 0)])
abbrev Jn:PE:=.con (.agg [(.int 0),(.int 0),(.int 0),(.int 0),(.int 0),(.int 0),(.int 0),(.int 0),(.int 0),(.int 0),(.int 0),(.int 0),(.int 0),(.int 0),(.int 0)])
abbrev r0:PE:=.r 0
abbrev r1:PE:=.r 1
abbrev r2:PE:=.r 2
abbrev r3:PE:=.r 3
abbrev r4:PE:=.r 4
abbrev r5:PE:=.r 5
abbrev r6:PE:=.r 6
abbrev r7:PE:=.r 7
abbrev r8:PE:=.r 8
abbrev r9:PE:=.r 9
abbrev bC:PE:=.r 10
abbrev bz:PE:=.r 11
abbrev bS:PE:=.r 12
abbrev cK:PE:=.r 13
abbrev bD:PE:=.r 14
abbrev bG:PE:=.r 15
abbrev bx:PE:=.r 16
abbrev dk:PE:=.r 17
abbrev dD:PE:=.r 18
abbrev dK:PE:=.r 19
abbrev bQ:PE:=.r 20
abbrev fi:PE:=.r 21
abbrev qV:PE:=.r 22
abbrev dE:PE:=.r 23
abbrev ja:PE:=.r 24
abbrev jI:PE:=.r 25
abbrev gT:PE:=.r 26
abbrev da:PE:=.r 27
abbrev nH:PE:=.r 28
abbrev mw:PE:=.r 29
abbrev qW:PE:=.r 30
abbrev jJ:PE:=.r 31
abbrev OZ:PE:=.r 32
abbrev pj:PE:=.r 33
abbrev ZW:PE:=.r 34
abbrev vu:PE:=.r 35
abbrev iK:PE:=.r 36
abbrev my:PE:=.r 37
abbrev j9:PE:=.r 38
abbrev qX:PE:=.r 39
abbrev qY:PE:=.r 40
abbrev pk:PE:=.r 41
abbrev O0:PE:=.r 42
abbrev sJ:PE:=.r 43
abbrev vw:PE:=.r 44
abbrev po:PE:=.r 45
abbrev CE:PE:=.r 46
abbrev O1:PE:=.r 47
abbrev ka:PE:=.r 48
abbrev pq:PE:=.r 49
abbrev kc:PE:=.r 50
abbrev lL:PE:=.r 51
abbrev nI:PE:=.r 52
abbrev ZX:PE:=.r 53
abbrev pv:PE:=.r 54
abbrev CF:PE:=.r 55
abbrev nJ:PE:=.r 56
abbrev y0:PE:=.r 57
abbrev ZY:PE:=.r 58
abbrev ZZ:PE:=.r 59
abbrev vx:PE:=.r 60
abbrev HX:PE:=.r 61
abbrev mz:PE:=.r 62
abbrev HY:PE:=.r 63
abbrev jK:PE:=.r 64
abbrev vy:PE:=.r 65
abbrev O2:PE:=.r 66
abbrev vz:PE:=.r 67
abbrev HZ:PE:=.r 68
abbrev y1:PE:=.r 69
abbrev O3:PE:=.r 70
abbrev H0:PE:=.r 72
abbrev CG:PE:=.r 73
abbrev y2:PE:=.r 74
abbrev O4:PE:=.r 75
abbrev qZ:PE:=.r 76
abbrev O5:PE:=.r 77
abbrev H2:PE:=.r 78
abbrev q5:PE:=.r 80
abbrev vA:PE:=.r 81
abbrev jb:PE:=.r 82
abbrev r83:PE:=.r 83
abbrev H3:PE:=.r 84
abbrev y3:PE:=.r 85
abbrev Z0:PE:=.r 87
abbrev H4:PE:=.r 88
abbrev r89:PE:=.r 89
abbrev Z1:PE:=.r 90
abbrev H5:PE:=.r 92
abbrev O6:PE:=.r 93
abbrev Z2:PE:=.r 94
abbrev r95:PE:=.r 95
abbrev r96:PE:=.r 96
abbrev r97:PE:=.r 97
abbrev r98:PE:=.r 98
abbrev O7:PE:=.r 99
abbrev ZP:PE:=.r 103
abbrev anA:PE:=.r 104
abbrev OW:PE:=.r 106
abbrev OX:PE:=.r 108
abbrev anB:PE:=.r 109
abbrev OY:PE:=.r 112
abbrev anC:PE:=.r 117
abbrev anD:PE:=.r 121
abbrev ZQ:PE:=.r 127
abbrev o0:PE:=.o 0
abbrev o1:PE:=.o 1
abbrev o2:PE:=.o 2
abbrev o3:PE:=.o 3
abbrev o4:PE:=.o 4
abbrev o5:PE:=.o 5
abbrev o6:PE:=.o 6
abbrev o7:PE:=.o 7
abbrev o8:PE:=.o 8
abbrev o9:PE:=.o 9
abbrev bV:PE:=.o 10
abbrev lK:PE:=.o 11
abbrev Nx:PE:=.o 12
abbrev yF:PE:=.o 13
abbrev gS:PE:=.o 14
abbrev Hj:PE:=.o 45
end Cx
