/-
  Shared texts of this claim.
-/
import Derived.Test.YtodhjdbleiakeaaGreatDoorNAI
import Derived.Lib.LaidTab
set_option linter.unusedSimpArgs false
set_option linter.unusedVariables false
namespace Cx
open Go Go.RowKit
structure SE where
 r:List (Nat×PE)
 o:List (Nat×PE)
def SE.getR (s:SE)(t:Nat):PE:=match ab s.r t with|some e=>e|none=>.r t
def SE.getO (s:SE)(t:Nat):PE:=match ab s.o t with|some e=>e|none=>.o t
def SE.setR (s:SE)(t:Nat)(e:PE):SE:=⟨(t,e)::s.r,s.o⟩
def SE.setO (s:SE)(t:Nat)(e:PE):SE:=⟨s.r,(t,e)::s.o⟩
def SE.id:SE:=⟨[],[]⟩
def SE.ev (s:SE)(ρ:Env):Env:=⟨fun t=>(s.getR t).ev ρ,fun t=>(s.getO t).ev ρ⟩
def SE.join (s:SE)(lr lo:List Nat)(s':SE):SE:=⟨lr.map (fun t=>(t,s'.getR t))++s.r,lo.map (fun t=>(t,s'.getO t))++s.o⟩
theorem SE.setR_ev (s:SE)(t:Nat)(e:PE)(ρ:Env):(s.setR t e).ev ρ=(s.ev ρ).setR t (e.ev ρ):=by
 have h:(fun u=>((s.setR t e).getR u).ev ρ)=cf (fun u=>(s.getR u).ev ρ) t (e.ev ρ):=by
  funext u;simp only[SE.getR,SE.setR,ab,fS];by_cases h:t=u
  ·subst h;simp
  ·have h':¬u=t:=fun e=>h e.symm;simp[eu h,h']
 simp only[SE.ev,Env.setR];rw[h];rfl
theorem SE.setO_ev (s:SE)(t:Nat)(e:PE)(ρ:Env):(s.setO t e).ev ρ=(s.ev ρ).setO t (e.ev ρ):=by
 have h:(fun u=>((s.setO t e).getO u).ev ρ)=cf (fun u=>(s.getO u).ev ρ) t (e.ev ρ):=by
  funext u;simp only[SE.getO,SE.setO,ab,fS];by_cases h:t=u
  ·subst h;simp
  ·have h':¬u=t:=fun e=>h e.symm;simp[eu h,h']
 simp only[SE.ev,Env.setO];rw[h];rfl
theorem vW {f:Nat→PE}{l:List (Nat×PE)}{u:Nat}:∀(lr:List Nat),ab (lr.map (fun t=>(t,f t))++l) u=if u∈lr then some (f u) else ab l u
 |[]=>by simp
 |t::lr=>by
  simp only[gE,FG,ab,vW lr,cG];by_cases h:t=u
  ·subst h;simp
  ·have h':¬u=t:=fun e=>h e.symm;simp[eu h,h']
theorem SE.join_ev (s s':SE)(lr lo:List Nat)(ρ:Env):(s.join lr lo s').ev ρ=(s.ev ρ).join lr lo (s'.ev ρ):=by
 have h1:∀u,((s.join lr lo s').getR u).ev ρ=((s.ev ρ).join lr lo (s'.ev ρ)).r u:=by
  intro u;rw[Env.join_r];have e:ab (s.join lr lo s').r u=if u∈lr then some (s'.getR u) else ab s.r u:=vW lr;unfold SE.getR;rw[e];by_cases h:u∈lr
  ·simp only[h,if_true];rfl
  ·simp only[h,if_false];rfl
 have h2:∀u,((s.join lr lo s').getO u).ev ρ=((s.ev ρ).join lr lo (s'.ev ρ)).o u:=by
  intro u;rw[Env.join_o];have e:ab (s.join lr lo s').o u=if u∈lo then some (s'.getO u) else ab s.o u:=vW lo;unfold SE.getO;rw[e];by_cases h:u∈lo
  ·simp only[h,if_true];rfl
  ·simp only[h,if_false];rfl
 have e1:(fun u=>((s.join lr lo s').getR u).ev ρ)=((s.ev ρ).join lr lo (s'.ev ρ)).r:=funext h1;have e2:(fun u=>((s.join lr lo s').getO u).ev ρ)=((s.ev ρ).join lr lo (s'.ev ρ)).o:=funext h2;show Env.mk _ _=_;rw[e1,e2]
abbrev bT:=List (PE×Bool)
def bT.ok (ae:bT)(ρ:Env):Prop:=∀x,x∈ae→(x.1.ev ρ).b=x.2
def FY (e:PE):bT→Option Bool
 |[]=>none
 |x::l=>bif PE.beq x.1 e then some x.2 else FY e l
theorem XW {e:PE}{ρ:Env}{b:Bool}:∀{ae:bT},ae.ok ρ→FY e ae=some b→(e.ev ρ).b=b
 |[],_,h=>by cases h
 |x::l,aE,h=>by
  simp only[FY] at h;cases hb:PE.beq x.1 e<;>simp only[hb,cond_true,cond_false] at h
  ·exact XW (fun y hy=>aE y (dj _ hy)) h
  ·cases h;rw[←PE.beq_eq _ _ hb];exact aE x (dw ..)
def uB (ae:bT):PE→Option Bool
 |.con (.v (.bool b))=>some b
 |.nt x=>(uB ae x).map (!·)
 |e=>FY e ae
theorem wV {ae:bT}{ρ:Env}(h:ae.ok ρ):∀{e:PE} {b:Bool},uB ae e=some b→(e.ev ρ).b=b
 |.con (.v (.bool b)),b',he=>by simp only[uB,bf] at he;subst he;rfl
 |.nt x,b',he=>by
  simp only[uB,aH] at he;obtain⟨c,hc,rfl⟩:=he;simp only[PE.ev,D.b_bool,wV h hc]
 |e,b',he=>by
  unfold uB at he;split at he
  ·cases he;rfl
  ·rename_i x;simp only[aH] at he;obtain⟨c,hc,rfl⟩:=he;simp only[PE.ev,D.b_bool,wV h hc]
  ·exact XW h he
def rY (ae:bT)(c a b:PE):PE:=match uB ae c with|some true=>a|some false=>b|none=>.pick c a b
theorem SM {ae:bT}{ρ:Env}(h:ae.ok ρ)(c a b:PE):(rY ae c a b).ev ρ=(PE.pick c a b).ev ρ:=by
 unfold rY;split
 ·rename_i ht;simp[PE.ev,wV h ht]
 ·rename_i ht;simp[PE.ev,wV h ht]
 ·rfl
def Om:PE→PE
 |.ref x=>x
 |x=>.deref x
theorem aoF (x:PE)(ρ:Env):(Om x).ev ρ=(PE.deref x).ev ρ:=by unfold Om;split<;>rfl
def UI:PE→Nat→PE
 |.tup es,i=>es.getD i (.con .none)
 |x,i=>.tget x i
theorem aBN (x:PE)(i:Nat)(ρ:Env):(UI x i).ev ρ=(PE.tget x i).ev ρ:=by
 unfold UI;split
 ·rename_i es;simp only[PE.ev,D.tget_tup,PE.evs_eq,aS,cU];cases es[i]?<;>rfl
 ·rfl
def DS:PE→Bool
 |.ai ..|.ci ..|.cb ..|.cs ..|.sadd ..|.nt _|.conv ..|.llen _|.bytes _|.slen _|.mlen _|.idx ..|.sidx ..|.sok ..|.slok ..|.lst _|.app ..|.setn ..|.rep ..|.slc ..|.ref _|.has ..|.put ..|.an ..|.imp ..|.tup _|.clo ..=>true
 |.con (.v _)|.con (.list _)|.con (.map _)=>true
 |_=>false
theorem ay3 {e:PE}(h:DS e=true)(ρ:Env):(e.ev ρ).cells=[e.ev ρ]:=by
 unfold DS at h;split at h<;>first|rfl|cases h
def Oa:PE→Nat→PE
 |.mk es,i=>bif es.all DS then es.getD i (.con .none) else .cell (.mk es) i
 |x,i=>.cell x i
theorem ZB {ρ:Env}:∀{es:List PE},es.all DS=true→PE.evc ρ es=PE.evs ρ es
 |[],_=>rfl
 |e::es,h=>by
  simp only[pP,ar] at h;simp only[PE.evc,PE.evs,ay3 h.1,ZB h.2];rfl
theorem al5 (x:PE)(i:Nat)(ρ:Env):(Oa x i).ev ρ=(PE.cell x i).ev ρ:=by
 unfold Oa;split
 ·rename_i es;cases hc:es.all DS
  ·rfl
  ·simp only[cond_true,PE.ev,ZB hc,D.c_agg,PE.evs_eq,aS,cU];cases es[i]?<;>rfl
 ·rfl
def Cz (s:SE):List (Nat×Bool)→PE
 |[]=>.con (.v (.bool true))
 |g::gs=>.an (bif g.2 then s.getR g.1 else .nt (s.getR g.1)) (Cz s gs)
theorem ZZ (s:SE)(ρ:Env):∀gs,((Cz s gs).ev ρ).b=holds gs (s.ev ρ)
 |[]=>rfl
 |g::gs=>by
  have ih:=ZZ s ρ gs;rw[auE,←ih];have e:((s.ev ρ).r g.1)=(s.getR g.1).ev ρ:=rfl;rw[e];cases hg:g.2
  ·simp only[Cz,hg,cond_false,PE.ev,D.b_bool];cases((s.getR g.1).ev ρ).b<;>rfl
  ·simp only[Cz,hg,cond_true,PE.ev,D.b_bool];cases((s.getR g.1).ev ρ).b<;>rfl
mutual
def PE.sub' (ae:bT)(s:SE):PE→PE
 |.r t=>s.getR t
 |.o j=>s.getO j
 |.con d=>.con d
 |.cell e i=>Oa (PE.sub' ae s e) i
 |.sub e a b=>.sub (PE.sub' ae s e) a b
 |.setc e q x=>.setc (PE.sub' ae s e) q (PE.sub' ae s x)
 |.mk es=>.mk (PE.subs' ae s es)
 |.ai op k x y=>.ai op k (PE.sub' ae s x) (PE.sub' ae s y)
 |.ci op x y=>.ci op (PE.sub' ae s x) (PE.sub' ae s y)
 |.cb op x y=>.cb op (PE.sub' ae s x) (PE.sub' ae s y)
 |.cs op x y=>.cs op (PE.sub' ae s x) (PE.sub' ae s y)
 |.sadd x y=>.sadd (PE.sub' ae s x) (PE.sub' ae s y)
 |.nt x=>.nt (PE.sub' ae s x)
 |.conv k x=>.conv k (PE.sub' ae s x)
 |.pick c a b=>rY ae (PE.sub' ae s c) (PE.sub' ae s a) (PE.sub' ae s b)
 |.llen x=>.llen (PE.sub' ae s x)
 |.bytes x=>.bytes (PE.sub' ae s x)
 |.slen x=>.slen (PE.sub' ae s x)
 |.mlen x=>.mlen (PE.sub' ae s x)
 |.nth x y=>.nth (PE.sub' ae s x) (PE.sub' ae s y)
 |.idx x y=>.idx (PE.sub' ae s x) (PE.sub' ae s y)
 |.sidx x y=>.sidx (PE.sub' ae s x) (PE.sub' ae s y)
 |.sok x y=>.sok (PE.sub' ae s x) (PE.sub' ae s y)
 |.setn x y n z=>.setn (PE.sub' ae s x) (PE.sub' ae s y) n (PE.sub' ae s z)
 |.app x y=>.app (PE.sub' ae s x) (PE.sub' ae s y)
 |.lst es=>.lst (PE.subs' ae s es)
 |.rep x y=>.rep (PE.sub' ae s x) (PE.sub' ae s y)
 |.slc x y z=>.slc (PE.sub' ae s x) (PE.sub' ae s y) (PE.sub' ae s z)
 |.slok x y z=>.slok (PE.sub' ae s x) (PE.sub' ae s y) (PE.sub' ae s z)
 |.ref x=>.ref (PE.sub' ae s x)
 |.deref x=>Om (PE.sub' ae s x)
 |.look x y z=>.look (PE.sub' ae s x) (PE.sub' ae s y) (PE.sub' ae s z)
 |.has x y=>.has (PE.sub' ae s x) (PE.sub' ae s y)
 |.put x y z=>.put (PE.sub' ae s x) (PE.sub' ae s y) (PE.sub' ae s z)
 |.mn x y=>.mn (PE.sub' ae s x) (PE.sub' ae s y)
 |.mx x y=>.mx (PE.sub' ae s x) (PE.sub' ae s y)
 |.tup es=>.tup (PE.subs' ae s es)
 |.tget x i=>UI (PE.sub' ae s x) i
 |.clo f es=>.clo f (PE.subs' ae s es)
 |.an x y=>.an (PE.sub' ae s x) (PE.sub' ae s y)
 |.imp c x=>.nt (.an (Cz s c) (.nt (PE.sub' ae s x)))
def PE.subs' (ae:bT)(s:SE):List PE→List PE
 |[]=>[]
 |e::es=>PE.sub' ae s e::PE.subs' ae s es
end
mutual
theorem PE.sub_ev {ae:bT}{ρ:Env}(h:ae.ok ρ)(s:SE):∀(e:PE),(PE.sub' ae s e).ev ρ=e.ev (s.ev ρ)
 |.r t=>rfl
 |.o j=>rfl
 |.con d=>rfl
 |.cell e i=>by simp only[PE.sub',al5,PE.ev,PE.sub_ev h s e]
 |.sub e a b=>by simp only[PE.sub',PE.ev,PE.sub_ev h s e]
 |.setc e q x=>by simp only[PE.sub',PE.ev,PE.sub_ev h s e,PE.sub_ev h s x]
 |.mk es=>by simp only[PE.sub',PE.ev,PE.subc_ev h s es]
 |.ai op k x y=>by simp only[PE.sub',PE.ev,PE.sub_ev h s x,PE.sub_ev h s y]
 |.ci op x y=>by simp only[PE.sub',PE.ev,PE.sub_ev h s x,PE.sub_ev h s y]
 |.cb op x y=>by simp only[PE.sub',PE.ev,PE.sub_ev h s x,PE.sub_ev h s y]
 |.cs op x y=>by simp only[PE.sub',PE.ev,PE.sub_ev h s x,PE.sub_ev h s y]
 |.sadd x y=>by simp only[PE.sub',PE.ev,PE.sub_ev h s x,PE.sub_ev h s y]
 |.nt x=>by simp only[PE.sub',PE.ev,PE.sub_ev h s x]
 |.conv k x=>by simp only[PE.sub',PE.ev,PE.sub_ev h s x]
 |.pick c a b=>by simp only[PE.sub',SM h,PE.ev,PE.sub_ev h s c,PE.sub_ev h s a,PE.sub_ev h s b]
 |.llen x=>by simp only[PE.sub',PE.ev,PE.sub_ev h s x]
 |.bytes x=>by simp only[PE.sub',PE.ev,PE.sub_ev h s x]
 |.slen x=>by simp only[PE.sub',PE.ev,PE.sub_ev h s x]
 |.mlen x=>by simp only[PE.sub',PE.ev,PE.sub_ev h s x]
 |.nth x y=>by simp only[PE.sub',PE.ev,PE.sub_ev h s x,PE.sub_ev h s y]
 |.idx x y=>by simp only[PE.sub',PE.ev,PE.sub_ev h s x,PE.sub_ev h s y]
 |.sidx x y=>by simp only[PE.sub',PE.ev,PE.sub_ev h s x,PE.sub_ev h s y]
 |.sok x y=>by simp only[PE.sub',PE.ev,PE.sub_ev h s x,PE.sub_ev h s y]
 |.setn x y n z=>by simp only[PE.sub',PE.ev,PE.sub_ev h s x,PE.sub_ev h s y,PE.sub_ev h s z]
 |.app x y=>by simp only[PE.sub',PE.ev,PE.sub_ev h s x,PE.sub_ev h s y]
 |.lst es=>by simp only[PE.sub',PE.ev,PE.subs_ev h s es]
 |.rep x y=>by simp only[PE.sub',PE.ev,PE.sub_ev h s x,PE.sub_ev h s y]
 |.slc x y z=>by simp only[PE.sub',PE.ev,PE.sub_ev h s x,PE.sub_ev h s y,PE.sub_ev h s z]
 |.slok x y z=>by simp only[PE.sub',PE.ev,PE.sub_ev h s x,PE.sub_ev h s y,PE.sub_ev h s z]
 |.ref x=>by simp only[PE.sub',PE.ev,PE.sub_ev h s x]
 |.deref x=>by simp only[PE.sub',aoF,PE.ev,PE.sub_ev h s x]
 |.look x y z=>by simp only[PE.sub',PE.ev,PE.sub_ev h s x,PE.sub_ev h s y,PE.sub_ev h s z]
 |.has x y=>by simp only[PE.sub',PE.ev,PE.sub_ev h s x,PE.sub_ev h s y]
 |.put x y z=>by simp only[PE.sub',PE.ev,PE.sub_ev h s x,PE.sub_ev h s y,PE.sub_ev h s z]
 |.mn x y=>by simp only[PE.sub',PE.ev,PE.sub_ev h s x,PE.sub_ev h s y]
 |.mx x y=>by simp only[PE.sub',PE.ev,PE.sub_ev h s x,PE.sub_ev h s y]
 |.tup es=>by simp only[PE.sub',PE.ev,PE.subs_ev h s es]
 |.tget x i=>by simp only[PE.sub',aBN,PE.ev,PE.sub_ev h s x]
 |.clo f es=>by simp only[PE.sub',PE.ev,PE.subs_ev h s es]
 |.an x y=>by simp only[PE.sub',PE.ev,PE.sub_ev h s x,PE.sub_ev h s y]
 |.imp c x=>by
  simp only[PE.sub',PE.ev,D.b_bool,ZZ,PE.sub_ev h s x];cases holds c (s.ev ρ)<;>cases(x.ev (s.ev ρ)).b<;>rfl
theorem PE.subs_ev {ae:bT}{ρ:Env}(h:ae.ok ρ)(s:SE):∀(es:List PE),PE.evs ρ (PE.subs' ae s es)=PE.evs (s.ev ρ) es
 |[]=>rfl
 |e::es=>by simp only[PE.subs',PE.evs,PE.sub_ev h s e,PE.subs_ev h s es]
theorem PE.subc_ev {ae:bT}{ρ:Env}(h:ae.ok ρ)(s:SE):∀(es:List PE),PE.evc ρ (PE.subs' ae s es)=PE.evc (s.ev ρ) es
 |[]=>rfl
 |e::es=>by simp only[PE.subs',PE.evc,PE.sub_ev h s e,PE.subc_ev h s es]
end
inductive PT where
 |next (s:SE)
 |exit (id:Nat) (s:SE)
 |ret (e:PE)
 |chk (e:PE) (k:PT)
 |ite (c:PE) (a b:PT)
 |call (s:SE) (gs:List (Nat×Bool)) (dst f:Nat) (args:List PE) (k:PT)
 |callc (s:SE) (gs:List (Nat×Bool)) (dst:Nat) (e:PE) (args:List PE) (k:PT)
 |mcall (s:SE) (j f:Nat) (args:List PE) (k:PT)
 |iteS (s:SE) (c:PE) (lr lo:List Nat) (a b k:PT)
 |blockS (s:SE) (id:Nat) (lr lo:List Nat) (a k:PT)
 |brk (s:SE) (c:PC) (k:PT)
def aO (T:cw):PT→Env→(Out→Prop)→Prop
 |.next s,ρ,Q=>Q (.next (s.ev ρ))
 |.exit id s,ρ,Q=>Q (.exit id (s.ev ρ))
 |.ret e,ρ,Q=>Q (.ret (e.ev ρ))
 |.chk e k,ρ,Q=>(e.ev ρ).b=true∧aO T k ρ Q
 |.ite c a b,ρ,Q=>if(c.ev ρ).b=true then aO T a ρ Q else aO T b ρ Q
 |.call s gs dst f args k,ρ,Q=>if holds gs (s.ev ρ)=true then ∃d,ak T f (PE.evs ρ args) d∧aO T k ((s.ev ρ).setR dst d) Q else aO T k (s.ev ρ) Q
 |.callc s gs dst e args k,ρ,Q=>if holds gs (s.ev ρ)=true then ∃f caps d,e.ev ρ=.clo f caps∧ak T f (PE.evs ρ args++caps) d∧aO T k ((s.ev ρ).setR dst d) Q else aO T k (s.ev ρ) Q
 |.mcall s j f args k,ρ,Q=>∃d,ak T f (PE.evs ρ args) d∧aO T k ((s.ev ρ).setO j d) Q
 |.iteS s c lr lo a b k,ρ,Q=>if(c.ev ρ).b=true then aO T a (s.ev ρ) (ku (s.ev ρ) lr lo (gw (fun ρ'=>aO T k ρ' Q) Q)) else aO T b (s.ev ρ) (ku (s.ev ρ) lr lo (gw (fun ρ'=>aO T k ρ' Q) Q))
 |.blockS s id lr lo a k,ρ,Q=>aO T a (s.ev ρ) (lD (s.ev ρ) id lr lo (gw (fun ρ'=>aO T k ρ' Q) Q))
 |.brk s c k,ρ,Q=>aY T c (s.ev ρ) (gw (fun ρ'=>aO T k ρ' Q) Q)
def nQ:PI→Bool
 |.setR ..|.setO ..|.chk _=>true
 |_=>false
def dI:PC→Bool
 |.loop ..=>false
 |.each ..=>false
 |.meach ..=>false
 |.seq a b=>dI a&&dI b
 |.ite _ _ _ a b=>dI a&&dI b
 |.block _ _ _ a=>dI a
 |.is l=>l.all nQ
 |_=>true
abbrev Kn:=bT→SE→PT
abbrev Kx:=bT→Nat→SE→PT
def mZ:List PI→bT→SE→Kn→PT
 |[],ae,s,k=>k ae s
 |.setR t e::l,ae,s,k=>mZ l ae (s.setR t (e.sub' ae s)) k
 |.setO t e::l,ae,s,k=>mZ l ae (s.setO t (e.sub' ae s)) k
 |.chk e::l,ae,s,k=>
  match uB ae (e.sub' ae s) with
  |some true=>mZ l ae s k
  |_=>.chk (e.sub' ae s) (mZ l ((e.sub' ae s,true)::ae) s k)
 |.call gs dst f args::l,ae,s,k=>.call s gs dst f (PE.subs' ae s args) (mZ l [] .id k)
 |.callc gs dst e args::l,ae,s,k=>.callc s gs dst (e.sub' ae s) (PE.subs' ae s args) (mZ l [] .id k)
 |.mcall j f args::l,ae,s,k=>.mcall s j f (PE.subs' ae s args) (mZ l [] .id k)
def SE.merge (s:SE)(ae:bT)(lr lo:List Nat)(c:PE)(a b:SE):SE:=⟨lr.map (fun t=>(t,rY ae c (a.getR t) (b.getR t)))++s.r,lo.map (fun t=>(t,rY ae c (a.getO t) (b.getO t)))++s.o⟩
def pq:List PI→bT→SE→Option SE
 |[],_,s=>some s
 |.setR t e::l,ae,s=>pq l ae (s.setR t (e.sub' ae s))
 |.setO t e::l,ae,s=>pq l ae (s.setO t (e.sub' ae s))
 |_::_,_,_=>none
def plain:PC→bT→SE→Option SE
 |.skip,_,s=>some s
 |.is l,ae,s=>pq l ae s
 |.seq a b,ae,s=>(plain a ae s).bind fun s=>plain b ae s
 |.ite c lr lo a b,ae,s=>(plain a ae s).bind fun sa=>(plain b ae s).map fun sb=>s.merge ae lr lo (c.sub' ae s) sa sb
 |_,_,_=>none
def abF:PC→Bool
 |.loop ..=>true
 |_=>false
def sx:PC→bT→SE→Kn→Kx→PT
 |.skip,ae,s,k,_=>k ae s
 |.is l,ae,s,k,_=>mZ l ae s k
 |.seq a b,ae,s,k,kx=>sx a ae s (fun ae s=>sx b ae s k kx) kx
 |.ite c lr lo a b,ae,s,k,kx=>
  match uB ae (c.sub' ae s) with
  |some true=>bif dI a then sx a ae s (fun ae s'=>k ae (s.join lr lo s')) kx else .iteS s (c.sub' ae s) lr lo (sx a [] .id (fun _ s=>.next s) (fun _ id s=>.exit id s)) (sx b [] .id (fun _ s=>.next s) (fun _ id s=>.exit id s)) (k [] .id)
  |some false=>bif dI b then sx b ae s (fun ae s'=>k ae (s.join lr lo s')) kx else .iteS s (c.sub' ae s) lr lo (sx a [] .id (fun _ s=>.next s) (fun _ id s=>.exit id s)) (sx b [] .id (fun _ s=>.next s) (fun _ id s=>.exit id s)) (k [] .id)
  |none=>
   match plain a ae s,plain b ae s with
   |some sa,some sb=>k ae (s.merge ae lr lo (c.sub' ae s) sa sb)
   |_,_=>
   bif dI a&&dI b then
    .ite (c.sub' ae s) (sx a ((c.sub' ae s,true)::ae) s (fun ae s'=>k ae (s.join lr lo s')) kx) (sx b ((c.sub' ae s,false)::ae) s (fun ae s'=>k ae (s.join lr lo s')) kx)
   else .iteS s (c.sub' ae s) lr lo (sx a [] .id (fun _ s=>.next s) (fun _ id s=>.exit id s)) (sx b [] .id (fun _ s=>.next s) (fun _ id s=>.exit id s)) (k [] .id)
 |.block id lr lo a,ae,s,k,kx=>
  bif dI a then sx a ae s (fun ae s'=>k ae (s.join lr lo s')) (fun ae bQ s'=>bif Nat.beq bQ id then k ae (s.join lr lo s') else kx ae bQ s')
  else bif abF a then .brk s (.block id lr lo a) (k [] .id)
  else .blockS s id lr lo (sx a [] .id (fun _ s=>.next s) (fun _ id s=>.exit id s)) (k [] .id)
 |.loop lr lo a,_,s,k,_=>.brk s (.loop lr lo a) (k [] .id)
 |.each e ps lo rt a,_,s,k,_=>.brk s (.each e ps lo rt a) (k [] .id)
 |.meach J ps cF lo a,_,s,k,_=>.brk s (.meach J ps cF lo a) (k [] .id)
 |.exit id,ae,s,_,kx=>kx ae id s
 |.ret e,ae,s,_,_=>.ret (e.sub' ae s)
theorem bT.ok_nil (ρ:Env):bT.ok [] ρ:=fun _ h=>nomatch h
theorem bT.ok_cons {ae:bT}{ρ:Env}{e:PE}{b:Bool}(h:ae.ok ρ)(he:(e.ev ρ).b=b):bT.ok ((e,b)::ae) ρ:=fun x hx=>by
 rcases cG.1 hx with e'|hx
 ·rw[e'];exact he
 ·exact h x hx
theorem qT {T:cw}{Q:Out→Prop}{K:Env→Prop}{k:Kn}:∀{l:List PI} {ae:bT} {s:SE} {ρ:Env},ae.ok ρ→aO T (mZ l ae s k) ρ Q→
 (∀ρ' ae s,(l.all nQ=true→ρ'=ρ)→ae.ok ρ'→aO T (k ae s) ρ' Q→K (s.ev ρ'))→gy T l (s.ev ρ) K
 |[],ae,s,ρ,ha,h,hk=>hk ρ ae s (fun _=>rfl) ha h
 |.setR t e::l,ae,s,ρ,ha,h,hk=>by
  simp only[gy];rw[←PE.sub_ev ha s e,←SE.setR_ev];exact qT ha h fun ρ' ae s hp=>hk ρ' ae s fun hl=>hp (by simpa [nQ] using hl)
 |.setO t e::l,ae,s,ρ,ha,h,hk=>by
  simp only[gy];rw[←PE.sub_ev ha s e,←SE.setO_ev];exact qT ha h fun ρ' ae s hp=>hk ρ' ae s fun hl=>hp (by simpa [nQ] using hl)
 |.chk e::l,ae,s,ρ,ha,h,hk=>by
  simp only[gy];rw[←PE.sub_ev ha s e];simp only[mZ] at h;split at h
  ·rename_i ht;exact⟨wV ha ht,qT ha h fun ρ' ae s hp=>hk ρ' ae s fun hl=>hp (by simpa [nQ] using hl)⟩
  ·exact⟨h.1,qT (bT.ok_cons ha h.1) h.2 fun ρ' ae s hp=>hk ρ' ae s fun hl=>hp (by simpa [nQ] using hl)⟩
 |.call gs dst f args::l,ae,s,ρ,ha,h,hk=>by
  simp only[gy];simp only[mZ,aO,PE.subs_ev ha,PE.sub_ev ha] at h;have bt:∀{ρ0:Env},∀ρ' ae s,(l.all nQ=true→ρ'=ρ0)→ae.ok ρ'→aO T (k ae s) ρ' Q→K (s.ev ρ'):=fun ρ' ae s _=>hk ρ' ae s fun hl=>by simp[nQ] at hl
  split at h
  ·rename_i hg;rw[if_pos hg];obtain⟨d,hd,h⟩:=h;exact⟨d,hd,qT (s:=.id) (bT.ok_nil _) h bt⟩
  ·rename_i hg;rw[if_neg hg];exact qT (s:=.id) (bT.ok_nil _) h bt
 |.callc gs dst e args::l,ae,s,ρ,ha,h,hk=>by
  simp only[gy];simp only[mZ,aO,PE.subs_ev ha,PE.sub_ev ha] at h;have bt:∀{ρ0:Env},∀ρ' ae s,(l.all nQ=true→ρ'=ρ0)→ae.ok ρ'→aO T (k ae s) ρ' Q→K (s.ev ρ'):=fun ρ' ae s _=>hk ρ' ae s fun hl=>by simp[nQ] at hl
  split at h
  ·rename_i hg;rw[if_pos hg];obtain⟨f,caps,d,he,hd,h⟩:=h;exact⟨f,caps,d,he,hd,qT (s:=.id) (bT.ok_nil _) h bt⟩
  ·rename_i hg;rw[if_neg hg];exact qT (s:=.id) (bT.ok_nil _) h bt
 |.mcall j f args::l,ae,s,ρ,ha,h,hk=>by
  simp only[gy];simp only[mZ,aO,PE.subs_ev ha,PE.sub_ev ha] at h;have bt:∀{ρ0:Env},∀ρ' ae s,(l.all nQ=true→ρ'=ρ0)→ae.ok ρ'→aO T (k ae s) ρ' Q→K (s.ev ρ'):=fun ρ' ae s _=>hk ρ' ae s fun hl=>by simp[nQ] at hl
  obtain⟨d,hd,h⟩:=h;exact⟨d,hd,qT (s:=.id) (bT.ok_nil _) h bt⟩
theorem SE.merge_ev {ae:bT}{ρ:Env}(h:ae.ok ρ)(s a b:SE)(lr lo:List Nat)(c:PE):(s.merge ae lr lo c a b).ev ρ=(s.ev ρ).join lr lo (if(c.ev ρ).b=true then a.ev ρ else b.ev ρ):=by
 have h1:∀u,((s.merge ae lr lo c a b).getR u).ev ρ=((s.ev ρ).join lr lo (if(c.ev ρ).b=true then a.ev ρ else b.ev ρ)).r u:=by
  intro u;rw[Env.join_r];have e:ab (s.merge ae lr lo c a b).r u=if u∈lr then some (rY ae c (a.getR u) (b.getR u)) else ab s.r u:=vW lr;have e2:(s.merge ae lr lo c a b).getR u=if u∈lr then rY ae c (a.getR u) (b.getR u) else s.getR u:=by
   unfold SE.getR;rw[e];by_cases h:u∈lr<;>simp[h,SE.getR]
  rw[e2];by_cases hu:u∈lr
  ·simp only[hu,if_true,SM h,PE.ev];cases hc:(c.ev ρ).b<;>simp[SE.ev]
  ·simp only[hu,if_false];rfl
 have h2:∀u,((s.merge ae lr lo c a b).getO u).ev ρ=((s.ev ρ).join lr lo (if(c.ev ρ).b=true then a.ev ρ else b.ev ρ)).o u:=by
  intro u;rw[Env.join_o];have e:ab (s.merge ae lr lo c a b).o u=if u∈lo then some (rY ae c (a.getO u) (b.getO u)) else ab s.o u:=vW lo;have e2:(s.merge ae lr lo c a b).getO u=if u∈lo then rY ae c (a.getO u) (b.getO u) else s.getO u:=by
   unfold SE.getO;rw[e];by_cases h:u∈lo<;>simp[h,SE.getO]
  rw[e2];by_cases hu:u∈lo
  ·simp only[hu,if_true,SM h,PE.ev];cases hc:(c.ev ρ).b<;>simp[SE.ev]
  ·simp only[hu,if_false];rfl
 have e1:(fun u=>((s.merge ae lr lo c a b).getR u).ev ρ)=((s.ev ρ).join lr lo (if(c.ev ρ).b=true then a.ev ρ else b.ev ρ)).r:=funext h1;have e2:(fun u=>((s.merge ae lr lo c a b).getO u).ev ρ)=((s.ev ρ).join lr lo (if(c.ev ρ).b=true then a.ev ρ else b.ev ρ)).o:=funext h2;show Env.mk _ _=_;rw[e1,e2]
theorem SQ {T:cw}{ae:bT}{ρ:Env}(ha:ae.ok ρ):∀{l:List PI} {s s':SE},pq l ae s=some s'→∀{K:Env→Prop},K (s'.ev ρ)→gy T l (s.ev ρ) K
 |[],s,s',h,K,hk=>by simp only[pq,bf] at h;subst h;exact hk
 |.setR t e::l,s,s',h,K,hk=>by simp only[gy];rw[←PE.sub_ev ha s e,←SE.setR_ev];exact SQ (l:=l) ha (show pq l ae _=some s' from h) hk
 |.setO t e::l,s,s',h,K,hk=>by simp only[gy];rw[←PE.sub_ev ha s e,←SE.setO_ev];exact SQ (l:=l) ha (show pq l ae _=some s' from h) hk
 |.chk _::_,_,_,h,_,_=>by simp[pq] at h
 |.call ..::_,_,_,h,_,_=>by simp[pq] at h
 |.callc ..::_,_,_,h,_,_=>by simp[pq] at h
 |.mcall ..::_,_,_,h,_,_=>by simp[pq] at h
theorem azY {T:cw}{ae:bT}{ρ:Env}(ha:ae.ok ρ):∀(c:PC) {s s':SE},plain c ae s=some s'→∀{Q:Out→Prop},Q (.next (s'.ev ρ))→aY T c (s.ev ρ) Q:=by
 intro c
 induction c with
 |skip=>intro s s' h Q hq;simp only[plain,bf] at h;subst h;exact .skip hq
 |is l=>intro s s' h Q hq;exact .is (SQ ha h hq)
 |seq a b bo du=>
  intro s s' h Q hq;simp only[plain,ax] at h;obtain⟨s1,h1,h2⟩:=h;exact .seq (bo h1 (du h2 hq))
 |ite c lr lo a b bo du=>
  intro s s' h Q hq;simp only[plain,ax,aH] at h;obtain⟨sa,h1,sb,h2,rfl⟩:=h;rw[SE.merge_ev ha,PE.sub_ev ha] at hq;refine .ite ?_;split
  ·rename_i hc;rw[if_pos hc] at hq;exact bo h1 hq
  ·rename_i hc;rw[if_neg hc] at hq;exact du h2 hq
 |_=>intro s s' h;simp[plain] at h
theorem MD {T:cw}:∀(c:PC) {ae:bT} {s:SE} {k:Kn} {kx:Kx} {ρ:Env} {Q Q':Out→Prop},ae.ok ρ→aO T (sx c ae s k kx) ρ Q→
 (∀ρ' ae s,(dI c=true→ρ'=ρ)→ae.ok ρ'→aO T (k ae s) ρ' Q→Q' (.next (s.ev ρ')))→
 (∀ρ' ae id s,(dI c=true→ρ'=ρ)→ae.ok ρ'→aO T (kx ae id s) ρ' Q→Q' (.exit id (s.ev ρ')))→(dI c=false→∀id ρ',Q (.exit id ρ')→Q' (.exit id ρ'))→(∀d,Q (.ret d)→Q' (.ret d))→aY T c (s.ev ρ) Q':=by
 intro c;have alone:∀(a:PC),(∀{ae:bT} {s:SE} {k:Kn} {kx:Kx} {ρ:Env} {Q Q':Out→Prop},ae.ok ρ→aO T (sx a ae s k kx) ρ Q→
  (∀ρ' ae s,(dI a=true→ρ'=ρ)→ae.ok ρ'→aO T (k ae s) ρ' Q→Q' (.next (s.ev ρ')))→
  (∀ρ' ae id s,(dI a=true→ρ'=ρ)→ae.ok ρ'→aO T (kx ae id s) ρ' Q→Q' (.exit id (s.ev ρ')))→(dI a=false→∀id ρ',Q (.exit id ρ')→Q' (.exit id ρ'))→(∀d,Q (.ret d)→Q' (.ret d))→aY T a (s.ev ρ) Q')→
  ∀{ρ:Env} {Q:Out→Prop},aO T (sx a [] .id (fun _ s=>.next s) (fun _ id s=>.exit id s)) ρ Q→aY T a ρ Q:=by
  intro a ih ρ Q h;exact ih (s:=.id) (bT.ok_nil _) h (fun ρ' ae s _ _ h=>h) (fun ρ' ae id s _ _ h=>h) (fun _ _ _ h=>h) (fun _ h=>h)
 induction c with
 |skip=>intro ae s k kx ρ Q Q' ha h hk _ _ _;exact .skip (hk ρ ae s (fun _=>rfl) ha h)
 |is l=>intro ae s k kx ρ Q Q' ha h hk _ _ _;exact .is (qT (K:=fun ρ'=>Q' (.next ρ')) ha h hk)
 |seq a b bo du=>
  intro ae s k kx ρ Q Q' ha h hk hx jS hr;refine .seq (bo ha h (Q':=gw (fun ρ'=>aY T b ρ' Q') Q') (fun ρ' ae s hp vi h'=>?_) (fun ρ' ae id s hp vi h'=>?_) (fun hp=>?_) hr)
  ·refine du vi h' (fun ρ2 ae s eX=>hk ρ2 ae s fun hl=>?_) (fun ρ2 ae id s eX=>hx ρ2 ae id s fun hl=>?_) (fun eX=>?_) hr
   ·simp only[dI,ar] at hl;rw[eX hl.2,hp hl.1]
   ·simp only[dI,ar] at hl;rw[eX hl.2,hp hl.1]
   ·exact jS (by simp[dI,eX])
  ·exact hx ρ' ae id s (fun hl=>by simp only[dI,ar] at hl;exact hp hl.1) vi h'
  ·exact jS (by simp[dI,hp])
 |ite c lr lo a b bo du=>
  intro ae s k kx ρ Q Q' ha h hk hx jS hr;have bO:((c.sub' ae s).ev ρ).b=(c.ev (s.ev ρ)).b:=by rw[PE.sub_ev ha]
  have struct:(dI a&&dI b)=false→aO T (.iteS s (c.sub' ae s) lr lo (sx a [] .id (fun _ s=>.next s) (fun _ id s=>.exit id s)) (sx b [] .id (fun _ s=>.next s) (fun _ id s=>.exit id s)) (k [] .id)) ρ Q→aY T (.ite c lr lo a b) (s.ev ρ) Q':=by
   intro Df h;have qn:dI (.ite c lr lo a b)=false:=Df;simp only[aO,bO] at h
   have conv:∀x,ku (s.ev ρ) lr lo (gw (fun ρ'=>aO T (k [] .id) ρ' Q) Q) x→ku (s.ev ρ) lr lo Q' x:=by
      intro x dc;cases x with
      |next ρ'=>exact hk _ [] .id (fun hl=>by rw[qn] at hl;cases hl) (bT.ok_nil _) dc
      |exit id ρ'=>exact jS qn id ρ' dc
      |ret d=>exact hr d dc
   refine .ite ?_;split at h
   ·rename_i hc;rw[if_pos hc];exact(alone a bo h).mono conv
   ·rename_i hc;rw[if_neg hc];exact(alone b du h).mono conv
  have inA:∀uT,uT.ok ρ→dI a=true→aO T (sx a uT s (fun ae s'=>k ae (s.join lr lo s')) kx) ρ Q→aY T a (s.ev ρ) (ku (s.ev ρ) lr lo Q'):=by
   intro uT vi dR h';refine bo vi h' (fun ρ' ae s' hp ny kc=>?_) (fun ρ' ae id s' hp ny kc=>?_) (fun hp=>by rw[dR] at hp;cases hp) hr
   ·have e:=hp dR;subst e;show Q' (.next _);rw[←SE.join_ev];exact hk ρ' ae _ (fun _=>rfl) ny kc
   ·have e:=hp dR;subst e;exact hx ρ' ae id s' (fun _=>rfl) ny kc
  have aA:∀uT,uT.ok ρ→dI b=true→aO T (sx b uT s (fun ae s'=>k ae (s.join lr lo s')) kx) ρ Q→aY T b (s.ev ρ) (ku (s.ev ρ) lr lo Q'):=by
   intro uT vi dR h';refine du vi h' (fun ρ' ae s' hp ny kc=>?_) (fun ρ' ae id s' hp ny kc=>?_) (fun hp=>by rw[dR] at hp;cases hp) hr
   ·have e:=hp dR;subst e;show Q' (.next _);rw[←SE.join_ev];exact hk ρ' ae _ (fun _=>rfl) ny kc
   ·have e:=hp dR;subst e;exact hx ρ' ae id s' (fun _=>rfl) ny kc
  simp only[sx] at h;split at h
  ·rename_i ht;cases dR:dI a<;>simp only[dR,cond_true,cond_false] at h
   ·exact struct (by simp[dR]) h
   ·refine .ite ?_;rw[if_pos (by rw[←bO];exact wV ha ht)];exact inA ae ha dR h
  ·rename_i ht;cases dR:dI b<;>simp only[dR,cond_true,cond_false] at h
   ·exact struct (by simp[dR]) h
   ·refine .ite ?_;rw[if_neg (by rw[←bO,wV ha ht];simp)];exact aA ae ha dR h
  ·split at h
   ·rename_i sa sb Ir jR;have dZ:plain (.ite c lr lo a b) ae s=some (s.merge ae lr lo (c.sub' ae s) sa sb):=by simp[plain,Ir,jR]
    exact azY ha _ dZ (hk ρ ae _ (fun _=>rfl) ha h)
   cases dR:(dI a&&dI b)<;>simp only[dR,cond_true,cond_false] at h
   ·exact struct dR h
   ·simp only[ar] at dR;simp only[aO] at h;refine .ite ?_;rw[←bO];split at h
    ·rename_i hc;rw[if_pos hc];exact inA _ (bT.ok_cons ha hc) dR.1 h
    ·rename_i hc;rw[if_neg hc];exact aA _ (bT.ok_cons ha (by simpa using hc)) dR.2 h
 |block id lr lo a bo=>
  intro ae s k kx ρ Q Q' ha h hk hx jS hr;simp only[sx] at h;cases dR:dI a<;>simp only[dR,cond_true,cond_false] at h
  ·have qn:dI (.block id lr lo a)=false:=dR;cases hl:abF a<;>simp only[hl,cond_true,cond_false] at h
   case true=>
        simp only[aO] at h;refine aY.mono h fun x dc=>?_;cases x with
        |next ρ'=>exact hk _ [] .id (fun hl=>by rw[qn] at hl;cases hl) (bT.ok_nil _) dc
        |exit id ρ'=>exact jS qn id ρ' dc
        |ret d=>exact hr d dc
   simp only[aO] at h;refine .block ((alone a bo h).mono fun x dc=>?_);cases x with
   |next ρ'=>exact hk _ [] .id (fun hl=>by rw[qn] at hl;cases hl) (bT.ok_nil _) dc
   |exit bQ ρ'=>
    simp only[lD] at dc ⊢;split
    ·rename_i e;rw[if_pos e] at dc;exact hk _ [] .id (fun hl=>by rw[qn] at hl;cases hl) (bT.ok_nil _) dc
    ·rename_i e;rw[if_neg e] at dc;exact jS qn bQ ρ' dc
   |ret d=>exact hr d dc
  ·refine .block (bo ha h (fun ρ' ae s' hp ny kc=>?_) (fun ρ' ae bQ s' hp ny kc=>?_) (fun hp=>by rw[dR] at hp;cases hp) hr)
   ·have e:=hp dR;subst e;show Q' (.next _);rw[←SE.join_ev];exact hk ρ' ae _ (fun _=>rfl) ny kc
   ·have e:=hp dR;subst e;simp only[lD];by_cases cB:bQ=id
    ·subst cB;simp only[gY,cond_true] at kc;rw[if_pos rfl,←SE.join_ev];exact hk ρ' ae _ (fun _=>rfl) ny kc
    ·rw[eu cB,cond_false] at kc;rw[if_neg cB];exact hx ρ' ae bQ s' (fun _=>rfl) ny kc
 |loop lr lo a bo=>
  intro ae s k kx ρ Q Q' ha h hk hx jS hr;simp only[sx,aO] at h;refine aY.mono h fun x dc=>?_;cases x with
  |next ρ'=>exact hk _ [] .id (fun hl=>by cases hl) (bT.ok_nil _) dc
  |exit id ρ'=>exact jS rfl id ρ' dc
  |ret d=>exact hr d dc
 |each e ps lo rt a bo=>
  intro ae s k kx ρ Q Q' ha h hk hx jS hr;simp only[sx,aO] at h;refine aY.mono h fun x dc=>?_;cases x with
  |next ρ'=>exact hk _ [] .id (fun hl=>by cases hl) (bT.ok_nil _) dc
  |exit id ρ'=>exact jS rfl id ρ' dc
  |ret d=>exact hr d dc
 |meach J ps cF lo a bo=>
  intro ae s k kx ρ Q Q' ha h hk hx jS hr;simp only[sx,aO] at h;refine aY.mono h fun x dc=>?_;cases x with
  |next ρ'=>exact hk _ [] .id (fun hl=>by cases hl) (bT.ok_nil _) dc
  |exit id ρ'=>exact jS rfl id ρ' dc
  |ret d=>exact hr d dc
 |exit id=>intro ae s k kx ρ Q Q' ha h _ hx _ _;exact .exit (hx ρ ae id s (fun _=>rfl) ha h)
 |ret e=>
  intro ae s k kx ρ Q Q' ha h _ _ _ hr;simp only[sx,aO] at h;refine .ret (hr _ ?_);rw[PE.sub_ev ha] at h;exact h
def Lk.un (a b:Lk):Lk:=⟨Nat.lor a.r b.r,ja a.o b.o⟩
def bits (l:List Nat):Nat:=l.foldr (fun t m=>Nat.lor (dE t) m) 0
theorem N3 {l:List Nat}{t:Nat}(h:t∈l):aw (bits l) t=true:=by
 induction l with
 |nil=>cases h
 |cons x l ih=>
  show aw (Nat.lor (dE x) (bits l)) t=true;rw[eO];rcases cG.1 h with e|h
  ·subst e;rw[p7];rfl
  ·rw[ih h,m6]
theorem WZ:∀{a b:List Nat} {x:Nat},x∈ja a b↔x∈a∨x∈b
 |[],b,x=>by simp[ja]
 |y::a,b,x=>by
  have ih:=WZ (a:=a) (b:=bif eZ b y then b else y::b) (x:=x);show x∈ja a _↔_;rw[ih];cases hb:eZ b y with
  |true=>simp only[cond_true,cG];have:=(pf b y).1 hb;constructor
         ·rintro(h|h);exact .inl (.inr h);exact .inr h
         ·rintro((rfl|h)|h);exact .inr this;exact .inl h;exact .inr h
  |false=>simp only[cond_false,cG];constructor
          ·rintro(h|h|h);exact .inl (.inr h);exact .inl (.inl h);exact .inr h
          ·rintro((h|h)|h);exact .inr (.inl h);exact .inl h;exact .inr (.inr h)
def Lk.Le (a K:Lk):Prop:=(∀t,aw a.r t=true→aw K.r t=true)∧∀j,j∈a.o→j∈K.o
theorem Lk.le_l (a b:Lk):a.Le (a.un b):=⟨fun t h=>by simp only[Lk.un,eO,h,xc],fun j h=>WZ.2 (.inl h)⟩
theorem Lk.le_r (a b:Lk):b.Le (a.un b):=⟨fun t h=>by simp only[Lk.un,eO,h,m6],fun j h=>WZ.2 (.inr h)⟩
theorem Lk.Le.trans {a b c:Lk}(h:a.Le b)(k:b.Le c):a.Le c:=⟨fun t ht=>k.1 t (h.1 t ht),fun j hj=>k.2 j (h.2 j hj)⟩
theorem Alike.le {a K:Lk}{ρ ρ':Env}(h:Alike K ρ ρ')(k:a.Le K):Alike a ρ ρ':=⟨fun t ht=>h.r t (k.1 t ht),fun j hj=>h.o j (k.2 j hj)⟩
theorem Lk.Le.of_un {a b K:Lk}(h:(a.un b).Le K):a.Le K∧b.Le K:=⟨(Lk.le_l a b).trans h,(Lk.le_r a b).trans h⟩
theorem Alike.setR {K:Lk}{ρ ρ':Env}(h:Alike K ρ ρ')(t:Nat)(d:D):Alike K (ρ.setR t d) (ρ'.setR t d):=⟨fun u hu=>by rw[Env.setR_r,Env.setR_r];split;rfl;exact h.r u hu,h.o⟩
theorem Alike.setO {K:Lk}{ρ ρ':Env}(h:Alike K ρ ρ')(t:Nat)(d:D):Alike K (ρ.setO t d) (ρ'.setO t d):=⟨h.r,fun u hu=>by rw[Env.setO_o,Env.setO_o];split;rfl;exact h.o u hu⟩
theorem Alike.join {K:Lk}{ρ ρ' η η':Env}(h:Alike K ρ ρ')(k:Alike K η η')(lr lo:List Nat):Alike K (ρ.join lr lo η) (ρ'.join lr lo η'):=
 ⟨fun u hu=>by rw[Env.join_r,Env.join_r];split;exact k.r u hu;exact h.r u hu,fun u hu=>by rw[Env.join_o,Env.join_o];split;exact k.o u hu;exact h.o u hu⟩
theorem SR {f g:Nat→D}{u:Nat}(h:g u=f u):∀(ts:List Nat) (xs:List D),putL g ts xs u=putL f ts xs u
 |[],xs=>by rw[LF,LF];exact h
 |t::ts,[]=>by simp only[putL];exact h
 |t::ts,x::xs=>by rw[LD,LD];split;rfl;exact SR h ts xs
theorem Alike.put {K:Lk}{ρ ρ':Env}(h:Alike K ρ ρ')(lr lo:List Nat)(vr vo:List D):Alike K (ρ.put lr vr lo vo) (ρ'.put lr vr lo vo):=⟨fun u hu=>SR (h.r u hu) lr vr,fun u hu=>SR (h.o u hu) lo vo⟩
def PI.lkw:PI→Lk
 |.setR t e=>e.lk.un ⟨dE t,[]⟩
 |.setO j e=>e.lk.un ⟨0,[j]⟩
 |.chk e=>e.lk
 |.call gs dst f aa=>(PI.call gs dst f aa).lk.un ⟨dE dst,[]⟩
 |.callc gs dst e aa=>(PI.callc gs dst e aa).lk.un ⟨dE dst,[]⟩
 |.mcall j f aa=>(PI.mcall j f aa).lk.un ⟨0,[j]⟩
def PC.lk:PC→Lk
 |.skip=>.none
 |.exit _=>.none
 |.is l=>l.foldr (fun p k=>p.lkw.un k) .none
 |.seq a b=>(PC.lk a).un (PC.lk b)
 |.ite c _ _ a b=>c.lk.un ((PC.lk a).un (PC.lk b))
 |.block _ _ _ a=>PC.lk a
 |.loop lr lo a=>(⟨bits lr,lo⟩:Lk).un (PC.lk a)
 |.ret e=>e.lk
 |.each e _ lo rt a=>e.lk.un ((match rt with|some e=>e.lk|none=>.none).un ((⟨0,lo⟩:Lk).un (PC.lk a)))
 |.meach J _ _ lo a=>(⟨0,J::lo⟩:Lk).un (PC.lk a)
structure Off (K:Lk) (b η η':Env):Prop where
 al:Alike K η η'
 r:∀t,aw K.r t=false→η'.r t=b.r t
 o:∀j,j∉K.o→η'.o j=b.o j
def sJ (K:Lk)(b:Env):Out→Out→Prop
 |.next η,x=>∃η',x=.next η'∧Off K b η η'
 |.exit i η,x=>∃η',x=.exit i η'∧Off K b η η'
 |.ret d,x=>x=.ret d
theorem Off.uniq {K:Lk}{b η η' η2:Env}(h:Off K b η η')(k:Off K b η η2):η2=η':=by
 have h1:∀t,η2.r t=η'.r t:=fun t=>by
  cases hb:aw K.r t with
  |true=>rw[k.al.r t hb,h.al.r t hb]
  |false=>rw[k.r t hb,h.r t hb]
 have h2:∀t,η2.o t=η'.o t:=fun t=>by
  by_cases hb:t∈K.o
  ·rw[k.al.o t hb,h.al.o t hb]
  ·rw[k.o t hb,h.o t hb]
 cases η2;cases η'
 congr
 ·exact funext h1
 ·exact funext h2
theorem sJ.uniq {K:Lk}{b:Env}{x y z:Out}(h:sJ K b x y)(k:sJ K b x z):z=y:=by
 cases x with
 |next η=>obtain⟨a,rfl,h⟩:=h;obtain⟨c,rfl,k⟩:=k;rw[h.uniq k]
 |exit i η=>obtain⟨a,rfl,h⟩:=h;obtain⟨c,rfl,k⟩:=k;rw[h.uniq k]
 |ret d=>rw[h,k]
theorem Off.setR {K:Lk}{b η η':Env}(h:Off K b η η'){t:Nat}(ht:aw K.r t=true)(d:D):Off K b (η.setR t d) (η'.setR t d):=
 ⟨h.al.setR t d,fun u hu=>by rw[Env.setR_r,if_neg (fun e=>by rw[e,ht] at hu;cases hu)];exact h.r u hu,h.o⟩
theorem Off.setO {K:Lk}{b η η':Env}(h:Off K b η η'){t:Nat}(ht:t∈K.o)(d:D):Off K b (η.setO t d) (η'.setO t d):=
 ⟨h.al.setO t d,h.r,fun u hu=>by rw[Env.setO_o,if_neg (fun e=>hu (by rw[e];exact ht))];exact h.o u hu⟩
theorem Off.join {K:Lk}{b η η' ζ ζ':Env}(h:Off K b η η')(k:Off K b ζ ζ')(lr lo:List Nat):Off K b (η.join lr lo ζ) (η'.join lr lo ζ'):=
 ⟨h.al.join k.al lr lo,fun u hu=>by rw[Env.join_r];split;exact k.r u hu;exact h.r u hu,fun u hu=>by rw[Env.join_o];split;exact k.o u hu;exact h.o u hu⟩
theorem SV {f:Nat→D}{b:D}{u:Nat}(h:f u=b):∀(ts:List Nat) (xs:List D),u∉ts→putL f ts xs u=b
 |[],xs,_=>by rw[LF];exact h
 |t::ts,[],_=>by simp only[putL];exact h
 |t::ts,x::xs,hu=>by rw[LD,if_neg (fun e=>hu (by simp[e]))];exact SV h ts xs (fun e=>hu (by simp[e]))
theorem Off.put {K:Lk}{b η η':Env}(h:Off K b η η'){lr lo:List Nat}(hr:∀t,t∈lr→aw K.r t=true)(ho:∀t,t∈lo→t∈K.o)(vr vo:List D):Off K b (η.put lr vr lo vo) (η'.put lr vr lo vo):=
 ⟨h.al.put lr lo vr vo,fun u hu=>SV (h.r u hu) lr vr (fun e=>by rw[hr u e] at hu;cases hu),fun u hu=>SV (h.o u hu) lo vo (fun e=>hu (ho u e))⟩
theorem PI.run_off {Φ:aT}{K:Lk}{b ρ ρ' η:Env}{p:PI}(hp:p.lkw.Le K)(h:Off K b ρ ρ')(hr:p.run Φ ρ=some η):∃η',p.run Φ ρ'=some η'∧Off K b η η':=by
 have vz:p.lk.Le K:=by cases p<;>first|exact hp|exact hp.of_un.1
 rw[PI.run_eff,PI.eff_alike p (h.al.le vz)];rw[PI.run_eff] at hr;cases he:p.eff Φ ρ with
 |none=>rw[he] at hr;cases hr
 |some x=>
  rw[he] at hr;simp only[jF,bf] at hr;subst hr;refine⟨_,rfl,?_⟩;have hb:∀{t:Nat} {a:Lk},(a.un ⟨dE t,[]⟩).Le K→aw K.r t=true:=fun h=>h.of_un.2.1 _ (p7 _);have ho:∀{t:Nat} {a:Lk},(a.un ⟨0,[t]⟩).Le K→t∈K.o:=fun h=>h.of_un.2.2 _ (by simp);cases p with
  |setR t e=>simp only[PI.eff,bf] at he;subst he;exact h.setR (hb hp) _
  |setO t e=>simp only[PI.eff,bf] at he;subst he;exact h.setO (ho hp) _
  |chk e=>simp only[PI.eff] at he;cases vk:(e.ev ρ).b<;>rw[vk] at he<;>cases he;exact h
  |call gs d f aa=>
   simp only[PI.eff] at he;cases vk:holds gs ρ<;>simp only[vk,cond_true,cond_false,bf,aH] at he
   ·subst he;exact h
   ·obtain⟨y,_,rfl⟩:=he;exact h.setR (hb hp) _
  |callc gs d e aa=>
   simp only[PI.eff] at he;cases vk:holds gs ρ<;>simp only[vk,cond_true,cond_false,bf] at he
   ·subst he;exact h
   ·split at he
    ·simp only[aH] at he;obtain⟨y,_,rfl⟩:=he;exact h.setR (hb hp) _
    ·cases he
  |mcall j f aa=>simp only[PI.eff,aH] at he;obtain⟨y,_,rfl⟩:=he;exact h.setO (ho hp) _
theorem PI.runs_off {Φ:aT}{K:Lk}{b:Env}:∀{l:List PI} {ρ ρ' η:Env},(l.foldr (fun p k=>p.lkw.un k) Lk.none).Le K→Off K b ρ ρ'→PI.runs Φ l ρ=some η→∃η',PI.runs Φ l ρ'=some η'∧Off K b η η'
 |[],ρ,ρ',η,_,h,hr=>by simp only[PI.runs,bf] at hr ⊢;subst hr;exact⟨_,rfl,h⟩
 |p::l,ρ,ρ',η,hl,h,hr=>by
  simp only[PI.runs,ax] at hr;obtain⟨ρ1,h1,h2⟩:=hr;obtain⟨ρ2,h3,h4⟩:=PI.run_off hl.of_un.1 h h1;obtain⟨η',h5,h6⟩:=PI.runs_off (l:=l) hl.of_un.2 h4 h2;exact⟨η',by simp only[PI.runs,h3,kP,h5],h6⟩
theorem vZ {K:Lk}{b η η':Env}(h:Off K b η η'){lo:List Nat}(ho:∀t,t∈lo→t∈K.o):lo.map η'.o=lo.map η.o:=xh fun t ht=>h.al.o t (ho t ht)
theorem acf {K:Lk}{b η η':Env}(h:Off K b η η'){lr:List Nat}(hr:∀t,t∈lr→aw K.r t=true):lr.map η'.r=lr.map η.r:=xh fun t ht=>h.al.r t (hr t ht)
theorem PC.ev_off {Φ:aT}{n:Nat}{K:Lk}:∀(c:PC),c.lk.Le K→∀{b ρ ρ':Env} {x:Out},Off K b ρ ρ'→c.ev Φ n ρ=some x→∃x',c.ev Φ n ρ'=some x'∧sJ K b x x':=by
 intro c
 induction c with
 |skip=>intro _ b ρ ρ' x h hr;simp only[PC.ev,bf] at hr ⊢;subst hr;exact⟨_,rfl,_,rfl,h⟩
 |exit id=>intro _ b ρ ρ' x h hr;simp only[PC.ev,bf] at hr ⊢;subst hr;exact⟨_,rfl,_,rfl,h⟩
 |ret e=>intro hk B ρ ρ' x h hr;simp only[PC.ev,bf] at hr ⊢;subst hr;exact⟨_,rfl,by rw[PE.ev_alike e (h.al.le hk)];rfl⟩
 |is l=>
  intro hk B ρ ρ' x h hr;simp only[PC.ev,aH] at hr;obtain⟨η,h1,rfl⟩:=hr;obtain⟨η',h2,h3⟩:=PI.runs_off hk h h1;exact⟨.next η',by simp only[PC.ev,h2,jF],η',rfl,h3⟩
 |seq a b bo du=>
  intro hk B ρ ρ' x h hr;simp only[PC.ev] at hr ⊢;cases ha:a.ev Φ n ρ with
  |none=>rw[ha] at hr;cases hr
  |some y=>
   obtain⟨y',h1,h2⟩:=bo hk.of_un.1 h ha;rw[ha] at hr;rw[h1];cases y with
   |next η=>obtain⟨η',rfl,h3⟩:=h2;exact du hk.of_un.2 h3 hr
   |exit i η=>obtain⟨η',rfl,h3⟩:=h2;cases hr;exact⟨_,rfl,η',rfl,h3⟩
   |ret d=>cases h2;cases hr;exact⟨_,rfl,rfl⟩
 |ite c lr lo a b bo du=>
  intro hk B ρ ρ' x h hr;have hc:(c.ev ρ').b=(c.ev ρ).b:=by rw[PE.ev_alike c (h.al.le hk.of_un.1)]
  have key:∀(d:PC),(∀{ρ ρ':Env} {x:Out},Off K B ρ ρ'→d.ev Φ n ρ=some x→∃x',d.ev Φ n ρ'=some x'∧sJ K B x x')→(match d.ev Φ n ρ with|some (.next η)=>some (.next (ρ.join lr lo η))|x=>x)=some x→
      ∃x',(match d.ev Φ n ρ' with|some (.next η)=>some (.next (ρ'.join lr lo η))|x=>x)=some x'∧sJ K B x x':=by
   intro d ih hr;cases ha:d.ev Φ n ρ with
   |none=>rw[ha] at hr;cases hr
   |some y=>
    obtain⟨y',h1,h2⟩:=ih h ha;rw[ha] at hr;rw[h1];cases y with
    |next η=>obtain⟨η',rfl,h3⟩:=h2;cases hr;exact⟨_,rfl,_,rfl,h.join h3 lr lo⟩
    |exit i η=>obtain⟨η',rfl,h3⟩:=h2;cases hr;exact⟨_,rfl,η',rfl,h3⟩
    |ret d=>cases h2;cases hr;exact⟨_,rfl,rfl⟩
  simp only[PC.ev,hc] at hr ⊢;cases ia:(c.ev ρ).b<;>simp only[ia,cond_true,cond_false] at hr ⊢
  ·exact key b (fun h1 h2=>du hk.of_un.2.of_un.2 h1 h2) hr
  ·exact key a (fun h1 h2=>bo hk.of_un.2.of_un.1 h1 h2) hr
 |block id lr lo a bo=>
  intro hk B ρ ρ' x h hr;simp only[PC.ev] at hr ⊢;cases ha:a.ev Φ n ρ with
  |none=>rw[ha] at hr;cases hr
  |some y=>
   obtain⟨y',h1,h2⟩:=bo hk h ha;rw[ha] at hr;rw[h1];cases y with
   |next η=>obtain⟨η',rfl,h3⟩:=h2;cases hr;exact⟨_,rfl,_,rfl,h.join h3 lr lo⟩
   |exit i η=>
    obtain⟨η',rfl,h3⟩:=h2;simp only at hr ⊢;cases hb:Nat.beq i id<;>simp only[hb,cond_true,cond_false] at hr ⊢<;>cases hr
    ·exact⟨_,rfl,η',rfl,h3⟩
    ·exact⟨_,rfl,_,rfl,h.join h3 lr lo⟩
   |ret d=>cases h2;cases hr;exact⟨_,rfl,rfl⟩
 |loop lr lo a bo=>
  intro hk B ρ ρ' x h hr;have ic:∀t,t∈lr→aw K.r t=true:=fun t ht=>hk.of_un.1.1 t (N3 ht);have jq:∀t,t∈lo→t∈K.o:=fun t ht=>hk.of_un.1.2 t ht;have key:∀(m:Nat) (vr vo:List D),fu (a.ev Φ n) ρ lr lo m vr vo=some x→∃x',fu (a.ev Φ n) ρ' lr lo m vr vo=some x'∧sJ K B x x':=by
   intro m
   induction m with
   |zero=>intro vr vo h;simp[fu] at h
   |succ m Qz=>
    intro vr vo hr;simp only[fu] at hr ⊢;cases ha:a.ev Φ n (ρ.put lr vr lo vo) with
    |none=>rw[ha] at hr;cases hr
    |some y=>
     obtain⟨y',h1,h2⟩:=bo hk.of_un.2 (h.put ic jq vr vo) ha;rw[ha] at hr;rw[h1];cases y with
     |next η=>obtain⟨η',rfl,h3⟩:=h2;simp only[vZ h3 jq,acf h3 ic];exact Qz _ _ hr
     |exit i η=>obtain⟨η',rfl,h3⟩:=h2;cases hr;exact⟨_,rfl,η',rfl,h3⟩
     |ret d=>cases h2;cases hr;exact⟨_,rfl,rfl⟩
  simp only[PC.ev] at hr ⊢;rw[vZ h jq,acf h ic];exact key n _ _ hr
 |each e ps lo rt a bo=>
  intro hk B ρ ρ' x h hr;obtain⟨bH,cD⟩:=hk.of_un;obtain⟨cD,ko⟩:=cD.of_un;obtain⟨ko,yp⟩:=ko.of_un;have jq:∀t,t∈lo→t∈K.o:=fun t ht=>ko.2 t ht;have key:∀(xs vo:List D),fX (a.ev Φ n) ρ ps lo rt xs vo=some x→∃x',fX (a.ev Φ n) ρ' ps lo rt xs vo=some x'∧sJ K B x x':=by
   intro xs
   induction xs with
   |nil=>intro vo hr;simp only[fX,bf] at hr ⊢;subst hr;exact⟨_,rfl,_,rfl,h.put (fun _ h=>by cases h) jq _ _⟩
   |cons y xs iU=>
    intro vo hr;simp only[fX] at hr ⊢;cases ha:a.ev Φ n (ρ.put ps (partsOf ps y) lo vo) with
    |none=>rw[ha] at hr;cases hr
    |some z=>
     have iQ:Off K (ρ'.put ps (partsOf ps y) lo vo) (ρ.put ps (partsOf ps y) lo vo) (ρ'.put ps (partsOf ps y) lo vo):=⟨h.al.put ps lo _ _,fun _ _=>rfl,fun _ _=>rfl⟩
     obtain⟨z',h1,h2⟩:=bo yp iQ ha;rw[ha] at hr;rw[h1];cases z with
     |next η=>obtain⟨η',rfl,h3⟩:=h2;simp only[vZ h3 jq];exact iU _ hr
     |exit i η=>
      obtain⟨η',rfl,h3⟩:=h2;simp only[vZ h3 jq] at hr ⊢;have hp:=h.put (lr:=[]) (fun _ h=>by cases h) jq [] (lo.map η.o);cases hb:Nat.beq i cE<;>simp only[hb,cond_true,cond_false] at hr ⊢
      ·cases hr;exact⟨_,rfl,_,rfl,hp⟩
      ·cases rt with
       |none=>cases hr
       |some e2=>cases hr;exact⟨_,rfl,by show Out.ret _=Out.ret _;rw[PE.ev_alike e2 (hp.al.le cD)]⟩
     |ret d=>cases hr
  simp only[PC.ev] at hr ⊢;rw[PE.ev_alike e (h.al.le bH),vZ h jq];exact key _ _ hr
 |meach J ps cF lo a bo=>
  intro hk B ρ ρ' x h hr;obtain⟨ko,yp⟩:=hk.of_un;have jq:∀t,t∈lo→t∈K.o:=fun t ht=>ko.2 t (dj _ ht);have hJ:ρ'.o J=ρ.o J:=h.al.o J (ko.2 J (dw ..));have key:∀(es:D) (xs done vo l7:List D),kY (a.ev Φ n) ρ J es ps cF lo xs done vo=some l7→kY (a.ev Φ n) ρ' J es ps cF lo xs done vo=some l7:=by
   intro es xs
   induction xs with
   |nil=>intro done vo l7 h;exact h
   |cons y xs iU=>
    intro done vo l7 hr;simp only[kY] at hr ⊢;cases ha:a.ev Φ n ((ρ.put ps (cF.map y.tget) lo vo).setO J (.tup [.list (done++[y]),es])) with
    |none=>rw[ha] at hr;cases hr
    |some z=>
     have iQ:Off K ((ρ'.put ps (cF.map y.tget) lo vo).setO J (.tup [.list (done++[y]),es])) ((ρ.put ps (cF.map y.tget) lo vo).setO J (.tup [.list (done++[y]),es])) ((ρ'.put ps (cF.map y.tget) lo vo).setO J (.tup [.list (done++[y]),es])):=
          ⟨(h.al.put ps lo _ _).setO J _,fun _ _=>rfl,fun _ _=>rfl⟩
     obtain⟨z',h1,h2⟩:=bo yp iQ ha;rw[ha] at hr;rw[h1];cases z with
     |next η=>obtain⟨η',rfl,h3⟩:=h2;simp only[vZ h3 jq];exact iU _ _ _ hr
     |exit i η=>cases hr
     |ret d=>cases hr
  simp only[PC.ev,wu] at hr;obtain⟨vo,⟨h1,h2⟩,rfl⟩:=hr;refine⟨.next (ρ'.put [] [] lo vo),?_,_,rfl,h.put (fun _ h=>by cases h) jq _ _⟩;simp only[PC.ev,wu];refine⟨vo,⟨by rw[hJ];exact h1,fun ys hy=>?_⟩,rfl⟩;rw[hJ] at hy ⊢;rw[vZ h jq];exact key _ _ _ _ _ (h2 ys hy)
def nu:List Nat→PC→Bool
 |l,.exit id=>eZ l id
 |l,.seq a b=>nu l a&&nu l b
 |l,.ite _ _ _ a b=>nu l a&&nu l b
 |l,.block id _ _ a=>nu (id::l) a
 |l,.loop _ _ a=>nu l a
 |l,.each _ _ _ _ a=>nu (cE::l) a
 |_,_=>true
theorem apG {Φ:aT}{n:Nat}:∀(c:PC) {l:List Nat},nu l c=true→∀{ρ:Env} {i:Nat} {η:Env},c.ev Φ n ρ=some (.exit i η)→i∈l:=by
 intro c
 induction c with
 |skip=>intro l _ ρ i η h;simp[PC.ev] at h
 |exit id=>intro l hl ρ i η h;simp only[PC.ev,bf] at h;injection h with h1 h2;subst h1;exact(pf _ _).1 hl
 |ret e=>intro l _ ρ i η h;simp[PC.ev] at h
 |is _=>intro l _ ρ i η h;simp[PC.ev] at h
 |seq a b bo du=>
  intro l hl ρ i η h;simp only[nu,ar] at hl;simp only[PC.ev] at h;split at h
  ·exact du hl.2 h
  ·exact bo hl.1 h
 |ite c lr lo a b bo du=>
  intro l hl ρ i η h;simp only[nu,ar] at hl;simp only[PC.ev] at h;cases hc:(c.ev ρ).b<;>simp only[hc,cond_true,cond_false] at h
  ·split at h
   ·cases h
   ·exact du hl.2 h
  ·split at h
   ·cases h
   ·exact bo hl.1 h
 |block id lr lo a bo=>
  intro l hl ρ i η h;simp only[PC.ev] at h;split at h
  ·cases h
  ·rename_i bQ ρ2 ha;cases hb:Nat.beq bQ id<;>simp only[hb,cond_true,cond_false] at h<;>cases h;rcases cG.1 (bo hl ha) with e|e
   ·subst e;rw[gY] at hb;cases hb
   ·exact e
  ·rename_i h1 h2;exact absurd h (h2 _ _)
 |loop lr lo a bo=>
  intro l hl ρ i η h;have key:∀(m:Nat) (vr vo:List D),fu (a.ev Φ n) ρ lr lo m vr vo=some (.exit i η)→i∈l:=by
   intro m
   induction m with
   |zero=>intro vr vo h;simp[fu] at h
   |succ m Qz=>
    intro vr vo h;simp only[fu] at h;split at h
    ·exact Qz _ _ h
    ·exact bo hl h
  exact key _ _ _ h
 |each e ps lo rt a bo=>
  intro l hl ρ i η h;have key:∀(xs vo:List D),fX (a.ev Φ n) ρ ps lo rt xs vo=some (.exit i η)→i∈l:=by
   intro xs
   induction xs with
   |nil=>intro vo h;simp[fX] at h
   |cons x xs iU=>
    intro vo h;simp only[fX] at h;split at h
    ·exact iU _ h
    ·rename_i bQ ρ2 ha;cases hb:Nat.beq bQ cE<;>simp only[hb,cond_true,cond_false] at h
     ·injection h with h;injection h with h1 h2;subst h1
      rcases cG.1 (bo hl ha) with e|e
      ·subst e;rw[gY] at hb;cases hb
      ·exact e
     ·cases rt<;>simp at h
    ·cases h
  exact key _ _ h
 |meach J ps cF lo a _=>
  intro l _ ρ i η h;simp only[PC.ev,wu] at h;obtain⟨vo,_,h⟩:=h;cases h
def abC (t:Nat):PE→Bool
 |.r u=>Nat.beq u t
 |_=>false
def abD (t:Nat):PE→Bool
 |.o u=>Nat.beq u t
 |_=>false
def fk (nH:Nat→PE→Bool)(p:Nat→Bool):List Nat→List (Nat×PE)→List (Nat×PE)
 |_,[]=>[]
 |seen,x::l=>bif p x.1&& !eZ seen x.1 then(bif nH x.1 x.2 then fk nH p (x.1::seen) l else x::fk nH p (x.1::seen) l) else fk nH p seen l
theorem Hw {nH:Nat→PE→Bool}{p:Nat→Bool}:∀{l:List (Nat×PE)} {seen:List Nat} {t:Nat},eZ seen t=true→ab (fk nH p seen l) t=none
 |[],_,_,_=>rfl
 |x::l,seen,t,h=>by
  have h':eZ (x.1::seen) t=true:=by rw[pf] at h ⊢;exact dj _ h
  simp only[fk];cases hb:(p x.1&& !eZ seen x.1) with
  |false=>exact Hw h
  |true=>
   simp only[cond_true];cases nH x.1 x.2 with
   |true=>exact Hw h'
   |false=>
    simp only[cond_false,ab];have:Nat.beq x.1 t=false:=by
      cases e:Nat.beq x.1 t with
      |false=>rfl
      |true=>rw[cK e,h] at hb;simp at hb
    rw[this];exact Hw h'
theorem Cp {nH:Nat→PE→Bool}{p:Nat→Bool}{dflt:Nat→PE}(cB:∀t e,nH t e=true→e=dflt t):∀{l:List (Nat×PE)} {seen:List Nat} {t:Nat},p t=true→eZ seen t=false→
 (match ab (fk nH p seen l) t with|some e=>e|none=>dflt t)=(match ab l t with|some e=>e|none=>dflt t)
 |[],_,_,_,_=>rfl
 |x::l,seen,t,hp,hs=>by
  simp only[fk,ab];cases e:Nat.beq x.1 t with
  |true=>
   have e':=cK e;rw[e',hp,hs];simp only[Bool.not_false,Bool.and_self,cond_true];cases hi:nH t x.2 with
   |true=>simp only[cond_true];rw[Hw (by rw[pf];exact dw ..)];exact(cB _ _ hi).symm
   |false=>simp only[cond_false,ab,e,cond_true]
  |false=>
   simp only[cond_false];cases hb:(p x.1&& !eZ seen x.1) with
   |false=>exact Cp cB hp hs
   |true=>
    have eA:eZ (x.1::seen) t=false:=by
      cases hm:eZ (x.1::seen) t with
      |false=>rfl
      |true=>
       rcases cG.1 ((pf _ _).1 hm) with h|h
       ·rw[h,gY] at e;cases e
       ·rw[(pf _ _).2 h] at hs;cases hs
    simp only[cond_true];cases nH x.1 x.2 with
    |true=>exact Cp cB hp eA
    |false=>simp only[cond_false,ab,e];exact Cp cB hp eA
def SE.cut (s:SE)(k:Lk):SE:=⟨fk abC (aw k.r) [] s.r,fk abD (eZ k.o) [] s.o⟩
def Rb (l:List (Nat×PE)):Lk:=l.foldr (fun x k=>x.2.lk.un k) .none
def SE.lks (s:SE):Lk:=(Rb s.r).un (Rb s.o)
theorem Rc:∀{l:List (Nat×PE)} {t:Nat} {e:PE},ab l t=some e→e.lk.Le (Rb l)
 |[],_,_,h=>by cases h
 |x::l,t,e,h=>by
  simp only[ab] at h;cases hb:Nat.beq x.1 t<;>simp only[hb,cond_true,cond_false] at h
  ·exact(Rc h).trans (Lk.le_r _ _)
  ·cases h;exact Lk.le_l _ _
theorem SE.cut_al {s:SE}{L:Lk}{ρ1 ρ2:Env}(h:Alike (L.un (s.cut L).lks) ρ1 ρ2):Alike L ((s.cut L).ev ρ1) (s.ev ρ2):=by
 have hL:=h.le (Lk.le_l _ _);have hs:=h.le (Lk.le_r _ _);constructor
 ·intro t ht;show(s.getR t).ev ρ2=((s.cut L).getR t).ev ρ1;have e:(s.cut L).getR t=s.getR t:=Cp (dflt:=.r) (fun t e he=>by unfold abC at he;split at he;rw[cK he];cases he) ht rfl;rw[←e];cases hl:ab (s.cut L).r t with
  |none=>have:(s.cut L).getR t=.r t:=by unfold SE.getR;rw[hl]
         rw[this];exact hL.r t ht
  |some x=>have:(s.cut L).getR t=x:=by unfold SE.getR;rw[hl]
           rw[this];exact PE.ev_alike x (hs.le ((Rc hl).trans (Lk.le_l _ _)))
 ·intro t ht;show(s.getO t).ev ρ2=((s.cut L).getO t).ev ρ1;have e:(s.cut L).getO t=s.getO t:=Cp (dflt:=.o) (fun t e he=>by unfold abD at he;split at he;rw[cK he];cases he) ((pf _ _).2 ht) rfl;rw[←e];cases hl:ab (s.cut L).o t with
  |none=>have:(s.cut L).getO t=.o t:=by unfold SE.getO;rw[hl]
         rw[this];exact hL.o t ht
  |some x=>have:(s.cut L).getO t=x:=by unfold SE.getO;rw[hl]
           rw[this];exact PE.ev_alike x (hs.le ((Rc hl).trans (Lk.le_r _ _)))
structure LC where
 next:Lk
 ov:List (Nat×Lk)
def LC.all (c:LC):Lk:=c.ov.foldr (fun x k=>x.2.un k) .none
def Nf (c:LC)(Q1 Q2:Out→Prop):Prop:=
 (∀ρ1 ρ2,Alike c.next ρ1 ρ2→Q1 (.next ρ1)→Q2 (.next ρ2))∧(∀id k ρ1 ρ2,ab c.ov id=some k→Alike k ρ1 ρ2→Q1 (.exit id ρ1)→Q2 (.exit id ρ2))∧∀d,Q1 (.ret d)→Q2 (.ret d)
def fC:LC→PT→Option (PT×Lk)
 |c,.next s=>some (.next (s.cut c.next),c.next.un (s.cut c.next).lks)
 |c,.exit id s=>(ab c.ov id).map fun k=>(.exit id (s.cut k),k.un (s.cut k).lks)
 |_,.ret e=>some (.ret e,e.lk)
 |c,.chk e k=>(fC c k).map fun r=>(.chk e r.1,e.lk.un r.2)
 |c,.ite e a b=>(fC c a).bind fun x=>(fC c b).map fun y=>(.ite e x.1 y.1,e.lk.un (x.2.un y.2))
 |c,.call s gs dst f args k=>(fC c k).map fun r=>(.call (s.cut (r.2.un (lG gs))) gs dst f args r.1,(PE.lks args).un ((r.2.un (lG gs)).un (s.cut (r.2.un (lG gs))).lks))
 |c,.callc s gs dst e args k=>(fC c k).map fun r=>(.callc (s.cut (r.2.un (lG gs))) gs dst e args r.1,(e.lk.un (PE.lks args)).un ((r.2.un (lG gs)).un (s.cut (r.2.un (lG gs))).lks))
 |c,.mcall s j f args k=>(fC c k).map fun r=>(.mcall (s.cut r.2) j f args r.1,(PE.lks args).un (r.2.un (s.cut r.2).lks))
 |c,.iteS s e lr lo a b k=>(fC c k).bind fun r=>(fC ⟨r.2,c.ov⟩ a).bind fun x=>(fC ⟨r.2,c.ov⟩ b).map fun y=>
    (.iteS (s.cut (r.2.un (x.2.un y.2))) e lr lo x.1 y.1 r.1,e.lk.un ((r.2.un (x.2.un y.2)).un (s.cut (r.2.un (x.2.un y.2))).lks))
 |c,.blockS s id lr lo a k=>(fC c k).bind fun r=>(fC ⟨r.2,(id,r.2)::c.ov⟩ a).map fun x=>(.blockS (s.cut (r.2.un x.2)) id lr lo x.1 r.1,(r.2.un x.2).un (s.cut (r.2.un x.2)).lks)
 |c,.brk s p k=>(fC c k).bind fun r=>bif nu (c.ov.map (·.1)) p then some (.brk (s.cut (p.lk.un (r.2.un c.all))) p r.1,(p.lk.un (r.2.un c.all)).un (s.cut (p.lk.un (r.2.un c.all))).lks) else none
theorem LC.all_le:∀{l:List (Nat×Lk)} {id:Nat} {k:Lk},ab l id=some k→k.Le (l.foldr (fun x k=>x.2.un k) .none)
 |[],_,_,h=>by cases h
 |x::l,t,e,h=>by
  simp only[ab] at h;cases hb:Nat.beq x.1 t<;>simp only[hb,cond_true,cond_false] at h
  ·exact(LC.all_le h).trans (Lk.le_r _ _)
  ·cases h;exact Lk.le_l _ _
theorem abW:∀{l:List (Nat×Lk)} {id:Nat},id∈l.map (·.1)→∃k,ab l id=some k
 |[],_,h=>by cases h
 |x::l,id,h=>by
  simp only[ab];cases hb:Nat.beq x.1 id with
  |true=>exact⟨_,rfl⟩
  |false=>
   simp only[cond_false];rcases cG.1 h with e|h
   ·rw[e,gY] at hb;cases hb
   ·exact abW h
theorem az4 {T:cw}:∀(t:PT) {c:LC} {t':PT} {L:Lk},fC c t=some (t',L)→∀{Q1 Q2:Out→Prop} {ρ1 ρ2:Env},Nf c Q1 Q2→Alike L ρ1 ρ2→aO T t' ρ1 Q1→aO T t ρ2 Q2:=by
 intro t
 induction t with
 |next s=>
  intro c t' L hp Q1 Q2 ρ1 ρ2 hQ hA h;simp only[fC,bf,na] at hp;obtain⟨rfl,rfl⟩:=hp;exact hQ.1 _ _ (SE.cut_al hA) h
 |exit id s=>
  intro c t' L hp Q1 Q2 ρ1 ρ2 hQ hA h;simp only[fC,aH,na] at hp;obtain⟨k,hk,rfl,rfl⟩:=hp;exact hQ.2.1 _ k _ _ hk (SE.cut_al hA) h
 |ret e=>
  intro c t' L hp Q1 Q2 ρ1 ρ2 hQ hA h;simp only[fC,bf,na] at hp;obtain⟨rfl,rfl⟩:=hp;show Q2 (.ret (e.ev ρ2));rw[PE.ev_alike e hA];exact hQ.2.2 _ h
 |chk e k ih=>
  intro c t' L hp Q1 Q2 ρ1 ρ2 hQ hA h;simp only[fC,aH,na] at hp;obtain⟨r,hr,rfl,rfl⟩:=hp;exact⟨by rw[PE.ev_alike e (hA.le (Lk.le_l _ _))];exact h.1,ih hr hQ (hA.le (Lk.le_r _ _)) h.2⟩
 |ite e a b bo du=>
  intro c t' L hp Q1 Q2 ρ1 ρ2 hQ hA h;simp only[fC,ax,aH,na] at hp;obtain⟨x,hx,y,hy,rfl,rfl⟩:=hp;have h2:=hA.le (Lk.le_r _ _);simp only[aO] at h ⊢;rw[PE.ev_alike e (hA.le (Lk.le_l _ _))];split
  ·rename_i hc;rw[if_pos hc] at h;exact bo hx hQ (h2.le (Lk.le_l _ _)) h
  ·rename_i hc;rw[if_neg hc] at h;exact du hy hQ (h2.le (Lk.le_r _ _)) h
 |call s gs dst f args k ih=>
  intro c t' L hp Q1 Q2 ρ1 ρ2 hQ hA h;simp only[fC,aH,na] at hp;obtain⟨r,hr,rfl,rfl⟩:=hp;have hS:=SE.cut_al (hA.le (Lk.le_r _ _));simp only[aO] at h ⊢;rw[PE.evs_alike args (hA.le (Lk.le_l _ _)),yw (hS.le (Lk.le_r _ _))];split
  ·rename_i hc;rw[if_pos hc] at h;obtain⟨d,hd,h⟩:=h;exact⟨d,hd,ih hr hQ ((hS.le (Lk.le_l _ _)).setR dst d) h⟩
  ·rename_i hc;rw[if_neg hc] at h;exact ih hr hQ (hS.le (Lk.le_l _ _)) h
 |callc s gs dst e args k ih=>
  intro c t' L hp Q1 Q2 ρ1 ρ2 hQ hA h;simp only[fC,aH,na] at hp;obtain⟨r,hr,rfl,rfl⟩:=hp;have hS:=SE.cut_al (hA.le (Lk.le_r _ _));have hE:=hA.le (Lk.le_l _ _);simp only[aO] at h ⊢;rw[PE.ev_alike e (hE.le (Lk.le_l _ _)),PE.evs_alike args (hE.le (Lk.le_r _ _)),yw (hS.le (Lk.le_r _ _))];split
  ·rename_i hc;rw[if_pos hc] at h;obtain⟨f,caps,d,he,hd,h⟩:=h;exact⟨f,caps,d,he,hd,ih hr hQ ((hS.le (Lk.le_l _ _)).setR dst d) h⟩
  ·rename_i hc;rw[if_neg hc] at h;exact ih hr hQ (hS.le (Lk.le_l _ _)) h
 |mcall s j f args k ih=>
  intro c t' L hp Q1 Q2 ρ1 ρ2 hQ hA h;simp only[fC,aH,na] at hp;obtain⟨r,hr,rfl,rfl⟩:=hp;have hS:=SE.cut_al (hA.le (Lk.le_r _ _));simp only[aO] at h ⊢;rw[PE.evs_alike args (hA.le (Lk.le_l _ _))];obtain⟨d,hd,h⟩:=h;exact⟨d,hd,ih hr hQ (hS.setO j d) h⟩
 |iteS s e lr lo a b k bo du jU=>
  intro c t' L hp Q1 Q2 ρ1 ρ2 hQ hA h;simp only[fC,ax,aH,na] at hp;obtain⟨r,hr,x,hx,y,hy,rfl,rfl⟩:=hp;have hS:=SE.cut_al (hA.le (Lk.le_r _ _));have HL:=hS.le (Lk.le_l _ _);have CB:=hS.le ((Lk.le_l _ _).trans (Lk.le_r _ _));have hSy:=hS.le ((Lk.le_r _ _).trans (Lk.le_r _ _))
  have rel:Nf ⟨r.2,c.ov⟩ (ku ((s.cut (r.2.un (x.2.un y.2))).ev ρ1) lr lo (gw (fun ρ'=>aO T r.1 ρ' Q1) Q1)) (ku (s.ev ρ2) lr lo (gw (fun ρ'=>aO T k ρ' Q2) Q2)):=
   ⟨fun η1 η2 ha hq=>jU hr hQ (HL.join ha lr lo) hq,fun id k' η1 η2 hk ha hq=>hQ.2.1 id k' _ _ hk ha hq,fun d hq=>hQ.2.2 d hq⟩
  simp only[aO] at h ⊢;rw[PE.ev_alike e (hA.le (Lk.le_l _ _))];split
  ·rename_i hc;rw[if_pos hc] at h;exact bo hx rel CB h
  ·rename_i hc;rw[if_neg hc] at h;exact du hy rel hSy h
 |blockS s id lr lo a k bo jU=>
  intro c t' L hp Q1 Q2 ρ1 ρ2 hQ hA h;simp only[fC,ax,aH,na] at hp;obtain⟨r,hr,x,hx,rfl,rfl⟩:=hp;have hS:=SE.cut_al hA;have HL:=hS.le (Lk.le_l _ _);refine bo hx (Q1:=lD ((s.cut (r.2.un x.2)).ev ρ1) id lr lo (gw (fun ρ'=>aO T r.1 ρ' Q1) Q1)) ⟨fun η1 η2 ha hq=>jU hr hQ (HL.join ha lr lo) hq,fun bQ k' η1 η2 hk ha hq=>?_,fun d hq=>hQ.2.2 d hq⟩ (hS.le (Lk.le_r _ _)) h;simp only[lD] at hq ⊢;simp only[ab] at hk;by_cases e:bQ=id
  ·subst e;simp only[gY,cond_true,bf] at hk;subst hk;rw[if_pos rfl] at hq ⊢;exact jU hr hQ (HL.join ha lr lo) hq
  ·rw[if_neg e] at hq ⊢;rw[eu (fun h=>e h.symm),cond_false] at hk;exact hQ.2.1 bQ k' _ _ hk ha hq
 |brk s p k jU=>
  intro c t' L hp Q1 Q2 ρ1 ρ2 hQ hA h;simp only[fC,ax] at hp;obtain⟨r,hr,hp⟩:=hp;cases hx:nu (c.ov.map (·.1)) p<;>simp only[hx,cond_true,cond_false,bf,na] at hp
  ·cases hp
  obtain⟨rfl,rfl⟩:=hp;have hS:=SE.cut_al hA;have iQ:Off (p.lk.un (r.2.un c.all)) (s.ev ρ2) ((s.cut (p.lk.un (r.2.un c.all))).ev ρ1) (s.ev ρ2):=⟨hS,fun _ _=>rfl,fun _ _=>rfl⟩
  obtain⟨x,hq,n0,hn⟩:=h;have step:=fun n (hle:n0≤n)=>PC.ev_off p (Lk.le_l _ _) iQ (hn n hle);obtain⟨x',h1,h2⟩:=step n0 (bk _);refine⟨x',?_,n0,fun n hle=>?_⟩
  ·cases x with
   |next η=>obtain⟨η',rfl,h3⟩:=h2;exact jU hr hQ (h3.al.le ((Lk.le_l _ _).trans (Lk.le_r _ _))) hq
   |exit i η=>
    obtain⟨η',rfl,h3⟩:=h2;obtain⟨k',bt⟩:=abW (apG p hx (hn n0 (bk _)));exact hQ.2.1 i k' _ _ bt (h3.al.le ((LC.all_le bt).trans ((Lk.le_r _ _).trans (Lk.le_r _ _)))) hq
   |ret d=>cases h2;exact hQ.2.2 d hq
  ·obtain⟨x2,h3,h4⟩:=step n hle;rw[h3,h2.uniq h4]
def DZ (c:LC)(t:PT):PT:=match fC c t with|some r=>r.1|none=>t
theorem LB {T:cw}{c:LC}{t:PT}{Q:Out→Prop}{ρ:Env}(hQ:Nf c Q Q)(h:aO T (DZ c t) ρ Q):aO T t ρ Q:=by
 unfold DZ at h;split at h
 ·rename_i r hr;exact az4 t hr hQ ⟨fun _ _=>rfl,fun _ _=>rfl⟩ h
 ·exact h
def ahN (c:PC):PT:=sx c [] .id (fun _ s=>.next s) (fun _ id s=>.exit id s)
theorem ahO {T:cw}{c:PC}{ρ:Env}{Q:Out→Prop}(h:aO T (ahN c) ρ Q):aY T c ρ Q:=
 MD (s:=.id) c (bT.ok_nil _) h (fun ρ' ae s _ _ h=>h) (fun ρ' ae id s _ _ h=>h) (fun _ _ _ h=>h) (fun _ h=>h)
def tree (c:PC):PT:=DZ ⟨.none,[]⟩ (ahN c)
theorem MQ {T:cw}{c:PC}{ρ:Env}{d:D}(h:aO T (tree c) ρ fun x=>x=.ret d):aY T c ρ fun x=>x=.ret d:=
 ahO (LB ⟨fun _ _ _ h=>(by cases h),fun _ _ _ _ _ _ h=>(by cases h),fun _ h=>h⟩ h)
def SE.keep (s:SE)(lr lo:List Nat):SE:=⟨lr.map fun t=>(t,s.getR t),lo.map fun t=>(t,s.getO t)⟩
theorem SE.keep_r (s:SE)(lr lo:List Nat)(ρ:Env):lr.map ((s.keep lr lo).ev ρ).r=lr.map (s.ev ρ).r:=by
 apply xh;intro t ht;show((s.keep lr lo).getR t).ev ρ=(s.getR t).ev ρ;have:=vW (f:=fun t=>s.getR t) (l:=[]) (u:=t) lr;rw[mc,if_pos ht] at this;have e:(s.keep lr lo).getR t=s.getR t:=by unfold SE.getR SE.keep;simp only[];rw[this];rfl
 rw[e]
theorem SE.keep_o (s:SE)(lr lo:List Nat)(ρ:Env):lo.map ((s.keep lr lo).ev ρ).o=lo.map (s.ev ρ).o:=by
 apply xh;intro t ht;show((s.keep lr lo).getO t).ev ρ=(s.getO t).ev ρ;have:=vW (f:=fun t=>s.getO t) (l:=[]) (u:=t) lo;rw[mc,if_pos ht] at this;have e:(s.keep lr lo).getO t=s.getO t:=by unfold SE.getO SE.keep;simp only[];rw[this];rfl
 rw[e]
def ahf (id:Nat)(bB bA lr lo:List Nat)(a:PC):PT:=
 sx a [] .id (fun _ s=>.next (s.keep lr lo)) (fun _ bQ s=>bif Nat.beq bQ id then .exit id (s.keep bB bA) else .exit bQ s)
def eL (ρ:Env)(id:Nat)(bB bA lr lo:List Nat)(K:List D→List D→Prop)(Q:Out→Prop):Out→Prop
 |.next ρ'=>K (lr.map ρ'.r) (lo.map ρ'.o)
 |.exit bQ ρ'=>if bQ=id then Q (.next (ρ.put bB (bB.map ρ'.r) bA (bA.map ρ'.o))) else Q (.exit bQ ρ')
 |.ret d=>Q (.ret d)
def round (id:Nat)(bB bA lr lo:List Nat)(a:PC):PT:=DZ ⟨⟨bits lr,lo⟩,[(id,⟨bits bB,bA⟩)]⟩ (ahf id bB bA lr lo a)
theorem ace {k:Lk}{lr:List Nat}{ρ1 ρ2:Env}(h:Alike k ρ1 ρ2)(hk:∀t,t∈lr→aw k.r t=true):lr.map ρ2.r=lr.map ρ1.r:=xh fun t ht=>h.r t (hk t ht)
theorem IJ {k:Lk}{lo:List Nat}{ρ1 ρ2:Env}(h:Alike k ρ1 ρ2)(hk:∀t,t∈lo→t∈k.o):lo.map ρ2.o=lo.map ρ1.o:=xh fun t ht=>h.o t (hk t ht)
theorem aA4 {T:cw}{id:Nat}{bB bA lr lo:List Nat}{a:PC}{ρ ρ0:Env}{K:List D→List D→Prop}{Q:Out→Prop}(h:aO T (round id bB bA lr lo a) ρ (eL ρ0 id bB bA lr lo K Q)):aO T (ahf id bB bA lr lo a) ρ (eL ρ0 id bB bA lr lo K Q):=by
 refine LB ⟨fun ρ1 ρ2 ha hq=>?_,fun bQ k ρ1 ρ2 hk ha hq=>?_,fun d hq=>hq⟩ h
 ·simp only[eL] at hq ⊢;rw[ace ha fun t ht=>N3 ht,IJ ha fun t ht=>ht];exact hq
 ·simp only[ab] at hk;cases hb:Nat.beq id bQ<;>simp only[hb,cond_true,cond_false] at hk
  ·cases hk
  ·cases hk;have:=cK hb;subst this;simp only[eL,if_true] at hq ⊢;rw[ace ha fun t ht=>N3 ht,IJ ha fun t ht=>ht];exact hq
theorem aY.forLoop {T:cw}{id:Nat}{bB bA lr lo:List Nat}{a:PC}{ρ:Env}{Q:Out→Prop}{α:Type}(inv:α→List D→List D→Prop)(tQ:α→Nat)(s0:α)(h0:inv s0 (lr.map ρ.r) (lo.map ρ.o))
 (step:∀s vr vo,inv s vr vo→aO T (round id bB bA lr lo a) (ρ.put lr vr lo vo) (eL ρ id bB bA lr lo (fun vr vo=>∃s',tQ s'<tQ s∧inv s' vr vo) Q)):aY T (.block id bB bA (.loop lr lo a)) ρ Q:=by
 refine .block (.loop inv tQ s0 h0 fun s vr vo hi=>?_);have h:=aA4 (step s vr vo hi);refine MD (s:=.id) a (bT.ok_nil _) h (fun ρ' ae s' _ _ h=>?_) (fun ρ' ae bQ s' _ _ h=>?_) (fun _ bQ ρ' h=>?_) (fun d h=>h)
 ·simp only[aO,eL] at h;rw[SE.keep_r,SE.keep_o] at h;exact h
 ·simp only[gw,lD];by_cases cB:bQ=id
  ·subst cB;simp only[gY,cond_true,aO,eL,if_true] at h;rw[SE.keep_r,SE.keep_o] at h;rw[if_pos rfl];exact h
  ·rw[eu cB,cond_false] at h;simp only[aO,eL] at h;rw[if_neg cB] at h ⊢;exact h
 ·simp only[gw,lD];simp only[eL] at h;split
  ·rename_i e;rw[if_pos e] at h;exact h
  ·rename_i e;rw[if_neg e] at h;exact h
def ahg (lo:List Nat)(a:PC):PT:=sx a [] .id (fun _ s=>.next (s.keep [] lo)) (fun _ id s=>.exit id (s.keep [] lo))
def pE (lo:List Nat)(a:PC):PT:=DZ ⟨⟨0,lo⟩,[(cE,⟨0,lo⟩)]⟩ (ahg lo a)
theorem ahh {T:cw}{lo:List Nat}{a:PC}{ρ:Env}{Q:Out→Prop}(hn:∀ρ1 ρ2,lo.map ρ2.o=lo.map ρ1.o→Q (.next ρ1)→Q (.next ρ2))(hx:∀ρ1 ρ2,lo.map ρ2.o=lo.map ρ1.o→Q (.exit cE ρ1)→Q (.exit cE ρ2))(h:aO T (pE lo a) ρ Q):aO T (ahg lo a) ρ Q:=by
 refine LB ⟨fun ρ1 ρ2 ha hq=>hn ρ1 ρ2 (IJ ha fun t ht=>ht) hq,fun bQ k ρ1 ρ2 hk ha hq=>?_,fun d hq=>hq⟩ h;simp only[ab] at hk;cases hb:Nat.beq cE bQ<;>simp only[hb,cond_true,cond_false] at hk
 ·cases hk
 ·cases hk;have:=cK hb;subst this;exact hx ρ1 ρ2 (IJ ha fun t ht=>ht) hq
theorem aY.eachR {T:cw}{e:PE}{ps lo:List Nat}{rt:Option PE}{a:PC}{ρ:Env}{Q:Out→Prop}(xs:List D)(he:(e.ev ρ).l=xs)(inv:Nat→List D→Prop)(h0:inv 0 (lo.map ρ.o))
 (step:∀k x vo,xs[k]?=some x→inv k vo→aO T (pE lo a) (ρ.put ps (partsOf ps x) lo vo) (sU ρ lo rt (inv (k+1)) Q)) (done:∀vo,inv xs.length vo→Q (.next (ρ.put [] [] lo vo))):aY T (.each e ps lo rt a) ρ Q:=by
 refine .each xs he inv h0 (fun k x vo hx hi=>?_) done;have h:=ahh (fun ρ1 ρ2 e hq=>by simp only[sU] at hq ⊢;rw[e];exact hq) (fun ρ1 ρ2 e hq=>by simp only[sU,if_true] at hq ⊢;rw[e];exact hq) (step k x vo hx hi);refine MD (s:=.id) a (bT.ok_nil _) h (fun ρ' ae s' _ _ h=>?_) (fun ρ' ae bQ s' _ _ h=>?_) (fun _ bQ ρ' h=>h) (fun d h=>h)
 ·simp only[aO,sU] at h;rw[SE.keep_o] at h;exact h
 ·simp only[aO,sU] at h;rw[SE.keep_o] at h;exact h
theorem aY.meachR {T:cw}{J:Nat}{ps cF lo:List Nat}{a:PC}{ρ:Env}{Q:Out→Prop}(es:List (D×D))(he:ρ.o J=.tup [.list [],.map es])(inv:List D→List D→Prop)(h0:inv [] (lo.map ρ.o))
 (step:∀done x rest vo,(done++x::rest).Perm (gS (.map es))→inv done vo→aO T (pE lo a) ((ρ.put ps (cF.map x.tget) lo vo).setO J (.tup [.list (done++[x]),.map es])) (fun y=>∃ρ',y=.next ρ'∧inv (done++[x]) (lo.map ρ'.o)))
 (last:∃vo,(∀done,done.Perm (gS (.map es))→∀l7,inv done l7→l7=vo)∧Q (.next (ρ.put [] [] lo vo))):aY T (.meach J ps cF lo a) ρ Q:=by
 refine .meach es he inv h0 (fun done x rest vo hp hi=>?_) last;have h:=ahh (fun ρ1 ρ2 e ⟨ρ',e1,hq⟩=>by cases e1;exact⟨_,rfl,by rw[e];exact hq⟩) (fun ρ1 ρ2 e ⟨ρ',e1,hq⟩=>by cases e1) (step done x rest vo hp hi);refine MD (s:=.id) a (bT.ok_nil _) h (fun ρ' ae s' _ _ h=>?_) (fun ρ' ae bQ s' _ _ h=>?_) (fun _ bQ ρ' h=>?_) (fun d h=>?_)
 ·simp only[aO] at h;obtain⟨ρ2,e,h⟩:=h;injection e with e;subst e;rw[SE.keep_o] at h;exact⟨_,rfl,h⟩
 ·simp only[aO] at h;obtain⟨ρ2,e,h⟩:=h;cases e
 ·obtain⟨ρ2,e,_⟩:=h;cases e
 ·obtain⟨ρ2,e,_⟩:=h;cases e
theorem xl {T:cw}:∀(t:PT) {ρ:Env} {Q Q':Out→Prop},(∀x,Q x→Q' x)→aO T t ρ Q→aO T t ρ Q':=by
 intro t
 induction t with
 |next s=>intro ρ Q Q' h hx;exact h _ hx
 |exit id s=>intro ρ Q Q' h hx;exact h _ hx
 |ret e=>intro ρ Q Q' h hx;exact h _ hx
 |chk e k ih=>intro ρ Q Q' h hx;exact⟨hx.1,ih h hx.2⟩
 |ite c a b bo du=>
  intro ρ Q Q' h hx;simp only[aO] at hx ⊢;split
  ·rename_i hc;rw[if_pos hc] at hx;exact bo h hx
  ·rename_i hc;rw[if_neg hc] at hx;exact du h hx
 |call s gs dst f args k ih=>
  intro ρ Q Q' h hx;simp only[aO] at hx ⊢;split
  ·rename_i hc;rw[if_pos hc] at hx;obtain⟨d,hd,hx⟩:=hx;exact⟨d,hd,ih h hx⟩
  ·rename_i hc;rw[if_neg hc] at hx;exact ih h hx
 |callc s gs dst e args k ih=>
  intro ρ Q Q' h hx;simp only[aO] at hx ⊢;split
  ·rename_i hc;rw[if_pos hc] at hx;obtain⟨f,c,d,he,hd,hx⟩:=hx;exact⟨f,c,d,he,hd,ih h hx⟩
  ·rename_i hc;rw[if_neg hc] at hx;exact ih h hx
 |mcall s j f args k ih=>intro ρ Q Q' h hx;obtain⟨d,hd,hx⟩:=hx;exact⟨d,hd,ih h hx⟩
 |iteS s c lr lo a b k bo du jU=>
  intro ρ Q Q' h hx
  have hq:∀x,ku (s.ev ρ) lr lo (gw (fun ρ'=>aO T k ρ' Q) Q) x→ku (s.ev ρ) lr lo (gw (fun ρ'=>aO T k ρ' Q') Q') x:=by
   intro x hx;cases x with
   |next ρ'=>exact jU h hx
   |exit id ρ'=>exact h _ hx
   |ret d=>exact h _ hx
  simp only[aO] at hx ⊢;split
  ·rename_i hc;rw[if_pos hc] at hx;exact bo hq hx
  ·rename_i hc;rw[if_neg hc] at hx;exact du hq hx
 |blockS s id lr lo a k bo jU=>
  intro ρ Q Q' h hx;refine bo (fun x hx=>?_) hx;cases x with
  |next ρ'=>exact jU h hx
  |exit bQ ρ'=>
   simp only[lD] at hx ⊢;split
   ·rename_i e;rw[if_pos e] at hx;exact jU h hx
   ·rename_i e;rw[if_neg e] at hx;exact h _ hx
  |ret d=>exact h _ hx
 |brk s c k ih=>
  intro ρ Q Q' h hx;refine aY.mono hx fun x hx=>?_;cases x with
  |next ρ'=>exact ih h hx
  |exit id ρ'=>exact h _ hx
  |ret d=>exact h _ hx
theorem aY.forRounds {T:cw}{id:Nat}{bB bA lr lo:List Nat}{a:PC}{ρ:Env}{Q:Out→Prop}(N:Nat)(str ff:Nat→List D)(h0:lr.map ρ.r=str 0∧lo.map ρ.o=ff 0)
 (step:∀k,k<N→aO T (round id bB bA lr lo a) (ρ.put lr (str k) lo (ff k)) (eL ρ id bB bA lr lo (fun vr vo=>vr=str (k+1)∧vo=ff (k+1)) Q))
 (last:aO T (round id bB bA lr lo a) (ρ.put lr (str N) lo (ff N)) (eL ρ id bB bA lr lo (fun _ _=>False) Q)):aY T (.block id bB bA (.loop lr lo a)) ρ Q:=by
 refine .forLoop (α:=Nat) (fun k vr vo=>k≤N∧vr=str k∧vo=ff k) (fun k=>N-k) 0 ⟨oA _,h0.1,h0.2⟩ ?_;rintro k vr vo ⟨hk,rfl,rfl⟩;have mono:∀{K K':List D→List D→Prop},(∀a b,K a b→K' a b)→∀x,eL ρ id bB bA lr lo K Q x→eL ρ id bB bA lr lo K' Q x:=by
  intro K K' h x hx;cases x with
  |next ρ'=>exact h _ _ hx
  |exit bQ ρ'=>exact hx
  |ret d=>exact hx
 by_cases ah:k<N
 ·exact xl _ (mono fun a b ⟨h1,h2⟩=>⟨k+1,by omega,by omega,h1,h2⟩) (step k ah)
 ·obtain rfl:k=N:=by omega
  exact xl _ (mono fun a b h=>h.elim) last
theorem Uq {ρ:Env}{id:Nat}{bB bA lr lo:List Nat}{K K':List D→List D→Prop}{Q:Out→Prop}(h:∀a b,K a b→K' a b):∀x,eL ρ id bB bA lr lo K Q x→eL ρ id bB bA lr lo K' Q x:=by
 intro x hx;cases x with
 |next ρ'=>exact h _ _ hx
 |exit bQ ρ'=>exact hx
 |ret d=>exact hx
theorem aY.scan {T:cw}{id:Nat}{bB bA lr lo:List Nat}{a:PC}{ρ:Env}{Q:Out→Prop}(N:Nat)(ok:Nat→Prop)(str ff:Nat→List D)(h0:lr.map ρ.r=str 0∧lo.map ρ.o=ff 0)
 (step:∀k,k<N→(∀j,j<k→ok j)→ok k→aO T (round id bB bA lr lo a) (ρ.put lr (str k) lo (ff k)) (eL ρ id bB bA lr lo (fun vr vo=>vr=str (k+1)∧vo=ff (k+1)) Q))
 (bad:∀k,k<N→(∀j,j<k→ok j)→¬ok k→aO T (round id bB bA lr lo a) (ρ.put lr (str k) lo (ff k)) (eL ρ id bB bA lr lo (fun _ _=>False) Q))
 (last:(∀j,j<N→ok j)→aO T (round id bB bA lr lo a) (ρ.put lr (str N) lo (ff N)) (eL ρ id bB bA lr lo (fun _ _=>False) Q)):aY T (.block id bB bA (.loop lr lo a)) ρ Q:=by
 refine .forLoop (α:=Nat) (fun k vr vo=>k≤N∧(∀j,j<k→ok j)∧vr=str k∧vo=ff k) (fun k=>N-k) 0 ⟨oA _,fun j hj=>by omega,h0.1,h0.2⟩ ?_;rintro k vr vo ⟨hk,hj,rfl,rfl⟩;by_cases ah:k<N
 ·by_cases aE:ok k
  ·refine xl _ (Uq fun a b ⟨h1,h2⟩=>⟨k+1,by omega,by omega,fun j H6=>?_,h1,h2⟩) (step k ah hj aE);by_cases e:j=k
   ·subst e;exact aE
   ·exact hj j (by omega)
  ·exact xl _ (Uq fun a b h=>h.elim) (bad k ah hj aE)
 ·obtain rfl:k=N:=by omega
  exact xl _ (Uq fun a b h=>h.elim) (last hj)
def aC (n:Nat)(e:PE):PE:=.mk ((List.range n).map fun i=>.cell e i)
def j6 (n:Nat)(d:D):D:=.agg ((List.range n).flatMap fun i=>(d.c i).cells)
theorem apE (ρ:Env)(n:Nat)(e:PE):(aC n e).ev ρ=j6 n (e.ev ρ):=by
 have key:∀l:List Nat,PE.evc ρ (l.map fun i=>.cell e i)=l.flatMap fun i=>((e.ev ρ).c i).cells:=by
  intro l
  induction l with
  |nil=>rfl
  |cons i l ih=>simp only[gE,PE.evc,PE.ev,uL,ih]
 show D.agg _=_;rw[key];rfl
end Cx
namespace Cx
open Go Go.RowKit
def bj (n:Int):Prop:=-9223372036854775808≤n∧n≤9223372036854775807
def ints (l:List Int):D:=.list (l.map .int)
theorem bF {n:Int}(h:-9223372036854775808≤n∧n≤9223372036854775807):IntKind.i64.wrap n=n:=by
 simp only[IntKind.wrap,IntKind.signed,IntKind.bits];simp;split<;>omega
theorem DTy.int_inv {k:IntKind}{d:D}(h:DTy (.int k) d):∃n,d=.v (.int k n)∧k.min≤n∧n≤k.max:=by
 cases h with
 |int k n h1 h2=>exact⟨n,rfl,h1,h2⟩
 |other t d h=>exact h.elim
theorem DTy.i64_inv {d:D}(h:DTy (.int .i64) d):∃n,d=.int n∧bj n:=by
 obtain⟨n,rfl,h1,h2⟩:=h.int_inv;exact⟨n,rfl,by simpa [IntKind.min,IntKind.max,IntKind.signed,IntKind.bits] using h1,by simpa [IntKind.min,IntKind.max,IntKind.signed,IntKind.bits] using h2⟩
theorem DTy.bool_inv {d:D}(h:DTy .bool d):∃b,d=.bool b:=by
 cases h with
 |bool b=>exact⟨b,rfl⟩
 |other t d h=>exact h.elim
theorem DTy.slice_inv {e:Ty}{d:D}(h:DTy (.slice e) d):∃xs,d=.list xs∧xs.length≤maxLen∧∀x,x∈xs→DTy e.unf x:=by
 cases h with
 |slice e xs hm h=>exact⟨xs,rfl,hm,h⟩
 |other t d h=>exact h.elim
theorem DTy.agg_inv {ts:List Ty}{d:D}(h:DTy (.agg ts) d):∃ds,d=.agg ds∧DTys ts ds:=by
 cases h with
 |agg ts ds h=>exact⟨ds,rfl,h⟩
 |other t d h=>exact h.elim
theorem DTys.cons_inv {t:Ty}{ts:List Ty}{ds:List D}(h:DTys (t::ts) ds):∃d ds',ds=d::ds'∧DTy t d∧DTys ts ds':=by
 cases h with
 |cons h hs=>exact⟨_,_,rfl,h,hs⟩
theorem DTys.nil_inv {ds:List D}(h:DTys [] ds):ds=[]:=by cases h;rfl
theorem jV {α:Type}{enc:α→D}{P:α→Prop}{xs:List D}(h:∀x,x∈xs→∃a,x=enc a∧P a):∃l:List α,xs=l.map enc∧∀a,a∈l→P a:=by
 induction xs with
 |nil=>exact⟨[],rfl,fun _ h=>nomatch h⟩
 |cons x xs ih=>
  obtain⟨l,hl,hp⟩:=ih fun y hy=>h y (dj _ hy);obtain⟨a,ha,pa⟩:=h x (dw ..)
  exact⟨a::l,by rw[hl,ha];rfl,fun b hb=>by
   rcases cG.1 hb with e|hb
   ·rw[e];exact pa
   ·exact hp b hb⟩
theorem DTy.ints_inv {d:D}(h:DTy (.slice (.int .i64)) d):∃l:List Int,d=ints l∧l.length≤maxLen∧∀x,x∈l→bj x:=by
 obtain⟨xs,rfl,hm,hx⟩:=h.slice_inv;obtain⟨l,rfl,hl⟩:=jV (enc:=D.int) (P:=bj) fun x hh=>(hx x hh).i64_inv;exact⟨l,rfl,by simpa using hm,hl⟩
section
variable (ρ:Env) (T:cw)
@[simp] theorem aIe (t:Nat):PE.ev ρ (.r t)=ρ.r t:=_root_.id rfl
@[simp] theorem aIb (t:Nat):PE.ev ρ (.o t)=ρ.o t:=_root_.id rfl
@[simp] theorem aHX (d:D):PE.ev ρ (.con d)=d:=_root_.id rfl
@[simp] theorem aHU (e:PE)(i:Nat):PE.ev ρ (.cell e i)=(PE.ev ρ e).c i:=_root_.id rfl
@[simp] theorem aIo (e:PE)(a n:Nat):PE.ev ρ (.sub e a n)=.agg (((PE.ev ρ e).cells.drop a).take n):=_root_.id rfl
@[simp] theorem aIh (e x:PE)(n:Nat):PE.ev ρ (.setc e n x)=.agg (eh (PE.ev ρ e).cells n (PE.ev ρ x).cells):=_root_.id rfl
@[simp] theorem aH4 (es:List PE):PE.ev ρ (.mk es)=.agg (PE.evc ρ es):=_root_.id rfl
@[simp] theorem aHP (op:BinOp)(k:IntKind)(x y:PE):PE.ev ρ (.ai op k x y)=.v (.int k (dk op k (PE.ev ρ x).i (PE.ev ρ y).i)):=_root_.id rfl
@[simp] theorem aHV (op:BinOp)(x y:PE):PE.ev ρ (.ci op x y)=.v (.bool (hZ op (PE.ev ρ x).i (PE.ev ρ y).i)):=_root_.id rfl
@[simp] theorem aHT (op:BinOp)(x y:PE):PE.ev ρ (.cb op x y)=.v (.bool (uY op (PE.ev ρ x).b (PE.ev ρ y).b)):=_root_.id rfl
@[simp] theorem aHZ (op:BinOp)(x y:PE):PE.ev ρ (.cs op x y)=.v (.bool (uZ op (PE.ev ρ x).s (PE.ev ρ y).s)):=_root_.id rfl
@[simp] theorem aH9 (x:PE):PE.ev ρ (.nt x)=.v (.bool (!(PE.ev ρ x).b)):=_root_.id rfl
@[simp] theorem aHY (k:IntKind)(x:PE):PE.ev ρ (.conv k x)=.v (.int k (k.wrap (PE.ev ρ x).i)):=_root_.id rfl
@[simp] theorem aIc (c a b:PE):PE.ev ρ (.pick c a b)=if(PE.ev ρ c).b=true then PE.ev ρ a else PE.ev ρ b:=by
  simp only[PE.ev];cases(PE.ev ρ c).b<;>rfl
@[simp] theorem aH5 (n:Nat)(e:PE):PE.ev ρ (aC n e)=j6 n (PE.ev ρ e):=apE ρ n e
@[simp] theorem aHS (x:PE):PE.ev ρ (.bytes x)=.list ((PE.ev ρ x).s.data.toList.map fun b=>.v (.int .u8 b.toNat)):=_root_.id rfl
@[simp] theorem aH2 (x:PE):PE.ev ρ (.llen x)=.v (.int .i64 (PE.ev ρ x).l.length):=_root_.id rfl
@[simp] theorem aIl (x:PE):PE.ev ρ (.slen x)=.v (.int .i64 (PE.ev ρ x).s.size):=_root_.id rfl
@[simp] theorem aH6 (x:PE):PE.ev ρ (.mlen x)=.v (.int .i64 (PE.ev ρ x).m.length):=_root_.id rfl
@[simp] theorem aIa (x i:PE):PE.ev ρ (.nth x i)=(PE.ev ρ x).l.getD (PE.ev ρ i).i.toNat .none:=_root_.id rfl
@[simp] theorem aH1 (x i:PE):PE.ev ρ (.idx x i)=.v (.bool (decide (0≤(PE.ev ρ i).i∧(PE.ev ρ i).i<(PE.ev ρ x).l.length))):=_root_.id rfl
@[simp] theorem aIi (x i y:PE)(n:Nat):PE.ev ρ (.setn x i n y)=.list ((PE.ev ρ x).l.set (PE.ev ρ i).i.toNat (uu ((PE.ev ρ x).l.getD (PE.ev ρ i).i.toNat .none) n (PE.ev ρ y))):=_root_.id rfl
@[simp] theorem aHR (x y:PE):PE.ev ρ (.app x y)=.list ((PE.ev ρ x).l++(PE.ev ρ y).l):=_root_.id rfl
@[simp] theorem aH3 (es:List PE):PE.ev ρ (.lst es)=.list (PE.evs ρ es):=_root_.id rfl
@[simp] theorem aIg (x y:PE):PE.ev ρ (.rep x y)=.list (List.replicate (PE.ev ρ x).i.toNat (PE.ev ρ y)):=_root_.id rfl
@[simp] theorem aIk (x a b:PE):PE.ev ρ (.slc x a b)=.list (((PE.ev ρ x).l.take (PE.ev ρ b).i.toNat).drop (PE.ev ρ a).i.toNat):=_root_.id rfl
@[simp] theorem aIm (x a b:PE):PE.ev ρ (.slok x a b)=.v (.bool (decide (0≤(PE.ev ρ a).i∧(PE.ev ρ a).i≤(PE.ev ρ b).i∧(PE.ev ρ b).i≤(PE.ev ρ x).l.length))):=_root_.id rfl
@[simp] theorem aIf (x:PE):PE.ev ρ (.ref x)=.ref (PE.ev ρ x):=_root_.id rfl
@[simp] theorem aH0 (x:PE):PE.ev ρ (.deref x)=(PE.ev ρ x).deref:=_root_.id rfl
@[simp] theorem aId (m k v:PE):PE.ev ρ (.put m k v)=.map (kC (PE.ev ρ k) (PE.ev ρ v) (PE.ev ρ m).m):=_root_.id rfl
@[simp] theorem aH7 (x y:PE):PE.ev ρ (.mn x y)=if(PE.ev ρ y).i<(PE.ev ρ x).i then PE.ev ρ y else PE.ev ρ x:=by
  simp only[PE.ev];by_cases h:(PE.ev ρ y).i<(PE.ev ρ x).i<;>simp[h]
@[simp] theorem aH8 (x y:PE):PE.ev ρ (.mx x y)=if(PE.ev ρ y).i>(PE.ev ρ x).i then PE.ev ρ y else PE.ev ρ x:=by
  simp only[PE.ev];by_cases h:(PE.ev ρ y).i>(PE.ev ρ x).i<;>simp[h]
@[simp] theorem aIq (es:List PE):PE.ev ρ (.tup es)=.tup (PE.evs ρ es):=_root_.id rfl
@[simp] theorem aIp (x:PE)(i:Nat):PE.ev ρ (.tget x i)=(PE.ev ρ x).tget i:=_root_.id rfl
@[simp] theorem aHW (f:Nat)(es:List PE):PE.ev ρ (.clo f es)=.clo f (PE.evs ρ es):=_root_.id rfl
@[simp] theorem aHQ (x y:PE):PE.ev ρ (.an x y)=.v (.bool ((PE.ev ρ x).b&&(PE.ev ρ y).b)):=_root_.id rfl
@[simp] theorem aIu:PE.evs ρ []=[]:=_root_.id rfl
@[simp] theorem aIt (e:PE)(es:List PE):PE.evs ρ (e::es)=PE.ev ρ e::PE.evs ρ es:=_root_.id rfl
@[simp] theorem aIs:PE.evc ρ []=[]:=_root_.id rfl
@[simp] theorem aIr (e:PE)(es:List PE):PE.evc ρ (e::es)=(PE.ev ρ e).cells++PE.evc ρ es:=_root_.id rfl
@[simp] theorem aoE (x:Bool):(D.bool x).b=x:=_root_.id rfl
@[simp] theorem aHK (k:IntKind)(n:Int):(D.v (.int k n)).i=n:=_root_.id rfl
@[simp] theorem aoG (n:Int):(D.int n).i=n:=_root_.id rfl
@[simp] theorem aHF (x:List D):(D.list x).l=x:=_root_.id rfl
@[simp] theorem aHD (l:List Int):(ints l).l=l.map .int:=_root_.id rfl
@[simp] theorem aHG (x:List (D×D)):(D.map x).m=x:=_root_.id rfl
@[simp] theorem aHu (x:List D)(i:Nat):(D.agg x).c i=x.getD i .none:=_root_.id rfl
@[simp] theorem aHv (x:List D):(D.agg x).cells=x:=_root_.id rfl
@[simp] theorem aHE (x:List D):(D.list x).cells=[.list x]:=_root_.id rfl
@[simp] theorem aHC (x:List Int):(ints x).cells=[ints x]:=_root_.id rfl
@[simp] theorem aHz (n:Int):(D.int n).cells=[.int n]:=_root_.id rfl
@[simp] theorem aHw (n:Bool):(D.bool n).cells=[.bool n]:=_root_.id rfl
@[simp] theorem aHJ (x:Value):(D.v x).cells=[.v x]:=_root_.id rfl
@[simp] theorem aHI (x:List D)(i:Nat):(D.tup x).tget i=x.getD i .none:=_root_.id rfl
@[simp] theorem aHH (x:D):(D.ref x).deref=x:=_root_.id rfl
@[simp] theorem aKA (s:SE)(t:Nat):(s.ev ρ).r t=PE.ev ρ (s.getR t):=_root_.id rfl
@[simp] theorem aKz (s:SE)(t:Nat):(s.ev ρ).o t=PE.ev ρ (s.getO t):=_root_.id rfl
@[simp] theorem aID (o:List (Nat×PE))(u:Nat):SE.getR ⟨[],o⟩ u=.r u:=_root_.id rfl
@[simp] theorem aIC (t:Nat)(e:PE)(r o:List (Nat×PE))(u:Nat):SE.getR ⟨(t,e)::r,o⟩ u=if t=u then e else SE.getR ⟨r,o⟩ u:=by
  simp only[SE.getR,ab];by_cases h:t=u
  ·subst h;simp
  ·simp[eu h,h]
@[simp] theorem aIB (r:List (Nat×PE))(u:Nat):SE.getO ⟨r,[]⟩ u=.o u:=_root_.id rfl
@[simp] theorem aIA (t:Nat)(e:PE)(r o:List (Nat×PE))(u:Nat):SE.getO ⟨r,(t,e)::o⟩ u=if t=u then e else SE.getO ⟨r,o⟩ u:=by
  simp only[SE.getO,ab];by_cases h:t=u
  ·subst h;simp
  ·simp[eu h,h]
@[simp] theorem setR_r (t u:Nat)(d:D):(ρ.setR t d).r u=if u=t then d else ρ.r u:=Env.setR_r ρ t u d
@[simp] theorem aKG (t u:Nat)(d:D):(ρ.setR t d).o u=ρ.o u:=_root_.id rfl
@[simp] theorem setO_o (t u:Nat)(d:D):(ρ.setO t d).o u=if u=t then d else ρ.o u:=Env.setO_o ρ t u d
@[simp] theorem aKF (t u:Nat)(d:D):(ρ.setO t d).r u=ρ.r u:=_root_.id rfl
@[simp] theorem aKn (lr lo:List Nat)(vr vo:List D)(u:Nat):(ρ.put lr vr lo vo).r u=putL ρ.r lr vr u:=_root_.id rfl
@[simp] theorem aKm (lr lo:List Nat)(vr vo:List D)(u:Nat):(ρ.put lr vr lo vo).o u=putL ρ.o lo vo u:=_root_.id rfl
@[simp] theorem join_r (ρ':Env)(lr lo:List Nat)(u:Nat):(ρ.join lr lo ρ').r u=if u∈lr then ρ'.r u else ρ.r u:=Env.join_r ρ ρ' lr lo u
@[simp] theorem join_o (ρ':Env)(lr lo:List Nat)(u:Nat):(ρ.join lr lo ρ').o u=if u∈lo then ρ'.o u else ρ.o u:=Env.join_o ρ ρ' lr lo u
@[simp] theorem aKk (f:Nat→D)(i:Nat)(is:List Nat)(x:D)(xs:List D)(u:Nat):putL f (i::is) (x::xs) u=if u=i then x else putL f is xs u:=LD f i is x xs u
@[simp] theorem aKl (f:Nat→D)(xs:List D)(u:Nat):putL f [] xs u=f u:=LF f xs u
@[simp] theorem aHM (ds:List D)(u:Nat):(j9 ds).r u=ds.getD u .none:=_root_.id rfl
@[simp] theorem aI7:holds [] ρ=true:=_root_.id rfl
@[simp] theorem aI6 (g:Nat×Bool)(gs:List (Nat×Bool)):holds (g::gs) ρ=((ρ.r g.1).b==g.2&&holds gs ρ):=_root_.id rfl
variable (Q:Out→Prop)
@[simp] theorem aLf (s:SE):aO T (.next s) ρ Q=Q (.next (s.ev ρ)):=_root_.id rfl
@[simp] theorem aLc (id:Nat)(s:SE):aO T (.exit id s) ρ Q=Q (.exit id (s.ev ρ)):=_root_.id rfl
@[simp] theorem aLg (e:PE):aO T (.ret e) ρ Q=Q (.ret (e.ev ρ)):=_root_.id rfl
@[simp] theorem aLb (e:PE)(k:PT):aO T (.chk e k) ρ Q=((e.ev ρ).b=true∧aO T k ρ Q):=_root_.id rfl
@[simp] theorem aLd (c:PE)(a b:PT):aO T (.ite c a b) ρ Q=if(c.ev ρ).b=true then aO T a ρ Q else aO T b ρ Q:=_root_.id rfl
@[simp] theorem aK9 (s:SE)(gs:List (Nat×Bool))(dst f:Nat)(args:List PE)(k:PT):aO T (.call s gs dst f args k) ρ Q=if holds gs (s.ev ρ)=true then ∃d,ak T f (PE.evs ρ args) d∧aO T k ((s.ev ρ).setR dst d) Q else aO T k (s.ev ρ) Q:=_root_.id rfl
@[simp] theorem aLe (s:SE)(c:PE)(lr lo:List Nat)(a b k:PT):aO T (.iteS s c lr lo a b k) ρ Q=if(c.ev ρ).b=true then aO T a (s.ev ρ) (ku (s.ev ρ) lr lo (gw (fun ρ'=>aO T k ρ' Q) Q)) else aO T b (s.ev ρ) (ku (s.ev ρ) lr lo (gw (fun ρ'=>aO T k ρ' Q) Q)):=_root_.id rfl
@[simp] theorem aK7 (s:SE)(id:Nat)(lr lo:List Nat)(a k:PT):aO T (.blockS s id lr lo a k) ρ Q=aO T a (s.ev ρ) (lD (s.ev ρ) id lr lo (gw (fun ρ'=>aO T k ρ' Q) Q)):=_root_.id rfl
@[simp] theorem aK8 (s:SE)(c:PC)(k:PT):aO T (.brk s c k) ρ Q=aY T c (s.ev ρ) (gw (fun ρ'=>aO T k ρ' Q) Q):=_root_.id rfl
variable (K:Env→Prop) (id:Nat) (lr lo bB bA:List Nat) (K2:List D→List D→Prop)
@[simp] theorem aKD (ρ':Env):gw K Q (.next ρ')=K ρ':=_root_.id rfl
@[simp] theorem aKC (i:Nat)(ρ':Env):gw K Q (.exit i ρ')=Q (.exit i ρ'):=_root_.id rfl
@[simp] theorem aKE (d:D):gw K Q (.ret d)=Q (.ret d):=_root_.id rfl
@[simp] theorem aJq (ρ':Env):ku ρ lr lo Q (.next ρ')=Q (.next (ρ.join lr lo ρ')):=_root_.id rfl
@[simp] theorem aJr (d:D):ku ρ lr lo Q (.ret d)=Q (.ret d):=_root_.id rfl
@[simp] theorem aHc (ρ':Env):lD ρ id lr lo Q (.next ρ')=Q (.next (ρ.join lr lo ρ')):=_root_.id rfl
@[simp] theorem aHb (i:Nat)(ρ':Env):lD ρ id lr lo Q (.exit i ρ')=if i=id then Q (.next (ρ.join lr lo ρ')) else Q (.exit i ρ'):=_root_.id rfl
@[simp] theorem aHd (d:D):lD ρ id lr lo Q (.ret d)=Q (.ret d):=_root_.id rfl
@[simp] theorem aKw (ρ':Env):eL ρ id bB bA lr lo K2 Q (.next ρ')=K2 (lr.map ρ'.r) (lo.map ρ'.o):=_root_.id rfl
@[simp] theorem aKv (i:Nat)(ρ':Env):eL ρ id bB bA lr lo K2 Q (.exit i ρ')=if i=id then Q (.next (ρ.put bB (bB.map ρ'.r) bA (bA.map ρ'.o))) else Q (.exit i ρ'):=_root_.id rfl
@[simp] theorem aKx (d:D):eL ρ id bB bA lr lo K2 Q (.ret d)=Q (.ret d):=_root_.id rfl
@[simp] theorem aLa (s:SE)(gs:List (Nat×Bool))(dst:Nat)(e:PE)(args:List PE)(k:PT):aO T (.callc s gs dst e args k) ρ Q=if holds gs (s.ev ρ)=true then ∃f caps d,e.ev ρ=.clo f caps∧ak T f (PE.evs ρ args++caps) d∧aO T k ((s.ev ρ).setR dst d) Q else aO T k (s.ev ρ) Q:=_root_.id rfl
@[simp] theorem aHL (rt:Option PE)(K3:List D→Prop)(i:Nat)(ρ':Env):sU ρ lo rt K3 Q (.exit i ρ')=if i=cE then ∃e,rt=some e∧Q (.ret (e.ev (ρ.put [] [] lo (lo.map ρ'.o)))) else Q (.exit i (ρ.put [] [] lo (lo.map ρ'.o))):=_root_.id rfl
@[simp] theorem aHN (J:Nat)(ds:List D)(u:Nat):(xM J ds).r u=(D.none::ds).getD u .none:=_root_.id rfl
theorem apB (J:Nat)(ds:List D)(u:Nat):(xM J ds).o u=if u=J then .list [] else .none:=by
 show(bif Nat.beq u J then D.list [] else .none)=_;by_cases h:u=J
 ·subst h;simp
 ·simp[eu h,h]
@[simp] theorem aKi (p:Nat)(x:D):partsOf [p] x=[x.tget 0]:=_root_.id rfl
end
section
variable (k:IntKind) (a b:Int)
@[simp] theorem aG4:dk .add k a b=k.wrap (a+b):=_root_.id rfl
@[simp] theorem aG8:dk .sub k a b=k.wrap (a-b):=_root_.id rfl
@[simp] theorem aG5:dk .mul k a b=k.wrap (a*b):=_root_.id rfl
@[simp] theorem aG6:dk .quo k a b=k.wrap (a.tdiv b):=_root_.id rfl
@[simp] theorem aG7:dk .rem k a b=a.tmod b:=_root_.id rfl
@[simp] theorem aHm:hZ .eql a b=(a==b):=_root_.id rfl
@[simp] theorem aHr:hZ .neq a b=(a !=b):=_root_.id rfl
@[simp] theorem aHq:hZ .lss a b=decide (a<b):=_root_.id rfl
@[simp] theorem aHp:hZ .leq a b=decide (a≤b):=_root_.id rfl
@[simp] theorem aHo:hZ .gtr a b=decide (a>b):=_root_.id rfl
@[simp] theorem aHn:hZ .geq a b=decide (a≥b):=_root_.id rfl
variable (x y:Bool)
@[simp] theorem aHf:uY .eql x y=(x==y):=_root_.id rfl
@[simp] theorem aHg:uY .neq x y=(!(x==y)):=_root_.id rfl
end
theorem ak.of_tree {tab:Nat→Option PC}{ext:Nat→Option (aT→List D→Option D)}{f:Nat}{pc:PC}{t:PT}{ds:List D}{d:D}(hx:ext f=none)(ht:tab f=some pc)(he:tree pc=t)(h:aO (cH tab ext) t (j9 ds) (fun x=>x=.ret d)):ak (cH tab ext) f ds d:=
 .of_pc hx ht (MQ (he▸h))
@[simp] theorem aHB (n:Int):D.v (.int .i64 n)=D.int n:=_root_.id rfl
@[simp] theorem aHy (b:Bool):D.v (.bool b)=D.bool b:=_root_.id rfl
@[simp] theorem aHA (a b:Int):(D.int a=D.int b)=(a=b):=by
  apply propext;constructor
  ·intro h;injection h with h;injection h
  ·intro h;rw[h]
@[simp] theorem aHx (a b:Bool):(D.bool a=D.bool b)=(a=b):=by
  apply propext;constructor
  ·intro h;injection h with h;injection h
  ·intro h;rw[h]
section
variable (c:Prop) [Decidable c] (x y:D)
@[simp] theorem aJo:(if c then x else y).b=if c then x.b else y.b:=by split<;>rfl
@[simp] theorem aJp:(if c then x else y).i=if c then x.i else y.i:=by split<;>rfl
end
@[simp] theorem aLh:IntKind.i64.wrap 0=0:=bF (by omega)
end Cx
namespace Cx
open Go
inductive Tm where
 |mk (op n:Int) (args:List Tm)
instance:Inhabited Tm:=⟨.mk 0 0 []⟩
namespace Tm
def op:Tm→Int|.mk o _ _=>o
def n:Tm→Int|.mk _ n _=>n
def args:Tm→List Tm|.mk _ _ aa=>aa
end Tm
mutual
def dF:Tm→D
 |.mk o n aa=>.agg [.int o,.int n,.list (Hp aa)]
def Hp:List Tm→List D
 |[]=>[]
 |t::ts=>dF t::Hp ts
end
theorem Oy:∀l:List Tm,Hp l=l.map dF
 |[]=>rfl
 |t::l=>by rw[Hp,Oy l];rfl
theorem Ce (t:Tm):dF t=.agg [.int t.op,.int t.n,.list (t.args.map dF)]:=by
 cases t with
 |mk o n aa=>rw[dF,Oy];rfl
inductive Tm.OK:Tm→Prop where
 |mk (o n:Int) (aa:List Tm) (h1:bj o) (h2:bj n) (h3:aa.length≤maxLen) (h:∀a,a∈aa→Tm.OK a):Tm.OK (.mk o n aa)
theorem DTy.trm_inv {d:D}(h:DTy .trmA d):∃t:Tm,d=dF t∧t.OK:=by
 suffices hs:∀(m:Nat) (d:D),sizeOf d≤m→DTy .trmA d→∃t:Tm,d=dF t∧t.OK from hs _ d (bk _) h
 intro m
 induction m with
 |zero=>
  intro d hm h;cases d<;>simp at hm
 |succ m ih=>
  intro d hm h;obtain⟨ds,rfl,hs⟩:=DTy.agg_inv h;obtain⟨d1,ds,rfl,h1,hs⟩:=hs.cons_inv;obtain⟨d2,ds,rfl,h2,hs⟩:=hs.cons_inv;obtain⟨d3,ds,rfl,h3,hs⟩:=hs.cons_inv;obtain rfl:=hs.nil_inv;obtain⟨o,rfl,b1⟩:=h1.i64_inv;obtain⟨n,rfl,b2⟩:=h2.i64_inv;obtain⟨xs,rfl,hl,hx⟩:=h3.slice_inv
  obtain⟨l,rfl,aE⟩:=jV (enc:=dF) (P:=Tm.OK) fun x hh=>ih x (by
   have:=List.sizeOf_lt_of_mem hh;simp at hm;omega) (hx x hh)
  exact⟨.mk o n l,by rw[dF,Oy],.mk o n l b1 b2 (by simpa using hl) aE⟩
theorem DTy.trms_inv {d:D}(h:DTy (.slice .trm) d):∃l:List Tm,d=.list (l.map dF)∧l.length≤maxLen∧∀t,t∈l→t.OK:=by
 obtain⟨xs,rfl,hl,hx⟩:=h.slice_inv;obtain⟨l,rfl,aE⟩:=jV (enc:=dF) (P:=Tm.OK) fun x hh=>DTy.trm_inv (hx x hh);exact⟨l,rfl,by simpa using hl,aE⟩
end Cx
namespace Cx
open Go
def UE (g:Nat)(zs:List Int):Nat→Option (Ty×D):=fun k=>bif Nat.beq k g then some (.agg (zs.map fun _=>.int .i64),.agg (zs.map fun z=>.v (.int .i64 z))) else none
theorem aBC {C:Ctx}{g:Nat}{zs:List Int}{name:String}{W:World}(hC:C.glob=UE g zs)(hg:C.P.globalNamed name=some g)(hz:zs.all (fun z=>decide (IntKind.i64.min≤z)&&decide (z≤IntKind.i64.max))=true)
 (h:Lib.TabIs C.P W name .i64 zs):CtxOK C (mG W):=by
 refine⟨fun k x hx=>?_⟩;rw[hC] at hx;unfold UE at hx;cases hk:Nat.beq k g<;>simp only[hk,cond_true,cond_false] at hx
 ·cases hx
 cases hx;obtain rfl:=aL hk
 have Dk:Rep C.cap (mG W) (.agg (zs.map fun _=>.int .i64)) (.agg (zs.map fun z=>Value.int .i64 z).toArray) (.agg (zs.map fun z=>.v (.int .i64 z))):=by
  refine .agg _ _ _ (by simp) (by simp) (fun i t ht=>?_) (fun i t ht=>?_)
  ·rw[cU,aH] at ht;obtain⟨z,vQ,rfl⟩:=ht;rw[aS,aS,cU,cU,vQ];have:=bL.1 hz z (mg vQ);simp only[ar,decide_eq_true_eq] at this;exact .int _ _ this.1 this.2
  ·rw[cU,aH] at ht;obtain⟨z,_,rfl⟩:=ht;rfl
 refine .ref _ k 0 _ _ Dk fun j u hu=>?_;simp only[Value.cells,FK,cU,aH] at hu;obtain⟨z,vQ,rfl⟩:=hu;have ah:=(fi.1 vQ).1;have:=h.cell hg j ah;show W.cell? ⟨k,0+j,none⟩=_;rw[lC,this,aS,vQ];rfl
end Cx
namespace Cx
open Go Go.RowKit
def loops:PC→List PC
 |.seq a b=>loops a++loops b
 |.ite _ _ _ a b=>loops a++loops b
 |.block id lr lo (.loop Ri Rd a)=>loops a++[.block id lr lo (.loop Ri Rd a)]
 |.block _ _ _ a=>loops a
 |.loop _ _ a=>loops a
 |.each e ps lo rt a=>loops a++[.each e ps lo rt a]
 |.meach J ps cF lo a=>loops a++[.meach J ps cF lo a]
 |_=>[]
def N4:PC→PC
 |.block _ _ _ (.loop _ _ a)=>a
 |.each _ _ _ _ a=>a
 |.meach _ _ _ _ a=>a
 |_=>.skip
def II (c:PC)(k:Nat):PC:=(loops c).getD k .skip
def rnd:PC→PT
 |.block id lr lo (.loop Ri Rd a)=>round id lr lo Ri Rd a
 |.each _ _ lo _ a=>pE lo a
 |.meach _ _ _ lo a=>pE lo a
 |_=>.next .id
inductive Shp where
 |lp (id:Nat) (bB bA lr lo:List Nat)
 |ea (lo:List Nat)
 |no
def zS:PC→Shp
 |.block id bB bA (.loop lr lo _)=>.lp id bB bA lr lo
 |.each _ _ lo _ _=>.ea lo
 |.meach _ _ _ lo _=>.ea lo
 |_=>.no
def told (c:PC):PT×List (Shp×PT):=(tree c,(loops c).map fun l=>(zS l,rnd l))
theorem MH {o:Option PC}{t:PT}{l:List (Shp×PT)}(h:o.map told=some (t,l)):o=some (o.getD .skip)∧tree (o.getD .skip)=t∧∀k x,l[k]?=some x→(zS (II (o.getD .skip) k),rnd (II (o.getD .skip) k))=x:=by
 cases o with
 |none=>cases h
 |some c=>
  have h1:told c=(t,l):=by injection h
  unfold told at h1;injection h1 with h1 h2
  refine⟨rfl,h1,fun k x hx=>?_⟩;subst h2;simp only[cU,aH] at hx;obtain⟨y,hy,rfl⟩:=hx;have:II ((some c:Option PC).getD .skip) k=y:=by
   show(loops c).getD k .skip=y;rw[aS,hy];rfl
  rw[this]
theorem aAA {c:PC}{id:Nat}{bB bA lr lo:List Nat}{t:PT}(h:(zS c,rnd c)=(.lp id bB bA lr lo,t)):round id bB bA lr lo (N4 c)=t:=by
 injection h with h1 h2
 subst h2;unfold zS at h1;split at h1
 ·cases h1;rfl
 all_goals cases h1
theorem apn {c:PC}{lo:List Nat}{t:PT}(h:(zS c,rnd c)=(.ea lo,t)):pE lo (N4 c)=t:=by
 injection h with h1 h2
 subst h2;unfold zS at h1;split at h1
 ·cases h1
 ·cases h1;rfl
 ·cases h1;rfl
 ·cases h1
noncomputable def cB {α:Type}(x:α):α:=Classical.choose (⟨x,rfl⟩:∃y,y=x)
theorem CT {α:Type}(x:α):cB x=x:=Classical.choose_spec (⟨x,rfl⟩:∃y,y=x)
noncomputable def ay (o:Option PC):Nat→PC:=fun k=>N4 (II (o.getD .skip) k)
noncomputable abbrev az (o:Option PC):PC:=cB (o.getD .skip)
noncomputable abbrev bG (o:Option PC):Nat→PC:=cB (ay o)
section
variable {o:Option PC} {F:(Nat→PC)→PT×List (Shp×PT)}
theorem aF (h:o.map told=some (F (ay o))):o=some (az o):=by unfold az;rw[CT];exact(MH (t:=(F (ay o)).1) (l:=(F (ay o)).2) h).1
theorem aN (h:o.map told=some (F (ay o))):tree (az o)=(F (bG o)).1:=by unfold az bG;rw[CT,CT];exact(MH (t:=(F (ay o)).1) (l:=(F (ay o)).2) h).2.1
theorem bx (h:o.map told=some (F (ay o)))(k:Nat){id:Nat}{bB bA lr lo:List Nat}{t:(Nat→PC)→PT}(hk:∀b,(F b).2[k]?=some (.lp id bB bA lr lo,t b)):round id bB bA lr lo (bG o k)=t (bG o):=by
 unfold bG;rw[CT];exact aAA ((MH (t:=(F (ay o)).1) (l:=(F (ay o)).2) h).2.2 k _ (hk _))
theorem UK (h:o.map told=some (F (ay o)))(k:Nat){lo:List Nat}{t:(Nat→PC)→PT}(hk:∀b,(F b).2[k]?=some (.ea lo,t b)):pE lo (bG o k)=t (bG o):=by
 unfold bG;rw[CT];exact apn ((MH (t:=(F (ay o)).1) (l:=(F (ay o)).2) h).2.2 k _ (hk _))
end
theorem aG {α:Type}{R:Nat→α→Prop}{f:Nat}{x:α}{l:List (Nat×α)}(h:R f x)(k:FC R l):FC R ((f,x)::l):=⟨h,k⟩
theorem aI {α:Type}:∀{l:List (Nat×α)},(l.map (·.1)).Nodup→∀{k f:Nat} {x:α},l[k]?=some (f,x)→ab l f=some x
 |[],_,k,f,x,h=>by simp at h
 |y::l,hn,0,f,x,h=>by
  simp only[M4,bf] at h;subst h;simp[ab]
 |y::l,hn,k+1,f,x,h=>by
  simp only[Xw] at h;rw[gE,m8] at hn;have hm:f∈l.map (·.1):=dx.2 ⟨(f,x),mg h,rfl⟩;have hb:Nat.beq y.1 f=false:=by
   cases e:Nat.beq y.1 f with
   |false=>rfl
   |true=>rw[cK e] at hn;exact absurd hm hn.1
  simp only[ab,hb,cond_false];exact aI hn.2 h
abbrev pT:PE:=.con (.bool true)
abbrev pF:PE:=.con (.bool false)
abbrev pN:PE:=.con .none
abbrev pL:PE:=.con (.list [])
abbrev pi (n:Int):PE:=.con (.int n)
abbrev aP (a b:PE):PE:=.ai .add .i64 a b
abbrev bC (a b:PE):PE:=.ai .sub .i64 a b
abbrev aq (a b:PE):PE:=.ci .eql a b
abbrev ba (a b:PE):PE:=.ci .neq a b
abbrev aj (a b:PE):PE:=.ci .lss a b
abbrev bV (a b:PE):PE:=.ci .leq a b
abbrev bh (a b:PE):PE:=.ci .gtr a b
abbrev bR (a b:PE):PE:=.ci .geq a b
abbrev pc (a:PE)(i:Nat):PE:=.cell a i
abbrev pn (a b:PE):PE:=.nth a b
abbrev av (a b:PE):PE:=.idx a b
abbrev z2:PE:=.con (.agg [(.int 0),(.int 0)])
abbrev z3:PE:=.con (.agg [(.int 0),(.int 0),(.int 0)])
abbrev z4:PE:=.con (.agg [(.int 0),(.int 0),(.int 0),(.int 0)])
abbrev z5:PE:=.con (.agg [(.int 0),(.int 0),(.int 0),(.int 0),(.int 0)])
abbrev z6:PE:=.con (.agg [(.int 0),(.int 0),(.int 0),(.int 0),(.int 0),(.int 0)])
abbrev z9:PE:=.con (.agg [(.int 0),(.int 0),(.int 0),(.int 0),(.int 0),(.int 0),(.int 0),(.int 0),(.int 0)])
abbrev FB:PE:=.con (.agg [(.int 0),(.int 0),(.int 0),(.int 0),(.int 0),(.int 0),(.int 0),(.int 0),(.int 0),(.int 0),(.int 0),(.int 0),(.int 0),(.int 0),(.int 0)])
abbrev r0:PE:=.r 0
abbrev r1:PE:=.r 1
abbrev r2:PE:=.r 2
abbrev r3:PE:=.r 3
abbrev r4:PE:=.r 4
abbrev r5:PE:=.r 5
abbrev r6:PE:=.r 6
abbrev r7:PE:=.r 7
abbrev r8:PE:=.r 8
abbrev r9:PE:=.r 9
abbrev cT:PE:=.r 10
abbrev bD:PE:=.r 11
abbrev bY:PE:=.r 12
abbrev dL:PE:=.r 13
abbrev dv:PE:=.r 14
abbrev gg:PE:=.r 15
abbrev dM:PE:=.r 16
abbrev kF:PE:=.r 17
abbrev gT:PE:=.r 18
abbrev gr:PE:=.r 19
abbrev ed:PE:=.r 20
abbrev lV:PE:=.r 21
abbrev zx:PE:=.r 22
abbrev jy:PE:=.r 23
abbrev nU:PE:=.r 24
abbrev iZ:PE:=.r 25
abbrev ld:PE:=.r 26
abbrev eK:PE:=.r 27
abbrev qI:PE:=.r 28
abbrev nV:PE:=.r 29
abbrev tZ:PE:=.r 30
abbrev qJ:PE:=.r 31
abbrev Ed:PE:=.r 32
abbrev sm:PE:=.r 33
abbrev r34:PE:=.r 34
abbrev wG:PE:=.r 35
abbrev kG:PE:=.r 36
abbrev kH:PE:=.r 37
abbrev iv:PE:=.r 38
abbrev Ee:PE:=.r 39
abbrev nW:PE:=.r 40
abbrev qK:PE:=.r 41
abbrev r42:PE:=.r 42
abbrev qL:PE:=.r 43
abbrev ua:PE:=.r 44
abbrev py:PE:=.r 45
abbrev ub:PE:=.r 46
abbrev Tk:PE:=.r 47
abbrev lW:PE:=.r 48
abbrev mU:PE:=.r 49
abbrev lX:PE:=.r 50
abbrev lf:PE:=.r 51
abbrev LV:PE:=.r 52
abbrev r53:PE:=.r 53
abbrev pz:PE:=.r 54
abbrev zy:PE:=.r 55
abbrev nX:PE:=.r 56
abbrev Ef:PE:=.r 57
abbrev zz:PE:=.r 58
abbrev Tl:PE:=.r 59
abbrev Eg:PE:=.r 60
abbrev wH:PE:=.r 61
abbrev mV:PE:=.r 62
abbrev LW:PE:=.r 63
abbrev kI:PE:=.r 64
abbrev zA:PE:=.r 65
abbrev LX:PE:=.r 66
abbrev uc:PE:=.r 67
abbrev r68:PE:=.r 68
abbrev sq:PE:=.r 69
abbrev Tn:PE:=.r 70
abbrev r71:PE:=.r 71
abbrev ud:PE:=.r 72
abbrev Eh:PE:=.r 73
abbrev Ei:PE:=.r 74
abbrev zB:PE:=.r 75
abbrev pA:PE:=.r 76
abbrev LY:PE:=.r 77
abbrev To:PE:=.r 78
abbrev r79:PE:=.r 79
abbrev wI:PE:=.r 80
abbrev sr:PE:=.r 81
abbrev kJ:PE:=.r 82
abbrev r84:PE:=.r 84
abbrev zC:PE:=.r 85
abbrev r86:PE:=.r 86
abbrev r87:PE:=.r 87
abbrev LZ:PE:=.r 88
abbrev Tp:PE:=.r 89
abbrev Tq:PE:=.r 90
abbrev r91:PE:=.r 91
abbrev zD:PE:=.r 92
abbrev zE:PE:=.r 93
abbrev r94:PE:=.r 94
abbrev r95:PE:=.r 95
abbrev Tr:PE:=.r 96
abbrev r97:PE:=.r 97
abbrev Ts:PE:=.r 98
abbrev qM:PE:=.r 99
abbrev aKo:PE:=.r 101
abbrev Tf:PE:=.r 102
abbrev LS:PE:=.r 103
abbrev Tg:PE:=.r 104
abbrev agx:PE:=.r 105
abbrev Th:PE:=.r 106
abbrev aAj:PE:=.r 107
abbrev Ti:PE:=.r 108
abbrev aAk:PE:=.r 109
abbrev aKp:PE:=.r 110
abbrev Tj:PE:=.r 112
abbrev aKq:PE:=.r 113
abbrev aKr:PE:=.r 119
abbrev aKs:PE:=.r 120
abbrev aAl:PE:=.r 121
abbrev aKt:PE:=.r 126
abbrev aAm:PE:=.r 127
abbrev o0:PE:=.o 0
abbrev o1:PE:=.o 1
abbrev o2:PE:=.o 2
abbrev o3:PE:=.o 3
abbrev o4:PE:=.o 4
abbrev o5:PE:=.o 5
abbrev o6:PE:=.o 6
abbrev o7:PE:=.o 7
abbrev o8:PE:=.o 8
abbrev o9:PE:=.o 9
abbrev ct:PE:=.o 10
abbrev o11:PE:=.o 11
abbrev o12:PE:=.o 12
abbrev RS:PE:=.o 13
abbrev jv:PE:=.o 14
abbrev o15:PE:=.o 15
abbrev o16:PE:=.o 16
abbrev o17:PE:=.o 17
abbrev o19:PE:=.o 19
abbrev o20:PE:=.o 20
abbrev o21:PE:=.o 21
abbrev o22:PE:=.o 22
abbrev I3:PE:=.o 45
end Cx
