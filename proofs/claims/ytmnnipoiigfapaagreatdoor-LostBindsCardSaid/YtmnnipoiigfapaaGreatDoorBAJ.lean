/-
  Shared texts of this claim.
-/
import Derived.Test.YtmnnipoiigfapaaGreatDoorBAI
import Derived.Lib.LaidTab
set_option linter.unusedSimpArgs false
set_option linter.unusedVariables false
noncomputable section
namespace Cx
open Go Go.RowKit
structure SE where
 r:List (Nat×PE)
 o:List (Nat×PE)
def SE.getR (s:SE)(t:Nat):PE:=match bI s.r t with|some e=>e|none=>.r t
def SE.getO (s:SE)(t:Nat):PE:=match bI s.o t with|some e=>e|none=>.o t
def SE.setR (s:SE)(t:Nat)(e:PE):SE:=⟨(t,e)::s.r,s.o⟩
def SE.setO (s:SE)(t:Nat)(e:PE):SE:=⟨s.r,(t,e)::s.o⟩
def SE.id:SE:=⟨[],[]⟩
def SE.ev (s:SE)(ρ:Env):Env:=⟨fun t=>(s.getR t).ev ρ,fun t=>(s.getO t).ev ρ⟩
def SE.join (s:SE)(lr lo:List Nat)(s':SE):SE:=⟨lr.map (fun t=>(t,s'.getR t))++s.r,lo.map (fun t=>(t,s'.getO t))++s.o⟩
theorem SE.setR_ev (s:SE)(t:Nat)(e:PE)(ρ:Env):(s.setR t e).ev ρ=(s.ev ρ).setR t (e.ev ρ):=by
 have h:(fun u=>((s.setR t e).getR u).ev ρ)=bV (fun u=>(s.getR u).ev ρ) t (e.ev ρ):=by
  funext u;simp only[SE.getR,SE.setR,bI,eZ];by_cases h:t=u
  ·subst h;simp
  ·have h':¬u=t:=fun e=>h e.symm;simp[ew h,h']
 simp only[SE.ev,Env.setR];rw[h];rfl
theorem SE.setO_ev (s:SE)(t:Nat)(e:PE)(ρ:Env):(s.setO t e).ev ρ=(s.ev ρ).setO t (e.ev ρ):=by
 have h:(fun u=>((s.setO t e).getO u).ev ρ)=bV (fun u=>(s.getO u).ev ρ) t (e.ev ρ):=by
  funext u;simp only[SE.getO,SE.setO,bI,eZ];by_cases h:t=u
  ·subst h;simp
  ·have h':¬u=t:=fun e=>h e.symm;simp[ew h,h']
 simp only[SE.ev,Env.setO];rw[h];rfl
theorem xE {f:Nat→PE}{l:List (Nat×PE)}{u:Nat}:∀(lr:List Nat),bI (lr.map (fun t=>(t,f t))++l) u=if u∈lr then some (f u) else bI l u
 |[]=>by simp
 |t::lr=>by
  simp only[gU,GY,bI,xE lr,cC];by_cases h:t=u
  ·subst h;simp
  ·have h':¬u=t:=fun e=>h e.symm;simp[ew h,h']
theorem SE.join_ev (s s':SE)(lr lo:List Nat)(ρ:Env):(s.join lr lo s').ev ρ=(s.ev ρ).join lr lo (s'.ev ρ):=by
 have h1:∀u,((s.join lr lo s').getR u).ev ρ=((s.ev ρ).join lr lo (s'.ev ρ)).r u:=by
  intro u;rw[Env.join_r];have e:bI (s.join lr lo s').r u=if u∈lr then some (s'.getR u) else bI s.r u:=xE lr;unfold SE.getR;rw[e];by_cases h:u∈lr
  ·simp only[h,if_true];rfl
  ·simp only[h,if_false];rfl
 have h2:∀u,((s.join lr lo s').getO u).ev ρ=((s.ev ρ).join lr lo (s'.ev ρ)).o u:=by
  intro u;rw[Env.join_o];have e:bI (s.join lr lo s').o u=if u∈lo then some (s'.getO u) else bI s.o u:=xE lo;unfold SE.getO;rw[e];by_cases h:u∈lo
  ·simp only[h,if_true];rfl
  ·simp only[h,if_false];rfl
 have e1:(fun u=>((s.join lr lo s').getR u).ev ρ)=((s.ev ρ).join lr lo (s'.ev ρ)).r:=funext h1;have e2:(fun u=>((s.join lr lo s').getO u).ev ρ)=((s.ev ρ).join lr lo (s'.ev ρ)).o:=funext h2;show Env.mk _ _=_;rw[e1,e2]
abbrev bX:=List (PE×Bool)
def bX.ok (ae:bX)(ρ:Env):Prop:=∀x,x∈ae→(x.1.ev ρ).b=x.2
def He (e:PE):bX→Option Bool
 |[]=>none
 |x::l=>bif PE.beq x.1 e then some x.2 else He e l
theorem Xk {e:PE}{ρ:Env}{b:Bool}:∀{ae:bX},ae.ok ρ→He e ae=some b→(e.ev ρ).b=b
 |[],_,h=>by cases h
 |x::l,aD,h=>by
  simp only[He] at h;cases hb:PE.beq x.1 e<;>simp only[hb,cond_true,cond_false] at h
  ·exact Xk (fun y hy=>aD y (di _ hy)) h
  ·cases h;rw[←PE.beq_eq _ _ hb];exact aD x (du ..)
def vU (ae:bX):PE→Option Bool
 |.con (.v (.bool b))=>some b
 |.nt x=>(vU ae x).map (!·)
 |e=>He e ae
theorem yB {ae:bX}{ρ:Env}(h:ae.ok ρ):∀{e:PE} {b:Bool},vU ae e=some b→(e.ev ρ).b=b
 |.con (.v (.bool b)),b',he=>by simp only[vU,aT] at he;subst he;rfl
 |.nt x,b',he=>by
  simp only[vU,aC] at he;obtain⟨c,hc,rfl⟩:=he;simp only[PE.ev,D.b_bool,yB h hc]
 |e,b',he=>by
  unfold vU at he;split at he
  ·cases he;rfl
  ·rename_i x;simp only[aC] at he;obtain⟨c,hc,rfl⟩:=he;simp only[PE.ev,D.b_bool,yB h hc]
  ·exact Xk h he
def tQ (ae:bX)(c a b:PE):PE:=match vU ae c with|some true=>a|some false=>b|none=>.pick c a b
theorem RA {ae:bX}{ρ:Env}(h:ae.ok ρ)(c a b:PE):(tQ ae c a b).ev ρ=(PE.pick c a b).ev ρ:=by
 unfold tQ;split
 ·rename_i ht;simp[PE.ev,yB h ht]
 ·rename_i ht;simp[PE.ev,yB h ht]
 ·rfl
def N0:PE→PE
 |.ref x=>x
 |x=>.deref x
theorem aid (x:PE)(ρ:Env):(N0 x).ev ρ=(PE.deref x).ev ρ:=by unfold N0;split<;>rfl
def TN:PE→Nat→PE
 |.tup es,i=>es.getD i (.con .none)
 |x,i=>.tget x i
theorem at0 (x:PE)(i:Nat)(ρ:Env):(TN x i).ev ρ=(PE.tget x i).ev ρ:=by
 unfold TN;split
 ·rename_i es;simp only[PE.ev,D.tget_tup,PE.evs_eq,aJ,cB];cases es[i]?<;>rfl
 ·rfl
def E1:PE→Bool
 |.ai ..|.ci ..|.cb ..|.cs ..|.sadd ..|.nt _|.conv ..|.llen _|.bytes _|.slen _|.mlen _|.idx ..|.sidx ..|.sok ..|.slok ..|.lst _|.app ..|.setn ..|.rep ..|.slc ..|.ref _|.has ..|.put ..|.an ..|.imp ..|.tup _|.clo ..=>true
 |.con (.v _)|.con (.list _)|.con (.map _)=>true
 |_=>false
theorem aqS {e:PE}(h:E1 e=true)(ρ:Env):(e.ev ρ).cells=[e.ev ρ]:=by
 unfold E1 at h;split at h<;>first|rfl|cases h
def NO:PE→Nat→PE
 |.mk es,i=>bif es.all E1 then es.getD i (.con .none) else .cell (.mk es) i
 |x,i=>.cell x i
theorem Yi {ρ:Env}:∀{es:List PE},es.all E1=true→PE.evc ρ es=PE.evs ρ es
 |[],_=>rfl
 |e::es,h=>by
  simp only[qV,aq] at h;simp only[PE.evc,PE.evs,aqS h.1,Yi h.2];rfl
theorem ahv (x:PE)(i:Nat)(ρ:Env):(NO x i).ev ρ=(PE.cell x i).ev ρ:=by
 unfold NO;split
 ·rename_i es;cases hc:es.all E1
  ·rfl
  ·simp only[cond_true,PE.ev,Yi hc,D.c_agg,PE.evs_eq,aJ,cB];cases es[i]?<;>rfl
 ·rfl
def DN (s:SE):List (Nat×Bool)→PE
 |[]=>.con (.v (.bool true))
 |g::gs=>.an (bif g.2 then s.getR g.1 else .nt (s.getR g.1)) (DN s gs)
theorem YI (s:SE)(ρ:Env):∀gs,((DN s gs).ev ρ).b=holds gs (s.ev ρ)
 |[]=>rfl
 |g::gs=>by
  have ih:=YI s ρ gs;rw[am0,←ih];have e:((s.ev ρ).r g.1)=(s.getR g.1).ev ρ:=rfl;rw[e];cases hg:g.2
  ·simp only[DN,hg,cond_false,PE.ev,D.b_bool];cases((s.getR g.1).ev ρ).b<;>rfl
  ·simp only[DN,hg,cond_true,PE.ev,D.b_bool];cases((s.getR g.1).ev ρ).b<;>rfl
mutual
def PE.sub' (ae:bX)(s:SE):PE→PE
 |.r t=>s.getR t
 |.o j=>s.getO j
 |.con d=>.con d
 |.cell e i=>NO (PE.sub' ae s e) i
 |.sub e a b=>.sub (PE.sub' ae s e) a b
 |.setc e q x=>.setc (PE.sub' ae s e) q (PE.sub' ae s x)
 |.mk es=>.mk (PE.subs' ae s es)
 |.ai op k x y=>.ai op k (PE.sub' ae s x) (PE.sub' ae s y)
 |.ci op x y=>.ci op (PE.sub' ae s x) (PE.sub' ae s y)
 |.cb op x y=>.cb op (PE.sub' ae s x) (PE.sub' ae s y)
 |.cs op x y=>.cs op (PE.sub' ae s x) (PE.sub' ae s y)
 |.sadd x y=>.sadd (PE.sub' ae s x) (PE.sub' ae s y)
 |.nt x=>.nt (PE.sub' ae s x)
 |.conv k x=>.conv k (PE.sub' ae s x)
 |.pick c a b=>tQ ae (PE.sub' ae s c) (PE.sub' ae s a) (PE.sub' ae s b)
 |.llen x=>.llen (PE.sub' ae s x)
 |.bytes x=>.bytes (PE.sub' ae s x)
 |.slen x=>.slen (PE.sub' ae s x)
 |.mlen x=>.mlen (PE.sub' ae s x)
 |.nth x y=>.nth (PE.sub' ae s x) (PE.sub' ae s y)
 |.idx x y=>.idx (PE.sub' ae s x) (PE.sub' ae s y)
 |.sidx x y=>.sidx (PE.sub' ae s x) (PE.sub' ae s y)
 |.sok x y=>.sok (PE.sub' ae s x) (PE.sub' ae s y)
 |.setn x y n z=>.setn (PE.sub' ae s x) (PE.sub' ae s y) n (PE.sub' ae s z)
 |.app x y=>.app (PE.sub' ae s x) (PE.sub' ae s y)
 |.lst es=>.lst (PE.subs' ae s es)
 |.rep x y=>.rep (PE.sub' ae s x) (PE.sub' ae s y)
 |.slc x y z=>.slc (PE.sub' ae s x) (PE.sub' ae s y) (PE.sub' ae s z)
 |.slok x y z=>.slok (PE.sub' ae s x) (PE.sub' ae s y) (PE.sub' ae s z)
 |.ref x=>.ref (PE.sub' ae s x)
 |.deref x=>N0 (PE.sub' ae s x)
 |.look x y z=>.look (PE.sub' ae s x) (PE.sub' ae s y) (PE.sub' ae s z)
 |.has x y=>.has (PE.sub' ae s x) (PE.sub' ae s y)
 |.put x y z=>.put (PE.sub' ae s x) (PE.sub' ae s y) (PE.sub' ae s z)
 |.mn x y=>.mn (PE.sub' ae s x) (PE.sub' ae s y)
 |.mx x y=>.mx (PE.sub' ae s x) (PE.sub' ae s y)
 |.tup es=>.tup (PE.subs' ae s es)
 |.tget x i=>TN (PE.sub' ae s x) i
 |.clo f es=>.clo f (PE.subs' ae s es)
 |.an x y=>.an (PE.sub' ae s x) (PE.sub' ae s y)
 |.imp c x=>.nt (.an (DN s c) (.nt (PE.sub' ae s x)))
def PE.subs' (ae:bX)(s:SE):List PE→List PE
 |[]=>[]
 |e::es=>PE.sub' ae s e::PE.subs' ae s es
end
mutual
theorem PE.sub_ev {ae:bX}{ρ:Env}(h:ae.ok ρ)(s:SE):∀(e:PE),(PE.sub' ae s e).ev ρ=e.ev (s.ev ρ)
 |.r t=>rfl
 |.o j=>rfl
 |.con d=>rfl
 |.cell e i=>by simp only[PE.sub',ahv,PE.ev,PE.sub_ev h s e]
 |.sub e a b=>by simp only[PE.sub',PE.ev,PE.sub_ev h s e]
 |.setc e q x=>by simp only[PE.sub',PE.ev,PE.sub_ev h s e,PE.sub_ev h s x]
 |.mk es=>by simp only[PE.sub',PE.ev,PE.subc_ev h s es]
 |.ai op k x y=>by simp only[PE.sub',PE.ev,PE.sub_ev h s x,PE.sub_ev h s y]
 |.ci op x y=>by simp only[PE.sub',PE.ev,PE.sub_ev h s x,PE.sub_ev h s y]
 |.cb op x y=>by simp only[PE.sub',PE.ev,PE.sub_ev h s x,PE.sub_ev h s y]
 |.cs op x y=>by simp only[PE.sub',PE.ev,PE.sub_ev h s x,PE.sub_ev h s y]
 |.sadd x y=>by simp only[PE.sub',PE.ev,PE.sub_ev h s x,PE.sub_ev h s y]
 |.nt x=>by simp only[PE.sub',PE.ev,PE.sub_ev h s x]
 |.conv k x=>by simp only[PE.sub',PE.ev,PE.sub_ev h s x]
 |.pick c a b=>by simp only[PE.sub',RA h,PE.ev,PE.sub_ev h s c,PE.sub_ev h s a,PE.sub_ev h s b]
 |.llen x=>by simp only[PE.sub',PE.ev,PE.sub_ev h s x]
 |.bytes x=>by simp only[PE.sub',PE.ev,PE.sub_ev h s x]
 |.slen x=>by simp only[PE.sub',PE.ev,PE.sub_ev h s x]
 |.mlen x=>by simp only[PE.sub',PE.ev,PE.sub_ev h s x]
 |.nth x y=>by simp only[PE.sub',PE.ev,PE.sub_ev h s x,PE.sub_ev h s y]
 |.idx x y=>by simp only[PE.sub',PE.ev,PE.sub_ev h s x,PE.sub_ev h s y]
 |.sidx x y=>by simp only[PE.sub',PE.ev,PE.sub_ev h s x,PE.sub_ev h s y]
 |.sok x y=>by simp only[PE.sub',PE.ev,PE.sub_ev h s x,PE.sub_ev h s y]
 |.setn x y n z=>by simp only[PE.sub',PE.ev,PE.sub_ev h s x,PE.sub_ev h s y,PE.sub_ev h s z]
 |.app x y=>by simp only[PE.sub',PE.ev,PE.sub_ev h s x,PE.sub_ev h s y]
 |.lst es=>by simp only[PE.sub',PE.ev,PE.subs_ev h s es]
 |.rep x y=>by simp only[PE.sub',PE.ev,PE.sub_ev h s x,PE.sub_ev h s y]
 |.slc x y z=>by simp only[PE.sub',PE.ev,PE.sub_ev h s x,PE.sub_ev h s y,PE.sub_ev h s z]
 |.slok x y z=>by simp only[PE.sub',PE.ev,PE.sub_ev h s x,PE.sub_ev h s y,PE.sub_ev h s z]
 |.ref x=>by simp only[PE.sub',PE.ev,PE.sub_ev h s x]
 |.deref x=>by simp only[PE.sub',aid,PE.ev,PE.sub_ev h s x]
 |.look x y z=>by simp only[PE.sub',PE.ev,PE.sub_ev h s x,PE.sub_ev h s y,PE.sub_ev h s z]
 |.has x y=>by simp only[PE.sub',PE.ev,PE.sub_ev h s x,PE.sub_ev h s y]
 |.put x y z=>by simp only[PE.sub',PE.ev,PE.sub_ev h s x,PE.sub_ev h s y,PE.sub_ev h s z]
 |.mn x y=>by simp only[PE.sub',PE.ev,PE.sub_ev h s x,PE.sub_ev h s y]
 |.mx x y=>by simp only[PE.sub',PE.ev,PE.sub_ev h s x,PE.sub_ev h s y]
 |.tup es=>by simp only[PE.sub',PE.ev,PE.subs_ev h s es]
 |.tget x i=>by simp only[PE.sub',at0,PE.ev,PE.sub_ev h s x]
 |.clo f es=>by simp only[PE.sub',PE.ev,PE.subs_ev h s es]
 |.an x y=>by simp only[PE.sub',PE.ev,PE.sub_ev h s x,PE.sub_ev h s y]
 |.imp c x=>by
  simp only[PE.sub',PE.ev,D.b_bool,YI,PE.sub_ev h s x];cases holds c (s.ev ρ)<;>cases(x.ev (s.ev ρ)).b<;>rfl
theorem PE.subs_ev {ae:bX}{ρ:Env}(h:ae.ok ρ)(s:SE):∀(es:List PE),PE.evs ρ (PE.subs' ae s es)=PE.evs (s.ev ρ) es
 |[]=>rfl
 |e::es=>by simp only[PE.subs',PE.evs,PE.sub_ev h s e,PE.subs_ev h s es]
theorem PE.subc_ev {ae:bX}{ρ:Env}(h:ae.ok ρ)(s:SE):∀(es:List PE),PE.evc ρ (PE.subs' ae s es)=PE.evc (s.ev ρ) es
 |[]=>rfl
 |e::es=>by simp only[PE.subs',PE.evc,PE.sub_ev h s e,PE.subc_ev h s es]
end
inductive PT where
 |next (s:SE)
 |exit (id:Nat) (s:SE)
 |ret (e:PE)
 |chk (e:PE) (k:PT)
 |ite (c:PE) (a b:PT)
 |call (s:SE) (gs:List (Nat×Bool)) (dst f:Nat) (args:List PE) (k:PT)
 |callc (s:SE) (gs:List (Nat×Bool)) (dst:Nat) (e:PE) (args:List PE) (k:PT)
 |mcall (s:SE) (j f:Nat) (args:List PE) (k:PT)
 |iteS (s:SE) (c:PE) (lr lo:List Nat) (a b k:PT)
 |blockS (s:SE) (id:Nat) (lr lo:List Nat) (a k:PT)
 |brk (s:SE) (c:PC) (k:PT)
def aH (T:cG):PT→Env→(Out→Prop)→Prop
 |.next s,ρ,Q=>Q (.next (s.ev ρ))
 |.exit id s,ρ,Q=>Q (.exit id (s.ev ρ))
 |.ret e,ρ,Q=>Q (.ret (e.ev ρ))
 |.chk e k,ρ,Q=>(e.ev ρ).b=true∧aH T k ρ Q
 |.ite c a b,ρ,Q=>if(c.ev ρ).b=true then aH T a ρ Q else aH T b ρ Q
 |.call s gs dst f args k,ρ,Q=>if holds gs (s.ev ρ)=true then ∃d,ao T f (PE.evs ρ args) d∧aH T k ((s.ev ρ).setR dst d) Q else aH T k (s.ev ρ) Q
 |.callc s gs dst e args k,ρ,Q=>if holds gs (s.ev ρ)=true then ∃f caps d,e.ev ρ=.clo f caps∧ao T f (PE.evs ρ args++caps) d∧aH T k ((s.ev ρ).setR dst d) Q else aH T k (s.ev ρ) Q
 |.mcall s j f args k,ρ,Q=>∃d,ao T f (PE.evs ρ args) d∧aH T k ((s.ev ρ).setO j d) Q
 |.iteS s c lr lo a b k,ρ,Q=>if(c.ev ρ).b=true then aH T a (s.ev ρ) (ld (s.ev ρ) lr lo (gQ (fun ρ'=>aH T k ρ' Q) Q)) else aH T b (s.ev ρ) (ld (s.ev ρ) lr lo (gQ (fun ρ'=>aH T k ρ' Q) Q))
 |.blockS s id lr lo a k,ρ,Q=>aH T a (s.ev ρ) (mg (s.ev ρ) id lr lo (gQ (fun ρ'=>aH T k ρ' Q) Q))
 |.brk s c k,ρ,Q=>aN T c (s.ev ρ) (gQ (fun ρ'=>aH T k ρ' Q) Q)
def oP:PI→Bool
 |.setR ..|.setO ..|.chk _=>true
 |_=>false
def dS:PC→Bool
 |.loop ..=>false
 |.each ..=>false
 |.meach ..=>false
 |.seq a b=>dS a&&dS b
 |.ite _ _ _ a b=>dS a&&dS b
 |.block _ _ _ a=>dS a
 |.is l=>l.all oP
 |_=>true
abbrev Kn:=bX→SE→PT
abbrev Kx:=bX→Nat→SE→PT
def nU:List PI→bX→SE→Kn→PT
 |[],ae,s,k=>k ae s
 |.setR t e::l,ae,s,k=>nU l ae (s.setR t (e.sub' ae s)) k
 |.setO t e::l,ae,s,k=>nU l ae (s.setO t (e.sub' ae s)) k
 |.chk e::l,ae,s,k=>
  match vU ae (e.sub' ae s) with
  |some true=>nU l ae s k
  |_=>.chk (e.sub' ae s) (nU l ((e.sub' ae s,true)::ae) s k)
 |.call gs dst f args::l,ae,s,k=>.call s gs dst f (PE.subs' ae s args) (nU l [] .id k)
 |.callc gs dst e args::l,ae,s,k=>.callc s gs dst (e.sub' ae s) (PE.subs' ae s args) (nU l [] .id k)
 |.mcall j f args::l,ae,s,k=>.mcall s j f (PE.subs' ae s args) (nU l [] .id k)
def SE.merge (s:SE)(ae:bX)(lr lo:List Nat)(c:PE)(a b:SE):SE:=⟨lr.map (fun t=>(t,tQ ae c (a.getR t) (b.getR t)))++s.r,lo.map (fun t=>(t,tQ ae c (a.getO t) (b.getO t)))++s.o⟩
def qA:List PI→bX→SE→Option SE
 |[],_,s=>some s
 |.setR t e::l,ae,s=>qA l ae (s.setR t (e.sub' ae s))
 |.setO t e::l,ae,s=>qA l ae (s.setO t (e.sub' ae s))
 |_::_,_,_=>none
def plain:PC→bX→SE→Option SE
 |.skip,_,s=>some s
 |.is l,ae,s=>qA l ae s
 |.seq a b,ae,s=>(plain a ae s).bind fun s=>plain b ae s
 |.ite c lr lo a b,ae,s=>(plain a ae s).bind fun sa=>(plain b ae s).map fun sb=>s.merge ae lr lo (c.sub' ae s) sa sb
 |_,_,_=>none
def aaw:PC→Bool
 |.loop ..=>true
 |_=>false
def sx:PC→bX→SE→Kn→Kx→PT
 |.skip,ae,s,k,_=>k ae s
 |.is l,ae,s,k,_=>nU l ae s k
 |.seq a b,ae,s,k,kx=>sx a ae s (fun ae s=>sx b ae s k kx) kx
 |.ite c lr lo a b,ae,s,k,kx=>
  match vU ae (c.sub' ae s) with
  |some true=>bif dS a then sx a ae s (fun ae s'=>k ae (s.join lr lo s')) kx else .iteS s (c.sub' ae s) lr lo (sx a [] .id (fun _ s=>.next s) (fun _ id s=>.exit id s)) (sx b [] .id (fun _ s=>.next s) (fun _ id s=>.exit id s)) (k [] .id)
  |some false=>bif dS b then sx b ae s (fun ae s'=>k ae (s.join lr lo s')) kx else .iteS s (c.sub' ae s) lr lo (sx a [] .id (fun _ s=>.next s) (fun _ id s=>.exit id s)) (sx b [] .id (fun _ s=>.next s) (fun _ id s=>.exit id s)) (k [] .id)
  |none=>
   match plain a ae s,plain b ae s with
   |some sa,some sb=>k ae (s.merge ae lr lo (c.sub' ae s) sa sb)
   |_,_=>
   bif dS a&&dS b then
    .ite (c.sub' ae s) (sx a ((c.sub' ae s,true)::ae) s (fun ae s'=>k ae (s.join lr lo s')) kx) (sx b ((c.sub' ae s,false)::ae) s (fun ae s'=>k ae (s.join lr lo s')) kx)
   else .iteS s (c.sub' ae s) lr lo (sx a [] .id (fun _ s=>.next s) (fun _ id s=>.exit id s)) (sx b [] .id (fun _ s=>.next s) (fun _ id s=>.exit id s)) (k [] .id)
 |.block id lr lo a,ae,s,k,kx=>
  bif dS a then sx a ae s (fun ae s'=>k ae (s.join lr lo s')) (fun ae bT s'=>bif Nat.beq bT id then k ae (s.join lr lo s') else kx ae bT s')
  else bif aaw a then .brk s (.block id lr lo a) (k [] .id)
  else .blockS s id lr lo (sx a [] .id (fun _ s=>.next s) (fun _ id s=>.exit id s)) (k [] .id)
 |.loop lr lo a,_,s,k,_=>.brk s (.loop lr lo a) (k [] .id)
 |.each e ps lo rt a,_,s,k,_=>.brk s (.each e ps lo rt a) (k [] .id)
 |.meach J ps cK lo a,_,s,k,_=>.brk s (.meach J ps cK lo a) (k [] .id)
 |.exit id,ae,s,_,kx=>kx ae id s
 |.ret e,ae,s,_,_=>.ret (e.sub' ae s)
theorem bX.ok_nil (ρ:Env):bX.ok [] ρ:=fun _ h=>nomatch h
theorem bX.ok_cons {ae:bX}{ρ:Env}{e:PE}{b:Bool}(h:ae.ok ρ)(he:(e.ev ρ).b=b):bX.ok ((e,b)::ae) ρ:=fun x hx=>by
 rcases cC.1 hx with e'|hx
 ·rw[e'];exact he
 ·exact h x hx
theorem su {T:cG}{Q:Out→Prop}{K:Env→Prop}{k:Kn}:∀{l:List PI} {ae:bX} {s:SE} {ρ:Env},ae.ok ρ→aH T (nU l ae s k) ρ Q→
 (∀ρ' ae s,(l.all oP=true→ρ'=ρ)→ae.ok ρ'→aH T (k ae s) ρ' Q→K (s.ev ρ'))→gR T l (s.ev ρ) K
 |[],ae,s,ρ,ha,h,hk=>hk ρ ae s (fun _=>rfl) ha h
 |.setR t e::l,ae,s,ρ,ha,h,hk=>by
  simp only[gR];rw[←PE.sub_ev ha s e,←SE.setR_ev];exact su ha h fun ρ' ae s hp=>hk ρ' ae s fun hl=>hp (by simpa [oP] using hl)
 |.setO t e::l,ae,s,ρ,ha,h,hk=>by
  simp only[gR];rw[←PE.sub_ev ha s e,←SE.setO_ev];exact su ha h fun ρ' ae s hp=>hk ρ' ae s fun hl=>hp (by simpa [oP] using hl)
 |.chk e::l,ae,s,ρ,ha,h,hk=>by
  simp only[gR];rw[←PE.sub_ev ha s e];simp only[nU] at h;split at h
  ·rename_i ht;exact⟨yB ha ht,su ha h fun ρ' ae s hp=>hk ρ' ae s fun hl=>hp (by simpa [oP] using hl)⟩
  ·exact⟨h.1,su (bX.ok_cons ha h.1) h.2 fun ρ' ae s hp=>hk ρ' ae s fun hl=>hp (by simpa [oP] using hl)⟩
 |.call gs dst f args::l,ae,s,ρ,ha,h,hk=>by
  simp only[gR];simp only[nU,aH,PE.subs_ev ha,PE.sub_ev ha] at h;have bu:∀{ρ0:Env},∀ρ' ae s,(l.all oP=true→ρ'=ρ0)→ae.ok ρ'→aH T (k ae s) ρ' Q→K (s.ev ρ'):=fun ρ' ae s _=>hk ρ' ae s fun hl=>by simp[oP] at hl
  split at h
  ·rename_i hg;rw[if_pos hg];obtain⟨d,hd,h⟩:=h;exact⟨d,hd,su (s:=.id) (bX.ok_nil _) h bu⟩
  ·rename_i hg;rw[if_neg hg];exact su (s:=.id) (bX.ok_nil _) h bu
 |.callc gs dst e args::l,ae,s,ρ,ha,h,hk=>by
  simp only[gR];simp only[nU,aH,PE.subs_ev ha,PE.sub_ev ha] at h;have bu:∀{ρ0:Env},∀ρ' ae s,(l.all oP=true→ρ'=ρ0)→ae.ok ρ'→aH T (k ae s) ρ' Q→K (s.ev ρ'):=fun ρ' ae s _=>hk ρ' ae s fun hl=>by simp[oP] at hl
  split at h
  ·rename_i hg;rw[if_pos hg];obtain⟨f,caps,d,he,hd,h⟩:=h;exact⟨f,caps,d,he,hd,su (s:=.id) (bX.ok_nil _) h bu⟩
  ·rename_i hg;rw[if_neg hg];exact su (s:=.id) (bX.ok_nil _) h bu
 |.mcall j f args::l,ae,s,ρ,ha,h,hk=>by
  simp only[gR];simp only[nU,aH,PE.subs_ev ha,PE.sub_ev ha] at h;have bu:∀{ρ0:Env},∀ρ' ae s,(l.all oP=true→ρ'=ρ0)→ae.ok ρ'→aH T (k ae s) ρ' Q→K (s.ev ρ'):=fun ρ' ae s _=>hk ρ' ae s fun hl=>by simp[oP] at hl
  obtain⟨d,hd,h⟩:=h;exact⟨d,hd,su (s:=.id) (bX.ok_nil _) h bu⟩
theorem SE.merge_ev {ae:bX}{ρ:Env}(h:ae.ok ρ)(s a b:SE)(lr lo:List Nat)(c:PE):(s.merge ae lr lo c a b).ev ρ=(s.ev ρ).join lr lo (if(c.ev ρ).b=true then a.ev ρ else b.ev ρ):=by
 have h1:∀u,((s.merge ae lr lo c a b).getR u).ev ρ=((s.ev ρ).join lr lo (if(c.ev ρ).b=true then a.ev ρ else b.ev ρ)).r u:=by
  intro u;rw[Env.join_r];have e:bI (s.merge ae lr lo c a b).r u=if u∈lr then some (tQ ae c (a.getR u) (b.getR u)) else bI s.r u:=xE lr;have e2:(s.merge ae lr lo c a b).getR u=if u∈lr then tQ ae c (a.getR u) (b.getR u) else s.getR u:=by
   unfold SE.getR;rw[e];by_cases h:u∈lr<;>simp[h,SE.getR]
  rw[e2];by_cases hu:u∈lr
  ·simp only[hu,if_true,RA h,PE.ev];cases hc:(c.ev ρ).b<;>simp[SE.ev]
  ·simp only[hu,if_false];rfl
 have h2:∀u,((s.merge ae lr lo c a b).getO u).ev ρ=((s.ev ρ).join lr lo (if(c.ev ρ).b=true then a.ev ρ else b.ev ρ)).o u:=by
  intro u;rw[Env.join_o];have e:bI (s.merge ae lr lo c a b).o u=if u∈lo then some (tQ ae c (a.getO u) (b.getO u)) else bI s.o u:=xE lo;have e2:(s.merge ae lr lo c a b).getO u=if u∈lo then tQ ae c (a.getO u) (b.getO u) else s.getO u:=by
   unfold SE.getO;rw[e];by_cases h:u∈lo<;>simp[h,SE.getO]
  rw[e2];by_cases hu:u∈lo
  ·simp only[hu,if_true,RA h,PE.ev];cases hc:(c.ev ρ).b<;>simp[SE.ev]
  ·simp only[hu,if_false];rfl
 have e1:(fun u=>((s.merge ae lr lo c a b).getR u).ev ρ)=((s.ev ρ).join lr lo (if(c.ev ρ).b=true then a.ev ρ else b.ev ρ)).r:=funext h1;have e2:(fun u=>((s.merge ae lr lo c a b).getO u).ev ρ)=((s.ev ρ).join lr lo (if(c.ev ρ).b=true then a.ev ρ else b.ev ρ)).o:=funext h2;show Env.mk _ _=_;rw[e1,e2]
theorem RE {T:cG}{ae:bX}{ρ:Env}(ha:ae.ok ρ):∀{l:List PI} {s s':SE},qA l ae s=some s'→∀{K:Env→Prop},K (s'.ev ρ)→gR T l (s.ev ρ) K
 |[],s,s',h,K,hk=>by simp only[qA,aT] at h;subst h;exact hk
 |.setR t e::l,s,s',h,K,hk=>by simp only[gR];rw[←PE.sub_ev ha s e,←SE.setR_ev];exact RE (l:=l) ha (show qA l ae _=some s' from h) hk
 |.setO t e::l,s,s',h,K,hk=>by simp only[gR];rw[←PE.sub_ev ha s e,←SE.setO_ev];exact RE (l:=l) ha (show qA l ae _=some s' from h) hk
 |.chk _::_,_,_,h,_,_=>by simp[qA] at h
 |.call ..::_,_,_,h,_,_=>by simp[qA] at h
 |.callc ..::_,_,_,h,_,_=>by simp[qA] at h
 |.mcall ..::_,_,_,h,_,_=>by simp[qA] at h
theorem arV {T:cG}{ae:bX}{ρ:Env}(ha:ae.ok ρ):∀(c:PC) {s s':SE},plain c ae s=some s'→∀{Q:Out→Prop},Q (.next (s'.ev ρ))→aN T c (s.ev ρ) Q:=by
 intro c
 induction c with
 |skip=>intro s s' h Q hq;simp only[plain,aT] at h;subst h;exact .skip hq
 |is l=>intro s s' h Q hq;exact .is (RE ha h hq)
 |seq a b bo dz=>
  intro s s' h Q hq;simp only[plain,av] at h;obtain⟨s1,h1,h2⟩:=h;exact .seq (bo h1 (dz h2 hq))
 |ite c lr lo a b bo dz=>
  intro s s' h Q hq;simp only[plain,av,aC] at h;obtain⟨sa,h1,sb,h2,rfl⟩:=h;rw[SE.merge_ev ha,PE.sub_ev ha] at hq;refine .ite ?_;split
  ·rename_i hc;rw[if_pos hc] at hq;exact bo h1 hq
  ·rename_i hc;rw[if_neg hc] at hq;exact dz h2 hq
 |_=>intro s s' h;simp[plain] at h
theorem L2 {T:cG}:∀(c:PC) {ae:bX} {s:SE} {k:Kn} {kx:Kx} {ρ:Env} {Q Q':Out→Prop},ae.ok ρ→aH T (sx c ae s k kx) ρ Q→
 (∀ρ' ae s,(dS c=true→ρ'=ρ)→ae.ok ρ'→aH T (k ae s) ρ' Q→Q' (.next (s.ev ρ')))→
 (∀ρ' ae id s,(dS c=true→ρ'=ρ)→ae.ok ρ'→aH T (kx ae id s) ρ' Q→Q' (.exit id (s.ev ρ')))→(dS c=false→∀id ρ',Q (.exit id ρ')→Q' (.exit id ρ'))→(∀d,Q (.ret d)→Q' (.ret d))→aN T c (s.ev ρ) Q':=by
 intro c;have alone:∀(a:PC),(∀{ae:bX} {s:SE} {k:Kn} {kx:Kx} {ρ:Env} {Q Q':Out→Prop},ae.ok ρ→aH T (sx a ae s k kx) ρ Q→
  (∀ρ' ae s,(dS a=true→ρ'=ρ)→ae.ok ρ'→aH T (k ae s) ρ' Q→Q' (.next (s.ev ρ')))→
  (∀ρ' ae id s,(dS a=true→ρ'=ρ)→ae.ok ρ'→aH T (kx ae id s) ρ' Q→Q' (.exit id (s.ev ρ')))→(dS a=false→∀id ρ',Q (.exit id ρ')→Q' (.exit id ρ'))→(∀d,Q (.ret d)→Q' (.ret d))→aN T a (s.ev ρ) Q')→
  ∀{ρ:Env} {Q:Out→Prop},aH T (sx a [] .id (fun _ s=>.next s) (fun _ id s=>.exit id s)) ρ Q→aN T a ρ Q:=by
  intro a ih ρ Q h;exact ih (s:=.id) (bX.ok_nil _) h (fun ρ' ae s _ _ h=>h) (fun ρ' ae id s _ _ h=>h) (fun _ _ _ h=>h) (fun _ h=>h)
 induction c with
 |skip=>intro ae s k kx ρ Q Q' ha h hk _ _ _;exact .skip (hk ρ ae s (fun _=>rfl) ha h)
 |is l=>intro ae s k kx ρ Q Q' ha h hk _ _ _;exact .is (su (K:=fun ρ'=>Q' (.next ρ')) ha h hk)
 |seq a b bo dz=>
  intro ae s k kx ρ Q Q' ha h hk hx kC hr;refine .seq (bo ha h (Q':=gQ (fun ρ'=>aN T b ρ' Q') Q') (fun ρ' ae s hp wS h'=>?_) (fun ρ' ae id s hp wS h'=>?_) (fun hp=>?_) hr)
  ·refine dz wS h' (fun ρ2 ae s fo=>hk ρ2 ae s fun hl=>?_) (fun ρ2 ae id s fo=>hx ρ2 ae id s fun hl=>?_) (fun fo=>?_) hr
   ·simp only[dS,aq] at hl;rw[fo hl.2,hp hl.1]
   ·simp only[dS,aq] at hl;rw[fo hl.2,hp hl.1]
   ·exact kC (by simp[dS,fo])
  ·exact hx ρ' ae id s (fun hl=>by simp only[dS,aq] at hl;exact hp hl.1) wS h'
  ·exact kC (by simp[dS,hp])
 |ite c lr lo a b bo dz=>
  intro ae s k kx ρ Q Q' ha h hk hx kC hr;have bL:((c.sub' ae s).ev ρ).b=(c.ev (s.ev ρ)).b:=by rw[PE.sub_ev ha]
  have struct:(dS a&&dS b)=false→aH T (.iteS s (c.sub' ae s) lr lo (sx a [] .id (fun _ s=>.next s) (fun _ id s=>.exit id s)) (sx b [] .id (fun _ s=>.next s) (fun _ id s=>.exit id s)) (k [] .id)) ρ Q→aN T (.ite c lr lo a b) (s.ev ρ) Q':=by
   intro Ew h;have rG:dS (.ite c lr lo a b)=false:=Ew;simp only[aH,bL] at h
   have conv:∀x,ld (s.ev ρ) lr lo (gQ (fun ρ'=>aH T (k [] .id) ρ' Q) Q) x→ld (s.ev ρ) lr lo Q' x:=by
      intro x dg;cases x with
      |next ρ'=>exact hk _ [] .id (fun hl=>by rw[rG] at hl;cases hl) (bX.ok_nil _) dg
      |exit id ρ'=>exact kC rG id ρ' dg
      |ret d=>exact hr d dg
   refine .ite ?_;split at h
   ·rename_i hc;rw[if_pos hc];exact(alone a bo h).mono conv
   ·rename_i hc;rw[if_neg hc];exact(alone b dz h).mono conv
  have inA:∀wv,wv.ok ρ→dS a=true→aH T (sx a wv s (fun ae s'=>k ae (s.join lr lo s')) kx) ρ Q→aN T a (s.ev ρ) (ld (s.ev ρ) lr lo Q'):=by
   intro wv wS eT h';refine bo wS h' (fun ρ' ae s' hp ox kT=>?_) (fun ρ' ae id s' hp ox kT=>?_) (fun hp=>by rw[eT] at hp;cases hp) hr
   ·have e:=hp eT;subst e;show Q' (.next _);rw[←SE.join_ev];exact hk ρ' ae _ (fun _=>rfl) ox kT
   ·have e:=hp eT;subst e;exact hx ρ' ae id s' (fun _=>rfl) ox kT
  have ay:∀wv,wv.ok ρ→dS b=true→aH T (sx b wv s (fun ae s'=>k ae (s.join lr lo s')) kx) ρ Q→aN T b (s.ev ρ) (ld (s.ev ρ) lr lo Q'):=by
   intro wv wS eT h';refine dz wS h' (fun ρ' ae s' hp ox kT=>?_) (fun ρ' ae id s' hp ox kT=>?_) (fun hp=>by rw[eT] at hp;cases hp) hr
   ·have e:=hp eT;subst e;show Q' (.next _);rw[←SE.join_ev];exact hk ρ' ae _ (fun _=>rfl) ox kT
   ·have e:=hp eT;subst e;exact hx ρ' ae id s' (fun _=>rfl) ox kT
  simp only[sx] at h;split at h
  ·rename_i ht;cases eT:dS a<;>simp only[eT,cond_true,cond_false] at h
   ·exact struct (by simp[eT]) h
   ·refine .ite ?_;rw[if_pos (by rw[←bL];exact yB ha ht)];exact inA ae ha eT h
  ·rename_i ht;cases eT:dS b<;>simp only[eT,cond_true,cond_false] at h
   ·exact struct (by simp[eT]) h
   ·refine .ite ?_;rw[if_neg (by rw[←bL,yB ha ht];simp)];exact ay ae ha eT h
  ·split at h
   ·rename_i sa sb JU kB;have fp:plain (.ite c lr lo a b) ae s=some (s.merge ae lr lo (c.sub' ae s) sa sb):=by simp[plain,JU,kB]
    exact arV ha _ fp (hk ρ ae _ (fun _=>rfl) ha h)
   cases eT:(dS a&&dS b)<;>simp only[eT,cond_true,cond_false] at h
   ·exact struct eT h
   ·simp only[aq] at eT;simp only[aH] at h;refine .ite ?_;rw[←bL];split at h
    ·rename_i hc;rw[if_pos hc];exact inA _ (bX.ok_cons ha hc) eT.1 h
    ·rename_i hc;rw[if_neg hc];exact ay _ (bX.ok_cons ha (by simpa using hc)) eT.2 h
 |block id lr lo a bo=>
  intro ae s k kx ρ Q Q' ha h hk hx kC hr;simp only[sx] at h;cases eT:dS a<;>simp only[eT,cond_true,cond_false] at h
  ·have rG:dS (.block id lr lo a)=false:=eT;cases hl:aaw a<;>simp only[hl,cond_true,cond_false] at h
   case true=>
        simp only[aH] at h;refine aN.mono h fun x dg=>?_;cases x with
        |next ρ'=>exact hk _ [] .id (fun hl=>by rw[rG] at hl;cases hl) (bX.ok_nil _) dg
        |exit id ρ'=>exact kC rG id ρ' dg
        |ret d=>exact hr d dg
   simp only[aH] at h;refine .block ((alone a bo h).mono fun x dg=>?_);cases x with
   |next ρ'=>exact hk _ [] .id (fun hl=>by rw[rG] at hl;cases hl) (bX.ok_nil _) dg
   |exit bT ρ'=>
    simp only[mg] at dg ⊢;split
    ·rename_i e;rw[if_pos e] at dg;exact hk _ [] .id (fun hl=>by rw[rG] at hl;cases hl) (bX.ok_nil _) dg
    ·rename_i e;rw[if_neg e] at dg;exact kC rG bT ρ' dg
   |ret d=>exact hr d dg
  ·refine .block (bo ha h (fun ρ' ae s' hp ox kT=>?_) (fun ρ' ae bT s' hp ox kT=>?_) (fun hp=>by rw[eT] at hp;cases hp) hr)
   ·have e:=hp eT;subst e;show Q' (.next _);rw[←SE.join_ev];exact hk ρ' ae _ (fun _=>rfl) ox kT
   ·have e:=hp eT;subst e;simp only[mg];by_cases cD:bT=id
    ·subst cD;simp only[gH,cond_true] at kT;rw[if_pos rfl,←SE.join_ev];exact hk ρ' ae _ (fun _=>rfl) ox kT
    ·rw[ew cD,cond_false] at kT;rw[if_neg cD];exact hx ρ' ae bT s' (fun _=>rfl) ox kT
 |loop lr lo a bo=>
  intro ae s k kx ρ Q Q' ha h hk hx kC hr;simp only[sx,aH] at h;refine aN.mono h fun x dg=>?_;cases x with
  |next ρ'=>exact hk _ [] .id (fun hl=>by cases hl) (bX.ok_nil _) dg
  |exit id ρ'=>exact kC rfl id ρ' dg
  |ret d=>exact hr d dg
 |each e ps lo rt a bo=>
  intro ae s k kx ρ Q Q' ha h hk hx kC hr;simp only[sx,aH] at h;refine aN.mono h fun x dg=>?_;cases x with
  |next ρ'=>exact hk _ [] .id (fun hl=>by cases hl) (bX.ok_nil _) dg
  |exit id ρ'=>exact kC rfl id ρ' dg
  |ret d=>exact hr d dg
 |meach J ps cK lo a bo=>
  intro ae s k kx ρ Q Q' ha h hk hx kC hr;simp only[sx,aH] at h;refine aN.mono h fun x dg=>?_;cases x with
  |next ρ'=>exact hk _ [] .id (fun hl=>by cases hl) (bX.ok_nil _) dg
  |exit id ρ'=>exact kC rfl id ρ' dg
  |ret d=>exact hr d dg
 |exit id=>intro ae s k kx ρ Q Q' ha h _ hx _ _;exact .exit (hx ρ ae id s (fun _=>rfl) ha h)
 |ret e=>
  intro ae s k kx ρ Q Q' ha h _ _ _ hr;simp only[sx,aH] at h;refine .ret (hr _ ?_);rw[PE.sub_ev ha] at h;exact h
def Lk.un (a b:Lk):Lk:=⟨Nat.lor a.r b.r,jF a.o b.o⟩
def bits (l:List Nat):Nat:=l.foldr (fun t m=>Nat.lor (dK t) m) 0
theorem NI {l:List Nat}{t:Nat}(h:t∈l):aw (bits l) t=true:=by
 induction l with
 |nil=>cases h
 |cons x l ih=>
  show aw (Nat.lor (dK x) (bits l)) t=true;rw[fb];rcases cC.1 h with e|h
  ·subst e;rw[q9];rfl
  ·rw[ih h,nX]
theorem Wl:∀{a b:List Nat} {x:Nat},x∈jF a b↔x∈a∨x∈b
 |[],b,x=>by simp[jF]
 |y::a,b,x=>by
  have ih:=Wl (a:=a) (b:=bif fq b y then b else y::b) (x:=x);show x∈jF a _↔_;rw[ih];cases hb:fq b y with
  |true=>simp only[cond_true,cC];have:=(qt b y).1 hb;constructor
         ·rintro(h|h);exact .inl (.inr h);exact .inr h
         ·rintro((rfl|h)|h);exact .inr this;exact .inl h;exact .inr h
  |false=>simp only[cond_false,cC];constructor
          ·rintro(h|h|h);exact .inl (.inr h);exact .inl (.inl h);exact .inr h
          ·rintro((h|h)|h);exact .inr (.inl h);exact .inl h;exact .inr (.inr h)
def Lk.Le (a K:Lk):Prop:=(∀t,aw a.r t=true→aw K.r t=true)∧∀j,j∈a.o→j∈K.o
theorem Lk.le_l (a b:Lk):a.Le (a.un b):=⟨fun t h=>by simp only[Lk.un,fb,h,yI],fun j h=>Wl.2 (.inl h)⟩
theorem Lk.le_r (a b:Lk):b.Le (a.un b):=⟨fun t h=>by simp only[Lk.un,fb,h,nX],fun j h=>Wl.2 (.inr h)⟩
theorem Lk.Le.trans {a b c:Lk}(h:a.Le b)(k:b.Le c):a.Le c:=⟨fun t ht=>k.1 t (h.1 t ht),fun j hj=>k.2 j (h.2 j hj)⟩
theorem Alike.le {a K:Lk}{ρ ρ':Env}(h:Alike K ρ ρ')(k:a.Le K):Alike a ρ ρ':=⟨fun t ht=>h.r t (k.1 t ht),fun j hj=>h.o j (k.2 j hj)⟩
theorem Lk.Le.of_un {a b K:Lk}(h:(a.un b).Le K):a.Le K∧b.Le K:=⟨(Lk.le_l a b).trans h,(Lk.le_r a b).trans h⟩
theorem Alike.setR {K:Lk}{ρ ρ':Env}(h:Alike K ρ ρ')(t:Nat)(d:D):Alike K (ρ.setR t d) (ρ'.setR t d):=⟨fun u hu=>by rw[Env.setR_r,Env.setR_r];split;rfl;exact h.r u hu,h.o⟩
theorem Alike.setO {K:Lk}{ρ ρ':Env}(h:Alike K ρ ρ')(t:Nat)(d:D):Alike K (ρ.setO t d) (ρ'.setO t d):=⟨h.r,fun u hu=>by rw[Env.setO_o,Env.setO_o];split;rfl;exact h.o u hu⟩
theorem Alike.join {K:Lk}{ρ ρ' η η':Env}(h:Alike K ρ ρ')(k:Alike K η η')(lr lo:List Nat):Alike K (ρ.join lr lo η) (ρ'.join lr lo η'):=
 ⟨fun u hu=>by rw[Env.join_r,Env.join_r];split;exact k.r u hu;exact h.r u hu,fun u hu=>by rw[Env.join_o,Env.join_o];split;exact k.o u hu;exact h.o u hu⟩
theorem RG {f g:Nat→D}{u:Nat}(h:g u=f u):∀(ts:List Nat) (xs:List D),putL g ts xs u=putL f ts xs u
 |[],xs=>by rw[KR,KR];exact h
 |t::ts,[]=>by simp only[putL];exact h
 |t::ts,x::xs=>by rw[KQ,KQ];split;rfl;exact RG h ts xs
theorem Alike.put {K:Lk}{ρ ρ':Env}(h:Alike K ρ ρ')(lr lo:List Nat)(vr vo:List D):Alike K (ρ.put lr vr lo vo) (ρ'.put lr vr lo vo):=⟨fun u hu=>RG (h.r u hu) lr vr,fun u hu=>RG (h.o u hu) lo vo⟩
def PI.lkw:PI→Lk
 |.setR t e=>e.lk.un ⟨dK t,[]⟩
 |.setO j e=>e.lk.un ⟨0,[j]⟩
 |.chk e=>e.lk
 |.call gs dst f aa=>(PI.call gs dst f aa).lk.un ⟨dK dst,[]⟩
 |.callc gs dst e aa=>(PI.callc gs dst e aa).lk.un ⟨dK dst,[]⟩
 |.mcall j f aa=>(PI.mcall j f aa).lk.un ⟨0,[j]⟩
def PC.lk:PC→Lk
 |.skip=>.none
 |.exit _=>.none
 |.is l=>l.foldr (fun p k=>p.lkw.un k) .none
 |.seq a b=>(PC.lk a).un (PC.lk b)
 |.ite c _ _ a b=>c.lk.un ((PC.lk a).un (PC.lk b))
 |.block _ _ _ a=>PC.lk a
 |.loop lr lo a=>(⟨bits lr,lo⟩:Lk).un (PC.lk a)
 |.ret e=>e.lk
 |.each e _ lo rt a=>e.lk.un ((match rt with|some e=>e.lk|none=>.none).un ((⟨0,lo⟩:Lk).un (PC.lk a)))
 |.meach J _ _ lo a=>(⟨0,J::lo⟩:Lk).un (PC.lk a)
structure Off (K:Lk) (b η η':Env):Prop where
 al:Alike K η η'
 r:∀t,aw K.r t=false→η'.r t=b.r t
 o:∀j,j∉K.o→η'.o j=b.o j
def uB (K:Lk)(b:Env):Out→Out→Prop
 |.next η,x=>∃η',x=.next η'∧Off K b η η'
 |.exit i η,x=>∃η',x=.exit i η'∧Off K b η η'
 |.ret d,x=>x=.ret d
theorem Off.uniq {K:Lk}{b η η' η2:Env}(h:Off K b η η')(k:Off K b η η2):η2=η':=by
 have h1:∀t,η2.r t=η'.r t:=fun t=>by
  cases hb:aw K.r t with
  |true=>rw[k.al.r t hb,h.al.r t hb]
  |false=>rw[k.r t hb,h.r t hb]
 have h2:∀t,η2.o t=η'.o t:=fun t=>by
  by_cases hb:t∈K.o
  ·rw[k.al.o t hb,h.al.o t hb]
  ·rw[k.o t hb,h.o t hb]
 cases η2;cases η'
 congr
 ·exact funext h1
 ·exact funext h2
theorem uB.uniq {K:Lk}{b:Env}{x y z:Out}(h:uB K b x y)(k:uB K b x z):z=y:=by
 cases x with
 |next η=>obtain⟨a,rfl,h⟩:=h;obtain⟨c,rfl,k⟩:=k;rw[h.uniq k]
 |exit i η=>obtain⟨a,rfl,h⟩:=h;obtain⟨c,rfl,k⟩:=k;rw[h.uniq k]
 |ret d=>rw[h,k]
theorem Off.setR {K:Lk}{b η η':Env}(h:Off K b η η'){t:Nat}(ht:aw K.r t=true)(d:D):Off K b (η.setR t d) (η'.setR t d):=
 ⟨h.al.setR t d,fun u hu=>by rw[Env.setR_r,if_neg (fun e=>by rw[e,ht] at hu;cases hu)];exact h.r u hu,h.o⟩
theorem Off.setO {K:Lk}{b η η':Env}(h:Off K b η η'){t:Nat}(ht:t∈K.o)(d:D):Off K b (η.setO t d) (η'.setO t d):=
 ⟨h.al.setO t d,h.r,fun u hu=>by rw[Env.setO_o,if_neg (fun e=>hu (by rw[e];exact ht))];exact h.o u hu⟩
theorem Off.join {K:Lk}{b η η' ζ ζ':Env}(h:Off K b η η')(k:Off K b ζ ζ')(lr lo:List Nat):Off K b (η.join lr lo ζ) (η'.join lr lo ζ'):=
 ⟨h.al.join k.al lr lo,fun u hu=>by rw[Env.join_r];split;exact k.r u hu;exact h.r u hu,fun u hu=>by rw[Env.join_o];split;exact k.o u hu;exact h.o u hu⟩
theorem RJ {f:Nat→D}{b:D}{u:Nat}(h:f u=b):∀(ts:List Nat) (xs:List D),u∉ts→putL f ts xs u=b
 |[],xs,_=>by rw[KR];exact h
 |t::ts,[],_=>by simp only[putL];exact h
 |t::ts,x::xs,hu=>by rw[KQ,if_neg (fun e=>hu (by simp[e]))];exact RJ h ts xs (fun e=>hu (by simp[e]))
theorem Off.put {K:Lk}{b η η':Env}(h:Off K b η η'){lr lo:List Nat}(hr:∀t,t∈lr→aw K.r t=true)(ho:∀t,t∈lo→t∈K.o)(vr vo:List D):Off K b (η.put lr vr lo vo) (η'.put lr vr lo vo):=
 ⟨h.al.put lr lo vr vo,fun u hu=>RJ (h.r u hu) lr vr (fun e=>by rw[hr u e] at hu;cases hu),fun u hu=>RJ (h.o u hu) lo vo (fun e=>hu (ho u e))⟩
theorem PI.run_off {Φ:aR}{K:Lk}{b ρ ρ' η:Env}{p:PI}(hp:p.lkw.Le K)(h:Off K b ρ ρ')(hr:p.run Φ ρ=some η):∃η',p.run Φ ρ'=some η'∧Off K b η η':=by
 have xc:p.lk.Le K:=by cases p<;>first|exact hp|exact hp.of_un.1
 rw[PI.run_eff,PI.eff_alike p (h.al.le xc)];rw[PI.run_eff] at hr;cases he:p.eff Φ ρ with
 |none=>rw[he] at hr;cases hr
 |some x=>
  rw[he] at hr;simp only[km,aT] at hr;subst hr;refine⟨_,rfl,?_⟩;have hb:∀{t:Nat} {a:Lk},(a.un ⟨dK t,[]⟩).Le K→aw K.r t=true:=fun h=>h.of_un.2.1 _ (q9 _);have ho:∀{t:Nat} {a:Lk},(a.un ⟨0,[t]⟩).Le K→t∈K.o:=fun h=>h.of_un.2.2 _ (by simp);cases p with
  |setR t e=>simp only[PI.eff,aT] at he;subst he;exact h.setR (hb hp) _
  |setO t e=>simp only[PI.eff,aT] at he;subst he;exact h.setO (ho hp) _
  |chk e=>simp only[PI.eff] at he;cases wV:(e.ev ρ).b<;>rw[wV] at he<;>cases he;exact h
  |call gs d f aa=>
   simp only[PI.eff] at he;cases wV:holds gs ρ<;>simp only[wV,cond_true,cond_false,aT,aC] at he
   ·subst he;exact h
   ·obtain⟨y,_,rfl⟩:=he;exact h.setR (hb hp) _
  |callc gs d e aa=>
   simp only[PI.eff] at he;cases wV:holds gs ρ<;>simp only[wV,cond_true,cond_false,aT] at he
   ·subst he;exact h
   ·split at he
    ·simp only[aC] at he;obtain⟨y,_,rfl⟩:=he;exact h.setR (hb hp) _
    ·cases he
  |mcall j f aa=>simp only[PI.eff,aC] at he;obtain⟨y,_,rfl⟩:=he;exact h.setO (ho hp) _
theorem PI.runs_off {Φ:aR}{K:Lk}{b:Env}:∀{l:List PI} {ρ ρ' η:Env},(l.foldr (fun p k=>p.lkw.un k) Lk.none).Le K→Off K b ρ ρ'→PI.runs Φ l ρ=some η→∃η',PI.runs Φ l ρ'=some η'∧Off K b η η'
 |[],ρ,ρ',η,_,h,hr=>by simp only[PI.runs,aT] at hr ⊢;subst hr;exact⟨_,rfl,h⟩
 |p::l,ρ,ρ',η,hl,h,hr=>by
  simp only[PI.runs,av] at hr;obtain⟨ρ1,h1,h2⟩:=hr;obtain⟨ρ2,h3,h4⟩:=PI.run_off hl.of_un.1 h h1;obtain⟨η',h5,h6⟩:=PI.runs_off (l:=l) hl.of_un.2 h4 h2;exact⟨η',by simp only[PI.runs,h3,kl,h5],h6⟩
theorem xH {K:Lk}{b η η':Env}(h:Off K b η η'){lo:List Nat}(ho:∀t,t∈lo→t∈K.o):lo.map η'.o=lo.map η.o:=we fun t ht=>h.al.o t (ho t ht)
theorem abm {K:Lk}{b η η':Env}(h:Off K b η η'){lr:List Nat}(hr:∀t,t∈lr→aw K.r t=true):lr.map η'.r=lr.map η.r:=we fun t ht=>h.al.r t (hr t ht)
theorem PC.ev_off {Φ:aR}{n:Nat}{K:Lk}:∀(c:PC),c.lk.Le K→∀{b ρ ρ':Env} {x:Out},Off K b ρ ρ'→c.ev Φ n ρ=some x→∃x',c.ev Φ n ρ'=some x'∧uB K b x x':=by
 intro c
 induction c with
 |skip=>intro _ b ρ ρ' x h hr;simp only[PC.ev,aT] at hr ⊢;subst hr;exact⟨_,rfl,_,rfl,h⟩
 |exit id=>intro _ b ρ ρ' x h hr;simp only[PC.ev,aT] at hr ⊢;subst hr;exact⟨_,rfl,_,rfl,h⟩
 |ret e=>intro hk B ρ ρ' x h hr;simp only[PC.ev,aT] at hr ⊢;subst hr;exact⟨_,rfl,by rw[PE.ev_alike e (h.al.le hk)];rfl⟩
 |is l=>
  intro hk B ρ ρ' x h hr;simp only[PC.ev,aC] at hr;obtain⟨η,h1,rfl⟩:=hr;obtain⟨η',h2,h3⟩:=PI.runs_off hk h h1;exact⟨.next η',by simp only[PC.ev,h2,km],η',rfl,h3⟩
 |seq a b bo dz=>
  intro hk B ρ ρ' x h hr;simp only[PC.ev] at hr ⊢;cases ha:a.ev Φ n ρ with
  |none=>rw[ha] at hr;cases hr
  |some y=>
   obtain⟨y',h1,h2⟩:=bo hk.of_un.1 h ha;rw[ha] at hr;rw[h1];cases y with
   |next η=>obtain⟨η',rfl,h3⟩:=h2;exact dz hk.of_un.2 h3 hr
   |exit i η=>obtain⟨η',rfl,h3⟩:=h2;cases hr;exact⟨_,rfl,η',rfl,h3⟩
   |ret d=>cases h2;cases hr;exact⟨_,rfl,rfl⟩
 |ite c lr lo a b bo dz=>
  intro hk B ρ ρ' x h hr;have hc:(c.ev ρ').b=(c.ev ρ).b:=by rw[PE.ev_alike c (h.al.le hk.of_un.1)]
  have key:∀(d:PC),(∀{ρ ρ':Env} {x:Out},Off K B ρ ρ'→d.ev Φ n ρ=some x→∃x',d.ev Φ n ρ'=some x'∧uB K B x x')→(match d.ev Φ n ρ with|some (.next η)=>some (.next (ρ.join lr lo η))|x=>x)=some x→
      ∃x',(match d.ev Φ n ρ' with|some (.next η)=>some (.next (ρ'.join lr lo η))|x=>x)=some x'∧uB K B x x':=by
   intro d ih hr;cases ha:d.ev Φ n ρ with
   |none=>rw[ha] at hr;cases hr
   |some y=>
    obtain⟨y',h1,h2⟩:=ih h ha;rw[ha] at hr;rw[h1];cases y with
    |next η=>obtain⟨η',rfl,h3⟩:=h2;cases hr;exact⟨_,rfl,_,rfl,h.join h3 lr lo⟩
    |exit i η=>obtain⟨η',rfl,h3⟩:=h2;cases hr;exact⟨_,rfl,η',rfl,h3⟩
    |ret d=>cases h2;cases hr;exact⟨_,rfl,rfl⟩
  simp only[PC.ev,hc] at hr ⊢;cases fi:(c.ev ρ).b<;>simp only[fi,cond_true,cond_false] at hr ⊢
  ·exact key b (fun h1 h2=>dz hk.of_un.2.of_un.2 h1 h2) hr
  ·exact key a (fun h1 h2=>bo hk.of_un.2.of_un.1 h1 h2) hr
 |block id lr lo a bo=>
  intro hk B ρ ρ' x h hr;simp only[PC.ev] at hr ⊢;cases ha:a.ev Φ n ρ with
  |none=>rw[ha] at hr;cases hr
  |some y=>
   obtain⟨y',h1,h2⟩:=bo hk h ha;rw[ha] at hr;rw[h1];cases y with
   |next η=>obtain⟨η',rfl,h3⟩:=h2;cases hr;exact⟨_,rfl,_,rfl,h.join h3 lr lo⟩
   |exit i η=>
    obtain⟨η',rfl,h3⟩:=h2;simp only at hr ⊢;cases hb:Nat.beq i id<;>simp only[hb,cond_true,cond_false] at hr ⊢<;>cases hr
    ·exact⟨_,rfl,η',rfl,h3⟩
    ·exact⟨_,rfl,_,rfl,h.join h3 lr lo⟩
   |ret d=>cases h2;cases hr;exact⟨_,rfl,rfl⟩
 |loop lr lo a bo=>
  intro hk B ρ ρ' x h hr;have iS:∀t,t∈lr→aw K.r t=true:=fun t ht=>hk.of_un.1.1 t (NI ht);have jW:∀t,t∈lo→t∈K.o:=fun t ht=>hk.of_un.1.2 t ht;have key:∀(m:Nat) (vr vo:List D),fR (a.ev Φ n) ρ lr lo m vr vo=some x→∃x',fR (a.ev Φ n) ρ' lr lo m vr vo=some x'∧uB K B x x':=by
   intro m
   induction m with
   |zero=>intro vr vo h;simp[fR] at h
   |succ m Qd=>
    intro vr vo hr;simp only[fR] at hr ⊢;cases ha:a.ev Φ n (ρ.put lr vr lo vo) with
    |none=>rw[ha] at hr;cases hr
    |some y=>
     obtain⟨y',h1,h2⟩:=bo hk.of_un.2 (h.put iS jW vr vo) ha;rw[ha] at hr;rw[h1];cases y with
     |next η=>obtain⟨η',rfl,h3⟩:=h2;simp only[xH h3 jW,abm h3 iS];exact Qd _ _ hr
     |exit i η=>obtain⟨η',rfl,h3⟩:=h2;cases hr;exact⟨_,rfl,η',rfl,h3⟩
     |ret d=>cases h2;cases hr;exact⟨_,rfl,rfl⟩
  simp only[PC.ev] at hr ⊢;rw[xH h jW,abm h iS];exact key n _ _ hr
 |each e ps lo rt a bo=>
  intro hk B ρ ρ' x h hr;obtain⟨bx,ct⟩:=hk.of_un;obtain⟨ct,mq⟩:=ct.of_un;obtain⟨mq,AJ⟩:=mq.of_un;have jW:∀t,t∈lo→t∈K.o:=fun t ht=>mq.2 t ht;have key:∀(xs vo:List D),gu (a.ev Φ n) ρ ps lo rt xs vo=some x→∃x',gu (a.ev Φ n) ρ' ps lo rt xs vo=some x'∧uB K B x x':=by
   intro xs
   induction xs with
   |nil=>intro vo hr;simp only[gu,aT] at hr ⊢;subst hr;exact⟨_,rfl,_,rfl,h.put (fun _ h=>by cases h) jW _ _⟩
   |cons y xs jt=>
    intro vo hr;simp only[gu] at hr ⊢;cases ha:a.ev Φ n (ρ.put ps (partsOf ps y) lo vo) with
    |none=>rw[ha] at hr;cases hr
    |some z=>
     have jq:Off K (ρ'.put ps (partsOf ps y) lo vo) (ρ.put ps (partsOf ps y) lo vo) (ρ'.put ps (partsOf ps y) lo vo):=⟨h.al.put ps lo _ _,fun _ _=>rfl,fun _ _=>rfl⟩
     obtain⟨z',h1,h2⟩:=bo AJ jq ha;rw[ha] at hr;rw[h1];cases z with
     |next η=>obtain⟨η',rfl,h3⟩:=h2;simp only[xH h3 jW];exact jt _ hr
     |exit i η=>
      obtain⟨η',rfl,h3⟩:=h2;simp only[xH h3 jW] at hr ⊢;have hp:=h.put (lr:=[]) (fun _ h=>by cases h) jW [] (lo.map η.o);cases hb:Nat.beq i cJ<;>simp only[hb,cond_true,cond_false] at hr ⊢
      ·cases hr;exact⟨_,rfl,_,rfl,hp⟩
      ·cases rt with
       |none=>cases hr
       |some e2=>cases hr;exact⟨_,rfl,by show Out.ret _=Out.ret _;rw[PE.ev_alike e2 (hp.al.le ct)]⟩
     |ret d=>cases hr
  simp only[PC.ev] at hr ⊢;rw[PE.ev_alike e (h.al.le bx),xH h jW];exact key _ _ hr
 |meach J ps cK lo a bo=>
  intro hk B ρ ρ' x h hr;obtain⟨mq,AJ⟩:=hk.of_un;have jW:∀t,t∈lo→t∈K.o:=fun t ht=>mq.2 t (di _ ht);have hJ:ρ'.o J=ρ.o J:=h.al.o J (mq.2 J (du ..));have key:∀(es:D) (xs done vo mY:List D),lN (a.ev Φ n) ρ J es ps cK lo xs done vo=some mY→lN (a.ev Φ n) ρ' J es ps cK lo xs done vo=some mY:=by
   intro es xs
   induction xs with
   |nil=>intro done vo mY h;exact h
   |cons y xs jt=>
    intro done vo mY hr;simp only[lN] at hr ⊢;cases ha:a.ev Φ n ((ρ.put ps (cK.map y.tget) lo vo).setO J (.tup [.list (done++[y]),es])) with
    |none=>rw[ha] at hr;cases hr
    |some z=>
     have jq:Off K ((ρ'.put ps (cK.map y.tget) lo vo).setO J (.tup [.list (done++[y]),es])) ((ρ.put ps (cK.map y.tget) lo vo).setO J (.tup [.list (done++[y]),es])) ((ρ'.put ps (cK.map y.tget) lo vo).setO J (.tup [.list (done++[y]),es])):=
          ⟨(h.al.put ps lo _ _).setO J _,fun _ _=>rfl,fun _ _=>rfl⟩
     obtain⟨z',h1,h2⟩:=bo AJ jq ha;rw[ha] at hr;rw[h1];cases z with
     |next η=>obtain⟨η',rfl,h3⟩:=h2;simp only[xH h3 jW];exact jt _ _ _ hr
     |exit i η=>cases hr
     |ret d=>cases hr
  simp only[PC.ev,xX] at hr;obtain⟨vo,⟨h1,h2⟩,rfl⟩:=hr;refine⟨.next (ρ'.put [] [] lo vo),?_,_,rfl,h.put (fun _ h=>by cases h) jW _ _⟩;simp only[PC.ev,xX];refine⟨vo,⟨by rw[hJ];exact h1,fun ys hy=>?_⟩,rfl⟩;rw[hJ] at hy ⊢;rw[xH h jW];exact key _ _ _ _ _ (h2 ys hy)
def oo:List Nat→PC→Bool
 |l,.exit id=>fq l id
 |l,.seq a b=>oo l a&&oo l b
 |l,.ite _ _ _ a b=>oo l a&&oo l b
 |l,.block id _ _ a=>oo (id::l) a
 |l,.loop _ _ a=>oo l a
 |l,.each _ _ _ _ a=>oo (cJ::l) a
 |_,_=>true
theorem ajo {Φ:aR}{n:Nat}:∀(c:PC) {l:List Nat},oo l c=true→∀{ρ:Env} {i:Nat} {η:Env},c.ev Φ n ρ=some (.exit i η)→i∈l:=by
 intro c
 induction c with
 |skip=>intro l _ ρ i η h;simp[PC.ev] at h
 |exit id=>intro l hl ρ i η h;simp only[PC.ev,aT] at h;injection h with h1 h2;subst h1;exact(qt _ _).1 hl
 |ret e=>intro l _ ρ i η h;simp[PC.ev] at h
 |is _=>intro l _ ρ i η h;simp[PC.ev] at h
 |seq a b bo dz=>
  intro l hl ρ i η h;simp only[oo,aq] at hl;simp only[PC.ev] at h;split at h
  ·exact dz hl.2 h
  ·exact bo hl.1 h
 |ite c lr lo a b bo dz=>
  intro l hl ρ i η h;simp only[oo,aq] at hl;simp only[PC.ev] at h;cases hc:(c.ev ρ).b<;>simp only[hc,cond_true,cond_false] at h
  ·split at h
   ·cases h
   ·exact dz hl.2 h
  ·split at h
   ·cases h
   ·exact bo hl.1 h
 |block id lr lo a bo=>
  intro l hl ρ i η h;simp only[PC.ev] at h;split at h
  ·cases h
  ·rename_i bT ρ2 ha;cases hb:Nat.beq bT id<;>simp only[hb,cond_true,cond_false] at h<;>cases h;rcases cC.1 (bo hl ha) with e|e
   ·subst e;rw[gH] at hb;cases hb
   ·exact e
  ·rename_i h1 h2;exact absurd h (h2 _ _)
 |loop lr lo a bo=>
  intro l hl ρ i η h;have key:∀(m:Nat) (vr vo:List D),fR (a.ev Φ n) ρ lr lo m vr vo=some (.exit i η)→i∈l:=by
   intro m
   induction m with
   |zero=>intro vr vo h;simp[fR] at h
   |succ m Qd=>
    intro vr vo h;simp only[fR] at h;split at h
    ·exact Qd _ _ h
    ·exact bo hl h
  exact key _ _ _ h
 |each e ps lo rt a bo=>
  intro l hl ρ i η h;have key:∀(xs vo:List D),gu (a.ev Φ n) ρ ps lo rt xs vo=some (.exit i η)→i∈l:=by
   intro xs
   induction xs with
   |nil=>intro vo h;simp[gu] at h
   |cons x xs jt=>
    intro vo h;simp only[gu] at h;split at h
    ·exact jt _ h
    ·rename_i bT ρ2 ha;cases hb:Nat.beq bT cJ<;>simp only[hb,cond_true,cond_false] at h
     ·injection h with h;injection h with h1 h2;subst h1
      rcases cC.1 (bo hl ha) with e|e
      ·subst e;rw[gH] at hb;cases hb
      ·exact e
     ·cases rt<;>simp at h
    ·cases h
  exact key _ _ h
 |meach J ps cK lo a _=>
  intro l _ ρ i η h;simp only[PC.ev,xX] at h;obtain⟨vo,_,h⟩:=h;cases h
def aat (t:Nat):PE→Bool
 |.r u=>Nat.beq u t
 |_=>false
def aau (t:Nat):PE→Bool
 |.o u=>Nat.beq u t
 |_=>false
def fk (oH:Nat→PE→Bool)(p:Nat→Bool):List Nat→List (Nat×PE)→List (Nat×PE)
 |_,[]=>[]
 |seen,x::l=>bif p x.1&& !fq seen x.1 then(bif oH x.1 x.2 then fk oH p (x.1::seen) l else x::fk oH p (x.1::seen) l) else fk oH p seen l
theorem IZ {oH:Nat→PE→Bool}{p:Nat→Bool}:∀{l:List (Nat×PE)} {seen:List Nat} {t:Nat},fq seen t=true→bI (fk oH p seen l) t=none
 |[],_,_,_=>rfl
 |x::l,seen,t,h=>by
  have h':fq (x.1::seen) t=true:=by rw[qt] at h ⊢;exact di _ h
  simp only[fk];cases hb:(p x.1&& !fq seen x.1) with
  |false=>exact IZ h
  |true=>
   simp only[cond_true];cases oH x.1 x.2 with
   |true=>exact IZ h'
   |false=>
    simp only[cond_false,bI];have:Nat.beq x.1 t=false:=by
      cases e:Nat.beq x.1 t with
      |false=>rfl
      |true=>rw[cR e,h] at hb;simp at hb
    rw[this];exact IZ h'
theorem DE {oH:Nat→PE→Bool}{p:Nat→Bool}{dflt:Nat→PE}(cD:∀t e,oH t e=true→e=dflt t):∀{l:List (Nat×PE)} {seen:List Nat} {t:Nat},p t=true→fq seen t=false→
 (match bI (fk oH p seen l) t with|some e=>e|none=>dflt t)=(match bI l t with|some e=>e|none=>dflt t)
 |[],_,_,_,_=>rfl
 |x::l,seen,t,hp,hs=>by
  simp only[fk,bI];cases e:Nat.beq x.1 t with
  |true=>
   have e':=cR e;rw[e',hp,hs];simp only[Bool.not_false,Bool.and_self,cond_true];cases hi:oH t x.2 with
   |true=>simp only[cond_true];rw[IZ (by rw[qt];exact du ..)];exact(cD _ _ hi).symm
   |false=>simp only[cond_false,bI,e,cond_true]
  |false=>
   simp only[cond_false];cases hb:(p x.1&& !fq seen x.1) with
   |false=>exact DE cD hp hs
   |true=>
    have eH:fq (x.1::seen) t=false:=by
      cases hm:fq (x.1::seen) t with
      |false=>rfl
      |true=>
       rcases cC.1 ((qt _ _).1 hm) with h|h
       ·rw[h,gH] at e;cases e
       ·rw[(qt _ _).2 h] at hs;cases hs
    simp only[cond_true];cases oH x.1 x.2 with
    |true=>exact DE cD hp eH
    |false=>simp only[cond_false,bI,e];exact DE cD hp eH
def SE.cut (s:SE)(k:Lk):SE:=⟨fk aat (aw k.r) [] s.r,fk aau (fq k.o) [] s.o⟩
def Qn (l:List (Nat×PE)):Lk:=l.foldr (fun x k=>x.2.lk.un k) .none
def SE.lks (s:SE):Lk:=(Qn s.r).un (Qn s.o)
theorem Qo:∀{l:List (Nat×PE)} {t:Nat} {e:PE},bI l t=some e→e.lk.Le (Qn l)
 |[],_,_,h=>by cases h
 |x::l,t,e,h=>by
  simp only[bI] at h;cases hb:Nat.beq x.1 t<;>simp only[hb,cond_true,cond_false] at h
  ·exact(Qo h).trans (Lk.le_r _ _)
  ·cases h;exact Lk.le_l _ _
theorem SE.cut_al {s:SE}{L:Lk}{ρ1 ρ2:Env}(h:Alike (L.un (s.cut L).lks) ρ1 ρ2):Alike L ((s.cut L).ev ρ1) (s.ev ρ2):=by
 have hL:=h.le (Lk.le_l _ _);have hs:=h.le (Lk.le_r _ _);constructor
 ·intro t ht;show(s.getR t).ev ρ2=((s.cut L).getR t).ev ρ1;have e:(s.cut L).getR t=s.getR t:=DE (dflt:=.r) (fun t e he=>by unfold aat at he;split at he;rw[cR he];cases he) ht rfl;rw[←e];cases hl:bI (s.cut L).r t with
  |none=>have:(s.cut L).getR t=.r t:=by unfold SE.getR;rw[hl]
         rw[this];exact hL.r t ht
  |some x=>have:(s.cut L).getR t=x:=by unfold SE.getR;rw[hl]
           rw[this];exact PE.ev_alike x (hs.le ((Qo hl).trans (Lk.le_l _ _)))
 ·intro t ht;show(s.getO t).ev ρ2=((s.cut L).getO t).ev ρ1;have e:(s.cut L).getO t=s.getO t:=DE (dflt:=.o) (fun t e he=>by unfold aau at he;split at he;rw[cR he];cases he) ((qt _ _).2 ht) rfl;rw[←e];cases hl:bI (s.cut L).o t with
  |none=>have:(s.cut L).getO t=.o t:=by unfold SE.getO;rw[hl]
         rw[this];exact hL.o t ht
  |some x=>have:(s.cut L).getO t=x:=by unfold SE.getO;rw[hl]
           rw[this];exact PE.ev_alike x (hs.le ((Qo hl).trans (Lk.le_r _ _)))
structure LC where
 next:Lk
 ov:List (Nat×Lk)
def LC.all (c:LC):Lk:=c.ov.foldr (fun x k=>x.2.un k) .none
def ME (c:LC)(Q1 Q2:Out→Prop):Prop:=
 (∀ρ1 ρ2,Alike c.next ρ1 ρ2→Q1 (.next ρ1)→Q2 (.next ρ2))∧(∀id k ρ1 ρ2,bI c.ov id=some k→Alike k ρ1 ρ2→Q1 (.exit id ρ1)→Q2 (.exit id ρ2))∧∀d,Q1 (.ret d)→Q2 (.ret d)
def fU:LC→PT→Option (PT×Lk)
 |c,.next s=>some (.next (s.cut c.next),c.next.un (s.cut c.next).lks)
 |c,.exit id s=>(bI c.ov id).map fun k=>(.exit id (s.cut k),k.un (s.cut k).lks)
 |_,.ret e=>some (.ret e,e.lk)
 |c,.chk e k=>(fU c k).map fun r=>(.chk e r.1,e.lk.un r.2)
 |c,.ite e a b=>(fU c a).bind fun x=>(fU c b).map fun y=>(.ite e x.1 y.1,e.lk.un (x.2.un y.2))
 |c,.call s gs dst f args k=>(fU c k).map fun r=>(.call (s.cut (r.2.un (ml gs))) gs dst f args r.1,(PE.lks args).un ((r.2.un (ml gs)).un (s.cut (r.2.un (ml gs))).lks))
 |c,.callc s gs dst e args k=>(fU c k).map fun r=>(.callc (s.cut (r.2.un (ml gs))) gs dst e args r.1,(e.lk.un (PE.lks args)).un ((r.2.un (ml gs)).un (s.cut (r.2.un (ml gs))).lks))
 |c,.mcall s j f args k=>(fU c k).map fun r=>(.mcall (s.cut r.2) j f args r.1,(PE.lks args).un (r.2.un (s.cut r.2).lks))
 |c,.iteS s e lr lo a b k=>(fU c k).bind fun r=>(fU ⟨r.2,c.ov⟩ a).bind fun x=>(fU ⟨r.2,c.ov⟩ b).map fun y=>
    (.iteS (s.cut (r.2.un (x.2.un y.2))) e lr lo x.1 y.1 r.1,e.lk.un ((r.2.un (x.2.un y.2)).un (s.cut (r.2.un (x.2.un y.2))).lks))
 |c,.blockS s id lr lo a k=>(fU c k).bind fun r=>(fU ⟨r.2,(id,r.2)::c.ov⟩ a).map fun x=>(.blockS (s.cut (r.2.un x.2)) id lr lo x.1 r.1,(r.2.un x.2).un (s.cut (r.2.un x.2)).lks)
 |c,.brk s p k=>(fU c k).bind fun r=>bif oo (c.ov.map (·.1)) p then some (.brk (s.cut (p.lk.un (r.2.un c.all))) p r.1,(p.lk.un (r.2.un c.all)).un (s.cut (p.lk.un (r.2.un c.all))).lks) else none
theorem LC.all_le:∀{l:List (Nat×Lk)} {id:Nat} {k:Lk},bI l id=some k→k.Le (l.foldr (fun x k=>x.2.un k) .none)
 |[],_,_,h=>by cases h
 |x::l,t,e,h=>by
  simp only[bI] at h;cases hb:Nat.beq x.1 t<;>simp only[hb,cond_true,cond_false] at h
  ·exact(LC.all_le h).trans (Lk.le_r _ _)
  ·cases h;exact Lk.le_l _ _
theorem aaW:∀{l:List (Nat×Lk)} {id:Nat},id∈l.map (·.1)→∃k,bI l id=some k
 |[],_,h=>by cases h
 |x::l,id,h=>by
  simp only[bI];cases hb:Nat.beq x.1 id with
  |true=>exact⟨_,rfl⟩
  |false=>
   simp only[cond_false];rcases cC.1 h with e|h
   ·rw[e,gH] at hb;cases hb
   ·exact aaW h
theorem ar1 {T:cG}:∀(t:PT) {c:LC} {t':PT} {L:Lk},fU c t=some (t',L)→∀{Q1 Q2:Out→Prop} {ρ1 ρ2:Env},ME c Q1 Q2→Alike L ρ1 ρ2→aH T t' ρ1 Q1→aH T t ρ2 Q2:=by
 intro t
 induction t with
 |next s=>
  intro c t' L hp Q1 Q2 ρ1 ρ2 hQ hA h;simp only[fU,aT,oa] at hp;obtain⟨rfl,rfl⟩:=hp;exact hQ.1 _ _ (SE.cut_al hA) h
 |exit id s=>
  intro c t' L hp Q1 Q2 ρ1 ρ2 hQ hA h;simp only[fU,aC,oa] at hp;obtain⟨k,hk,rfl,rfl⟩:=hp;exact hQ.2.1 _ k _ _ hk (SE.cut_al hA) h
 |ret e=>
  intro c t' L hp Q1 Q2 ρ1 ρ2 hQ hA h;simp only[fU,aT,oa] at hp;obtain⟨rfl,rfl⟩:=hp;show Q2 (.ret (e.ev ρ2));rw[PE.ev_alike e hA];exact hQ.2.2 _ h
 |chk e k ih=>
  intro c t' L hp Q1 Q2 ρ1 ρ2 hQ hA h;simp only[fU,aC,oa] at hp;obtain⟨r,hr,rfl,rfl⟩:=hp;exact⟨by rw[PE.ev_alike e (hA.le (Lk.le_l _ _))];exact h.1,ih hr hQ (hA.le (Lk.le_r _ _)) h.2⟩
 |ite e a b bo dz=>
  intro c t' L hp Q1 Q2 ρ1 ρ2 hQ hA h;simp only[fU,av,aC,oa] at hp;obtain⟨x,hx,y,hy,rfl,rfl⟩:=hp;have h2:=hA.le (Lk.le_r _ _);simp only[aH] at h ⊢;rw[PE.ev_alike e (hA.le (Lk.le_l _ _))];split
  ·rename_i hc;rw[if_pos hc] at h;exact bo hx hQ (h2.le (Lk.le_l _ _)) h
  ·rename_i hc;rw[if_neg hc] at h;exact dz hy hQ (h2.le (Lk.le_r _ _)) h
 |call s gs dst f args k ih=>
  intro c t' L hp Q1 Q2 ρ1 ρ2 hQ hA h;simp only[fU,aC,oa] at hp;obtain⟨r,hr,rfl,rfl⟩:=hp;have hS:=SE.cut_al (hA.le (Lk.le_r _ _));simp only[aH] at h ⊢;rw[PE.evs_alike args (hA.le (Lk.le_l _ _)),AO (hS.le (Lk.le_r _ _))];split
  ·rename_i hc;rw[if_pos hc] at h;obtain⟨d,hd,h⟩:=h;exact⟨d,hd,ih hr hQ ((hS.le (Lk.le_l _ _)).setR dst d) h⟩
  ·rename_i hc;rw[if_neg hc] at h;exact ih hr hQ (hS.le (Lk.le_l _ _)) h
 |callc s gs dst e args k ih=>
  intro c t' L hp Q1 Q2 ρ1 ρ2 hQ hA h;simp only[fU,aC,oa] at hp;obtain⟨r,hr,rfl,rfl⟩:=hp;have hS:=SE.cut_al (hA.le (Lk.le_r _ _));have hE:=hA.le (Lk.le_l _ _);simp only[aH] at h ⊢;rw[PE.ev_alike e (hE.le (Lk.le_l _ _)),PE.evs_alike args (hE.le (Lk.le_r _ _)),AO (hS.le (Lk.le_r _ _))];split
  ·rename_i hc;rw[if_pos hc] at h;obtain⟨f,caps,d,he,hd,h⟩:=h;exact⟨f,caps,d,he,hd,ih hr hQ ((hS.le (Lk.le_l _ _)).setR dst d) h⟩
  ·rename_i hc;rw[if_neg hc] at h;exact ih hr hQ (hS.le (Lk.le_l _ _)) h
 |mcall s j f args k ih=>
  intro c t' L hp Q1 Q2 ρ1 ρ2 hQ hA h;simp only[fU,aC,oa] at hp;obtain⟨r,hr,rfl,rfl⟩:=hp;have hS:=SE.cut_al (hA.le (Lk.le_r _ _));simp only[aH] at h ⊢;rw[PE.evs_alike args (hA.le (Lk.le_l _ _))];obtain⟨d,hd,h⟩:=h;exact⟨d,hd,ih hr hQ (hS.setO j d) h⟩
 |iteS s e lr lo a b k bo dz kE=>
  intro c t' L hp Q1 Q2 ρ1 ρ2 hQ hA h;simp only[fU,av,aC,oa] at hp;obtain⟨r,hr,x,hx,y,hy,rfl,rfl⟩:=hp;have hS:=SE.cut_al (hA.le (Lk.le_r _ _));have Jg:=hS.le (Lk.le_l _ _);have DQ:=hS.le ((Lk.le_l _ _).trans (Lk.le_r _ _));have hSy:=hS.le ((Lk.le_r _ _).trans (Lk.le_r _ _))
  have rel:ME ⟨r.2,c.ov⟩ (ld ((s.cut (r.2.un (x.2.un y.2))).ev ρ1) lr lo (gQ (fun ρ'=>aH T r.1 ρ' Q1) Q1)) (ld (s.ev ρ2) lr lo (gQ (fun ρ'=>aH T k ρ' Q2) Q2)):=
   ⟨fun η1 η2 ha hq=>kE hr hQ (Jg.join ha lr lo) hq,fun id k' η1 η2 hk ha hq=>hQ.2.1 id k' _ _ hk ha hq,fun d hq=>hQ.2.2 d hq⟩
  simp only[aH] at h ⊢;rw[PE.ev_alike e (hA.le (Lk.le_l _ _))];split
  ·rename_i hc;rw[if_pos hc] at h;exact bo hx rel DQ h
  ·rename_i hc;rw[if_neg hc] at h;exact dz hy rel hSy h
 |blockS s id lr lo a k bo kE=>
  intro c t' L hp Q1 Q2 ρ1 ρ2 hQ hA h;simp only[fU,av,aC,oa] at hp;obtain⟨r,hr,x,hx,rfl,rfl⟩:=hp;have hS:=SE.cut_al hA;have Jg:=hS.le (Lk.le_l _ _);refine bo hx (Q1:=mg ((s.cut (r.2.un x.2)).ev ρ1) id lr lo (gQ (fun ρ'=>aH T r.1 ρ' Q1) Q1)) ⟨fun η1 η2 ha hq=>kE hr hQ (Jg.join ha lr lo) hq,fun bT k' η1 η2 hk ha hq=>?_,fun d hq=>hQ.2.2 d hq⟩ (hS.le (Lk.le_r _ _)) h;simp only[mg] at hq ⊢;simp only[bI] at hk;by_cases e:bT=id
  ·subst e;simp only[gH,cond_true,aT] at hk;subst hk;rw[if_pos rfl] at hq ⊢;exact kE hr hQ (Jg.join ha lr lo) hq
  ·rw[if_neg e] at hq ⊢;rw[ew (fun h=>e h.symm),cond_false] at hk;exact hQ.2.1 bT k' _ _ hk ha hq
 |brk s p k kE=>
  intro c t' L hp Q1 Q2 ρ1 ρ2 hQ hA h;simp only[fU,av] at hp;obtain⟨r,hr,hp⟩:=hp;cases hx:oo (c.ov.map (·.1)) p<;>simp only[hx,cond_true,cond_false,aT,oa] at hp
  ·cases hp
  obtain⟨rfl,rfl⟩:=hp;have hS:=SE.cut_al hA;have jq:Off (p.lk.un (r.2.un c.all)) (s.ev ρ2) ((s.cut (p.lk.un (r.2.un c.all))).ev ρ1) (s.ev ρ2):=⟨hS,fun _ _=>rfl,fun _ _=>rfl⟩
  obtain⟨x,hq,n0,hn⟩:=h;have step:=fun n (hle:n0≤n)=>PC.ev_off p (Lk.le_l _ _) jq (hn n hle);obtain⟨x',h1,h2⟩:=step n0 (bl _);refine⟨x',?_,n0,fun n hle=>?_⟩
  ·cases x with
   |next η=>obtain⟨η',rfl,h3⟩:=h2;exact kE hr hQ (h3.al.le ((Lk.le_l _ _).trans (Lk.le_r _ _))) hq
   |exit i η=>
    obtain⟨η',rfl,h3⟩:=h2;obtain⟨k',bu⟩:=aaW (ajo p hx (hn n0 (bl _)));exact hQ.2.1 i k' _ _ bu (h3.al.le ((LC.all_le bu).trans ((Lk.le_r _ _).trans (Lk.le_r _ _)))) hq
   |ret d=>cases h2;exact hQ.2.2 d hq
  ·obtain⟨x2,h3,h4⟩:=step n hle;rw[h3,h2.uniq h4]
def E7 (c:LC)(t:PT):PT:=match fU c t with|some r=>r.1|none=>t
theorem KP {T:cG}{c:LC}{t:PT}{Q:Out→Prop}{ρ:Env}(hQ:ME c Q Q)(h:aH T (E7 c t) ρ Q):aH T t ρ Q:=by
 unfold E7 at h;split at h
 ·rename_i r hr;exact ar1 t hr hQ ⟨fun _ _=>rfl,fun _ _=>rfl⟩ h
 ·exact h
def afP (c:PC):PT:=sx c [] .id (fun _ s=>.next s) (fun _ id s=>.exit id s)
theorem afQ {T:cG}{c:PC}{ρ:Env}{Q:Out→Prop}(h:aH T (afP c) ρ Q):aN T c ρ Q:=
 L2 (s:=.id) c (bX.ok_nil _) h (fun ρ' ae s _ _ h=>h) (fun ρ' ae id s _ _ h=>h) (fun _ _ _ h=>h) (fun _ h=>h)
def tree (c:PC):PT:=E7 ⟨.none,[]⟩ (afP c)
theorem GK {T:cG}{c:PC}{ρ:Env}{d:D}(h:aH T (tree c) ρ fun x=>x=.ret d):aN T c ρ fun x=>x=.ret d:=
 afQ (KP ⟨fun _ _ _ h=>(by cases h),fun _ _ _ _ _ _ h=>(by cases h),fun _ h=>h⟩ h)
def SE.keep (s:SE)(lr lo:List Nat):SE:=⟨lr.map fun t=>(t,s.getR t),lo.map fun t=>(t,s.getO t)⟩
theorem SE.keep_r (s:SE)(lr lo:List Nat)(ρ:Env):lr.map ((s.keep lr lo).ev ρ).r=lr.map (s.ev ρ).r:=by
 apply we;intro t ht;show((s.keep lr lo).getR t).ev ρ=(s.getR t).ev ρ;have:=xE (f:=fun t=>s.getR t) (l:=[]) (u:=t) lr;rw[lx,if_pos ht] at this;have e:(s.keep lr lo).getR t=s.getR t:=by unfold SE.getR SE.keep;simp only[];rw[this];rfl
 rw[e]
theorem SE.keep_o (s:SE)(lr lo:List Nat)(ρ:Env):lo.map ((s.keep lr lo).ev ρ).o=lo.map (s.ev ρ).o:=by
 apply we;intro t ht;show((s.keep lr lo).getO t).ev ρ=(s.getO t).ev ρ;have:=xE (f:=fun t=>s.getO t) (l:=[]) (u:=t) lo;rw[lx,if_pos ht] at this;have e:(s.keep lr lo).getO t=s.getO t:=by unfold SE.getO SE.keep;simp only[];rw[this];rfl
 rw[e]
def ae6 (id:Nat)(bA bz lr lo:List Nat)(a:PC):PT:=
 sx a [] .id (fun _ s=>.next (s.keep lr lo)) (fun _ bT s=>bif Nat.beq bT id then .exit id (s.keep bA bz) else .exit bT s)
def eW (ρ:Env)(id:Nat)(bA bz lr lo:List Nat)(K:List D→List D→Prop)(Q:Out→Prop):Out→Prop
 |.next ρ'=>K (lr.map ρ'.r) (lo.map ρ'.o)
 |.exit bT ρ'=>if bT=id then Q (.next (ρ.put bA (bA.map ρ'.r) bz (bz.map ρ'.o))) else Q (.exit bT ρ')
 |.ret d=>Q (.ret d)
def round (id:Nat)(bA bz lr lo:List Nat)(a:PC):PT:=E7 ⟨⟨bits lr,lo⟩,[(id,⟨bits bA,bz⟩)]⟩ (ae6 id bA bz lr lo a)
theorem abl {k:Lk}{lr:List Nat}{ρ1 ρ2:Env}(h:Alike k ρ1 ρ2)(hk:∀t,t∈lr→aw k.r t=true):lr.map ρ2.r=lr.map ρ1.r:=we fun t ht=>h.r t (hk t ht)
theorem Kf {k:Lk}{lo:List Nat}{ρ1 ρ2:Env}(h:Alike k ρ1 ρ2)(hk:∀t,t∈lo→t∈k.o):lo.map ρ2.o=lo.map ρ1.o:=we fun t ht=>h.o t (hk t ht)
theorem as6 {T:cG}{id:Nat}{bA bz lr lo:List Nat}{a:PC}{ρ ρ0:Env}{K:List D→List D→Prop}{Q:Out→Prop}(h:aH T (round id bA bz lr lo a) ρ (eW ρ0 id bA bz lr lo K Q)):aH T (ae6 id bA bz lr lo a) ρ (eW ρ0 id bA bz lr lo K Q):=by
 refine KP ⟨fun ρ1 ρ2 ha hq=>?_,fun bT k ρ1 ρ2 hk ha hq=>?_,fun d hq=>hq⟩ h
 ·simp only[eW] at hq ⊢;rw[abl ha fun t ht=>NI ht,Kf ha fun t ht=>ht];exact hq
 ·simp only[bI] at hk;cases hb:Nat.beq id bT<;>simp only[hb,cond_true,cond_false] at hk
  ·cases hk
  ·cases hk;have:=cR hb;subst this;simp only[eW,if_true] at hq ⊢;rw[abl ha fun t ht=>NI ht,Kf ha fun t ht=>ht];exact hq
theorem aN.forLoop {T:cG}{id:Nat}{bA bz lr lo:List Nat}{a:PC}{ρ:Env}{Q:Out→Prop}{α:Type}(inv:α→List D→List D→Prop)(vt:α→Nat)(s0:α)(h0:inv s0 (lr.map ρ.r) (lo.map ρ.o))
 (step:∀s vr vo,inv s vr vo→aH T (round id bA bz lr lo a) (ρ.put lr vr lo vo) (eW ρ id bA bz lr lo (fun vr vo=>∃s',vt s'<vt s∧inv s' vr vo) Q)):aN T (.block id bA bz (.loop lr lo a)) ρ Q:=by
 refine .block (.loop inv vt s0 h0 fun s vr vo hi=>?_);have h:=as6 (step s vr vo hi);refine L2 (s:=.id) a (bX.ok_nil _) h (fun ρ' ae s' _ _ h=>?_) (fun ρ' ae bT s' _ _ h=>?_) (fun _ bT ρ' h=>?_) (fun d h=>h)
 ·simp only[aH,eW] at h;rw[SE.keep_r,SE.keep_o] at h;exact h
 ·simp only[gQ,mg];by_cases cD:bT=id
  ·subst cD;simp only[gH,cond_true,aH,eW,if_true] at h;rw[SE.keep_r,SE.keep_o] at h;rw[if_pos rfl];exact h
  ·rw[ew cD,cond_false] at h;simp only[aH,eW] at h;rw[if_neg cD] at h ⊢;exact h
 ·simp only[gQ,mg];simp only[eW] at h;split
  ·rename_i e;rw[if_pos e] at h;exact h
  ·rename_i e;rw[if_neg e] at h;exact h
def ae7 (lo:List Nat)(a:PC):PT:=sx a [] .id (fun _ s=>.next (s.keep [] lo)) (fun _ id s=>.exit id (s.keep [] lo))
def oX (lo:List Nat)(a:PC):PT:=E7 ⟨⟨0,lo⟩,[(cJ,⟨0,lo⟩)]⟩ (ae7 lo a)
theorem ae8 {T:cG}{lo:List Nat}{a:PC}{ρ:Env}{Q:Out→Prop}(hn:∀ρ1 ρ2,lo.map ρ2.o=lo.map ρ1.o→Q (.next ρ1)→Q (.next ρ2))(hx:∀ρ1 ρ2,lo.map ρ2.o=lo.map ρ1.o→Q (.exit cJ ρ1)→Q (.exit cJ ρ2))(h:aH T (oX lo a) ρ Q):aH T (ae7 lo a) ρ Q:=by
 refine KP ⟨fun ρ1 ρ2 ha hq=>hn ρ1 ρ2 (Kf ha fun t ht=>ht) hq,fun bT k ρ1 ρ2 hk ha hq=>?_,fun d hq=>hq⟩ h;simp only[bI] at hk;cases hb:Nat.beq cJ bT<;>simp only[hb,cond_true,cond_false] at hk
 ·cases hk
 ·cases hk;have:=cR hb;subst this;exact hx ρ1 ρ2 (Kf ha fun t ht=>ht) hq
theorem aN.eachR {T:cG}{e:PE}{ps lo:List Nat}{rt:Option PE}{a:PC}{ρ:Env}{Q:Out→Prop}(xs:List D)(he:(e.ev ρ).l=xs)(inv:Nat→List D→Prop)(h0:inv 0 (lo.map ρ.o))
 (step:∀k x vo,xs[k]?=some x→inv k vo→aH T (oX lo a) (ρ.put ps (partsOf ps x) lo vo) (sY ρ lo rt (inv (k+1)) Q)) (done:∀vo,inv xs.length vo→Q (.next (ρ.put [] [] lo vo))):aN T (.each e ps lo rt a) ρ Q:=by
 refine .each xs he inv h0 (fun k x vo hx hi=>?_) done;have h:=ae8 (fun ρ1 ρ2 e hq=>by simp only[sY] at hq ⊢;rw[e];exact hq) (fun ρ1 ρ2 e hq=>by simp only[sY,if_true] at hq ⊢;rw[e];exact hq) (step k x vo hx hi);refine L2 (s:=.id) a (bX.ok_nil _) h (fun ρ' ae s' _ _ h=>?_) (fun ρ' ae bT s' _ _ h=>?_) (fun _ bT ρ' h=>h) (fun d h=>h)
 ·simp only[aH,sY] at h;rw[SE.keep_o] at h;exact h
 ·simp only[aH,sY] at h;rw[SE.keep_o] at h;exact h
theorem aN.meachR {T:cG}{J:Nat}{ps cK lo:List Nat}{a:PC}{ρ:Env}{Q:Out→Prop}(es:List (D×D))(he:ρ.o J=.tup [.list [],.map es])(inv:List D→List D→Prop)(h0:inv [] (lo.map ρ.o))
 (step:∀done x rest vo,(done++x::rest).Perm (iu (.map es))→inv done vo→aH T (oX lo a) ((ρ.put ps (cK.map x.tget) lo vo).setO J (.tup [.list (done++[x]),.map es])) (fun y=>∃ρ',y=.next ρ'∧inv (done++[x]) (lo.map ρ'.o)))
 (last:∃vo,(∀done,done.Perm (iu (.map es))→∀mY,inv done mY→mY=vo)∧Q (.next (ρ.put [] [] lo vo))):aN T (.meach J ps cK lo a) ρ Q:=by
 refine .meach es he inv h0 (fun done x rest vo hp hi=>?_) last;have h:=ae8 (fun ρ1 ρ2 e ⟨ρ',e1,hq⟩=>by cases e1;exact⟨_,rfl,by rw[e];exact hq⟩) (fun ρ1 ρ2 e ⟨ρ',e1,hq⟩=>by cases e1) (step done x rest vo hp hi);refine L2 (s:=.id) a (bX.ok_nil _) h (fun ρ' ae s' _ _ h=>?_) (fun ρ' ae bT s' _ _ h=>?_) (fun _ bT ρ' h=>?_) (fun d h=>?_)
 ·simp only[aH] at h;obtain⟨ρ2,e,h⟩:=h;injection e with e;subst e;rw[SE.keep_o] at h;exact⟨_,rfl,h⟩
 ·simp only[aH] at h;obtain⟨ρ2,e,h⟩:=h;cases e
 ·obtain⟨ρ2,e,_⟩:=h;cases e
 ·obtain⟨ρ2,e,_⟩:=h;cases e
theorem yR {T:cG}:∀(t:PT) {ρ:Env} {Q Q':Out→Prop},(∀x,Q x→Q' x)→aH T t ρ Q→aH T t ρ Q':=by
 intro t
 induction t with
 |next s=>intro ρ Q Q' h hx;exact h _ hx
 |exit id s=>intro ρ Q Q' h hx;exact h _ hx
 |ret e=>intro ρ Q Q' h hx;exact h _ hx
 |chk e k ih=>intro ρ Q Q' h hx;exact⟨hx.1,ih h hx.2⟩
 |ite c a b bo dz=>
  intro ρ Q Q' h hx;simp only[aH] at hx ⊢;split
  ·rename_i hc;rw[if_pos hc] at hx;exact bo h hx
  ·rename_i hc;rw[if_neg hc] at hx;exact dz h hx
 |call s gs dst f args k ih=>
  intro ρ Q Q' h hx;simp only[aH] at hx ⊢;split
  ·rename_i hc;rw[if_pos hc] at hx;obtain⟨d,hd,hx⟩:=hx;exact⟨d,hd,ih h hx⟩
  ·rename_i hc;rw[if_neg hc] at hx;exact ih h hx
 |callc s gs dst e args k ih=>
  intro ρ Q Q' h hx;simp only[aH] at hx ⊢;split
  ·rename_i hc;rw[if_pos hc] at hx;obtain⟨f,c,d,he,hd,hx⟩:=hx;exact⟨f,c,d,he,hd,ih h hx⟩
  ·rename_i hc;rw[if_neg hc] at hx;exact ih h hx
 |mcall s j f args k ih=>intro ρ Q Q' h hx;obtain⟨d,hd,hx⟩:=hx;exact⟨d,hd,ih h hx⟩
 |iteS s c lr lo a b k bo dz kE=>
  intro ρ Q Q' h hx
  have hq:∀x,ld (s.ev ρ) lr lo (gQ (fun ρ'=>aH T k ρ' Q) Q) x→ld (s.ev ρ) lr lo (gQ (fun ρ'=>aH T k ρ' Q') Q') x:=by
   intro x hx;cases x with
   |next ρ'=>exact kE h hx
   |exit id ρ'=>exact h _ hx
   |ret d=>exact h _ hx
  simp only[aH] at hx ⊢;split
  ·rename_i hc;rw[if_pos hc] at hx;exact bo hq hx
  ·rename_i hc;rw[if_neg hc] at hx;exact dz hq hx
 |blockS s id lr lo a k bo kE=>
  intro ρ Q Q' h hx;refine bo (fun x hx=>?_) hx;cases x with
  |next ρ'=>exact kE h hx
  |exit bT ρ'=>
   simp only[mg] at hx ⊢;split
   ·rename_i e;rw[if_pos e] at hx;exact kE h hx
   ·rename_i e;rw[if_neg e] at hx;exact h _ hx
  |ret d=>exact h _ hx
 |brk s c k ih=>
  intro ρ Q Q' h hx;refine aN.mono hx fun x hx=>?_;cases x with
  |next ρ'=>exact ih h hx
  |exit id ρ'=>exact h _ hx
  |ret d=>exact h _ hx
theorem aN.forRounds {T:cG}{id:Nat}{bA bz lr lo:List Nat}{a:PC}{ρ:Env}{Q:Out→Prop}(N:Nat)(str fD:Nat→List D)(h0:lr.map ρ.r=str 0∧lo.map ρ.o=fD 0)
 (step:∀k,k<N→aH T (round id bA bz lr lo a) (ρ.put lr (str k) lo (fD k)) (eW ρ id bA bz lr lo (fun vr vo=>vr=str (k+1)∧vo=fD (k+1)) Q))
 (last:aH T (round id bA bz lr lo a) (ρ.put lr (str N) lo (fD N)) (eW ρ id bA bz lr lo (fun _ _=>False) Q)):aN T (.block id bA bz (.loop lr lo a)) ρ Q:=by
 refine .forLoop (α:=Nat) (fun k vr vo=>k≤N∧vr=str k∧vo=fD k) (fun k=>N-k) 0 ⟨pC _,h0.1,h0.2⟩ ?_;rintro k vr vo ⟨hk,rfl,rfl⟩;have mono:∀{K K':List D→List D→Prop},(∀a b,K a b→K' a b)→∀x,eW ρ id bA bz lr lo K Q x→eW ρ id bA bz lr lo K' Q x:=by
  intro K K' h x hx;cases x with
  |next ρ'=>exact h _ _ hx
  |exit bT ρ'=>exact hx
  |ret d=>exact hx
 by_cases af:k<N
 ·exact yR _ (mono fun a b ⟨h1,h2⟩=>⟨k+1,by omega,by omega,h1,h2⟩) (step k af)
 ·obtain rfl:k=N:=by omega
  exact yR _ (mono fun a b h=>h.elim) last
theorem Tt {ρ:Env}{id:Nat}{bA bz lr lo:List Nat}{K K':List D→List D→Prop}{Q:Out→Prop}(h:∀a b,K a b→K' a b):∀x,eW ρ id bA bz lr lo K Q x→eW ρ id bA bz lr lo K' Q x:=by
 intro x hx;cases x with
 |next ρ'=>exact h _ _ hx
 |exit bT ρ'=>exact hx
 |ret d=>exact hx
theorem aN.scan {T:cG}{id:Nat}{bA bz lr lo:List Nat}{a:PC}{ρ:Env}{Q:Out→Prop}(N:Nat)(ok:Nat→Prop)(str fD:Nat→List D)(h0:lr.map ρ.r=str 0∧lo.map ρ.o=fD 0)
 (step:∀k,k<N→(∀j,j<k→ok j)→ok k→aH T (round id bA bz lr lo a) (ρ.put lr (str k) lo (fD k)) (eW ρ id bA bz lr lo (fun vr vo=>vr=str (k+1)∧vo=fD (k+1)) Q))
 (bad:∀k,k<N→(∀j,j<k→ok j)→¬ok k→aH T (round id bA bz lr lo a) (ρ.put lr (str k) lo (fD k)) (eW ρ id bA bz lr lo (fun _ _=>False) Q))
 (last:(∀j,j<N→ok j)→aH T (round id bA bz lr lo a) (ρ.put lr (str N) lo (fD N)) (eW ρ id bA bz lr lo (fun _ _=>False) Q)):aN T (.block id bA bz (.loop lr lo a)) ρ Q:=by
 refine .forLoop (α:=Nat) (fun k vr vo=>k≤N∧(∀j,j<k→ok j)∧vr=str k∧vo=fD k) (fun k=>N-k) 0 ⟨pC _,fun j hj=>by omega,h0.1,h0.2⟩ ?_;rintro k vr vo ⟨hk,hj,rfl,rfl⟩;by_cases af:k<N
 ·by_cases aD:ok k
  ·refine yR _ (Tt fun a b ⟨h1,h2⟩=>⟨k+1,by omega,by omega,fun j w7=>?_,h1,h2⟩) (step k af hj aD);by_cases e:j=k
   ·subst e;exact aD
   ·exact hj j (by omega)
  ·exact yR _ (Tt fun a b h=>h.elim) (bad k af hj aD)
 ·obtain rfl:k=N:=by omega
  exact yR _ (Tt fun a b h=>h.elim) (last hj)
def au (n:Nat)(e:PE):PE:=.mk ((List.range n).map fun i=>.cell e i)
def gV (n:Nat)(d:D):D:=.agg ((List.range n).flatMap fun i=>(d.c i).cells)
theorem ajm (ρ:Env)(n:Nat)(e:PE):(au n e).ev ρ=gV n (e.ev ρ):=by
 have key:∀l:List Nat,PE.evc ρ (l.map fun i=>.cell e i)=l.flatMap fun i=>((e.ev ρ).c i).cells:=by
  intro l
  induction l with
  |nil=>rfl
  |cons i l ih=>simp only[gU,PE.evc,PE.ev,wc,ih]
 show D.agg _=_;rw[key];rfl
end Cx
namespace Cx
open Go Go.RowKit
def aQ (n:Int):Prop:=-9223372036854775808≤n∧n≤9223372036854775807
def ints (l:List Int):D:=.list (l.map .int)
theorem bU {n:Int}(h:-9223372036854775808≤n∧n≤9223372036854775807):IntKind.i64.wrap n=n:=by
 simp only[IntKind.wrap,IntKind.signed,IntKind.bits];simp;split<;>omega
theorem DTy.int_inv {k:IntKind}{d:D}(h:DTy (.int k) d):∃n,d=.v (.int k n)∧k.min≤n∧n≤k.max:=by
 cases h with
 |int k n h1 h2=>exact⟨n,rfl,h1,h2⟩
 |other t d h=>exact h.elim
theorem DTy.i64_inv {d:D}(h:DTy (.int .i64) d):∃n,d=.int n∧aQ n:=by
 obtain⟨n,rfl,h1,h2⟩:=h.int_inv;exact⟨n,rfl,by simpa [IntKind.min,IntKind.max,IntKind.signed,IntKind.bits] using h1,by simpa [IntKind.min,IntKind.max,IntKind.signed,IntKind.bits] using h2⟩
theorem DTy.bool_inv {d:D}(h:DTy .bool d):∃b,d=.bool b:=by
 cases h with
 |bool b=>exact⟨b,rfl⟩
 |other t d h=>exact h.elim
theorem DTy.slice_inv {e:Ty}{d:D}(h:DTy (.slice e) d):∃xs,d=.list xs∧xs.length≤maxLen∧∀x,x∈xs→DTy e.unf x:=by
 cases h with
 |slice e xs hm h=>exact⟨xs,rfl,hm,h⟩
 |other t d h=>exact h.elim
theorem DTy.agg_inv {ts:List Ty}{d:D}(h:DTy (.agg ts) d):∃ds,d=.agg ds∧DTys ts ds:=by
 cases h with
 |agg ts ds h=>exact⟨ds,rfl,h⟩
 |other t d h=>exact h.elim
theorem DTys.cons_inv {t:Ty}{ts:List Ty}{ds:List D}(h:DTys (t::ts) ds):∃d ds',ds=d::ds'∧DTy t d∧DTys ts ds':=by
 cases h with
 |cons h hs=>exact⟨_,_,rfl,h,hs⟩
theorem DTys.nil_inv {ds:List D}(h:DTys [] ds):ds=[]:=by cases h;rfl
theorem jZ {α:Type}{enc:α→D}{P:α→Prop}{xs:List D}(h:∀x,x∈xs→∃a,x=enc a∧P a):∃l:List α,xs=l.map enc∧∀a,a∈l→P a:=by
 induction xs with
 |nil=>exact⟨[],rfl,fun _ h=>nomatch h⟩
 |cons x xs ih=>
  obtain⟨l,hl,hp⟩:=ih fun y hy=>h y (di _ hy);obtain⟨a,ha,pa⟩:=h x (du ..)
  exact⟨a::l,by rw[hl,ha];rfl,fun b hb=>by
   rcases cC.1 hb with e|hb
   ·rw[e];exact pa
   ·exact hp b hb⟩
theorem DTy.ints_inv {d:D}(h:DTy (.slice (.int .i64)) d):∃l:List Int,d=ints l∧l.length≤maxLen∧∀x,x∈l→aQ x:=by
 obtain⟨xs,rfl,hm,hx⟩:=h.slice_inv;obtain⟨l,rfl,hl⟩:=jZ (enc:=D.int) (P:=aQ) fun x hh=>(hx x hh).i64_inv;exact⟨l,rfl,by simpa using hm,hl⟩
theorem abo:maxLen=9223372036854775807:=rfl
section
variable (ρ:Env) (T:cG)
@[simp] theorem aBs (t:Nat):PE.ev ρ (.r t)=ρ.r t:=_root_.id rfl
@[simp] theorem aBp (t:Nat):PE.ev ρ (.o t)=ρ.o t:=_root_.id rfl
@[simp] theorem aBa (d:D):PE.ev ρ (.con d)=d:=_root_.id rfl
@[simp] theorem aA7 (e:PE)(i:Nat):PE.ev ρ (.cell e i)=(PE.ev ρ e).c i:=_root_.id rfl
@[simp] theorem aBC (e:PE)(a n:Nat):PE.ev ρ (.sub e a n)=.agg (((PE.ev ρ e).cells.drop a).take n):=_root_.id rfl
@[simp] theorem aBv (e x:PE)(n:Nat):PE.ev ρ (.setc e n x)=.agg (bZ (PE.ev ρ e).cells n (PE.ev ρ x).cells):=_root_.id rfl
@[simp] theorem aBi (es:List PE):PE.ev ρ (.mk es)=.agg (PE.evc ρ es):=_root_.id rfl
@[simp] theorem aA2 (op:BinOp)(k:IntKind)(x y:PE):PE.ev ρ (.ai op k x y)=.v (.int k (cV op k (PE.ev ρ x).i (PE.ev ρ y).i)):=_root_.id rfl
@[simp] theorem aA8 (op:BinOp)(x y:PE):PE.ev ρ (.ci op x y)=.v (.bool (jh op (PE.ev ρ x).i (PE.ev ρ y).i)):=_root_.id rfl
@[simp] theorem aA6 (op:BinOp)(x y:PE):PE.ev ρ (.cb op x y)=.v (.bool (z8 op (PE.ev ρ x).b (PE.ev ρ y).b)):=_root_.id rfl
@[simp] theorem aBc (op:BinOp)(x y:PE):PE.ev ρ (.cs op x y)=.v (.bool (Ab op (PE.ev ρ x).s (PE.ev ρ y).s)):=_root_.id rfl
@[simp] theorem aBn (x:PE):PE.ev ρ (.nt x)=.v (.bool (!(PE.ev ρ x).b)):=_root_.id rfl
@[simp] theorem aBb (k:IntKind)(x:PE):PE.ev ρ (.conv k x)=.v (.int k (k.wrap (PE.ev ρ x).i)):=_root_.id rfl
@[simp] theorem aBq (c a b:PE):PE.ev ρ (.pick c a b)=if(PE.ev ρ c).b=true then PE.ev ρ a else PE.ev ρ b:=by
  simp only[PE.ev];cases(PE.ev ρ c).b<;>rfl
@[simp] theorem aBj (n:Nat)(e:PE):PE.ev ρ (au n e)=gV n (PE.ev ρ e):=ajm ρ n e
@[simp] theorem aA5 (x:PE):PE.ev ρ (.bytes x)=.list ((PE.ev ρ x).s.data.toList.map fun b=>.v (.int .u8 b.toNat)):=_root_.id rfl
@[simp] theorem aBf (x:PE):PE.ev ρ (.llen x)=.v (.int .i64 (PE.ev ρ x).l.length):=_root_.id rfl
@[simp] theorem aBz (x:PE):PE.ev ρ (.slen x)=.v (.int .i64 (PE.ev ρ x).s.size):=_root_.id rfl
@[simp] theorem aBk (x:PE):PE.ev ρ (.mlen x)=.v (.int .i64 (PE.ev ρ x).m.length):=_root_.id rfl
@[simp] theorem aBo (x i:PE):PE.ev ρ (.nth x i)=(PE.ev ρ x).l.getD (PE.ev ρ i).i.toNat .none:=_root_.id rfl
@[simp] theorem aBe (x i:PE):PE.ev ρ (.idx x i)=.v (.bool (decide (0≤(PE.ev ρ i).i∧(PE.ev ρ i).i<(PE.ev ρ x).l.length))):=_root_.id rfl
@[simp] theorem aBw (x i y:PE)(n:Nat):PE.ev ρ (.setn x i n y)=.list ((PE.ev ρ x).l.set (PE.ev ρ i).i.toNat (vP ((PE.ev ρ x).l.getD (PE.ev ρ i).i.toNat .none) n (PE.ev ρ y))):=_root_.id rfl
@[simp] theorem aA4 (x y:PE):PE.ev ρ (.app x y)=.list ((PE.ev ρ x).l++(PE.ev ρ y).l):=_root_.id rfl
@[simp] theorem aBh (es:List PE):PE.ev ρ (.lst es)=.list (PE.evs ρ es):=_root_.id rfl
@[simp] theorem aBu (x y:PE):PE.ev ρ (.rep x y)=.list (List.replicate (PE.ev ρ x).i.toNat (PE.ev ρ y)):=_root_.id rfl
@[simp] theorem aBy (x a b:PE):PE.ev ρ (.slc x a b)=.list (((PE.ev ρ x).l.take (PE.ev ρ b).i.toNat).drop (PE.ev ρ a).i.toNat):=_root_.id rfl
@[simp] theorem aBA (x a b:PE):PE.ev ρ (.slok x a b)=.v (.bool (decide (0≤(PE.ev ρ a).i∧(PE.ev ρ a).i≤(PE.ev ρ b).i∧(PE.ev ρ b).i≤(PE.ev ρ x).l.length))):=_root_.id rfl
@[simp] theorem aBt (x:PE):PE.ev ρ (.ref x)=.ref (PE.ev ρ x):=_root_.id rfl
@[simp] theorem aBd (x:PE):PE.ev ρ (.deref x)=(PE.ev ρ x).deref:=_root_.id rfl
@[simp] theorem aBg (m k z:PE):PE.ev ρ (.look m k z)=(dQ (PE.ev ρ k) (PE.ev ρ m).m).getD (PE.ev ρ z):=_root_.id rfl
@[simp] theorem aBr (m k v:PE):PE.ev ρ (.put m k v)=.map (cY (PE.ev ρ k) (PE.ev ρ v) (PE.ev ρ m).m):=_root_.id rfl
@[simp] theorem aBl (x y:PE):PE.ev ρ (.mn x y)=if(PE.ev ρ y).i<(PE.ev ρ x).i then PE.ev ρ y else PE.ev ρ x:=by
  simp only[PE.ev];by_cases h:(PE.ev ρ y).i<(PE.ev ρ x).i<;>simp[h]
@[simp] theorem aBm (x y:PE):PE.ev ρ (.mx x y)=if(PE.ev ρ y).i>(PE.ev ρ x).i then PE.ev ρ y else PE.ev ρ x:=by
  simp only[PE.ev];by_cases h:(PE.ev ρ y).i>(PE.ev ρ x).i<;>simp[h]
@[simp] theorem aBE (es:List PE):PE.ev ρ (.tup es)=.tup (PE.evs ρ es):=_root_.id rfl
@[simp] theorem aBD (x:PE)(i:Nat):PE.ev ρ (.tget x i)=(PE.ev ρ x).tget i:=_root_.id rfl
@[simp] theorem aA9 (f:Nat)(es:List PE):PE.ev ρ (.clo f es)=.clo f (PE.evs ρ es):=_root_.id rfl
@[simp] theorem aA3 (x y:PE):PE.ev ρ (.an x y)=.v (.bool ((PE.ev ρ x).b&&(PE.ev ρ y).b)):=_root_.id rfl
@[simp] theorem aBI:PE.evs ρ []=[]:=_root_.id rfl
@[simp] theorem aBH (e:PE)(es:List PE):PE.evs ρ (e::es)=PE.ev ρ e::PE.evs ρ es:=_root_.id rfl
@[simp] theorem aBG:PE.evc ρ []=[]:=_root_.id rfl
@[simp] theorem aBF (e:PE)(es:List PE):PE.evc ρ (e::es)=(PE.ev ρ e).cells++PE.evc ρ es:=_root_.id rfl
@[simp] theorem aic (x:Bool):(D.bool x).b=x:=_root_.id rfl
@[simp] theorem aAU (k:IntKind)(n:Int):(D.v (.int k n)).i=n:=_root_.id rfl
@[simp] theorem aie (n:Int):(D.int n).i=n:=_root_.id rfl
@[simp] theorem aAQ (x:List D):(D.list x).l=x:=_root_.id rfl
@[simp] theorem aAO (l:List Int):(ints l).l=l.map .int:=_root_.id rfl
@[simp] theorem aAR (x:List (D×D)):(D.map x).m=x:=_root_.id rfl
@[simp] theorem aAE (x:List D)(i:Nat):(D.agg x).c i=x.getD i .none:=_root_.id rfl
@[simp] theorem aAF (x:List D):(D.agg x).cells=x:=_root_.id rfl
@[simp] theorem aAP (x:List D):(D.list x).cells=[.list x]:=_root_.id rfl
@[simp] theorem aAN (x:List Int):(ints x).cells=[ints x]:=_root_.id rfl
@[simp] theorem aAK (n:Int):(D.int n).cells=[.int n]:=_root_.id rfl
@[simp] theorem aAG (n:Bool):(D.bool n).cells=[.bool n]:=_root_.id rfl
@[simp] theorem aAT (x:List D)(i:Nat):(D.tup x).tget i=x.getD i .none:=_root_.id rfl
@[simp] theorem aAS (x:D):(D.ref x).deref=x:=_root_.id rfl
@[simp] theorem aDS (s:SE)(t:Nat):(s.ev ρ).r t=PE.ev ρ (s.getR t):=_root_.id rfl
@[simp] theorem aDR (s:SE)(t:Nat):(s.ev ρ).o t=PE.ev ρ (s.getO t):=_root_.id rfl
@[simp] theorem aBS (o:List (Nat×PE))(u:Nat):SE.getR ⟨[],o⟩ u=.r u:=_root_.id rfl
@[simp] theorem aBR (t:Nat)(e:PE)(r o:List (Nat×PE))(u:Nat):SE.getR ⟨(t,e)::r,o⟩ u=if t=u then e else SE.getR ⟨r,o⟩ u:=by
  simp only[SE.getR,bI];by_cases h:t=u
  ·subst h;simp
  ·simp[ew h,h]
@[simp] theorem aBQ (r:List (Nat×PE))(u:Nat):SE.getO ⟨r,[]⟩ u=.o u:=_root_.id rfl
@[simp] theorem aBP (t:Nat)(e:PE)(r o:List (Nat×PE))(u:Nat):SE.getO ⟨r,(t,e)::o⟩ u=if t=u then e else SE.getO ⟨r,o⟩ u:=by
  simp only[SE.getO,bI];by_cases h:t=u
  ·subst h;simp
  ·simp[ew h,h]
@[simp] theorem setR_r (t u:Nat)(d:D):(ρ.setR t d).r u=if u=t then d else ρ.r u:=Env.setR_r ρ t u d
@[simp] theorem aDY (t u:Nat)(d:D):(ρ.setR t d).o u=ρ.o u:=_root_.id rfl
@[simp] theorem setO_o (t u:Nat)(d:D):(ρ.setO t d).o u=if u=t then d else ρ.o u:=Env.setO_o ρ t u d
@[simp] theorem aDX (t u:Nat)(d:D):(ρ.setO t d).r u=ρ.r u:=_root_.id rfl
@[simp] theorem aDC (lr lo:List Nat)(vr vo:List D)(u:Nat):(ρ.put lr vr lo vo).r u=putL ρ.r lr vr u:=_root_.id rfl
@[simp] theorem aDB (lr lo:List Nat)(vr vo:List D)(u:Nat):(ρ.put lr vr lo vo).o u=putL ρ.o lo vo u:=_root_.id rfl
@[simp] theorem join_r (ρ':Env)(lr lo:List Nat)(u:Nat):(ρ.join lr lo ρ').r u=if u∈lr then ρ'.r u else ρ.r u:=Env.join_r ρ ρ' lr lo u
@[simp] theorem join_o (ρ':Env)(lr lo:List Nat)(u:Nat):(ρ.join lr lo ρ').o u=if u∈lo then ρ'.o u else ρ.o u:=Env.join_o ρ ρ' lr lo u
@[simp] theorem aDz (f:Nat→D)(i:Nat)(is:List Nat)(x:D)(xs:List D)(u:Nat):putL f (i::is) (x::xs) u=if u=i then x else putL f is xs u:=KQ f i is x xs u
@[simp] theorem aDA (f:Nat→D)(xs:List D)(u:Nat):putL f [] xs u=f u:=KR f xs u
@[simp] theorem aAZ (ds:List D)(u:Nat):(kS ds).r u=ds.getD u .none:=_root_.id rfl
@[simp] theorem aCm:holds [] ρ=true:=_root_.id rfl
@[simp] theorem aCl (g:Nat×Bool)(gs:List (Nat×Bool)):holds (g::gs) ρ=((ρ.r g.1).b==g.2&&holds gs ρ):=_root_.id rfl
variable (Q:Out→Prop)
@[simp] theorem aEB (s:SE):aH T (.next s) ρ Q=Q (.next (s.ev ρ)):=_root_.id rfl
@[simp] theorem aEy (id:Nat)(s:SE):aH T (.exit id s) ρ Q=Q (.exit id (s.ev ρ)):=_root_.id rfl
@[simp] theorem aEC (e:PE):aH T (.ret e) ρ Q=Q (.ret (e.ev ρ)):=_root_.id rfl
@[simp] theorem aEx (e:PE)(k:PT):aH T (.chk e k) ρ Q=((e.ev ρ).b=true∧aH T k ρ Q):=_root_.id rfl
@[simp] theorem aEz (c:PE)(a b:PT):aH T (.ite c a b) ρ Q=if(c.ev ρ).b=true then aH T a ρ Q else aH T b ρ Q:=_root_.id rfl
@[simp] theorem aEv (s:SE)(gs:List (Nat×Bool))(dst f:Nat)(args:List PE)(k:PT):aH T (.call s gs dst f args k) ρ Q=if holds gs (s.ev ρ)=true then ∃d,ao T f (PE.evs ρ args) d∧aH T k ((s.ev ρ).setR dst d) Q else aH T k (s.ev ρ) Q:=_root_.id rfl
@[simp] theorem aEA (s:SE)(c:PE)(lr lo:List Nat)(a b k:PT):aH T (.iteS s c lr lo a b k) ρ Q=if(c.ev ρ).b=true then aH T a (s.ev ρ) (ld (s.ev ρ) lr lo (gQ (fun ρ'=>aH T k ρ' Q) Q)) else aH T b (s.ev ρ) (ld (s.ev ρ) lr lo (gQ (fun ρ'=>aH T k ρ' Q) Q)):=_root_.id rfl
@[simp] theorem aEt (s:SE)(id:Nat)(lr lo:List Nat)(a k:PT):aH T (.blockS s id lr lo a k) ρ Q=aH T a (s.ev ρ) (mg (s.ev ρ) id lr lo (gQ (fun ρ'=>aH T k ρ' Q) Q)):=_root_.id rfl
@[simp] theorem aEu (s:SE)(c:PC)(k:PT):aH T (.brk s c k) ρ Q=aN T c (s.ev ρ) (gQ (fun ρ'=>aH T k ρ' Q) Q):=_root_.id rfl
variable (K:Env→Prop) (id:Nat) (lr lo bA bz:List Nat) (K2:List D→List D→Prop)
@[simp] theorem aDV (ρ':Env):gQ K Q (.next ρ')=K ρ':=_root_.id rfl
@[simp] theorem aDU (i:Nat)(ρ':Env):gQ K Q (.exit i ρ')=Q (.exit i ρ'):=_root_.id rfl
@[simp] theorem aDW (d:D):gQ K Q (.ret d)=Q (.ret d):=_root_.id rfl
@[simp] theorem aCD (ρ':Env):ld ρ lr lo Q (.next ρ')=Q (.next (ρ.join lr lo ρ')):=_root_.id rfl
@[simp] theorem aCE (d:D):ld ρ lr lo Q (.ret d)=Q (.ret d):=_root_.id rfl
@[simp] theorem aAn (ρ':Env):mg ρ id lr lo Q (.next ρ')=Q (.next (ρ.join lr lo ρ')):=_root_.id rfl
@[simp] theorem aAm (i:Nat)(ρ':Env):mg ρ id lr lo Q (.exit i ρ')=if i=id then Q (.next (ρ.join lr lo ρ')) else Q (.exit i ρ'):=_root_.id rfl
@[simp] theorem aAo (d:D):mg ρ id lr lo Q (.ret d)=Q (.ret d):=_root_.id rfl
@[simp] theorem aDN (ρ':Env):eW ρ id bA bz lr lo K2 Q (.next ρ')=K2 (lr.map ρ'.r) (lo.map ρ'.o):=_root_.id rfl
@[simp] theorem aDM (i:Nat)(ρ':Env):eW ρ id bA bz lr lo K2 Q (.exit i ρ')=if i=id then Q (.next (ρ.put bA (bA.map ρ'.r) bz (bz.map ρ'.o))) else Q (.exit i ρ'):=_root_.id rfl
@[simp] theorem aDO (d:D):eW ρ id bA bz lr lo K2 Q (.ret d)=Q (.ret d):=_root_.id rfl
@[simp] theorem aEw (s:SE)(gs:List (Nat×Bool))(dst:Nat)(e:PE)(args:List PE)(k:PT):aH T (.callc s gs dst e args k) ρ Q=if holds gs (s.ev ρ)=true then ∃f caps d,e.ev ρ=.clo f caps∧ao T f (PE.evs ρ args++caps) d∧aH T k ((s.ev ρ).setR dst d) Q else aH T k (s.ev ρ) Q:=_root_.id rfl
@[simp] theorem aAW (rt:Option PE)(K3:List D→Prop)(ρ':Env):sY ρ lo rt K3 Q (.next ρ')=K3 (lo.map ρ'.o):=_root_.id rfl
@[simp] theorem aAV (rt:Option PE)(K3:List D→Prop)(i:Nat)(ρ':Env):sY ρ lo rt K3 Q (.exit i ρ')=if i=cJ then ∃e,rt=some e∧Q (.ret (e.ev (ρ.put [] [] lo (lo.map ρ'.o)))) else Q (.exit i (ρ.put [] [] lo (lo.map ρ'.o))):=_root_.id rfl
@[simp] theorem aA0 (J:Nat)(ds:List D)(u:Nat):(Aj J ds).r u=(D.none::ds).getD u .none:=_root_.id rfl
theorem Yf (J:Nat)(ds:List D)(u:Nat):(Aj J ds).o u=if u=J then .list [] else .none:=by
 show(bif Nat.beq u J then D.list [] else .none)=_;by_cases h:u=J
 ·subst h;simp
 ·simp[ew h,h]
@[simp] theorem aDw (p:Nat)(x:D):partsOf [p] x=[x.tget 0]:=_root_.id rfl
@[simp] theorem aDx (p q:Nat)(x:D):partsOf [p,q] x=[x.tget 0,x.tget 1]:=_root_.id rfl
end
section
variable (k:IntKind) (a b:Int)
@[simp] theorem aAf:cV .add k a b=k.wrap (a+b):=_root_.id rfl
@[simp] theorem aAj:cV .sub k a b=k.wrap (a-b):=_root_.id rfl
@[simp] theorem aAg:cV .mul k a b=k.wrap (a*b):=_root_.id rfl
@[simp] theorem aAh:cV .quo k a b=k.wrap (a.tdiv b):=_root_.id rfl
@[simp] theorem aAi:cV .rem k a b=a.tmod b:=_root_.id rfl
@[simp] theorem aAw:jh .eql a b=(a==b):=_root_.id rfl
@[simp] theorem aAB:jh .neq a b=(a !=b):=_root_.id rfl
@[simp] theorem aAA:jh .lss a b=decide (a<b):=_root_.id rfl
@[simp] theorem aAz:jh .leq a b=decide (a≤b):=_root_.id rfl
@[simp] theorem aAy:jh .gtr a b=decide (a>b):=_root_.id rfl
@[simp] theorem aAx:jh .geq a b=decide (a≥b):=_root_.id rfl
variable (x y:Bool)
@[simp] theorem aAp:z8 .eql x y=(x==y):=_root_.id rfl
@[simp] theorem aAq:z8 .neq x y=(!(x==y)):=_root_.id rfl
end
theorem ao.of_tree {tab:Nat→Option PC}{ext:Nat→Option (aR→List D→Option D)}{f:Nat}{pc:PC}{t:PT}{ds:List D}{d:D}(hx:ext f=none)(ht:tab f=some pc)(he:tree pc=t)(h:aH (dV tab ext) t (kS ds) (fun x=>x=.ret d)):ao (dV tab ext) f ds d:=
 .of_pc hx ht (GK (he▸h))
@[simp] theorem aAM (n:Int):D.v (.int .i64 n)=D.int n:=_root_.id rfl
@[simp] theorem aAI (b:Bool):D.v (.bool b)=D.bool b:=_root_.id rfl
@[simp] theorem aAL (a b:Int):(D.int a=D.int b)=(a=b):=by
  apply propext;constructor
  ·intro h;injection h with h;injection h
  ·intro h;rw[h]
@[simp] theorem aAH (a b:Bool):(D.bool a=D.bool b)=(a=b):=by
  apply propext;constructor
  ·intro h;injection h with h;injection h
  ·intro h;rw[h]
section
variable (c:Prop) [Decidable c] (x y:D)
@[simp] theorem aCB:(if c then x else y).b=if c then x.b else y.b:=by split<;>rfl
@[simp] theorem aCC:(if c then x else y).i=if c then x.i else y.i:=by split<;>rfl
end
@[simp] theorem aED:IntKind.i64.wrap 1=1:=bU (by omega)
@[simp] theorem aEE:IntKind.i64.wrap 0=0:=bU (by omega)
end Cx
namespace Cx
open Go
inductive Tm where
 |mk (op n:Int) (args:List Tm)
instance:Inhabited Tm:=⟨.mk 0 0 []⟩
namespace Tm
def op:Tm→Int|.mk o _ _=>o
def n:Tm→Int|.mk _ n _=>n
def args:Tm→List Tm|.mk _ _ aa=>aa
end Tm
mutual
def dL:Tm→D
 |.mk o n aa=>.agg [.int o,.int n,.list (IS aa)]
def IS:List Tm→List D
 |[]=>[]
 |t::ts=>dL t::IS ts
end
theorem N9:∀l:List Tm,IS l=l.map dL
 |[]=>rfl
 |t::l=>by rw[IS,N9 l];rfl
theorem Du (t:Tm):dL t=.agg [.int t.op,.int t.n,.list (t.args.map dL)]:=by
 cases t with
 |mk o n aa=>rw[dL,N9];rfl
inductive Tm.OK:Tm→Prop where
 |mk (o n:Int) (aa:List Tm) (h1:aQ o) (h2:aQ n) (h3:aa.length≤maxLen) (h:∀a,a∈aa→Tm.OK a):Tm.OK (.mk o n aa)
theorem DTy.trm_inv {d:D}(h:DTy .trmA d):∃t:Tm,d=dL t∧t.OK:=by
 suffices hs:∀(m:Nat) (d:D),sizeOf d≤m→DTy .trmA d→∃t:Tm,d=dL t∧t.OK from hs _ d (bl _) h
 intro m
 induction m with
 |zero=>
  intro d hm h;cases d<;>simp at hm
 |succ m ih=>
  intro d hm h;obtain⟨ds,rfl,hs⟩:=DTy.agg_inv h;obtain⟨d1,ds,rfl,h1,hs⟩:=hs.cons_inv;obtain⟨d2,ds,rfl,h2,hs⟩:=hs.cons_inv;obtain⟨d3,ds,rfl,h3,hs⟩:=hs.cons_inv;obtain rfl:=hs.nil_inv;obtain⟨o,rfl,b1⟩:=h1.i64_inv;obtain⟨n,rfl,b2⟩:=h2.i64_inv;obtain⟨xs,rfl,hl,hx⟩:=h3.slice_inv
  obtain⟨l,rfl,aD⟩:=jZ (enc:=dL) (P:=Tm.OK) fun x hh=>ih x (by
   have:=List.sizeOf_lt_of_mem hh;simp at hm;omega) (hx x hh)
  exact⟨.mk o n l,by rw[dL,N9],.mk o n l b1 b2 (by simpa using hl) aD⟩
theorem DTy.trms_inv {d:D}(h:DTy (.slice .trm) d):∃l:List Tm,d=.list (l.map dL)∧l.length≤maxLen∧∀t,t∈l→t.OK:=by
 obtain⟨xs,rfl,hl,hx⟩:=h.slice_inv;obtain⟨l,rfl,aD⟩:=jZ (enc:=dL) (P:=Tm.OK) fun x hh=>DTy.trm_inv (hx x hh);exact⟨l,rfl,by simpa using hl,aD⟩
end Cx
namespace Cx
open Go
def TJ (g:Nat)(zs:List Int):Nat→Option (Ty×D):=fun k=>bif Nat.beq k g then some (.agg (zs.map fun _=>.int .i64),.agg (zs.map fun z=>.v (.int .i64 z))) else none
theorem atL {C:Ctx}{g:Nat}{zs:List Int}{name:String}{W:World}(hC:C.glob=TJ g zs)(hg:C.P.globalNamed name=some g)(hz:zs.all (fun z=>decide (IntKind.i64.min≤z)&&decide (z≤IntKind.i64.max))=true)
 (h:Lib.TabIs C.P W name .i64 zs):CtxOK C (nz W):=by
 refine⟨fun k x hx=>?_⟩;rw[hC] at hx;unfold TJ at hx;cases hk:Nat.beq k g<;>simp only[hk,cond_true,cond_false] at hx
 ·cases hx
 cases hx;obtain rfl:=aB hk
 have xm:Rep C.cap (nz W) (.agg (zs.map fun _=>.int .i64)) (.agg (zs.map fun z=>Value.int .i64 z).toArray) (.agg (zs.map fun z=>.v (.int .i64 z))):=by
  refine .agg _ _ _ (by simp) (by simp) (fun i t ht=>?_) (fun i t ht=>?_)
  ·rw[cB,aC] at ht;obtain⟨z,xy,rfl⟩:=ht;rw[aJ,aJ,cB,cB,xy];have:=bK.1 hz z (mc xy);simp only[aq,decide_eq_true_eq] at this;exact .int _ _ this.1 this.2
  ·rw[cB,aC] at ht;obtain⟨z,_,rfl⟩:=ht;rfl
 refine .ref _ k 0 _ _ xm fun j u hu=>?_;simp only[Value.cells,G0,cB,aC] at hu;obtain⟨z,xy,rfl⟩:=hu;have af:=(eD.1 xy).1;have:=h.cell hg j af;show W.cell? ⟨k,0+j,none⟩=_;rw[gI,this,aJ,xy];rfl
end Cx
namespace Cx
open Go Go.RowKit
def loops:PC→List PC
 |.seq a b=>loops a++loops b
 |.ite _ _ _ a b=>loops a++loops b
 |.block id lr lo (.loop Qv Qp a)=>loops a++[.block id lr lo (.loop Qv Qp a)]
 |.block _ _ _ a=>loops a
 |.loop _ _ a=>loops a
 |.each e ps lo rt a=>loops a++[.each e ps lo rt a]
 |.meach J ps cK lo a=>loops a++[.meach J ps cK lo a]
 |_=>[]
def NJ:PC→PC
 |.block _ _ _ (.loop _ _ a)=>a
 |.each _ _ _ _ a=>a
 |.meach _ _ _ _ a=>a
 |_=>.skip
def Ke (c:PC)(k:Nat):PC:=(loops c).getD k .skip
def rnd:PC→PT
 |.block id lr lo (.loop Qv Qp a)=>round id lr lo Qv Qp a
 |.each _ _ lo _ a=>oX lo a
 |.meach _ _ _ lo a=>oX lo a
 |_=>.next .id
inductive Shp where
 |lp (id:Nat) (bA bz lr lo:List Nat)
 |ea (lo:List Nat)
 |no
def B6:PC→Shp
 |.block id bA bz (.loop lr lo _)=>.lp id bA bz lr lo
 |.each _ _ lo _ _=>.ea lo
 |.meach _ _ _ lo _=>.ea lo
 |_=>.no
def told (c:PC):PT×List (Shp×PT):=(tree c,(loops c).map fun l=>(B6 l,rnd l))
theorem L8 {o:Option PC}{t:PT}{l:List (Shp×PT)}(h:o.map told=some (t,l)):o=some (o.getD .skip)∧tree (o.getD .skip)=t∧∀k x,l[k]?=some x→(B6 (Ke (o.getD .skip) k),rnd (Ke (o.getD .skip) k))=x:=by
 cases o with
 |none=>cases h
 |some c=>
  have h1:told c=(t,l):=by injection h
  unfold told at h1;injection h1 with h1 h2
  refine⟨rfl,h1,fun k x hx=>?_⟩;subst h2;simp only[cB,aC] at hx;obtain⟨y,hy,rfl⟩:=hx;have:Ke ((some c:Option PC).getD .skip) k=y:=by
   show(loops c).getD k .skip=y;rw[aJ,hy];rfl
  rw[this]
theorem asF {c:PC}{id:Nat}{bA bz lr lo:List Nat}{t:PT}(h:(B6 c,rnd c)=(.lp id bA bz lr lo,t)):round id bA bz lr lo (NJ c)=t:=by
 injection h with h1 h2
 subst h2;unfold B6 at h1;split at h1
 ·cases h1;rfl
 all_goals cases h1
theorem ai1 {c:PC}{lo:List Nat}{t:PT}(h:(B6 c,rnd c)=(.ea lo,t)):oX lo (NJ c)=t:=by
 injection h with h1 h2
 subst h2;unfold B6 at h1;split at h1
 ·cases h1
 ·cases h1;rfl
 ·cases h1;rfl
 ·cases h1
def cD {α:Type}(x:α):α:=Classical.choose (⟨x,rfl⟩:∃y,y=x)
theorem Eb {α:Type}(x:α):cD x=x:=WE (⟨x,rfl⟩:∃y,y=x)
def bj (o:Option PC):Nat→PC:=fun k=>NJ (Ke (o.getD .skip) k)
abbrev ab (o:Option PC):PC:=cD (o.getD .skip)
abbrev bn (o:Option PC):Nat→PC:=cD (bj o)
section
variable {o:Option PC} {F:(Nat→PC)→PT×List (Shp×PT)}
theorem at2 (h:o.map told=some (F (bj o))):o=some (ab o):=by unfold ab;rw[Eb];exact(L8 (t:=(F (bj o)).1) (l:=(F (bj o)).2) h).1
theorem bB (h:o.map told=some (F (bj o))):tree (ab o)=(F (bn o)).1:=by unfold ab bn;rw[Eb,Eb];exact(L8 (t:=(F (bj o)).1) (l:=(F (bj o)).2) h).2.1
theorem be (h:o.map told=some (F (bj o)))(k:Nat){id:Nat}{bA bz lr lo:List Nat}{t:(Nat→PC)→PT}(hk:∀b,(F b).2[k]?=some (.lp id bA bz lr lo,t b)):round id bA bz lr lo (bn o k)=t (bn o):=by
 unfold bn;rw[Eb];exact asF ((L8 (t:=(F (bj o)).1) (l:=(F (bj o)).2) h).2.2 k _ (hk _))
theorem L7 (h:o.map told=some (F (bj o)))(k:Nat){lo:List Nat}{t:(Nat→PC)→PT}(hk:∀b,(F b).2[k]?=some (.ea lo,t b)):oX lo (bn o k)=t (bn o):=by
 unfold bn;rw[Eb];exact ai1 ((L8 (t:=(F (bj o)).1) (l:=(F (bj o)).2) h).2.2 k _ (hk _))
end
theorem az {α:Type}{R:Nat→α→Prop}{f:Nat}{x:α}{l:List (Nat×α)}(h:R f x)(k:GU R l):GU R ((f,x)::l):=⟨h,k⟩
theorem aa6 {α:Type}:∀{l:List (Nat×α)},(l.map (·.1)).Nodup→∀{k f:Nat} {x:α},l[k]?=some (f,x)→bI l f=some x
 |[],_,k,f,x,h=>by simp at h
 |y::l,hn,0,f,x,h=>by
  simp only[Mt,aT] at h;subst h;simp[bI]
 |y::l,hn,k+1,f,x,h=>by
  simp only[GZ] at h;rw[gU,m6] at hn;have hm:f∈l.map (·.1):=dJ.2 ⟨(f,x),mc h,rfl⟩;have hb:Nat.beq y.1 f=false:=by
   cases e:Nat.beq y.1 f with
   |false=>rfl
   |true=>rw[cR e] at hn;exact absurd hm hn.1
  simp only[bI,hb,cond_false];exact aa6 hn.2 h
abbrev pT:PE:=.con (.bool true)
abbrev pF:PE:=.con (.bool false)
abbrev pN:PE:=.con .none
abbrev pL:PE:=.con (.list [])
abbrev pi (n:Int):PE:=.con (.int n)
abbrev aL (a b:PE):PE:=.ai .add .i64 a b
abbrev bE (a b:PE):PE:=.ai .sub .i64 a b
abbrev aj (a b:PE):PE:=.ci .eql a b
abbrev aO (a b:PE):PE:=.ci .neq a b
abbrev ah (a b:PE):PE:=.ci .lss a b
abbrev bD (a b:PE):PE:=.ci .leq a b
abbrev aX (a b:PE):PE:=.ci .gtr a b
abbrev cS (a b:PE):PE:=.ci .geq a b
abbrev pc (a:PE)(i:Nat):PE:=.cell a i
abbrev pn (a b:PE):PE:=.nth a b
abbrev ar (a b:PE):PE:=.idx a b
abbrev z2:PE:=.con (.agg [(.int 0),(.int 0)])
abbrev z3:PE:=.con (.agg [(.int 0),(.int 0),(.int 0)])
abbrev z4:PE:=.con (.agg [(.int 0),(.int 0),(.int 0),(.int 0)])
abbrev z5:PE:=.con (.agg [(.int 0),(.int 0),(.int 0),(.int 0),(.int 0)])
abbrev z6:PE:=.con (.agg [(.int 0),(.int 0),(.int 0),(.int 0),(.int 0),(.int 0)])
abbrev z9:PE:=.con (.agg [(.int 0),(.int 0),(.int 0),(.int 0),(.int 0),(.int 0),(.int 0),(.int 0),(.int 0)])
abbrev GS:PE:=.con (.agg [(.int 0),(.int 0),(.int 0),(.int 0),(.int 0),(.int 0),(.int 0),(.int 0),(.int 0),(.int 0),(.int 0),(.int 0),(.int 0),(.int 0),(.int 0)])
abbrev r0:PE:=.r 0
abbrev r1:PE:=.r 1
abbrev r2:PE:=.r 2
abbrev r3:PE:=.r 3
abbrev r4:PE:=.r 4
abbrev r5:PE:=.r 5
abbrev r6:PE:=.r 6
abbrev r7:PE:=.r 7
abbrev r8:PE:=.r 8
abbrev r9:PE:=.r 9
abbrev cO:PE:=.r 10
abbrev bJ:PE:=.r 11
abbrev bH:PE:=.r 12
abbrev cU:PE:=.r 13
abbrev cI:PE:=.r 14
abbrev jB:PE:=.r 15
abbrev dI:PE:=.r 16
abbrev nJ:PE:=.r 17
abbrev fA:PE:=.r 18
abbrev eB:PE:=.r 19
abbrev cv:PE:=.r 20
abbrev iX:PE:=.r 21
abbrev BO:PE:=.r 22
abbrev fV:PE:=.r 23
abbrev nK:PE:=.r 24
abbrev iv:PE:=.r 25
abbrev j9:PE:=.r 26
abbrev ei:PE:=.r 27
abbrev qE:PE:=.r 28
abbrev nL:PE:=.r 29
abbrev nM:PE:=.r 30
abbrev qF:PE:=.r 31
abbrev Fl:PE:=.r 32
abbrev ud:PE:=.r 33
abbrev R6:PE:=.r 34
abbrev yg:PE:=.r 35
abbrev iY:PE:=.r 36
abbrev mO:PE:=.r 37
abbrev gC:PE:=.r 38
abbrev rY:PE:=.r 39
abbrev qG:PE:=.r 40
abbrev oU:PE:=.r 41
abbrev rZ:PE:=.r 42
abbrev uf:PE:=.r 43
abbrev sc:PE:=.r 44
abbrev sd:PE:=.r 45
abbrev BP:PE:=.r 46
abbrev R7:PE:=.r 47
abbrev jC:PE:=.r 48
abbrev nN:PE:=.r 49
abbrev mP:PE:=.r 50
abbrev lU:PE:=.r 51
abbrev K6:PE:=.r 52
abbrev R8:PE:=.r 53
abbrev se:PE:=.r 54
abbrev yh:PE:=.r 55
abbrev sf:PE:=.r 56
abbrev BQ:PE:=.r 57
abbrev BR:PE:=.r 58
abbrev ug:PE:=.r 59
abbrev vD:PE:=.r 60
abbrev mQ:PE:=.r 61
abbrev nO:PE:=.r 62
abbrev Fm:PE:=.r 63
abbrev lV:PE:=.r 64
abbrev BS:PE:=.r 65
abbrev r66:PE:=.r 66
abbrev uh:PE:=.r 67
abbrev R9:PE:=.r 68
abbrev yi:PE:=.r 69
abbrev r70:PE:=.r 70
abbrev Fo:PE:=.r 72
abbrev Fp:PE:=.r 73
abbrev Sa:PE:=.r 74
abbrev Sb:PE:=.r 75
abbrev ui:PE:=.r 76
abbrev Sc:PE:=.r 77
abbrev r78:PE:=.r 78
abbrev r79:PE:=.r 79
abbrev vE:PE:=.r 80
abbrev yj:PE:=.r 81
abbrev ls:PE:=.r 82
abbrev Sd:PE:=.r 84
abbrev Fq:PE:=.r 85
abbrev r86:PE:=.r 86
abbrev K7:PE:=.r 87
abbrev K8:PE:=.r 88
abbrev r89:PE:=.r 89
abbrev r90:PE:=.r 90
abbrev r91:PE:=.r 91
abbrev Se:PE:=.r 92
abbrev K9:PE:=.r 93
abbrev r94:PE:=.r 94
abbrev r95:PE:=.r 95
abbrev r96:PE:=.r 96
abbrev r98:PE:=.r 98
abbrev r99:PE:=.r 99
abbrev aDD:PE:=.r 102
abbrev aeh:PE:=.r 103
abbrev asg:PE:=.r 104
abbrev R3:PE:=.r 106
abbrev R4:PE:=.r 108
abbrev ash:PE:=.r 109
abbrev aDE:PE:=.r 110
abbrev R5:PE:=.r 112
abbrev aDF:PE:=.r 115
abbrev aDG:PE:=.r 119
abbrev aDH:PE:=.r 120
abbrev asi:PE:=.r 121
abbrev aDI:PE:=.r 123
abbrev asj:PE:=.r 127
abbrev aDJ:PE:=.r 129
abbrev o0:PE:=.o 0
abbrev o1:PE:=.o 1
abbrev o2:PE:=.o 2
abbrev o3:PE:=.o 3
abbrev o4:PE:=.o 4
abbrev o5:PE:=.o 5
abbrev o6:PE:=.o 6
abbrev o7:PE:=.o 7
abbrev o8:PE:=.o 8
abbrev o9:PE:=.o 9
abbrev bO:PE:=.o 10
abbrev mK:PE:=.o 11
abbrev o12:PE:=.o 12
abbrev jz:PE:=.o 13
abbrev xM:PE:=.o 14
abbrev o15:PE:=.o 15
abbrev xN:PE:=.o 16
abbrev o17:PE:=.o 17
abbrev o18:PE:=.o 18
abbrev o28:PE:=.o 28
abbrev Kr:PE:=.o 45
end Cx
