/-
  Shared texts of this claim.
-/
import Derived.Test.YtodhjdbleiakeaaGreatDoorMAI
import Derived.Lib.LaidTab
set_option linter.unusedSimpArgs false
set_option linter.unusedVariables false
namespace Cx
open Go Go.RowKit
structure SE where
 r:List (Nat×PE)
 o:List (Nat×PE)
def SE.getR (s:SE)(t:Nat):PE:=match ab s.r t with|some e=>e|none=>.r t
def SE.getO (s:SE)(t:Nat):PE:=match ab s.o t with|some e=>e|none=>.o t
def SE.setR (s:SE)(t:Nat)(e:PE):SE:=⟨(t,e)::s.r,s.o⟩
def SE.setO (s:SE)(t:Nat)(e:PE):SE:=⟨s.r,(t,e)::s.o⟩
def SE.id:SE:=⟨[],[]⟩
def SE.ev (s:SE)(ρ:Env):Env:=⟨fun t=>(s.getR t).ev ρ,fun t=>(s.getO t).ev ρ⟩
def SE.join (s:SE)(lr lo:List Nat)(s':SE):SE:=⟨lr.map (fun t=>(t,s'.getR t))++s.r,lo.map (fun t=>(t,s'.getO t))++s.o⟩
theorem SE.setR_ev (s:SE)(t:Nat)(e:PE)(ρ:Env):(s.setR t e).ev ρ=(s.ev ρ).setR t (e.ev ρ):=by
 have h:(fun u=>((s.setR t e).getR u).ev ρ)=bY (fun u=>(s.getR u).ev ρ) t (e.ev ρ):=by
  funext u;simp only[SE.getR,SE.setR,ab,fS];by_cases h:t=u
  ·subst h;simp
  ·have h':¬u=t:=fun e=>h e.symm;simp[ew h,h']
 simp only[SE.ev,Env.setR];rw[h];rfl
theorem SE.setO_ev (s:SE)(t:Nat)(e:PE)(ρ:Env):(s.setO t e).ev ρ=(s.ev ρ).setO t (e.ev ρ):=by
 have h:(fun u=>((s.setO t e).getO u).ev ρ)=bY (fun u=>(s.getO u).ev ρ) t (e.ev ρ):=by
  funext u;simp only[SE.getO,SE.setO,ab,fS];by_cases h:t=u
  ·subst h;simp
  ·have h':¬u=t:=fun e=>h e.symm;simp[ew h,h']
 simp only[SE.ev,Env.setO];rw[h];rfl
theorem vR {f:Nat→PE}{l:List (Nat×PE)}{u:Nat}:∀(lr:List Nat),ab (lr.map (fun t=>(t,f t))++l) u=if u∈lr then some (f u) else ab l u
 |[]=>by simp
 |t::lr=>by
  simp only[gn,Fu,ab,vR lr,cX];by_cases h:t=u
  ·subst h;simp
  ·have h':¬u=t:=fun e=>h e.symm;simp[ew h,h']
theorem SE.join_ev (s s':SE)(lr lo:List Nat)(ρ:Env):(s.join lr lo s').ev ρ=(s.ev ρ).join lr lo (s'.ev ρ):=by
 have h1:∀u,((s.join lr lo s').getR u).ev ρ=((s.ev ρ).join lr lo (s'.ev ρ)).r u:=by
  intro u;rw[Env.join_r];have e:ab (s.join lr lo s').r u=if u∈lr then some (s'.getR u) else ab s.r u:=vR lr;unfold SE.getR;rw[e];by_cases h:u∈lr
  ·simp only[h,if_true];rfl
  ·simp only[h,if_false];rfl
 have h2:∀u,((s.join lr lo s').getO u).ev ρ=((s.ev ρ).join lr lo (s'.ev ρ)).o u:=by
  intro u;rw[Env.join_o];have e:ab (s.join lr lo s').o u=if u∈lo then some (s'.getO u) else ab s.o u:=vR lo;unfold SE.getO;rw[e];by_cases h:u∈lo
  ·simp only[h,if_true];rfl
  ·simp only[h,if_false];rfl
 have e1:(fun u=>((s.join lr lo s').getR u).ev ρ)=((s.ev ρ).join lr lo (s'.ev ρ)).r:=funext h1;have e2:(fun u=>((s.join lr lo s').getO u).ev ρ)=((s.ev ρ).join lr lo (s'.ev ρ)).o:=funext h2;show Env.mk _ _=_;rw[e1,e2]
abbrev bR:=List (PE×Bool)
def bR.ok (ae:bR)(ρ:Env):Prop:=∀x,x∈ae→(x.1.ev ρ).b=x.2
def FJ (e:PE):bR→Option Bool
 |[]=>none
 |x::l=>bif PE.beq x.1 e then some x.2 else FJ e l
theorem Ye {e:PE}{ρ:Env}{b:Bool}:∀{ae:bR},ae.ok ρ→FJ e ae=some b→(e.ev ρ).b=b
 |[],_,h=>by cases h
 |x::l,aH,h=>by
  simp only[FJ] at h;cases hb:PE.beq x.1 e<;>simp only[hb,cond_true,cond_false] at h
  ·exact Ye (fun y hy=>aH y (dk _ hy)) h
  ·cases h;rw[←PE.beq_eq _ _ hb];exact aH x (dv ..)
def uv (ae:bR):PE→Option Bool
 |.con (.v (.bool b))=>some b
 |.nt x=>(uv ae x).map (!·)
 |e=>FJ e ae
theorem wO {ae:bR}{ρ:Env}(h:ae.ok ρ):∀{e:PE} {b:Bool},uv ae e=some b→(e.ev ρ).b=b
 |.con (.v (.bool b)),b',he=>by simp only[uv,bf] at he;subst he;rfl
 |.nt x,b',he=>by
  simp only[uv,aG] at he;obtain⟨c,hc,rfl⟩:=he;simp only[PE.ev,D.b_bool,wO h hc]
 |e,b',he=>by
  unfold uv at he;split at he
  ·cases he;rfl
  ·rename_i x;simp only[aG] at he;obtain⟨c,hc,rfl⟩:=he;simp only[PE.ev,D.b_bool,wO h hc]
  ·exact Ye h he
def rX (ae:bR)(c a b:PE):PE:=match uv ae c with|some true=>a|some false=>b|none=>.pick c a b
theorem S6 {ae:bR}{ρ:Env}(h:ae.ok ρ)(c a b:PE):(rX ae c a b).ev ρ=(PE.pick c a b).ev ρ:=by
 unfold rX;split
 ·rename_i ht;simp[PE.ev,wO h ht]
 ·rename_i ht;simp[PE.ev,wO h ht]
 ·rfl
def Ox:PE→PE
 |.ref x=>x
 |x=>.deref x
theorem ao9 (x:PE)(ρ:Env):(Ox x).ev ρ=(PE.deref x).ev ρ:=by unfold Ox;split<;>rfl
def UX:PE→Nat→PE
 |.tup es,i=>es.getD i (.con .none)
 |x,i=>.tget x i
theorem aCy (x:PE)(i:Nat)(ρ:Env):(UX x i).ev ρ=(PE.tget x i).ev ρ:=by
 unfold UX;split
 ·rename_i es;simp only[PE.ev,D.tget_tup,PE.evs_eq,aT,cS];cases es[i]?<;>rfl
 ·rfl
def DC:PE→Bool
 |.ai ..|.ci ..|.cb ..|.cs ..|.sadd ..|.nt _|.conv ..|.llen _|.bytes _|.slen _|.mlen _|.idx ..|.sidx ..|.sok ..|.slok ..|.lst _|.app ..|.setn ..|.rep ..|.slc ..|.ref _|.has ..|.put ..|.an ..|.imp ..|.tup _|.clo ..=>true
 |.con (.v _)|.con (.list _)|.con (.map _)=>true
 |_=>false
theorem azR {e:PE}(h:DC e=true)(ρ:Env):(e.ev ρ).cells=[e.ev ρ]:=by
 unfold DC at h;split at h<;>first|rfl|cases h
def Om:PE→Nat→PE
 |.mk es,i=>bif es.all DC then es.getD i (.con .none) else .cell (.mk es) i
 |x,i=>.cell x i
theorem ZY {ρ:Env}:∀{es:List PE},es.all DC=true→PE.evc ρ es=PE.evs ρ es
 |[],_=>rfl
 |e::es,h=>by
  simp only[p5,ar] at h;simp only[PE.evc,PE.evs,azR h.1,ZY h.2];rfl
theorem amB (x:PE)(i:Nat)(ρ:Env):(Om x i).ev ρ=(PE.cell x i).ev ρ:=by
 unfold Om;split
 ·rename_i es;cases hc:es.all DC
  ·rfl
  ·simp only[cond_true,PE.ev,ZY hc,D.c_agg,PE.evs_eq,aT,cS];cases es[i]?<;>rfl
 ·rfl
def Cn (s:SE):List (Nat×Bool)→PE
 |[]=>.con (.v (.bool true))
 |g::gs=>.an (bif g.2 then s.getR g.1 else .nt (s.getR g.1)) (Cn s gs)
theorem aan (s:SE)(ρ:Env):∀gs,((Cn s gs).ev ρ).b=holds gs (s.ev ρ)
 |[]=>rfl
 |g::gs=>by
  have ih:=aan s ρ gs;rw[avi,←ih];have e:((s.ev ρ).r g.1)=(s.getR g.1).ev ρ:=rfl;rw[e];cases hg:g.2
  ·simp only[Cn,hg,cond_false,PE.ev,D.b_bool];cases((s.getR g.1).ev ρ).b<;>rfl
  ·simp only[Cn,hg,cond_true,PE.ev,D.b_bool];cases((s.getR g.1).ev ρ).b<;>rfl
mutual
def PE.sub' (ae:bR)(s:SE):PE→PE
 |.r t=>s.getR t
 |.o j=>s.getO j
 |.con d=>.con d
 |.cell e i=>Om (PE.sub' ae s e) i
 |.sub e a b=>.sub (PE.sub' ae s e) a b
 |.setc e q x=>.setc (PE.sub' ae s e) q (PE.sub' ae s x)
 |.mk es=>.mk (PE.subs' ae s es)
 |.ai op k x y=>.ai op k (PE.sub' ae s x) (PE.sub' ae s y)
 |.ci op x y=>.ci op (PE.sub' ae s x) (PE.sub' ae s y)
 |.cb op x y=>.cb op (PE.sub' ae s x) (PE.sub' ae s y)
 |.cs op x y=>.cs op (PE.sub' ae s x) (PE.sub' ae s y)
 |.sadd x y=>.sadd (PE.sub' ae s x) (PE.sub' ae s y)
 |.nt x=>.nt (PE.sub' ae s x)
 |.conv k x=>.conv k (PE.sub' ae s x)
 |.pick c a b=>rX ae (PE.sub' ae s c) (PE.sub' ae s a) (PE.sub' ae s b)
 |.llen x=>.llen (PE.sub' ae s x)
 |.bytes x=>.bytes (PE.sub' ae s x)
 |.slen x=>.slen (PE.sub' ae s x)
 |.mlen x=>.mlen (PE.sub' ae s x)
 |.nth x y=>.nth (PE.sub' ae s x) (PE.sub' ae s y)
 |.idx x y=>.idx (PE.sub' ae s x) (PE.sub' ae s y)
 |.sidx x y=>.sidx (PE.sub' ae s x) (PE.sub' ae s y)
 |.sok x y=>.sok (PE.sub' ae s x) (PE.sub' ae s y)
 |.setn x y n z=>.setn (PE.sub' ae s x) (PE.sub' ae s y) n (PE.sub' ae s z)
 |.app x y=>.app (PE.sub' ae s x) (PE.sub' ae s y)
 |.lst es=>.lst (PE.subs' ae s es)
 |.rep x y=>.rep (PE.sub' ae s x) (PE.sub' ae s y)
 |.slc x y z=>.slc (PE.sub' ae s x) (PE.sub' ae s y) (PE.sub' ae s z)
 |.slok x y z=>.slok (PE.sub' ae s x) (PE.sub' ae s y) (PE.sub' ae s z)
 |.ref x=>.ref (PE.sub' ae s x)
 |.deref x=>Ox (PE.sub' ae s x)
 |.look x y z=>.look (PE.sub' ae s x) (PE.sub' ae s y) (PE.sub' ae s z)
 |.has x y=>.has (PE.sub' ae s x) (PE.sub' ae s y)
 |.put x y z=>.put (PE.sub' ae s x) (PE.sub' ae s y) (PE.sub' ae s z)
 |.mn x y=>.mn (PE.sub' ae s x) (PE.sub' ae s y)
 |.mx x y=>.mx (PE.sub' ae s x) (PE.sub' ae s y)
 |.tup es=>.tup (PE.subs' ae s es)
 |.tget x i=>UX (PE.sub' ae s x) i
 |.clo f es=>.clo f (PE.subs' ae s es)
 |.an x y=>.an (PE.sub' ae s x) (PE.sub' ae s y)
 |.imp c x=>.nt (.an (Cn s c) (.nt (PE.sub' ae s x)))
def PE.subs' (ae:bR)(s:SE):List PE→List PE
 |[]=>[]
 |e::es=>PE.sub' ae s e::PE.subs' ae s es
end
mutual
theorem PE.sub_ev {ae:bR}{ρ:Env}(h:ae.ok ρ)(s:SE):∀(e:PE),(PE.sub' ae s e).ev ρ=e.ev (s.ev ρ)
 |.r t=>rfl
 |.o j=>rfl
 |.con d=>rfl
 |.cell e i=>by simp only[PE.sub',amB,PE.ev,PE.sub_ev h s e]
 |.sub e a b=>by simp only[PE.sub',PE.ev,PE.sub_ev h s e]
 |.setc e q x=>by simp only[PE.sub',PE.ev,PE.sub_ev h s e,PE.sub_ev h s x]
 |.mk es=>by simp only[PE.sub',PE.ev,PE.subc_ev h s es]
 |.ai op k x y=>by simp only[PE.sub',PE.ev,PE.sub_ev h s x,PE.sub_ev h s y]
 |.ci op x y=>by simp only[PE.sub',PE.ev,PE.sub_ev h s x,PE.sub_ev h s y]
 |.cb op x y=>by simp only[PE.sub',PE.ev,PE.sub_ev h s x,PE.sub_ev h s y]
 |.cs op x y=>by simp only[PE.sub',PE.ev,PE.sub_ev h s x,PE.sub_ev h s y]
 |.sadd x y=>by simp only[PE.sub',PE.ev,PE.sub_ev h s x,PE.sub_ev h s y]
 |.nt x=>by simp only[PE.sub',PE.ev,PE.sub_ev h s x]
 |.conv k x=>by simp only[PE.sub',PE.ev,PE.sub_ev h s x]
 |.pick c a b=>by simp only[PE.sub',S6 h,PE.ev,PE.sub_ev h s c,PE.sub_ev h s a,PE.sub_ev h s b]
 |.llen x=>by simp only[PE.sub',PE.ev,PE.sub_ev h s x]
 |.bytes x=>by simp only[PE.sub',PE.ev,PE.sub_ev h s x]
 |.slen x=>by simp only[PE.sub',PE.ev,PE.sub_ev h s x]
 |.mlen x=>by simp only[PE.sub',PE.ev,PE.sub_ev h s x]
 |.nth x y=>by simp only[PE.sub',PE.ev,PE.sub_ev h s x,PE.sub_ev h s y]
 |.idx x y=>by simp only[PE.sub',PE.ev,PE.sub_ev h s x,PE.sub_ev h s y]
 |.sidx x y=>by simp only[PE.sub',PE.ev,PE.sub_ev h s x,PE.sub_ev h s y]
 |.sok x y=>by simp only[PE.sub',PE.ev,PE.sub_ev h s x,PE.sub_ev h s y]
 |.setn x y n z=>by simp only[PE.sub',PE.ev,PE.sub_ev h s x,PE.sub_ev h s y,PE.sub_ev h s z]
 |.app x y=>by simp only[PE.sub',PE.ev,PE.sub_ev h s x,PE.sub_ev h s y]
 |.lst es=>by simp only[PE.sub',PE.ev,PE.subs_ev h s es]
 |.rep x y=>by simp only[PE.sub',PE.ev,PE.sub_ev h s x,PE.sub_ev h s y]
 |.slc x y z=>by simp only[PE.sub',PE.ev,PE.sub_ev h s x,PE.sub_ev h s y,PE.sub_ev h s z]
 |.slok x y z=>by simp only[PE.sub',PE.ev,PE.sub_ev h s x,PE.sub_ev h s y,PE.sub_ev h s z]
 |.ref x=>by simp only[PE.sub',PE.ev,PE.sub_ev h s x]
 |.deref x=>by simp only[PE.sub',ao9,PE.ev,PE.sub_ev h s x]
 |.look x y z=>by simp only[PE.sub',PE.ev,PE.sub_ev h s x,PE.sub_ev h s y,PE.sub_ev h s z]
 |.has x y=>by simp only[PE.sub',PE.ev,PE.sub_ev h s x,PE.sub_ev h s y]
 |.put x y z=>by simp only[PE.sub',PE.ev,PE.sub_ev h s x,PE.sub_ev h s y,PE.sub_ev h s z]
 |.mn x y=>by simp only[PE.sub',PE.ev,PE.sub_ev h s x,PE.sub_ev h s y]
 |.mx x y=>by simp only[PE.sub',PE.ev,PE.sub_ev h s x,PE.sub_ev h s y]
 |.tup es=>by simp only[PE.sub',PE.ev,PE.subs_ev h s es]
 |.tget x i=>by simp only[PE.sub',aCy,PE.ev,PE.sub_ev h s x]
 |.clo f es=>by simp only[PE.sub',PE.ev,PE.subs_ev h s es]
 |.an x y=>by simp only[PE.sub',PE.ev,PE.sub_ev h s x,PE.sub_ev h s y]
 |.imp c x=>by
  simp only[PE.sub',PE.ev,D.b_bool,aan,PE.sub_ev h s x];cases holds c (s.ev ρ)<;>cases(x.ev (s.ev ρ)).b<;>rfl
theorem PE.subs_ev {ae:bR}{ρ:Env}(h:ae.ok ρ)(s:SE):∀(es:List PE),PE.evs ρ (PE.subs' ae s es)=PE.evs (s.ev ρ) es
 |[]=>rfl
 |e::es=>by simp only[PE.subs',PE.evs,PE.sub_ev h s e,PE.subs_ev h s es]
theorem PE.subc_ev {ae:bR}{ρ:Env}(h:ae.ok ρ)(s:SE):∀(es:List PE),PE.evc ρ (PE.subs' ae s es)=PE.evc (s.ev ρ) es
 |[]=>rfl
 |e::es=>by simp only[PE.subs',PE.evc,PE.sub_ev h s e,PE.subc_ev h s es]
end
inductive PT where
 |next (s:SE)
 |exit (id:Nat) (s:SE)
 |ret (e:PE)
 |chk (e:PE) (k:PT)
 |ite (c:PE) (a b:PT)
 |call (s:SE) (gs:List (Nat×Bool)) (dst f:Nat) (args:List PE) (k:PT)
 |callc (s:SE) (gs:List (Nat×Bool)) (dst:Nat) (e:PE) (args:List PE) (k:PT)
 |mcall (s:SE) (j f:Nat) (args:List PE) (k:PT)
 |iteS (s:SE) (c:PE) (lr lo:List Nat) (a b k:PT)
 |blockS (s:SE) (id:Nat) (lr lo:List Nat) (a k:PT)
 |brk (s:SE) (c:PC) (k:PT)
def aP (T:cu):PT→Env→(Out→Prop)→Prop
 |.next s,ρ,Q=>Q (.next (s.ev ρ))
 |.exit id s,ρ,Q=>Q (.exit id (s.ev ρ))
 |.ret e,ρ,Q=>Q (.ret (e.ev ρ))
 |.chk e k,ρ,Q=>(e.ev ρ).b=true∧aP T k ρ Q
 |.ite c a b,ρ,Q=>if(c.ev ρ).b=true then aP T a ρ Q else aP T b ρ Q
 |.call s gs dst f args k,ρ,Q=>if holds gs (s.ev ρ)=true then ∃d,ao T f (PE.evs ρ args) d∧aP T k ((s.ev ρ).setR dst d) Q else aP T k (s.ev ρ) Q
 |.callc s gs dst e args k,ρ,Q=>if holds gs (s.ev ρ)=true then ∃f caps d,e.ev ρ=.clo f caps∧ao T f (PE.evs ρ args++caps) d∧aP T k ((s.ev ρ).setR dst d) Q else aP T k (s.ev ρ) Q
 |.mcall s j f args k,ρ,Q=>∃d,ao T f (PE.evs ρ args) d∧aP T k ((s.ev ρ).setO j d) Q
 |.iteS s c lr lo a b k,ρ,Q=>if(c.ev ρ).b=true then aP T a (s.ev ρ) (kf (s.ev ρ) lr lo (gx (fun ρ'=>aP T k ρ' Q) Q)) else aP T b (s.ev ρ) (kf (s.ev ρ) lr lo (gx (fun ρ'=>aP T k ρ' Q) Q))
 |.blockS s id lr lo a k,ρ,Q=>aP T a (s.ev ρ) (lD (s.ev ρ) id lr lo (gx (fun ρ'=>aP T k ρ' Q) Q))
 |.brk s c k,ρ,Q=>aY T c (s.ev ρ) (gx (fun ρ'=>aP T k ρ' Q) Q)
def nP:PI→Bool
 |.setR ..|.setO ..|.chk _=>true
 |_=>false
def dH:PC→Bool
 |.loop ..=>false
 |.each ..=>false
 |.meach ..=>false
 |.seq a b=>dH a&&dH b
 |.ite _ _ _ a b=>dH a&&dH b
 |.block _ _ _ a=>dH a
 |.is l=>l.all nP
 |_=>true
abbrev Kn:=bR→SE→PT
abbrev Kx:=bR→Nat→SE→PT
def m0:List PI→bR→SE→Kn→PT
 |[],ae,s,k=>k ae s
 |.setR t e::l,ae,s,k=>m0 l ae (s.setR t (e.sub' ae s)) k
 |.setO t e::l,ae,s,k=>m0 l ae (s.setO t (e.sub' ae s)) k
 |.chk e::l,ae,s,k=>
  match uv ae (e.sub' ae s) with
  |some true=>m0 l ae s k
  |_=>.chk (e.sub' ae s) (m0 l ((e.sub' ae s,true)::ae) s k)
 |.call gs dst f args::l,ae,s,k=>.call s gs dst f (PE.subs' ae s args) (m0 l [] .id k)
 |.callc gs dst e args::l,ae,s,k=>.callc s gs dst (e.sub' ae s) (PE.subs' ae s args) (m0 l [] .id k)
 |.mcall j f args::l,ae,s,k=>.mcall s j f (PE.subs' ae s args) (m0 l [] .id k)
def SE.merge (s:SE)(ae:bR)(lr lo:List Nat)(c:PE)(a b:SE):SE:=⟨lr.map (fun t=>(t,rX ae c (a.getR t) (b.getR t)))++s.r,lo.map (fun t=>(t,rX ae c (a.getO t) (b.getO t)))++s.o⟩
def pD:List PI→bR→SE→Option SE
 |[],_,s=>some s
 |.setR t e::l,ae,s=>pD l ae (s.setR t (e.sub' ae s))
 |.setO t e::l,ae,s=>pD l ae (s.setO t (e.sub' ae s))
 |_::_,_,_=>none
def plain:PC→bR→SE→Option SE
 |.skip,_,s=>some s
 |.is l,ae,s=>pD l ae s
 |.seq a b,ae,s=>(plain a ae s).bind fun s=>plain b ae s
 |.ite c lr lo a b,ae,s=>(plain a ae s).bind fun sa=>(plain b ae s).map fun sb=>s.merge ae lr lo (c.sub' ae s) sa sb
 |_,_,_=>none
def ab1:PC→Bool
 |.loop ..=>true
 |_=>false
def sx:PC→bR→SE→Kn→Kx→PT
 |.skip,ae,s,k,_=>k ae s
 |.is l,ae,s,k,_=>m0 l ae s k
 |.seq a b,ae,s,k,kx=>sx a ae s (fun ae s=>sx b ae s k kx) kx
 |.ite c lr lo a b,ae,s,k,kx=>
  match uv ae (c.sub' ae s) with
  |some true=>bif dH a then sx a ae s (fun ae s'=>k ae (s.join lr lo s')) kx else .iteS s (c.sub' ae s) lr lo (sx a [] .id (fun _ s=>.next s) (fun _ id s=>.exit id s)) (sx b [] .id (fun _ s=>.next s) (fun _ id s=>.exit id s)) (k [] .id)
  |some false=>bif dH b then sx b ae s (fun ae s'=>k ae (s.join lr lo s')) kx else .iteS s (c.sub' ae s) lr lo (sx a [] .id (fun _ s=>.next s) (fun _ id s=>.exit id s)) (sx b [] .id (fun _ s=>.next s) (fun _ id s=>.exit id s)) (k [] .id)
  |none=>
   match plain a ae s,plain b ae s with
   |some sa,some sb=>k ae (s.merge ae lr lo (c.sub' ae s) sa sb)
   |_,_=>
   bif dH a&&dH b then
    .ite (c.sub' ae s) (sx a ((c.sub' ae s,true)::ae) s (fun ae s'=>k ae (s.join lr lo s')) kx) (sx b ((c.sub' ae s,false)::ae) s (fun ae s'=>k ae (s.join lr lo s')) kx)
   else .iteS s (c.sub' ae s) lr lo (sx a [] .id (fun _ s=>.next s) (fun _ id s=>.exit id s)) (sx b [] .id (fun _ s=>.next s) (fun _ id s=>.exit id s)) (k [] .id)
 |.block id lr lo a,ae,s,k,kx=>
  bif dH a then sx a ae s (fun ae s'=>k ae (s.join lr lo s')) (fun ae bP s'=>bif Nat.beq bP id then k ae (s.join lr lo s') else kx ae bP s')
  else bif ab1 a then .brk s (.block id lr lo a) (k [] .id)
  else .blockS s id lr lo (sx a [] .id (fun _ s=>.next s) (fun _ id s=>.exit id s)) (k [] .id)
 |.loop lr lo a,_,s,k,_=>.brk s (.loop lr lo a) (k [] .id)
 |.each e ps lo rt a,_,s,k,_=>.brk s (.each e ps lo rt a) (k [] .id)
 |.meach J ps cC lo a,_,s,k,_=>.brk s (.meach J ps cC lo a) (k [] .id)
 |.exit id,ae,s,_,kx=>kx ae id s
 |.ret e,ae,s,_,_=>.ret (e.sub' ae s)
theorem bR.ok_nil (ρ:Env):bR.ok [] ρ:=fun _ h=>nomatch h
theorem bR.ok_cons {ae:bR}{ρ:Env}{e:PE}{b:Bool}(h:ae.ok ρ)(he:(e.ev ρ).b=b):bR.ok ((e,b)::ae) ρ:=fun x hx=>by
 rcases cX.1 hx with e'|hx
 ·rw[e'];exact he
 ·exact h x hx
theorem qY {T:cu}{Q:Out→Prop}{K:Env→Prop}{k:Kn}:∀{l:List PI} {ae:bR} {s:SE} {ρ:Env},ae.ok ρ→aP T (m0 l ae s k) ρ Q→
 (∀ρ' ae s,(l.all nP=true→ρ'=ρ)→ae.ok ρ'→aP T (k ae s) ρ' Q→K (s.ev ρ'))→gy T l (s.ev ρ) K
 |[],ae,s,ρ,ha,h,hk=>hk ρ ae s (fun _=>rfl) ha h
 |.setR t e::l,ae,s,ρ,ha,h,hk=>by
  simp only[gy];rw[←PE.sub_ev ha s e,←SE.setR_ev];exact qY ha h fun ρ' ae s hp=>hk ρ' ae s fun hl=>hp (by simpa [nP] using hl)
 |.setO t e::l,ae,s,ρ,ha,h,hk=>by
  simp only[gy];rw[←PE.sub_ev ha s e,←SE.setO_ev];exact qY ha h fun ρ' ae s hp=>hk ρ' ae s fun hl=>hp (by simpa [nP] using hl)
 |.chk e::l,ae,s,ρ,ha,h,hk=>by
  simp only[gy];rw[←PE.sub_ev ha s e];simp only[m0] at h;split at h
  ·rename_i ht;exact⟨wO ha ht,qY ha h fun ρ' ae s hp=>hk ρ' ae s fun hl=>hp (by simpa [nP] using hl)⟩
  ·exact⟨h.1,qY (bR.ok_cons ha h.1) h.2 fun ρ' ae s hp=>hk ρ' ae s fun hl=>hp (by simpa [nP] using hl)⟩
 |.call gs dst f args::l,ae,s,ρ,ha,h,hk=>by
  simp only[gy];simp only[m0,aP,PE.subs_ev ha,PE.sub_ev ha] at h;have bz:∀{ρ0:Env},∀ρ' ae s,(l.all nP=true→ρ'=ρ0)→ae.ok ρ'→aP T (k ae s) ρ' Q→K (s.ev ρ'):=fun ρ' ae s _=>hk ρ' ae s fun hl=>by simp[nP] at hl
  split at h
  ·rename_i hg;rw[if_pos hg];obtain⟨d,hd,h⟩:=h;exact⟨d,hd,qY (s:=.id) (bR.ok_nil _) h bz⟩
  ·rename_i hg;rw[if_neg hg];exact qY (s:=.id) (bR.ok_nil _) h bz
 |.callc gs dst e args::l,ae,s,ρ,ha,h,hk=>by
  simp only[gy];simp only[m0,aP,PE.subs_ev ha,PE.sub_ev ha] at h;have bz:∀{ρ0:Env},∀ρ' ae s,(l.all nP=true→ρ'=ρ0)→ae.ok ρ'→aP T (k ae s) ρ' Q→K (s.ev ρ'):=fun ρ' ae s _=>hk ρ' ae s fun hl=>by simp[nP] at hl
  split at h
  ·rename_i hg;rw[if_pos hg];obtain⟨f,caps,d,he,hd,h⟩:=h;exact⟨f,caps,d,he,hd,qY (s:=.id) (bR.ok_nil _) h bz⟩
  ·rename_i hg;rw[if_neg hg];exact qY (s:=.id) (bR.ok_nil _) h bz
 |.mcall j f args::l,ae,s,ρ,ha,h,hk=>by
  simp only[gy];simp only[m0,aP,PE.subs_ev ha,PE.sub_ev ha] at h;have bz:∀{ρ0:Env},∀ρ' ae s,(l.all nP=true→ρ'=ρ0)→ae.ok ρ'→aP T (k ae s) ρ' Q→K (s.ev ρ'):=fun ρ' ae s _=>hk ρ' ae s fun hl=>by simp[nP] at hl
  obtain⟨d,hd,h⟩:=h;exact⟨d,hd,qY (s:=.id) (bR.ok_nil _) h bz⟩
theorem SE.merge_ev {ae:bR}{ρ:Env}(h:ae.ok ρ)(s a b:SE)(lr lo:List Nat)(c:PE):(s.merge ae lr lo c a b).ev ρ=(s.ev ρ).join lr lo (if(c.ev ρ).b=true then a.ev ρ else b.ev ρ):=by
 have h1:∀u,((s.merge ae lr lo c a b).getR u).ev ρ=((s.ev ρ).join lr lo (if(c.ev ρ).b=true then a.ev ρ else b.ev ρ)).r u:=by
  intro u;rw[Env.join_r];have e:ab (s.merge ae lr lo c a b).r u=if u∈lr then some (rX ae c (a.getR u) (b.getR u)) else ab s.r u:=vR lr;have e2:(s.merge ae lr lo c a b).getR u=if u∈lr then rX ae c (a.getR u) (b.getR u) else s.getR u:=by
   unfold SE.getR;rw[e];by_cases h:u∈lr<;>simp[h,SE.getR]
  rw[e2];by_cases hu:u∈lr
  ·simp only[hu,if_true,S6 h,PE.ev];cases hc:(c.ev ρ).b<;>simp[SE.ev]
  ·simp only[hu,if_false];rfl
 have h2:∀u,((s.merge ae lr lo c a b).getO u).ev ρ=((s.ev ρ).join lr lo (if(c.ev ρ).b=true then a.ev ρ else b.ev ρ)).o u:=by
  intro u;rw[Env.join_o];have e:ab (s.merge ae lr lo c a b).o u=if u∈lo then some (rX ae c (a.getO u) (b.getO u)) else ab s.o u:=vR lo;have e2:(s.merge ae lr lo c a b).getO u=if u∈lo then rX ae c (a.getO u) (b.getO u) else s.getO u:=by
   unfold SE.getO;rw[e];by_cases h:u∈lo<;>simp[h,SE.getO]
  rw[e2];by_cases hu:u∈lo
  ·simp only[hu,if_true,S6 h,PE.ev];cases hc:(c.ev ρ).b<;>simp[SE.ev]
  ·simp only[hu,if_false];rfl
 have e1:(fun u=>((s.merge ae lr lo c a b).getR u).ev ρ)=((s.ev ρ).join lr lo (if(c.ev ρ).b=true then a.ev ρ else b.ev ρ)).r:=funext h1;have e2:(fun u=>((s.merge ae lr lo c a b).getO u).ev ρ)=((s.ev ρ).join lr lo (if(c.ev ρ).b=true then a.ev ρ else b.ev ρ)).o:=funext h2;show Env.mk _ _=_;rw[e1,e2]
theorem Ta {T:cu}{ae:bR}{ρ:Env}(ha:ae.ok ρ):∀{l:List PI} {s s':SE},pD l ae s=some s'→∀{K:Env→Prop},K (s'.ev ρ)→gy T l (s.ev ρ) K
 |[],s,s',h,K,hk=>by simp only[pD,bf] at h;subst h;exact hk
 |.setR t e::l,s,s',h,K,hk=>by simp only[gy];rw[←PE.sub_ev ha s e,←SE.setR_ev];exact Ta (l:=l) ha (show pD l ae _=some s' from h) hk
 |.setO t e::l,s,s',h,K,hk=>by simp only[gy];rw[←PE.sub_ev ha s e,←SE.setO_ev];exact Ta (l:=l) ha (show pD l ae _=some s' from h) hk
 |.chk _::_,_,_,h,_,_=>by simp[pD] at h
 |.call ..::_,_,_,h,_,_=>by simp[pD] at h
 |.callc ..::_,_,_,h,_,_=>by simp[pD] at h
 |.mcall ..::_,_,_,h,_,_=>by simp[pD] at h
theorem aAM {T:cu}{ae:bR}{ρ:Env}(ha:ae.ok ρ):∀(c:PC) {s s':SE},plain c ae s=some s'→∀{Q:Out→Prop},Q (.next (s'.ev ρ))→aY T c (s.ev ρ) Q:=by
 intro c
 induction c with
 |skip=>intro s s' h Q hq;simp only[plain,bf] at h;subst h;exact .skip hq
 |is l=>intro s s' h Q hq;exact .is (Ta ha h hq)
 |seq a b bm dt=>
  intro s s' h Q hq;simp only[plain,az] at h;obtain⟨s1,h1,h2⟩:=h;exact .seq (bm h1 (dt h2 hq))
 |ite c lr lo a b bm dt=>
  intro s s' h Q hq;simp only[plain,az,aG] at h;obtain⟨sa,h1,sb,h2,rfl⟩:=h;rw[SE.merge_ev ha,PE.sub_ev ha] at hq;refine .ite ?_;split
  ·rename_i hc;rw[if_pos hc] at hq;exact bm h1 hq
  ·rename_i hc;rw[if_neg hc] at hq;exact dt h2 hq
 |_=>intro s s' h;simp[plain] at h
theorem MA {T:cu}:∀(c:PC) {ae:bR} {s:SE} {k:Kn} {kx:Kx} {ρ:Env} {Q Q':Out→Prop},ae.ok ρ→aP T (sx c ae s k kx) ρ Q→
 (∀ρ' ae s,(dH c=true→ρ'=ρ)→ae.ok ρ'→aP T (k ae s) ρ' Q→Q' (.next (s.ev ρ')))→
 (∀ρ' ae id s,(dH c=true→ρ'=ρ)→ae.ok ρ'→aP T (kx ae id s) ρ' Q→Q' (.exit id (s.ev ρ')))→(dH c=false→∀id ρ',Q (.exit id ρ')→Q' (.exit id ρ'))→(∀d,Q (.ret d)→Q' (.ret d))→aY T c (s.ev ρ) Q':=by
 intro c;have alone:∀(a:PC),(∀{ae:bR} {s:SE} {k:Kn} {kx:Kx} {ρ:Env} {Q Q':Out→Prop},ae.ok ρ→aP T (sx a ae s k kx) ρ Q→
  (∀ρ' ae s,(dH a=true→ρ'=ρ)→ae.ok ρ'→aP T (k ae s) ρ' Q→Q' (.next (s.ev ρ')))→
  (∀ρ' ae id s,(dH a=true→ρ'=ρ)→ae.ok ρ'→aP T (kx ae id s) ρ' Q→Q' (.exit id (s.ev ρ')))→(dH a=false→∀id ρ',Q (.exit id ρ')→Q' (.exit id ρ'))→(∀d,Q (.ret d)→Q' (.ret d))→aY T a (s.ev ρ) Q')→
  ∀{ρ:Env} {Q:Out→Prop},aP T (sx a [] .id (fun _ s=>.next s) (fun _ id s=>.exit id s)) ρ Q→aY T a ρ Q:=by
  intro a ih ρ Q h;exact ih (s:=.id) (bR.ok_nil _) h (fun ρ' ae s _ _ h=>h) (fun ρ' ae id s _ _ h=>h) (fun _ _ _ h=>h) (fun _ h=>h)
 induction c with
 |skip=>intro ae s k kx ρ Q Q' ha h hk _ _ _;exact .skip (hk ρ ae s (fun _=>rfl) ha h)
 |is l=>intro ae s k kx ρ Q Q' ha h hk _ _ _;exact .is (qY (K:=fun ρ'=>Q' (.next ρ')) ha h hk)
 |seq a b bm dt=>
  intro ae s k kx ρ Q Q' ha h hk hx jQ hr;refine .seq (bm ha h (Q':=gx (fun ρ'=>aY T b ρ' Q') Q') (fun ρ' ae s hp vc h'=>?_) (fun ρ' ae id s hp vc h'=>?_) (fun hp=>?_) hr)
  ·refine dt vc h' (fun ρ2 ae s fa=>hk ρ2 ae s fun hl=>?_) (fun ρ2 ae id s fa=>hx ρ2 ae id s fun hl=>?_) (fun fa=>?_) hr
   ·simp only[dH,ar] at hl;rw[fa hl.2,hp hl.1]
   ·simp only[dH,ar] at hl;rw[fa hl.2,hp hl.1]
   ·exact jQ (by simp[dH,fa])
  ·exact hx ρ' ae id s (fun hl=>by simp only[dH,ar] at hl;exact hp hl.1) vc h'
  ·exact jQ (by simp[dH,hp])
 |ite c lr lo a b bm dt=>
  intro ae s k kx ρ Q Q' ha h hk hx jQ hr;have bN:((c.sub' ae s).ev ρ).b=(c.ev (s.ev ρ)).b:=by rw[PE.sub_ev ha]
  have struct:(dH a&&dH b)=false→aP T (.iteS s (c.sub' ae s) lr lo (sx a [] .id (fun _ s=>.next s) (fun _ id s=>.exit id s)) (sx b [] .id (fun _ s=>.next s) (fun _ id s=>.exit id s)) (k [] .id)) ρ Q→aY T (.ite c lr lo a b) (s.ev ρ) Q':=by
   intro C2 h;have qw:dH (.ite c lr lo a b)=false:=C2;simp only[aP,bN] at h
   have conv:∀x,kf (s.ev ρ) lr lo (gx (fun ρ'=>aP T (k [] .id) ρ' Q) Q) x→kf (s.ev ρ) lr lo Q' x:=by
      intro x db;cases x with
      |next ρ'=>exact hk _ [] .id (fun hl=>by rw[qw] at hl;cases hl) (bR.ok_nil _) db
      |exit id ρ'=>exact jQ qw id ρ' db
      |ret d=>exact hr d db
   refine .ite ?_;split at h
   ·rename_i hc;rw[if_pos hc];exact(alone a bm h).mono conv
   ·rename_i hc;rw[if_neg hc];exact(alone b dt h).mono conv
  have inA:∀uN,uN.ok ρ→dH a=true→aP T (sx a uN s (fun ae s'=>k ae (s.join lr lo s')) kx) ρ Q→aY T a (s.ev ρ) (kf (s.ev ρ) lr lo Q'):=by
   intro uN vc dQ h';refine bm vc h' (fun ρ' ae s' hp nw j3=>?_) (fun ρ' ae id s' hp nw j3=>?_) (fun hp=>by rw[dQ] at hp;cases hp) hr
   ·have e:=hp dQ;subst e;show Q' (.next _);rw[←SE.join_ev];exact hk ρ' ae _ (fun _=>rfl) nw j3
   ·have e:=hp dQ;subst e;exact hx ρ' ae id s' (fun _=>rfl) nw j3
  have aN:∀uN,uN.ok ρ→dH b=true→aP T (sx b uN s (fun ae s'=>k ae (s.join lr lo s')) kx) ρ Q→aY T b (s.ev ρ) (kf (s.ev ρ) lr lo Q'):=by
   intro uN vc dQ h';refine dt vc h' (fun ρ' ae s' hp nw j3=>?_) (fun ρ' ae id s' hp nw j3=>?_) (fun hp=>by rw[dQ] at hp;cases hp) hr
   ·have e:=hp dQ;subst e;show Q' (.next _);rw[←SE.join_ev];exact hk ρ' ae _ (fun _=>rfl) nw j3
   ·have e:=hp dQ;subst e;exact hx ρ' ae id s' (fun _=>rfl) nw j3
  simp only[sx] at h;split at h
  ·rename_i ht;cases dQ:dH a<;>simp only[dQ,cond_true,cond_false] at h
   ·exact struct (by simp[dQ]) h
   ·refine .ite ?_;rw[if_pos (by rw[←bN];exact wO ha ht)];exact inA ae ha dQ h
  ·rename_i ht;cases dQ:dH b<;>simp only[dQ,cond_true,cond_false] at h
   ·exact struct (by simp[dQ]) h
   ·refine .ite ?_;rw[if_neg (by rw[←bN,wO ha ht];simp)];exact aN ae ha dQ h
  ·split at h
   ·rename_i sa sb hsa jP;have eL:plain (.ite c lr lo a b) ae s=some (s.merge ae lr lo (c.sub' ae s) sa sb):=by simp[plain,hsa,jP]
    exact aAM ha _ eL (hk ρ ae _ (fun _=>rfl) ha h)
   cases dQ:(dH a&&dH b)<;>simp only[dQ,cond_true,cond_false] at h
   ·exact struct dQ h
   ·simp only[ar] at dQ;simp only[aP] at h;refine .ite ?_;rw[←bN];split at h
    ·rename_i hc;rw[if_pos hc];exact inA _ (bR.ok_cons ha hc) dQ.1 h
    ·rename_i hc;rw[if_neg hc];exact aN _ (bR.ok_cons ha (by simpa using hc)) dQ.2 h
 |block id lr lo a bm=>
  intro ae s k kx ρ Q Q' ha h hk hx jQ hr;simp only[sx] at h;cases dQ:dH a<;>simp only[dQ,cond_true,cond_false] at h
  ·have qw:dH (.block id lr lo a)=false:=dQ;cases hl:ab1 a<;>simp only[hl,cond_true,cond_false] at h
   case true=>
        simp only[aP] at h;refine aY.mono h fun x db=>?_;cases x with
        |next ρ'=>exact hk _ [] .id (fun hl=>by rw[qw] at hl;cases hl) (bR.ok_nil _) db
        |exit id ρ'=>exact jQ qw id ρ' db
        |ret d=>exact hr d db
   simp only[aP] at h;refine .block ((alone a bm h).mono fun x db=>?_);cases x with
   |next ρ'=>exact hk _ [] .id (fun hl=>by rw[qw] at hl;cases hl) (bR.ok_nil _) db
   |exit bP ρ'=>
    simp only[lD] at db ⊢;split
    ·rename_i e;rw[if_pos e] at db;exact hk _ [] .id (fun hl=>by rw[qw] at hl;cases hl) (bR.ok_nil _) db
    ·rename_i e;rw[if_neg e] at db;exact jQ qw bP ρ' db
   |ret d=>exact hr d db
  ·refine .block (bm ha h (fun ρ' ae s' hp nw j3=>?_) (fun ρ' ae bP s' hp nw j3=>?_) (fun hp=>by rw[dQ] at hp;cases hp) hr)
   ·have e:=hp dQ;subst e;show Q' (.next _);rw[←SE.join_ev];exact hk ρ' ae _ (fun _=>rfl) nw j3
   ·have e:=hp dQ;subst e;simp only[lD];by_cases cv:bP=id
    ·subst cv;simp only[gV,cond_true] at j3;rw[if_pos rfl,←SE.join_ev];exact hk ρ' ae _ (fun _=>rfl) nw j3
    ·rw[ew cv,cond_false] at j3;rw[if_neg cv];exact hx ρ' ae bP s' (fun _=>rfl) nw j3
 |loop lr lo a bm=>
  intro ae s k kx ρ Q Q' ha h hk hx jQ hr;simp only[sx,aP] at h;refine aY.mono h fun x db=>?_;cases x with
  |next ρ'=>exact hk _ [] .id (fun hl=>by cases hl) (bR.ok_nil _) db
  |exit id ρ'=>exact jQ rfl id ρ' db
  |ret d=>exact hr d db
 |each e ps lo rt a bm=>
  intro ae s k kx ρ Q Q' ha h hk hx jQ hr;simp only[sx,aP] at h;refine aY.mono h fun x db=>?_;cases x with
  |next ρ'=>exact hk _ [] .id (fun hl=>by cases hl) (bR.ok_nil _) db
  |exit id ρ'=>exact jQ rfl id ρ' db
  |ret d=>exact hr d db
 |meach J ps cC lo a bm=>
  intro ae s k kx ρ Q Q' ha h hk hx jQ hr;simp only[sx,aP] at h;refine aY.mono h fun x db=>?_;cases x with
  |next ρ'=>exact hk _ [] .id (fun hl=>by cases hl) (bR.ok_nil _) db
  |exit id ρ'=>exact jQ rfl id ρ' db
  |ret d=>exact hr d db
 |exit id=>intro ae s k kx ρ Q Q' ha h _ hx _ _;exact .exit (hx ρ ae id s (fun _=>rfl) ha h)
 |ret e=>
  intro ae s k kx ρ Q Q' ha h _ _ _ hr;simp only[sx,aP] at h;refine .ret (hr _ ?_);rw[PE.sub_ev ha] at h;exact h
def Lk.un (a b:Lk):Lk:=⟨Nat.lor a.r b.r,iZ a.o b.o⟩
def bits (l:List Nat):Nat:=l.foldr (fun t m=>Nat.lor (dD t) m) 0
theorem Of {l:List Nat}{t:Nat}(h:t∈l):aw (bits l) t=true:=by
 induction l with
 |nil=>cases h
 |cons x l ih=>
  show aw (Nat.lor (dD x) (bits l)) t=true;rw[eQ];rcases cX.1 h with e|h
  ·subst e;rw[qe];rfl
  ·rw[ih h,m8]
theorem Xh:∀{a b:List Nat} {x:Nat},x∈iZ a b↔x∈a∨x∈b
 |[],b,x=>by simp[iZ]
 |y::a,b,x=>by
  have ih:=Xh (a:=a) (b:=bif fb b y then b else y::b) (x:=x);show x∈iZ a _↔_;rw[ih];cases hb:fb b y with
  |true=>simp only[cond_true,cX];have:=(px b y).1 hb;constructor
         ·rintro(h|h);exact .inl (.inr h);exact .inr h
         ·rintro((rfl|h)|h);exact .inr this;exact .inl h;exact .inr h
  |false=>simp only[cond_false,cX];constructor
          ·rintro(h|h|h);exact .inl (.inr h);exact .inl (.inl h);exact .inr h
          ·rintro((h|h)|h);exact .inr (.inl h);exact .inl h;exact .inr (.inr h)
def Lk.Le (a K:Lk):Prop:=(∀t,aw a.r t=true→aw K.r t=true)∧∀j,j∈a.o→j∈K.o
theorem Lk.le_l (a b:Lk):a.Le (a.un b):=⟨fun t h=>by simp only[Lk.un,eQ,h,wY],fun j h=>Xh.2 (.inl h)⟩
theorem Lk.le_r (a b:Lk):b.Le (a.un b):=⟨fun t h=>by simp only[Lk.un,eQ,h,m8],fun j h=>Xh.2 (.inr h)⟩
theorem Lk.Le.trans {a b c:Lk}(h:a.Le b)(k:b.Le c):a.Le c:=⟨fun t ht=>k.1 t (h.1 t ht),fun j hj=>k.2 j (h.2 j hj)⟩
theorem Alike.le {a K:Lk}{ρ ρ':Env}(h:Alike K ρ ρ')(k:a.Le K):Alike a ρ ρ':=⟨fun t ht=>h.r t (k.1 t ht),fun j hj=>h.o j (k.2 j hj)⟩
theorem Lk.Le.of_un {a b K:Lk}(h:(a.un b).Le K):a.Le K∧b.Le K:=⟨(Lk.le_l a b).trans h,(Lk.le_r a b).trans h⟩
theorem Alike.setR {K:Lk}{ρ ρ':Env}(h:Alike K ρ ρ')(t:Nat)(d:D):Alike K (ρ.setR t d) (ρ'.setR t d):=⟨fun u hu=>by rw[Env.setR_r,Env.setR_r];split;rfl;exact h.r u hu,h.o⟩
theorem Alike.setO {K:Lk}{ρ ρ':Env}(h:Alike K ρ ρ')(t:Nat)(d:D):Alike K (ρ.setO t d) (ρ'.setO t d):=⟨h.r,fun u hu=>by rw[Env.setO_o,Env.setO_o];split;rfl;exact h.o u hu⟩
theorem Alike.join {K:Lk}{ρ ρ' η η':Env}(h:Alike K ρ ρ')(k:Alike K η η')(lr lo:List Nat):Alike K (ρ.join lr lo η) (ρ'.join lr lo η'):=
 ⟨fun u hu=>by rw[Env.join_r,Env.join_r];split;exact k.r u hu;exact h.r u hu,fun u hu=>by rw[Env.join_o,Env.join_o];split;exact k.o u hu;exact h.o u hu⟩
theorem Tb {f g:Nat→D}{u:Nat}(h:g u=f u):∀(ts:List Nat) (xs:List D),putL g ts xs u=putL f ts xs u
 |[],xs=>by rw[Lv,Lv];exact h
 |t::ts,[]=>by simp only[putL];exact h
 |t::ts,x::xs=>by rw[Lu,Lu];split;rfl;exact Tb h ts xs
theorem Alike.put {K:Lk}{ρ ρ':Env}(h:Alike K ρ ρ')(lr lo:List Nat)(vr vo:List D):Alike K (ρ.put lr vr lo vo) (ρ'.put lr vr lo vo):=⟨fun u hu=>Tb (h.r u hu) lr vr,fun u hu=>Tb (h.o u hu) lo vo⟩
def PI.lkw:PI→Lk
 |.setR t e=>e.lk.un ⟨dD t,[]⟩
 |.setO j e=>e.lk.un ⟨0,[j]⟩
 |.chk e=>e.lk
 |.call gs dst f aa=>(PI.call gs dst f aa).lk.un ⟨dD dst,[]⟩
 |.callc gs dst e aa=>(PI.callc gs dst e aa).lk.un ⟨dD dst,[]⟩
 |.mcall j f aa=>(PI.mcall j f aa).lk.un ⟨0,[j]⟩
def PC.lk:PC→Lk
 |.skip=>.none
 |.exit _=>.none
 |.is l=>l.foldr (fun p k=>p.lkw.un k) .none
 |.seq a b=>(PC.lk a).un (PC.lk b)
 |.ite c _ _ a b=>c.lk.un ((PC.lk a).un (PC.lk b))
 |.block _ _ _ a=>PC.lk a
 |.loop lr lo a=>(⟨bits lr,lo⟩:Lk).un (PC.lk a)
 |.ret e=>e.lk
 |.each e _ lo rt a=>e.lk.un ((match rt with|some e=>e.lk|none=>.none).un ((⟨0,lo⟩:Lk).un (PC.lk a)))
 |.meach J _ _ lo a=>(⟨0,J::lo⟩:Lk).un (PC.lk a)
structure Off (K:Lk) (b η η':Env):Prop where
 al:Alike K η η'
 r:∀t,aw K.r t=false→η'.r t=b.r t
 o:∀j,j∉K.o→η'.o j=b.o j
def sH (K:Lk)(b:Env):Out→Out→Prop
 |.next η,x=>∃η',x=.next η'∧Off K b η η'
 |.exit i η,x=>∃η',x=.exit i η'∧Off K b η η'
 |.ret d,x=>x=.ret d
theorem Off.uniq {K:Lk}{b η η' η2:Env}(h:Off K b η η')(k:Off K b η η2):η2=η':=by
 have h1:∀t,η2.r t=η'.r t:=fun t=>by
  cases hb:aw K.r t with
  |true=>rw[k.al.r t hb,h.al.r t hb]
  |false=>rw[k.r t hb,h.r t hb]
 have h2:∀t,η2.o t=η'.o t:=fun t=>by
  by_cases hb:t∈K.o
  ·rw[k.al.o t hb,h.al.o t hb]
  ·rw[k.o t hb,h.o t hb]
 cases η2;cases η'
 congr
 ·exact funext h1
 ·exact funext h2
theorem sH.uniq {K:Lk}{b:Env}{x y z:Out}(h:sH K b x y)(k:sH K b x z):z=y:=by
 cases x with
 |next η=>obtain⟨a,rfl,h⟩:=h;obtain⟨c,rfl,k⟩:=k;rw[h.uniq k]
 |exit i η=>obtain⟨a,rfl,h⟩:=h;obtain⟨c,rfl,k⟩:=k;rw[h.uniq k]
 |ret d=>rw[h,k]
theorem Off.setR {K:Lk}{b η η':Env}(h:Off K b η η'){t:Nat}(ht:aw K.r t=true)(d:D):Off K b (η.setR t d) (η'.setR t d):=
 ⟨h.al.setR t d,fun u hu=>by rw[Env.setR_r,if_neg (fun e=>by rw[e,ht] at hu;cases hu)];exact h.r u hu,h.o⟩
theorem Off.setO {K:Lk}{b η η':Env}(h:Off K b η η'){t:Nat}(ht:t∈K.o)(d:D):Off K b (η.setO t d) (η'.setO t d):=
 ⟨h.al.setO t d,h.r,fun u hu=>by rw[Env.setO_o,if_neg (fun e=>hu (by rw[e];exact ht))];exact h.o u hu⟩
theorem Off.join {K:Lk}{b η η' ζ ζ':Env}(h:Off K b η η')(k:Off K b ζ ζ')(lr lo:List Nat):Off K b (η.join lr lo ζ) (η'.join lr lo ζ'):=
 ⟨h.al.join k.al lr lo,fun u hu=>by rw[Env.join_r];split;exact k.r u hu;exact h.r u hu,fun u hu=>by rw[Env.join_o];split;exact k.o u hu;exact h.o u hu⟩
theorem Te {f:Nat→D}{b:D}{u:Nat}(h:f u=b):∀(ts:List Nat) (xs:List D),u∉ts→putL f ts xs u=b
 |[],xs,_=>by rw[Lv];exact h
 |t::ts,[],_=>by simp only[putL];exact h
 |t::ts,x::xs,hu=>by rw[Lu,if_neg (fun e=>hu (by simp[e]))];exact Te h ts xs (fun e=>hu (by simp[e]))
theorem Off.put {K:Lk}{b η η':Env}(h:Off K b η η'){lr lo:List Nat}(hr:∀t,t∈lr→aw K.r t=true)(ho:∀t,t∈lo→t∈K.o)(vr vo:List D):Off K b (η.put lr vr lo vo) (η'.put lr vr lo vo):=
 ⟨h.al.put lr lo vr vo,fun u hu=>Te (h.r u hu) lr vr (fun e=>by rw[hr u e] at hu;cases hu),fun u hu=>Te (h.o u hu) lo vo (fun e=>hu (ho u e))⟩
theorem PI.run_off {Φ:aV}{K:Lk}{b ρ ρ' η:Env}{p:PI}(hp:p.lkw.Le K)(h:Off K b ρ ρ')(hr:p.run Φ ρ=some η):∃η',p.run Φ ρ'=some η'∧Off K b η η':=by
 have vp:p.lk.Le K:=by cases p<;>first|exact hp|exact hp.of_un.1
 rw[PI.run_eff,PI.eff_alike p (h.al.le vp)];rw[PI.run_eff] at hr;cases he:p.eff Φ ρ with
 |none=>rw[he] at hr;cases hr
 |some x=>
  rw[he] at hr;simp only[jF,bf] at hr;subst hr;refine⟨_,rfl,?_⟩;have hb:∀{t:Nat} {a:Lk},(a.un ⟨dD t,[]⟩).Le K→aw K.r t=true:=fun h=>h.of_un.2.1 _ (qe _);have ho:∀{t:Nat} {a:Lk},(a.un ⟨0,[t]⟩).Le K→t∈K.o:=fun h=>h.of_un.2.2 _ (by simp);cases p with
  |setR t e=>simp only[PI.eff,bf] at he;subst he;exact h.setR (hb hp) _
  |setO t e=>simp only[PI.eff,bf] at he;subst he;exact h.setO (ho hp) _
  |chk e=>simp only[PI.eff] at he;cases ve:(e.ev ρ).b<;>rw[ve] at he<;>cases he;exact h
  |call gs d f aa=>
   simp only[PI.eff] at he;cases ve:holds gs ρ<;>simp only[ve,cond_true,cond_false,bf,aG] at he
   ·subst he;exact h
   ·obtain⟨y,_,rfl⟩:=he;exact h.setR (hb hp) _
  |callc gs d e aa=>
   simp only[PI.eff] at he;cases ve:holds gs ρ<;>simp only[ve,cond_true,cond_false,bf] at he
   ·subst he;exact h
   ·split at he
    ·simp only[aG] at he;obtain⟨y,_,rfl⟩:=he;exact h.setR (hb hp) _
    ·cases he
  |mcall j f aa=>simp only[PI.eff,aG] at he;obtain⟨y,_,rfl⟩:=he;exact h.setO (ho hp) _
theorem PI.runs_off {Φ:aV}{K:Lk}{b:Env}:∀{l:List PI} {ρ ρ' η:Env},(l.foldr (fun p k=>p.lkw.un k) Lk.none).Le K→Off K b ρ ρ'→PI.runs Φ l ρ=some η→∃η',PI.runs Φ l ρ'=some η'∧Off K b η η'
 |[],ρ,ρ',η,_,h,hr=>by simp only[PI.runs,bf] at hr ⊢;subst hr;exact⟨_,rfl,h⟩
 |p::l,ρ,ρ',η,hl,h,hr=>by
  simp only[PI.runs,az] at hr;obtain⟨ρ1,h1,h2⟩:=hr;obtain⟨ρ2,h3,h4⟩:=PI.run_off hl.of_un.1 h h1;obtain⟨η',h5,h6⟩:=PI.runs_off (l:=l) hl.of_un.2 h4 h2;exact⟨η',by simp only[PI.runs,h3,kF,h5],h6⟩
theorem vU {K:Lk}{b η η':Env}(h:Off K b η η'){lo:List Nat}(ho:∀t,t∈lo→t∈K.o):lo.map η'.o=lo.map η.o:=xc fun t ht=>h.al.o t (ho t ht)
theorem acD {K:Lk}{b η η':Env}(h:Off K b η η'){lr:List Nat}(hr:∀t,t∈lr→aw K.r t=true):lr.map η'.r=lr.map η.r:=xc fun t ht=>h.al.r t (hr t ht)
theorem PC.ev_off {Φ:aV}{n:Nat}{K:Lk}:∀(c:PC),c.lk.Le K→∀{b ρ ρ':Env} {x:Out},Off K b ρ ρ'→c.ev Φ n ρ=some x→∃x',c.ev Φ n ρ'=some x'∧sH K b x x':=by
 intro c
 induction c with
 |skip=>intro _ b ρ ρ' x h hr;simp only[PC.ev,bf] at hr ⊢;subst hr;exact⟨_,rfl,_,rfl,h⟩
 |exit id=>intro _ b ρ ρ' x h hr;simp only[PC.ev,bf] at hr ⊢;subst hr;exact⟨_,rfl,_,rfl,h⟩
 |ret e=>intro hk B ρ ρ' x h hr;simp only[PC.ev,bf] at hr ⊢;subst hr;exact⟨_,rfl,by rw[PE.ev_alike e (h.al.le hk)];rfl⟩
 |is l=>
  intro hk B ρ ρ' x h hr;simp only[PC.ev,aG] at hr;obtain⟨η,h1,rfl⟩:=hr;obtain⟨η',h2,h3⟩:=PI.runs_off hk h h1;exact⟨.next η',by simp only[PC.ev,h2,jF],η',rfl,h3⟩
 |seq a b bm dt=>
  intro hk B ρ ρ' x h hr;simp only[PC.ev] at hr ⊢;cases ha:a.ev Φ n ρ with
  |none=>rw[ha] at hr;cases hr
  |some y=>
   obtain⟨y',h1,h2⟩:=bm hk.of_un.1 h ha;rw[ha] at hr;rw[h1];cases y with
   |next η=>obtain⟨η',rfl,h3⟩:=h2;exact dt hk.of_un.2 h3 hr
   |exit i η=>obtain⟨η',rfl,h3⟩:=h2;cases hr;exact⟨_,rfl,η',rfl,h3⟩
   |ret d=>cases h2;cases hr;exact⟨_,rfl,rfl⟩
 |ite c lr lo a b bm dt=>
  intro hk B ρ ρ' x h hr;have hc:(c.ev ρ').b=(c.ev ρ).b:=by rw[PE.ev_alike c (h.al.le hk.of_un.1)]
  have key:∀(d:PC),(∀{ρ ρ':Env} {x:Out},Off K B ρ ρ'→d.ev Φ n ρ=some x→∃x',d.ev Φ n ρ'=some x'∧sH K B x x')→(match d.ev Φ n ρ with|some (.next η)=>some (.next (ρ.join lr lo η))|x=>x)=some x→
      ∃x',(match d.ev Φ n ρ' with|some (.next η)=>some (.next (ρ'.join lr lo η))|x=>x)=some x'∧sH K B x x':=by
   intro d ih hr;cases ha:d.ev Φ n ρ with
   |none=>rw[ha] at hr;cases hr
   |some y=>
    obtain⟨y',h1,h2⟩:=ih h ha;rw[ha] at hr;rw[h1];cases y with
    |next η=>obtain⟨η',rfl,h3⟩:=h2;cases hr;exact⟨_,rfl,_,rfl,h.join h3 lr lo⟩
    |exit i η=>obtain⟨η',rfl,h3⟩:=h2;cases hr;exact⟨_,rfl,η',rfl,h3⟩
    |ret d=>cases h2;cases hr;exact⟨_,rfl,rfl⟩
  simp only[PC.ev,hc] at hr ⊢;cases gZ:(c.ev ρ).b<;>simp only[gZ,cond_true,cond_false] at hr ⊢
  ·exact key b (fun h1 h2=>dt hk.of_un.2.of_un.2 h1 h2) hr
  ·exact key a (fun h1 h2=>bm hk.of_un.2.of_un.1 h1 h2) hr
 |block id lr lo a bm=>
  intro hk B ρ ρ' x h hr;simp only[PC.ev] at hr ⊢;cases ha:a.ev Φ n ρ with
  |none=>rw[ha] at hr;cases hr
  |some y=>
   obtain⟨y',h1,h2⟩:=bm hk h ha;rw[ha] at hr;rw[h1];cases y with
   |next η=>obtain⟨η',rfl,h3⟩:=h2;cases hr;exact⟨_,rfl,_,rfl,h.join h3 lr lo⟩
   |exit i η=>
    obtain⟨η',rfl,h3⟩:=h2;simp only at hr ⊢;cases hb:Nat.beq i id<;>simp only[hb,cond_true,cond_false] at hr ⊢<;>cases hr
    ·exact⟨_,rfl,η',rfl,h3⟩
    ·exact⟨_,rfl,_,rfl,h.join h3 lr lo⟩
   |ret d=>cases h2;cases hr;exact⟨_,rfl,rfl⟩
 |loop lr lo a bm=>
  intro hk B ρ ρ' x h hr;have hZ:∀t,t∈lr→aw K.r t=true:=fun t ht=>hk.of_un.1.1 t (Of ht);have jr:∀t,t∈lo→t∈K.o:=fun t ht=>hk.of_un.1.2 t ht;have key:∀(m:Nat) (vr vo:List D),fA (a.ev Φ n) ρ lr lo m vr vo=some x→∃x',fA (a.ev Φ n) ρ' lr lo m vr vo=some x'∧sH K B x x':=by
   intro m
   induction m with
   |zero=>intro vr vo h;simp[fA] at h
   |succ m QJ=>
    intro vr vo hr;simp only[fA] at hr ⊢;cases ha:a.ev Φ n (ρ.put lr vr lo vo) with
    |none=>rw[ha] at hr;cases hr
    |some y=>
     obtain⟨y',h1,h2⟩:=bm hk.of_un.2 (h.put hZ jr vr vo) ha;rw[ha] at hr;rw[h1];cases y with
     |next η=>obtain⟨η',rfl,h3⟩:=h2;simp only[vU h3 jr,acD h3 hZ];exact QJ _ _ hr
     |exit i η=>obtain⟨η',rfl,h3⟩:=h2;cases hr;exact⟨_,rfl,η',rfl,h3⟩
     |ret d=>cases h2;cases hr;exact⟨_,rfl,rfl⟩
  simp only[PC.ev] at hr ⊢;rw[vU h jr,acD h hZ];exact key n _ _ hr
 |each e ps lo rt a bm=>
  intro hk B ρ ρ' x h hr;obtain⟨bF,ct⟩:=hk.of_un;obtain⟨ct,lI⟩:=ct.of_un;obtain⟨lI,yd⟩:=lI.of_un;have jr:∀t,t∈lo→t∈K.o:=fun t ht=>lI.2 t ht;have key:∀(xs vo:List D),fX (a.ev Φ n) ρ ps lo rt xs vo=some x→∃x',fX (a.ev Φ n) ρ' ps lo rt xs vo=some x'∧sH K B x x':=by
   intro xs
   induction xs with
   |nil=>intro vo hr;simp only[fX,bf] at hr ⊢;subst hr;exact⟨_,rfl,_,rfl,h.put (fun _ h=>by cases h) jr _ _⟩
   |cons y xs iU=>
    intro vo hr;simp only[fX] at hr ⊢;cases ha:a.ev Φ n (ρ.put ps (partsOf ps y) lo vo) with
    |none=>rw[ha] at hr;cases hr
    |some z=>
     have iQ:Off K (ρ'.put ps (partsOf ps y) lo vo) (ρ.put ps (partsOf ps y) lo vo) (ρ'.put ps (partsOf ps y) lo vo):=⟨h.al.put ps lo _ _,fun _ _=>rfl,fun _ _=>rfl⟩
     obtain⟨z',h1,h2⟩:=bm yd iQ ha;rw[ha] at hr;rw[h1];cases z with
     |next η=>obtain⟨η',rfl,h3⟩:=h2;simp only[vU h3 jr];exact iU _ hr
     |exit i η=>
      obtain⟨η',rfl,h3⟩:=h2;simp only[vU h3 jr] at hr ⊢;have hp:=h.put (lr:=[]) (fun _ h=>by cases h) jr [] (lo.map η.o);cases hb:Nat.beq i cB<;>simp only[hb,cond_true,cond_false] at hr ⊢
      ·cases hr;exact⟨_,rfl,_,rfl,hp⟩
      ·cases rt with
       |none=>cases hr
       |some e2=>cases hr;exact⟨_,rfl,by show Out.ret _=Out.ret _;rw[PE.ev_alike e2 (hp.al.le ct)]⟩
     |ret d=>cases hr
  simp only[PC.ev] at hr ⊢;rw[PE.ev_alike e (h.al.le bF),vU h jr];exact key _ _ hr
 |meach J ps cC lo a bm=>
  intro hk B ρ ρ' x h hr;obtain⟨lI,yd⟩:=hk.of_un;have jr:∀t,t∈lo→t∈K.o:=fun t ht=>lI.2 t (dk _ ht);have hJ:ρ'.o J=ρ.o J:=h.al.o J (lI.2 J (dv ..));have key:∀(es:D) (xs done vo l9:List D),kQ (a.ev Φ n) ρ J es ps cC lo xs done vo=some l9→kQ (a.ev Φ n) ρ' J es ps cC lo xs done vo=some l9:=by
   intro es xs
   induction xs with
   |nil=>intro done vo l9 h;exact h
   |cons y xs iU=>
    intro done vo l9 hr;simp only[kQ] at hr ⊢;cases ha:a.ev Φ n ((ρ.put ps (cC.map y.tget) lo vo).setO J (.tup [.list (done++[y]),es])) with
    |none=>rw[ha] at hr;cases hr
    |some z=>
     have iQ:Off K ((ρ'.put ps (cC.map y.tget) lo vo).setO J (.tup [.list (done++[y]),es])) ((ρ.put ps (cC.map y.tget) lo vo).setO J (.tup [.list (done++[y]),es])) ((ρ'.put ps (cC.map y.tget) lo vo).setO J (.tup [.list (done++[y]),es])):=
          ⟨(h.al.put ps lo _ _).setO J _,fun _ _=>rfl,fun _ _=>rfl⟩
     obtain⟨z',h1,h2⟩:=bm yd iQ ha;rw[ha] at hr;rw[h1];cases z with
     |next η=>obtain⟨η',rfl,h3⟩:=h2;simp only[vU h3 jr];exact iU _ _ _ hr
     |exit i η=>cases hr
     |ret d=>cases hr
  simp only[PC.ev,wg] at hr;obtain⟨vo,⟨h1,h2⟩,rfl⟩:=hr;refine⟨.next (ρ'.put [] [] lo vo),?_,_,rfl,h.put (fun _ h=>by cases h) jr _ _⟩;simp only[PC.ev,wg];refine⟨vo,⟨by rw[hJ];exact h1,fun ys hy=>?_⟩,rfl⟩;rw[hJ] at hy ⊢;rw[vU h jr];exact key _ _ _ _ _ (h2 ys hy)
def ns:List Nat→PC→Bool
 |l,.exit id=>fb l id
 |l,.seq a b=>ns l a&&ns l b
 |l,.ite _ _ _ a b=>ns l a&&ns l b
 |l,.block id _ _ a=>ns (id::l) a
 |l,.loop _ _ a=>ns l a
 |l,.each _ _ _ _ a=>ns (cB::l) a
 |_,_=>true
theorem aqb {Φ:aV}{n:Nat}:∀(c:PC) {l:List Nat},ns l c=true→∀{ρ:Env} {i:Nat} {η:Env},c.ev Φ n ρ=some (.exit i η)→i∈l:=by
 intro c
 induction c with
 |skip=>intro l _ ρ i η h;simp[PC.ev] at h
 |exit id=>intro l hl ρ i η h;simp only[PC.ev,bf] at h;injection h with h1 h2;subst h1;exact(px _ _).1 hl
 |ret e=>intro l _ ρ i η h;simp[PC.ev] at h
 |is _=>intro l _ ρ i η h;simp[PC.ev] at h
 |seq a b bm dt=>
  intro l hl ρ i η h;simp only[ns,ar] at hl;simp only[PC.ev] at h;split at h
  ·exact dt hl.2 h
  ·exact bm hl.1 h
 |ite c lr lo a b bm dt=>
  intro l hl ρ i η h;simp only[ns,ar] at hl;simp only[PC.ev] at h;cases hc:(c.ev ρ).b<;>simp only[hc,cond_true,cond_false] at h
  ·split at h
   ·cases h
   ·exact dt hl.2 h
  ·split at h
   ·cases h
   ·exact bm hl.1 h
 |block id lr lo a bm=>
  intro l hl ρ i η h;simp only[PC.ev] at h;split at h
  ·cases h
  ·rename_i bP ρ2 ha;cases hb:Nat.beq bP id<;>simp only[hb,cond_true,cond_false] at h<;>cases h;rcases cX.1 (bm hl ha) with e|e
   ·subst e;rw[gV] at hb;cases hb
   ·exact e
  ·rename_i h1 h2;exact absurd h (h2 _ _)
 |loop lr lo a bm=>
  intro l hl ρ i η h;have key:∀(m:Nat) (vr vo:List D),fA (a.ev Φ n) ρ lr lo m vr vo=some (.exit i η)→i∈l:=by
   intro m
   induction m with
   |zero=>intro vr vo h;simp[fA] at h
   |succ m QJ=>
    intro vr vo h;simp only[fA] at h;split at h
    ·exact QJ _ _ h
    ·exact bm hl h
  exact key _ _ _ h
 |each e ps lo rt a bm=>
  intro l hl ρ i η h;have key:∀(xs vo:List D),fX (a.ev Φ n) ρ ps lo rt xs vo=some (.exit i η)→i∈l:=by
   intro xs
   induction xs with
   |nil=>intro vo h;simp[fX] at h
   |cons x xs iU=>
    intro vo h;simp only[fX] at h;split at h
    ·exact iU _ h
    ·rename_i bP ρ2 ha;cases hb:Nat.beq bP cB<;>simp only[hb,cond_true,cond_false] at h
     ·injection h with h;injection h with h1 h2;subst h1
      rcases cX.1 (bm hl ha) with e|e
      ·subst e;rw[gV] at hb;cases hb
      ·exact e
     ·cases rt<;>simp at h
    ·cases h
  exact key _ _ h
 |meach J ps cC lo a _=>
  intro l _ ρ i η h;simp only[PC.ev,wg] at h;obtain⟨vo,_,h⟩:=h;cases h
def abY (t:Nat):PE→Bool
 |.r u=>Nat.beq u t
 |_=>false
def abZ (t:Nat):PE→Bool
 |.o u=>Nat.beq u t
 |_=>false
def fk (nH:Nat→PE→Bool)(p:Nat→Bool):List Nat→List (Nat×PE)→List (Nat×PE)
 |_,[]=>[]
 |seen,x::l=>bif p x.1&& !fb seen x.1 then(bif nH x.1 x.2 then fk nH p (x.1::seen) l else x::fk nH p (x.1::seen) l) else fk nH p seen l
theorem Hk {nH:Nat→PE→Bool}{p:Nat→Bool}:∀{l:List (Nat×PE)} {seen:List Nat} {t:Nat},fb seen t=true→ab (fk nH p seen l) t=none
 |[],_,_,_=>rfl
 |x::l,seen,t,h=>by
  have h':fb (x.1::seen) t=true:=by rw[px] at h ⊢;exact dk _ h
  simp only[fk];cases hb:(p x.1&& !fb seen x.1) with
  |false=>exact Hk h
  |true=>
   simp only[cond_true];cases nH x.1 x.2 with
   |true=>exact Hk h'
   |false=>
    simp only[cond_false,ab];have:Nat.beq x.1 t=false:=by
      cases e:Nat.beq x.1 t with
      |false=>rfl
      |true=>rw[cG e,h] at hb;simp at hb
    rw[this];exact Hk h'
theorem Ce {nH:Nat→PE→Bool}{p:Nat→Bool}{dflt:Nat→PE}(cv:∀t e,nH t e=true→e=dflt t):∀{l:List (Nat×PE)} {seen:List Nat} {t:Nat},p t=true→fb seen t=false→
 (match ab (fk nH p seen l) t with|some e=>e|none=>dflt t)=(match ab l t with|some e=>e|none=>dflt t)
 |[],_,_,_,_=>rfl
 |x::l,seen,t,hp,hs=>by
  simp only[fk,ab];cases e:Nat.beq x.1 t with
  |true=>
   have e':=cG e;rw[e',hp,hs];simp only[Bool.not_false,Bool.and_self,cond_true];cases hi:nH t x.2 with
   |true=>simp only[cond_true];rw[Hk (by rw[px];exact dv ..)];exact(cv _ _ hi).symm
   |false=>simp only[cond_false,ab,e,cond_true]
  |false=>
   simp only[cond_false];cases hb:(p x.1&& !fb seen x.1) with
   |false=>exact Ce cv hp hs
   |true=>
    have eA:fb (x.1::seen) t=false:=by
      cases hm:fb (x.1::seen) t with
      |false=>rfl
      |true=>
       rcases cX.1 ((px _ _).1 hm) with h|h
       ·rw[h,gV] at e;cases e
       ·rw[(px _ _).2 h] at hs;cases hs
    simp only[cond_true];cases nH x.1 x.2 with
    |true=>exact Ce cv hp eA
    |false=>simp only[cond_false,ab,e];exact Ce cv hp eA
def SE.cut (s:SE)(k:Lk):SE:=⟨fk abY (aw k.r) [] s.r,fk abZ (fb k.o) [] s.o⟩
def Rl (l:List (Nat×PE)):Lk:=l.foldr (fun x k=>x.2.lk.un k) .none
def SE.lks (s:SE):Lk:=(Rl s.r).un (Rl s.o)
theorem Rm:∀{l:List (Nat×PE)} {t:Nat} {e:PE},ab l t=some e→e.lk.Le (Rl l)
 |[],_,_,h=>by cases h
 |x::l,t,e,h=>by
  simp only[ab] at h;cases hb:Nat.beq x.1 t<;>simp only[hb,cond_true,cond_false] at h
  ·exact(Rm h).trans (Lk.le_r _ _)
  ·cases h;exact Lk.le_l _ _
theorem SE.cut_al {s:SE}{L:Lk}{ρ1 ρ2:Env}(h:Alike (L.un (s.cut L).lks) ρ1 ρ2):Alike L ((s.cut L).ev ρ1) (s.ev ρ2):=by
 have hL:=h.le (Lk.le_l _ _);have hs:=h.le (Lk.le_r _ _);constructor
 ·intro t ht;show(s.getR t).ev ρ2=((s.cut L).getR t).ev ρ1;have e:(s.cut L).getR t=s.getR t:=Ce (dflt:=.r) (fun t e he=>by unfold abY at he;split at he;rw[cG he];cases he) ht rfl;rw[←e];cases hl:ab (s.cut L).r t with
  |none=>have:(s.cut L).getR t=.r t:=by unfold SE.getR;rw[hl]
         rw[this];exact hL.r t ht
  |some x=>have:(s.cut L).getR t=x:=by unfold SE.getR;rw[hl]
           rw[this];exact PE.ev_alike x (hs.le ((Rm hl).trans (Lk.le_l _ _)))
 ·intro t ht;show(s.getO t).ev ρ2=((s.cut L).getO t).ev ρ1;have e:(s.cut L).getO t=s.getO t:=Ce (dflt:=.o) (fun t e he=>by unfold abZ at he;split at he;rw[cG he];cases he) ((px _ _).2 ht) rfl;rw[←e];cases hl:ab (s.cut L).o t with
  |none=>have:(s.cut L).getO t=.o t:=by unfold SE.getO;rw[hl]
         rw[this];exact hL.o t ht
  |some x=>have:(s.cut L).getO t=x:=by unfold SE.getO;rw[hl]
           rw[this];exact PE.ev_alike x (hs.le ((Rm hl).trans (Lk.le_r _ _)))
structure LC where
 next:Lk
 ov:List (Nat×Lk)
def LC.all (c:LC):Lk:=c.ov.foldr (fun x k=>x.2.un k) .none
def Nf (c:LC)(Q1 Q2:Out→Prop):Prop:=
 (∀ρ1 ρ2,Alike c.next ρ1 ρ2→Q1 (.next ρ1)→Q2 (.next ρ2))∧(∀id k ρ1 ρ2,ab c.ov id=some k→Alike k ρ1 ρ2→Q1 (.exit id ρ1)→Q2 (.exit id ρ2))∧∀d,Q1 (.ret d)→Q2 (.ret d)
def fD:LC→PT→Option (PT×Lk)
 |c,.next s=>some (.next (s.cut c.next),c.next.un (s.cut c.next).lks)
 |c,.exit id s=>(ab c.ov id).map fun k=>(.exit id (s.cut k),k.un (s.cut k).lks)
 |_,.ret e=>some (.ret e,e.lk)
 |c,.chk e k=>(fD c k).map fun r=>(.chk e r.1,e.lk.un r.2)
 |c,.ite e a b=>(fD c a).bind fun x=>(fD c b).map fun y=>(.ite e x.1 y.1,e.lk.un (x.2.un y.2))
 |c,.call s gs dst f args k=>(fD c k).map fun r=>(.call (s.cut (r.2.un (lG gs))) gs dst f args r.1,(PE.lks args).un ((r.2.un (lG gs)).un (s.cut (r.2.un (lG gs))).lks))
 |c,.callc s gs dst e args k=>(fD c k).map fun r=>(.callc (s.cut (r.2.un (lG gs))) gs dst e args r.1,(e.lk.un (PE.lks args)).un ((r.2.un (lG gs)).un (s.cut (r.2.un (lG gs))).lks))
 |c,.mcall s j f args k=>(fD c k).map fun r=>(.mcall (s.cut r.2) j f args r.1,(PE.lks args).un (r.2.un (s.cut r.2).lks))
 |c,.iteS s e lr lo a b k=>(fD c k).bind fun r=>(fD ⟨r.2,c.ov⟩ a).bind fun x=>(fD ⟨r.2,c.ov⟩ b).map fun y=>
    (.iteS (s.cut (r.2.un (x.2.un y.2))) e lr lo x.1 y.1 r.1,e.lk.un ((r.2.un (x.2.un y.2)).un (s.cut (r.2.un (x.2.un y.2))).lks))
 |c,.blockS s id lr lo a k=>(fD c k).bind fun r=>(fD ⟨r.2,(id,r.2)::c.ov⟩ a).map fun x=>(.blockS (s.cut (r.2.un x.2)) id lr lo x.1 r.1,(r.2.un x.2).un (s.cut (r.2.un x.2)).lks)
 |c,.brk s p k=>(fD c k).bind fun r=>bif ns (c.ov.map (·.1)) p then some (.brk (s.cut (p.lk.un (r.2.un c.all))) p r.1,(p.lk.un (r.2.un c.all)).un (s.cut (p.lk.un (r.2.un c.all))).lks) else none
theorem LC.all_le:∀{l:List (Nat×Lk)} {id:Nat} {k:Lk},ab l id=some k→k.Le (l.foldr (fun x k=>x.2.un k) .none)
 |[],_,_,h=>by cases h
 |x::l,t,e,h=>by
  simp only[ab] at h;cases hb:Nat.beq x.1 t<;>simp only[hb,cond_true,cond_false] at h
  ·exact(LC.all_le h).trans (Lk.le_r _ _)
  ·cases h;exact Lk.le_l _ _
theorem acj:∀{l:List (Nat×Lk)} {id:Nat},id∈l.map (·.1)→∃k,ab l id=some k
 |[],_,h=>by cases h
 |x::l,id,h=>by
  simp only[ab];cases hb:Nat.beq x.1 id with
  |true=>exact⟨_,rfl⟩
  |false=>
   simp only[cond_false];rcases cX.1 h with e|h
   ·rw[e,gV] at hb;cases hb
   ·exact acj h
theorem aAS {T:cu}:∀(t:PT) {c:LC} {t':PT} {L:Lk},fD c t=some (t',L)→∀{Q1 Q2:Out→Prop} {ρ1 ρ2:Env},Nf c Q1 Q2→Alike L ρ1 ρ2→aP T t' ρ1 Q1→aP T t ρ2 Q2:=by
 intro t
 induction t with
 |next s=>
  intro c t' L hp Q1 Q2 ρ1 ρ2 hQ hA h;simp only[fD,bf,ni] at hp;obtain⟨rfl,rfl⟩:=hp;exact hQ.1 _ _ (SE.cut_al hA) h
 |exit id s=>
  intro c t' L hp Q1 Q2 ρ1 ρ2 hQ hA h;simp only[fD,aG,ni] at hp;obtain⟨k,hk,rfl,rfl⟩:=hp;exact hQ.2.1 _ k _ _ hk (SE.cut_al hA) h
 |ret e=>
  intro c t' L hp Q1 Q2 ρ1 ρ2 hQ hA h;simp only[fD,bf,ni] at hp;obtain⟨rfl,rfl⟩:=hp;show Q2 (.ret (e.ev ρ2));rw[PE.ev_alike e hA];exact hQ.2.2 _ h
 |chk e k ih=>
  intro c t' L hp Q1 Q2 ρ1 ρ2 hQ hA h;simp only[fD,aG,ni] at hp;obtain⟨r,hr,rfl,rfl⟩:=hp;exact⟨by rw[PE.ev_alike e (hA.le (Lk.le_l _ _))];exact h.1,ih hr hQ (hA.le (Lk.le_r _ _)) h.2⟩
 |ite e a b bm dt=>
  intro c t' L hp Q1 Q2 ρ1 ρ2 hQ hA h;simp only[fD,az,aG,ni] at hp;obtain⟨x,hx,y,hy,rfl,rfl⟩:=hp;have h2:=hA.le (Lk.le_r _ _);simp only[aP] at h ⊢;rw[PE.ev_alike e (hA.le (Lk.le_l _ _))];split
  ·rename_i hc;rw[if_pos hc] at h;exact bm hx hQ (h2.le (Lk.le_l _ _)) h
  ·rename_i hc;rw[if_neg hc] at h;exact dt hy hQ (h2.le (Lk.le_r _ _)) h
 |call s gs dst f args k ih=>
  intro c t' L hp Q1 Q2 ρ1 ρ2 hQ hA h;simp only[fD,aG,ni] at hp;obtain⟨r,hr,rfl,rfl⟩:=hp;have hS:=SE.cut_al (hA.le (Lk.le_r _ _));simp only[aP] at h ⊢;rw[PE.evs_alike args (hA.le (Lk.le_l _ _)),yg (hS.le (Lk.le_r _ _))];split
  ·rename_i hc;rw[if_pos hc] at h;obtain⟨d,hd,h⟩:=h;exact⟨d,hd,ih hr hQ ((hS.le (Lk.le_l _ _)).setR dst d) h⟩
  ·rename_i hc;rw[if_neg hc] at h;exact ih hr hQ (hS.le (Lk.le_l _ _)) h
 |callc s gs dst e args k ih=>
  intro c t' L hp Q1 Q2 ρ1 ρ2 hQ hA h;simp only[fD,aG,ni] at hp;obtain⟨r,hr,rfl,rfl⟩:=hp;have hS:=SE.cut_al (hA.le (Lk.le_r _ _));have hE:=hA.le (Lk.le_l _ _);simp only[aP] at h ⊢;rw[PE.ev_alike e (hE.le (Lk.le_l _ _)),PE.evs_alike args (hE.le (Lk.le_r _ _)),yg (hS.le (Lk.le_r _ _))];split
  ·rename_i hc;rw[if_pos hc] at h;obtain⟨f,caps,d,he,hd,h⟩:=h;exact⟨f,caps,d,he,hd,ih hr hQ ((hS.le (Lk.le_l _ _)).setR dst d) h⟩
  ·rename_i hc;rw[if_neg hc] at h;exact ih hr hQ (hS.le (Lk.le_l _ _)) h
 |mcall s j f args k ih=>
  intro c t' L hp Q1 Q2 ρ1 ρ2 hQ hA h;simp only[fD,aG,ni] at hp;obtain⟨r,hr,rfl,rfl⟩:=hp;have hS:=SE.cut_al (hA.le (Lk.le_r _ _));simp only[aP] at h ⊢;rw[PE.evs_alike args (hA.le (Lk.le_l _ _))];obtain⟨d,hd,h⟩:=h;exact⟨d,hd,ih hr hQ (hS.setO j d) h⟩
 |iteS s e lr lo a b k bm dt jS=>
  intro c t' L hp Q1 Q2 ρ1 ρ2 hQ hA h;simp only[fD,az,aG,ni] at hp;obtain⟨r,hr,x,hx,y,hy,rfl,rfl⟩:=hp;have hS:=SE.cut_al (hA.le (Lk.le_r _ _));have HA:=hS.le (Lk.le_l _ _);have Cp:=hS.le ((Lk.le_l _ _).trans (Lk.le_r _ _));have hSy:=hS.le ((Lk.le_r _ _).trans (Lk.le_r _ _))
  have rel:Nf ⟨r.2,c.ov⟩ (kf ((s.cut (r.2.un (x.2.un y.2))).ev ρ1) lr lo (gx (fun ρ'=>aP T r.1 ρ' Q1) Q1)) (kf (s.ev ρ2) lr lo (gx (fun ρ'=>aP T k ρ' Q2) Q2)):=
   ⟨fun η1 η2 ha hq=>jS hr hQ (HA.join ha lr lo) hq,fun id k' η1 η2 hk ha hq=>hQ.2.1 id k' _ _ hk ha hq,fun d hq=>hQ.2.2 d hq⟩
  simp only[aP] at h ⊢;rw[PE.ev_alike e (hA.le (Lk.le_l _ _))];split
  ·rename_i hc;rw[if_pos hc] at h;exact bm hx rel Cp h
  ·rename_i hc;rw[if_neg hc] at h;exact dt hy rel hSy h
 |blockS s id lr lo a k bm jS=>
  intro c t' L hp Q1 Q2 ρ1 ρ2 hQ hA h;simp only[fD,az,aG,ni] at hp;obtain⟨r,hr,x,hx,rfl,rfl⟩:=hp;have hS:=SE.cut_al hA;have HA:=hS.le (Lk.le_l _ _);refine bm hx (Q1:=lD ((s.cut (r.2.un x.2)).ev ρ1) id lr lo (gx (fun ρ'=>aP T r.1 ρ' Q1) Q1)) ⟨fun η1 η2 ha hq=>jS hr hQ (HA.join ha lr lo) hq,fun bP k' η1 η2 hk ha hq=>?_,fun d hq=>hQ.2.2 d hq⟩ (hS.le (Lk.le_r _ _)) h;simp only[lD] at hq ⊢;simp only[ab] at hk;by_cases e:bP=id
  ·subst e;simp only[gV,cond_true,bf] at hk;subst hk;rw[if_pos rfl] at hq ⊢;exact jS hr hQ (HA.join ha lr lo) hq
  ·rw[if_neg e] at hq ⊢;rw[ew (fun h=>e h.symm),cond_false] at hk;exact hQ.2.1 bP k' _ _ hk ha hq
 |brk s p k jS=>
  intro c t' L hp Q1 Q2 ρ1 ρ2 hQ hA h;simp only[fD,az] at hp;obtain⟨r,hr,hp⟩:=hp;cases hx:ns (c.ov.map (·.1)) p<;>simp only[hx,cond_true,cond_false,bf,ni] at hp
  ·cases hp
  obtain⟨rfl,rfl⟩:=hp;have hS:=SE.cut_al hA;have iQ:Off (p.lk.un (r.2.un c.all)) (s.ev ρ2) ((s.cut (p.lk.un (r.2.un c.all))).ev ρ1) (s.ev ρ2):=⟨hS,fun _ _=>rfl,fun _ _=>rfl⟩
  obtain⟨x,hq,n0,hn⟩:=h;have step:=fun n (hle:n0≤n)=>PC.ev_off p (Lk.le_l _ _) iQ (hn n hle);obtain⟨x',h1,h2⟩:=step n0 (bk _);refine⟨x',?_,n0,fun n hle=>?_⟩
  ·cases x with
   |next η=>obtain⟨η',rfl,h3⟩:=h2;exact jS hr hQ (h3.al.le ((Lk.le_l _ _).trans (Lk.le_r _ _))) hq
   |exit i η=>
    obtain⟨η',rfl,h3⟩:=h2;obtain⟨k',bz⟩:=acj (aqb p hx (hn n0 (bk _)));exact hQ.2.1 i k' _ _ bz (h3.al.le ((LC.all_le bz).trans ((Lk.le_r _ _).trans (Lk.le_r _ _)))) hq
   |ret d=>cases h2;exact hQ.2.2 d hq
  ·obtain⟨x2,h3,h4⟩:=step n hle;rw[h3,h2.uniq h4]
def DJ (c:LC)(t:PT):PT:=match fD c t with|some r=>r.1|none=>t
theorem Lt {T:cu}{c:LC}{t:PT}{Q:Out→Prop}{ρ:Env}(hQ:Nf c Q Q)(h:aP T (DJ c t) ρ Q):aP T t ρ Q:=by
 unfold DJ at h;split at h
 ·rename_i r hr;exact aAS t hr hQ ⟨fun _ _=>rfl,fun _ _=>rfl⟩ h
 ·exact h
def aic (c:PC):PT:=sx c [] .id (fun _ s=>.next s) (fun _ id s=>.exit id s)
theorem aid {T:cu}{c:PC}{ρ:Env}{Q:Out→Prop}(h:aP T (aic c) ρ Q):aY T c ρ Q:=
 MA (s:=.id) c (bR.ok_nil _) h (fun ρ' ae s _ _ h=>h) (fun ρ' ae id s _ _ h=>h) (fun _ _ _ h=>h) (fun _ h=>h)
def tree (c:PC):PT:=DJ ⟨.none,[]⟩ (aic c)
theorem MR {T:cu}{c:PC}{ρ:Env}{d:D}(h:aP T (tree c) ρ fun x=>x=.ret d):aY T c ρ fun x=>x=.ret d:=
 aid (Lt ⟨fun _ _ _ h=>(by cases h),fun _ _ _ _ _ _ h=>(by cases h),fun _ h=>h⟩ h)
def SE.keep (s:SE)(lr lo:List Nat):SE:=⟨lr.map fun t=>(t,s.getR t),lo.map fun t=>(t,s.getO t)⟩
theorem SE.keep_r (s:SE)(lr lo:List Nat)(ρ:Env):lr.map ((s.keep lr lo).ev ρ).r=lr.map (s.ev ρ).r:=by
 apply xc;intro t ht;show((s.keep lr lo).getR t).ev ρ=(s.getR t).ev ρ;have:=vR (f:=fun t=>s.getR t) (l:=[]) (u:=t) lr;rw[mf,if_pos ht] at this;have e:(s.keep lr lo).getR t=s.getR t:=by unfold SE.getR SE.keep;simp only[];rw[this];rfl
 rw[e]
theorem SE.keep_o (s:SE)(lr lo:List Nat)(ρ:Env):lo.map ((s.keep lr lo).ev ρ).o=lo.map (s.ev ρ).o:=by
 apply xc;intro t ht;show((s.keep lr lo).getO t).ev ρ=(s.getO t).ev ρ;have:=vR (f:=fun t=>s.getO t) (l:=[]) (u:=t) lo;rw[mf,if_pos ht] at this;have e:(s.keep lr lo).getO t=s.getO t:=by unfold SE.getO SE.keep;simp only[];rw[this];rfl
 rw[e]
def ahz (id:Nat)(bC bB lr lo:List Nat)(a:PC):PT:=
 sx a [] .id (fun _ s=>.next (s.keep lr lo)) (fun _ bP s=>bif Nat.beq bP id then .exit id (s.keep bC bB) else .exit bP s)
def eM (ρ:Env)(id:Nat)(bC bB lr lo:List Nat)(K:List D→List D→Prop)(Q:Out→Prop):Out→Prop
 |.next ρ'=>K (lr.map ρ'.r) (lo.map ρ'.o)
 |.exit bP ρ'=>if bP=id then Q (.next (ρ.put bC (bC.map ρ'.r) bB (bB.map ρ'.o))) else Q (.exit bP ρ')
 |.ret d=>Q (.ret d)
def round (id:Nat)(bC bB lr lo:List Nat)(a:PC):PT:=DJ ⟨⟨bits lr,lo⟩,[(id,⟨bits bC,bB⟩)]⟩ (ahz id bC bB lr lo a)
theorem acC {k:Lk}{lr:List Nat}{ρ1 ρ2:Env}(h:Alike k ρ1 ρ2)(hk:∀t,t∈lr→aw k.r t=true):lr.map ρ2.r=lr.map ρ1.r:=xc fun t ht=>h.r t (hk t ht)
theorem IB {k:Lk}{lo:List Nat}{ρ1 ρ2:Env}(h:Alike k ρ1 ρ2)(hk:∀t,t∈lo→t∈k.o):lo.map ρ2.o=lo.map ρ1.o:=xc fun t ht=>h.o t (hk t ht)
theorem aBS {T:cu}{id:Nat}{bC bB lr lo:List Nat}{a:PC}{ρ ρ0:Env}{K:List D→List D→Prop}{Q:Out→Prop}(h:aP T (round id bC bB lr lo a) ρ (eM ρ0 id bC bB lr lo K Q)):aP T (ahz id bC bB lr lo a) ρ (eM ρ0 id bC bB lr lo K Q):=by
 refine Lt ⟨fun ρ1 ρ2 ha hq=>?_,fun bP k ρ1 ρ2 hk ha hq=>?_,fun d hq=>hq⟩ h
 ·simp only[eM] at hq ⊢;rw[acC ha fun t ht=>Of ht,IB ha fun t ht=>ht];exact hq
 ·simp only[ab] at hk;cases hb:Nat.beq id bP<;>simp only[hb,cond_true,cond_false] at hk
  ·cases hk
  ·cases hk;have:=cG hb;subst this;simp only[eM,if_true] at hq ⊢;rw[acC ha fun t ht=>Of ht,IB ha fun t ht=>ht];exact hq
theorem aY.forLoop {T:cu}{id:Nat}{bC bB lr lo:List Nat}{a:PC}{ρ:Env}{Q:Out→Prop}{α:Type}(inv:α→List D→List D→Prop)(tM:α→Nat)(s0:α)(h0:inv s0 (lr.map ρ.r) (lo.map ρ.o))
 (step:∀s vr vo,inv s vr vo→aP T (round id bC bB lr lo a) (ρ.put lr vr lo vo) (eM ρ id bC bB lr lo (fun vr vo=>∃s',tM s'<tM s∧inv s' vr vo) Q)):aY T (.block id bC bB (.loop lr lo a)) ρ Q:=by
 refine .block (.loop inv tM s0 h0 fun s vr vo hi=>?_);have h:=aBS (step s vr vo hi);refine MA (s:=.id) a (bR.ok_nil _) h (fun ρ' ae s' _ _ h=>?_) (fun ρ' ae bP s' _ _ h=>?_) (fun _ bP ρ' h=>?_) (fun d h=>h)
 ·simp only[aP,eM] at h;rw[SE.keep_r,SE.keep_o] at h;exact h
 ·simp only[gx,lD];by_cases cv:bP=id
  ·subst cv;simp only[gV,cond_true,aP,eM,if_true] at h;rw[SE.keep_r,SE.keep_o] at h;rw[if_pos rfl];exact h
  ·rw[ew cv,cond_false] at h;simp only[aP,eM] at h;rw[if_neg cv] at h ⊢;exact h
 ·simp only[gx,lD];simp only[eM] at h;split
  ·rename_i e;rw[if_pos e] at h;exact h
  ·rename_i e;rw[if_neg e] at h;exact h
def ahA (lo:List Nat)(a:PC):PT:=sx a [] .id (fun _ s=>.next (s.keep [] lo)) (fun _ id s=>.exit id (s.keep [] lo))
def pR (lo:List Nat)(a:PC):PT:=DJ ⟨⟨0,lo⟩,[(cB,⟨0,lo⟩)]⟩ (ahA lo a)
theorem ahB {T:cu}{lo:List Nat}{a:PC}{ρ:Env}{Q:Out→Prop}(hn:∀ρ1 ρ2,lo.map ρ2.o=lo.map ρ1.o→Q (.next ρ1)→Q (.next ρ2))(hx:∀ρ1 ρ2,lo.map ρ2.o=lo.map ρ1.o→Q (.exit cB ρ1)→Q (.exit cB ρ2))(h:aP T (pR lo a) ρ Q):aP T (ahA lo a) ρ Q:=by
 refine Lt ⟨fun ρ1 ρ2 ha hq=>hn ρ1 ρ2 (IB ha fun t ht=>ht) hq,fun bP k ρ1 ρ2 hk ha hq=>?_,fun d hq=>hq⟩ h;simp only[ab] at hk;cases hb:Nat.beq cB bP<;>simp only[hb,cond_true,cond_false] at hk
 ·cases hk
 ·cases hk;have:=cG hb;subst this;exact hx ρ1 ρ2 (IB ha fun t ht=>ht) hq
theorem aY.eachR {T:cu}{e:PE}{ps lo:List Nat}{rt:Option PE}{a:PC}{ρ:Env}{Q:Out→Prop}(xs:List D)(he:(e.ev ρ).l=xs)(inv:Nat→List D→Prop)(h0:inv 0 (lo.map ρ.o))
 (step:∀k x vo,xs[k]?=some x→inv k vo→aP T (pR lo a) (ρ.put ps (partsOf ps x) lo vo) (sT ρ lo rt (inv (k+1)) Q)) (done:∀vo,inv xs.length vo→Q (.next (ρ.put [] [] lo vo))):aY T (.each e ps lo rt a) ρ Q:=by
 refine .each xs he inv h0 (fun k x vo hx hi=>?_) done;have h:=ahB (fun ρ1 ρ2 e hq=>by simp only[sT] at hq ⊢;rw[e];exact hq) (fun ρ1 ρ2 e hq=>by simp only[sT,if_true] at hq ⊢;rw[e];exact hq) (step k x vo hx hi);refine MA (s:=.id) a (bR.ok_nil _) h (fun ρ' ae s' _ _ h=>?_) (fun ρ' ae bP s' _ _ h=>?_) (fun _ bP ρ' h=>h) (fun d h=>h)
 ·simp only[aP,sT] at h;rw[SE.keep_o] at h;exact h
 ·simp only[aP,sT] at h;rw[SE.keep_o] at h;exact h
theorem aY.meachR {T:cu}{J:Nat}{ps cC lo:List Nat}{a:PC}{ρ:Env}{Q:Out→Prop}(es:List (D×D))(he:ρ.o J=.tup [.list [],.map es])(inv:List D→List D→Prop)(h0:inv [] (lo.map ρ.o))
 (step:∀done x rest vo,(done++x::rest).Perm (gO (.map es))→inv done vo→aP T (pR lo a) ((ρ.put ps (cC.map x.tget) lo vo).setO J (.tup [.list (done++[x]),.map es])) (fun y=>∃ρ',y=.next ρ'∧inv (done++[x]) (lo.map ρ'.o)))
 (last:∃vo,(∀done,done.Perm (gO (.map es))→∀l9,inv done l9→l9=vo)∧Q (.next (ρ.put [] [] lo vo))):aY T (.meach J ps cC lo a) ρ Q:=by
 refine .meach es he inv h0 (fun done x rest vo hp hi=>?_) last;have h:=ahB (fun ρ1 ρ2 e ⟨ρ',e1,hq⟩=>by cases e1;exact⟨_,rfl,by rw[e];exact hq⟩) (fun ρ1 ρ2 e ⟨ρ',e1,hq⟩=>by cases e1) (step done x rest vo hp hi);refine MA (s:=.id) a (bR.ok_nil _) h (fun ρ' ae s' _ _ h=>?_) (fun ρ' ae bP s' _ _ h=>?_) (fun _ bP ρ' h=>?_) (fun d h=>?_)
 ·simp only[aP] at h;obtain⟨ρ2,e,h⟩:=h;injection e with e;subst e;rw[SE.keep_o] at h;exact⟨_,rfl,h⟩
 ·simp only[aP] at h;obtain⟨ρ2,e,h⟩:=h;cases e
 ·obtain⟨ρ2,e,_⟩:=h;cases e
 ·obtain⟨ρ2,e,_⟩:=h;cases e
theorem xf {T:cu}:∀(t:PT) {ρ:Env} {Q Q':Out→Prop},(∀x,Q x→Q' x)→aP T t ρ Q→aP T t ρ Q':=by
 intro t
 induction t with
 |next s=>intro ρ Q Q' h hx;exact h _ hx
 |exit id s=>intro ρ Q Q' h hx;exact h _ hx
 |ret e=>intro ρ Q Q' h hx;exact h _ hx
 |chk e k ih=>intro ρ Q Q' h hx;exact⟨hx.1,ih h hx.2⟩
 |ite c a b bm dt=>
  intro ρ Q Q' h hx;simp only[aP] at hx ⊢;split
  ·rename_i hc;rw[if_pos hc] at hx;exact bm h hx
  ·rename_i hc;rw[if_neg hc] at hx;exact dt h hx
 |call s gs dst f args k ih=>
  intro ρ Q Q' h hx;simp only[aP] at hx ⊢;split
  ·rename_i hc;rw[if_pos hc] at hx;obtain⟨d,hd,hx⟩:=hx;exact⟨d,hd,ih h hx⟩
  ·rename_i hc;rw[if_neg hc] at hx;exact ih h hx
 |callc s gs dst e args k ih=>
  intro ρ Q Q' h hx;simp only[aP] at hx ⊢;split
  ·rename_i hc;rw[if_pos hc] at hx;obtain⟨f,c,d,he,hd,hx⟩:=hx;exact⟨f,c,d,he,hd,ih h hx⟩
  ·rename_i hc;rw[if_neg hc] at hx;exact ih h hx
 |mcall s j f args k ih=>intro ρ Q Q' h hx;obtain⟨d,hd,hx⟩:=hx;exact⟨d,hd,ih h hx⟩
 |iteS s c lr lo a b k bm dt jS=>
  intro ρ Q Q' h hx
  have hq:∀x,kf (s.ev ρ) lr lo (gx (fun ρ'=>aP T k ρ' Q) Q) x→kf (s.ev ρ) lr lo (gx (fun ρ'=>aP T k ρ' Q') Q') x:=by
   intro x hx;cases x with
   |next ρ'=>exact jS h hx
   |exit id ρ'=>exact h _ hx
   |ret d=>exact h _ hx
  simp only[aP] at hx ⊢;split
  ·rename_i hc;rw[if_pos hc] at hx;exact bm hq hx
  ·rename_i hc;rw[if_neg hc] at hx;exact dt hq hx
 |blockS s id lr lo a k bm jS=>
  intro ρ Q Q' h hx;refine bm (fun x hx=>?_) hx;cases x with
  |next ρ'=>exact jS h hx
  |exit bP ρ'=>
   simp only[lD] at hx ⊢;split
   ·rename_i e;rw[if_pos e] at hx;exact jS h hx
   ·rename_i e;rw[if_neg e] at hx;exact h _ hx
  |ret d=>exact h _ hx
 |brk s c k ih=>
  intro ρ Q Q' h hx;refine aY.mono hx fun x hx=>?_;cases x with
  |next ρ'=>exact ih h hx
  |exit id ρ'=>exact h _ hx
  |ret d=>exact h _ hx
theorem aY.forRounds {T:cu}{id:Nat}{bC bB lr lo:List Nat}{a:PC}{ρ:Env}{Q:Out→Prop}(N:Nat)(str fj:Nat→List D)(h0:lr.map ρ.r=str 0∧lo.map ρ.o=fj 0)
 (step:∀k,k<N→aP T (round id bC bB lr lo a) (ρ.put lr (str k) lo (fj k)) (eM ρ id bC bB lr lo (fun vr vo=>vr=str (k+1)∧vo=fj (k+1)) Q))
 (last:aP T (round id bC bB lr lo a) (ρ.put lr (str N) lo (fj N)) (eM ρ id bC bB lr lo (fun _ _=>False) Q)):aY T (.block id bC bB (.loop lr lo a)) ρ Q:=by
 refine .forLoop (α:=Nat) (fun k vr vo=>k≤N∧vr=str k∧vo=fj k) (fun k=>N-k) 0 ⟨oE _,h0.1,h0.2⟩ ?_;rintro k vr vo ⟨hk,rfl,rfl⟩;have mono:∀{K K':List D→List D→Prop},(∀a b,K a b→K' a b)→∀x,eM ρ id bC bB lr lo K Q x→eM ρ id bC bB lr lo K' Q x:=by
  intro K K' h x hx;cases x with
  |next ρ'=>exact h _ _ hx
  |exit bP ρ'=>exact hx
  |ret d=>exact hx
 by_cases ah:k<N
 ·exact xf _ (mono fun a b ⟨h1,h2⟩=>⟨k+1,by omega,by omega,h1,h2⟩) (step k ah)
 ·obtain rfl:k=N:=by omega
  exact xf _ (mono fun a b h=>h.elim) last
theorem UF {ρ:Env}{id:Nat}{bC bB lr lo:List Nat}{K K':List D→List D→Prop}{Q:Out→Prop}(h:∀a b,K a b→K' a b):∀x,eM ρ id bC bB lr lo K Q x→eM ρ id bC bB lr lo K' Q x:=by
 intro x hx;cases x with
 |next ρ'=>exact h _ _ hx
 |exit bP ρ'=>exact hx
 |ret d=>exact hx
theorem aY.scan {T:cu}{id:Nat}{bC bB lr lo:List Nat}{a:PC}{ρ:Env}{Q:Out→Prop}(N:Nat)(ok:Nat→Prop)(str fj:Nat→List D)(h0:lr.map ρ.r=str 0∧lo.map ρ.o=fj 0)
 (step:∀k,k<N→(∀j,j<k→ok j)→ok k→aP T (round id bC bB lr lo a) (ρ.put lr (str k) lo (fj k)) (eM ρ id bC bB lr lo (fun vr vo=>vr=str (k+1)∧vo=fj (k+1)) Q))
 (bad:∀k,k<N→(∀j,j<k→ok j)→¬ok k→aP T (round id bC bB lr lo a) (ρ.put lr (str k) lo (fj k)) (eM ρ id bC bB lr lo (fun _ _=>False) Q))
 (last:(∀j,j<N→ok j)→aP T (round id bC bB lr lo a) (ρ.put lr (str N) lo (fj N)) (eM ρ id bC bB lr lo (fun _ _=>False) Q)):aY T (.block id bC bB (.loop lr lo a)) ρ Q:=by
 refine .forLoop (α:=Nat) (fun k vr vo=>k≤N∧(∀j,j<k→ok j)∧vr=str k∧vo=fj k) (fun k=>N-k) 0 ⟨oE _,fun j hj=>by omega,h0.1,h0.2⟩ ?_;rintro k vr vo ⟨hk,hj,rfl,rfl⟩;by_cases ah:k<N
 ·by_cases aH:ok k
  ·refine xf _ (UF fun a b ⟨h1,h2⟩=>⟨k+1,by omega,by omega,fun j HW=>?_,h1,h2⟩) (step k ah hj aH);by_cases e:j=k
   ·subst e;exact aH
   ·exact hj j (by omega)
  ·exact xf _ (UF fun a b h=>h.elim) (bad k ah hj aH)
 ·obtain rfl:k=N:=by omega
  exact xf _ (UF fun a b h=>h.elim) (last hj)
def au (n:Nat)(e:PE):PE:=.mk ((List.range n).map fun i=>.cell e i)
def j0 (n:Nat)(d:D):D:=.agg ((List.range n).flatMap fun i=>(d.c i).cells)
theorem ap8 (ρ:Env)(n:Nat)(e:PE):(au n e).ev ρ=j0 n (e.ev ρ):=by
 have key:∀l:List Nat,PE.evc ρ (l.map fun i=>.cell e i)=l.flatMap fun i=>((e.ev ρ).c i).cells:=by
  intro l
  induction l with
  |nil=>rfl
  |cons i l ih=>simp only[gn,PE.evc,PE.ev,uI,ih]
 show D.agg _=_;rw[key];rfl
end Cx
namespace Cx
open Go Go.RowKit
def bh (n:Int):Prop:=-9223372036854775808≤n∧n≤9223372036854775807
def ints (l:List Int):D:=.list (l.map .int)
theorem bU {n:Int}(h:-9223372036854775808≤n∧n≤9223372036854775807):IntKind.i64.wrap n=n:=by
 simp only[IntKind.wrap,IntKind.signed,IntKind.bits];simp;split<;>omega
theorem DTy.int_inv {k:IntKind}{d:D}(h:DTy (.int k) d):∃n,d=.v (.int k n)∧k.min≤n∧n≤k.max:=by
 cases h with
 |int k n h1 h2=>exact⟨n,rfl,h1,h2⟩
 |other t d h=>exact h.elim
theorem DTy.i64_inv {d:D}(h:DTy (.int .i64) d):∃n,d=.int n∧bh n:=by
 obtain⟨n,rfl,h1,h2⟩:=h.int_inv;exact⟨n,rfl,by simpa [IntKind.min,IntKind.max,IntKind.signed,IntKind.bits] using h1,by simpa [IntKind.min,IntKind.max,IntKind.signed,IntKind.bits] using h2⟩
theorem DTy.bool_inv {d:D}(h:DTy .bool d):∃b,d=.bool b:=by
 cases h with
 |bool b=>exact⟨b,rfl⟩
 |other t d h=>exact h.elim
theorem DTy.slice_inv {e:Ty}{d:D}(h:DTy (.slice e) d):∃xs,d=.list xs∧xs.length≤maxLen∧∀x,x∈xs→DTy e.unf x:=by
 cases h with
 |slice e xs hm h=>exact⟨xs,rfl,hm,h⟩
 |other t d h=>exact h.elim
theorem DTy.agg_inv {ts:List Ty}{d:D}(h:DTy (.agg ts) d):∃ds,d=.agg ds∧DTys ts ds:=by
 cases h with
 |agg ts ds h=>exact⟨ds,rfl,h⟩
 |other t d h=>exact h.elim
theorem DTys.cons_inv {t:Ty}{ts:List Ty}{ds:List D}(h:DTys (t::ts) ds):∃d ds',ds=d::ds'∧DTy t d∧DTys ts ds':=by
 cases h with
 |cons h hs=>exact⟨_,_,rfl,h,hs⟩
theorem DTys.nil_inv {ds:List D}(h:DTys [] ds):ds=[]:=by cases h;rfl
theorem jT {α:Type}{enc:α→D}{P:α→Prop}{xs:List D}(h:∀x,x∈xs→∃a,x=enc a∧P a):∃l:List α,xs=l.map enc∧∀a,a∈l→P a:=by
 induction xs with
 |nil=>exact⟨[],rfl,fun _ h=>nomatch h⟩
 |cons x xs ih=>
  obtain⟨l,hl,hp⟩:=ih fun y hy=>h y (dk _ hy);obtain⟨a,ha,pa⟩:=h x (dv ..)
  exact⟨a::l,by rw[hl,ha];rfl,fun b hb=>by
   rcases cX.1 hb with e|hb
   ·rw[e];exact pa
   ·exact hp b hb⟩
theorem DTy.ints_inv {d:D}(h:DTy (.slice (.int .i64)) d):∃l:List Int,d=ints l∧l.length≤maxLen∧∀x,x∈l→bh x:=by
 obtain⟨xs,rfl,hm,hx⟩:=h.slice_inv;obtain⟨l,rfl,hl⟩:=jT (enc:=D.int) (P:=bh) fun x hh=>(hx x hh).i64_inv;exact⟨l,rfl,by simpa using hm,hl⟩
section
variable (ρ:Env) (T:cu)
@[simp] theorem aJa (t:Nat):PE.ev ρ (.r t)=ρ.r t:=_root_.id rfl
@[simp] theorem aI7 (t:Nat):PE.ev ρ (.o t)=ρ.o t:=_root_.id rfl
@[simp] theorem aIT (d:D):PE.ev ρ (.con d)=d:=_root_.id rfl
@[simp] theorem aIQ (e:PE)(i:Nat):PE.ev ρ (.cell e i)=(PE.ev ρ e).c i:=_root_.id rfl
@[simp] theorem aJk (e:PE)(a n:Nat):PE.ev ρ (.sub e a n)=.agg (((PE.ev ρ e).cells.drop a).take n):=_root_.id rfl
@[simp] theorem aJd (e x:PE)(n:Nat):PE.ev ρ (.setc e n x)=.agg (dU (PE.ev ρ e).cells n (PE.ev ρ x).cells):=_root_.id rfl
@[simp] theorem aI0 (es:List PE):PE.ev ρ (.mk es)=.agg (PE.evc ρ es):=_root_.id rfl
@[simp] theorem aIL (op:BinOp)(k:IntKind)(x y:PE):PE.ev ρ (.ai op k x y)=.v (.int k (dp op k (PE.ev ρ x).i (PE.ev ρ y).i)):=_root_.id rfl
@[simp] theorem aIR (op:BinOp)(x y:PE):PE.ev ρ (.ci op x y)=.v (.bool (gW op (PE.ev ρ x).i (PE.ev ρ y).i)):=_root_.id rfl
@[simp] theorem aIP (op:BinOp)(x y:PE):PE.ev ρ (.cb op x y)=.v (.bool (uR op (PE.ev ρ x).b (PE.ev ρ y).b)):=_root_.id rfl
@[simp] theorem aIV (op:BinOp)(x y:PE):PE.ev ρ (.cs op x y)=.v (.bool (uS op (PE.ev ρ x).s (PE.ev ρ y).s)):=_root_.id rfl
@[simp] theorem aI5 (x:PE):PE.ev ρ (.nt x)=.v (.bool (!(PE.ev ρ x).b)):=_root_.id rfl
@[simp] theorem aIU (k:IntKind)(x:PE):PE.ev ρ (.conv k x)=.v (.int k (k.wrap (PE.ev ρ x).i)):=_root_.id rfl
@[simp] theorem aI8 (c a b:PE):PE.ev ρ (.pick c a b)=if(PE.ev ρ c).b=true then PE.ev ρ a else PE.ev ρ b:=by
  simp only[PE.ev];cases(PE.ev ρ c).b<;>rfl
@[simp] theorem aI1 (n:Nat)(e:PE):PE.ev ρ (au n e)=j0 n (PE.ev ρ e):=ap8 ρ n e
@[simp] theorem aIO (x:PE):PE.ev ρ (.bytes x)=.list ((PE.ev ρ x).s.data.toList.map fun b=>.v (.int .u8 b.toNat)):=_root_.id rfl
@[simp] theorem aIY (x:PE):PE.ev ρ (.llen x)=.v (.int .i64 (PE.ev ρ x).l.length):=_root_.id rfl
@[simp] theorem aJh (x:PE):PE.ev ρ (.slen x)=.v (.int .i64 (PE.ev ρ x).s.size):=_root_.id rfl
@[simp] theorem aI2 (x:PE):PE.ev ρ (.mlen x)=.v (.int .i64 (PE.ev ρ x).m.length):=_root_.id rfl
@[simp] theorem aI6 (x i:PE):PE.ev ρ (.nth x i)=(PE.ev ρ x).l.getD (PE.ev ρ i).i.toNat .none:=_root_.id rfl
@[simp] theorem aIX (x i:PE):PE.ev ρ (.idx x i)=.v (.bool (decide (0≤(PE.ev ρ i).i∧(PE.ev ρ i).i<(PE.ev ρ x).l.length))):=_root_.id rfl
@[simp] theorem aJe (x i y:PE)(n:Nat):PE.ev ρ (.setn x i n y)=.list ((PE.ev ρ x).l.set (PE.ev ρ i).i.toNat (uk ((PE.ev ρ x).l.getD (PE.ev ρ i).i.toNat .none) n (PE.ev ρ y))):=_root_.id rfl
@[simp] theorem aIN (x y:PE):PE.ev ρ (.app x y)=.list ((PE.ev ρ x).l++(PE.ev ρ y).l):=_root_.id rfl
@[simp] theorem aIZ (es:List PE):PE.ev ρ (.lst es)=.list (PE.evs ρ es):=_root_.id rfl
@[simp] theorem aJc (x y:PE):PE.ev ρ (.rep x y)=.list (List.replicate (PE.ev ρ x).i.toNat (PE.ev ρ y)):=_root_.id rfl
@[simp] theorem aJg (x a b:PE):PE.ev ρ (.slc x a b)=.list (((PE.ev ρ x).l.take (PE.ev ρ b).i.toNat).drop (PE.ev ρ a).i.toNat):=_root_.id rfl
@[simp] theorem aJi (x a b:PE):PE.ev ρ (.slok x a b)=.v (.bool (decide (0≤(PE.ev ρ a).i∧(PE.ev ρ a).i≤(PE.ev ρ b).i∧(PE.ev ρ b).i≤(PE.ev ρ x).l.length))):=_root_.id rfl
@[simp] theorem aJb (x:PE):PE.ev ρ (.ref x)=.ref (PE.ev ρ x):=_root_.id rfl
@[simp] theorem aIW (x:PE):PE.ev ρ (.deref x)=(PE.ev ρ x).deref:=_root_.id rfl
@[simp] theorem aI9 (m k v:PE):PE.ev ρ (.put m k v)=.map (kl (PE.ev ρ k) (PE.ev ρ v) (PE.ev ρ m).m):=_root_.id rfl
@[simp] theorem aI3 (x y:PE):PE.ev ρ (.mn x y)=if(PE.ev ρ y).i<(PE.ev ρ x).i then PE.ev ρ y else PE.ev ρ x:=by
  simp only[PE.ev];by_cases h:(PE.ev ρ y).i<(PE.ev ρ x).i<;>simp[h]
@[simp] theorem aI4 (x y:PE):PE.ev ρ (.mx x y)=if(PE.ev ρ y).i>(PE.ev ρ x).i then PE.ev ρ y else PE.ev ρ x:=by
  simp only[PE.ev];by_cases h:(PE.ev ρ y).i>(PE.ev ρ x).i<;>simp[h]
@[simp] theorem aJm (es:List PE):PE.ev ρ (.tup es)=.tup (PE.evs ρ es):=_root_.id rfl
@[simp] theorem aJl (x:PE)(i:Nat):PE.ev ρ (.tget x i)=(PE.ev ρ x).tget i:=_root_.id rfl
@[simp] theorem aIS (f:Nat)(es:List PE):PE.ev ρ (.clo f es)=.clo f (PE.evs ρ es):=_root_.id rfl
@[simp] theorem aIM (x y:PE):PE.ev ρ (.an x y)=.v (.bool ((PE.ev ρ x).b&&(PE.ev ρ y).b)):=_root_.id rfl
@[simp] theorem aJq:PE.evs ρ []=[]:=_root_.id rfl
@[simp] theorem aJp (e:PE)(es:List PE):PE.evs ρ (e::es)=PE.ev ρ e::PE.evs ρ es:=_root_.id rfl
@[simp] theorem aJo:PE.evc ρ []=[]:=_root_.id rfl
@[simp] theorem aJn (e:PE)(es:List PE):PE.evc ρ (e::es)=(PE.ev ρ e).cells++PE.evc ρ es:=_root_.id rfl
@[simp] theorem ao8 (x:Bool):(D.bool x).b=x:=_root_.id rfl
@[simp] theorem aIG (k:IntKind)(n:Int):(D.v (.int k n)).i=n:=_root_.id rfl
@[simp] theorem apa (n:Int):(D.int n).i=n:=_root_.id rfl
@[simp] theorem aIB (x:List D):(D.list x).l=x:=_root_.id rfl
@[simp] theorem aIz (l:List Int):(ints l).l=l.map .int:=_root_.id rfl
@[simp] theorem aIC (x:List (D×D)):(D.map x).m=x:=_root_.id rfl
@[simp] theorem aIq (x:List D)(i:Nat):(D.agg x).c i=x.getD i .none:=_root_.id rfl
@[simp] theorem aIr (x:List D):(D.agg x).cells=x:=_root_.id rfl
@[simp] theorem aIA (x:List D):(D.list x).cells=[.list x]:=_root_.id rfl
@[simp] theorem aIy (x:List Int):(ints x).cells=[ints x]:=_root_.id rfl
@[simp] theorem aIv (n:Int):(D.int n).cells=[.int n]:=_root_.id rfl
@[simp] theorem aIs (n:Bool):(D.bool n).cells=[.bool n]:=_root_.id rfl
@[simp] theorem aIF (x:Value):(D.v x).cells=[.v x]:=_root_.id rfl
@[simp] theorem aIE (x:List D)(i:Nat):(D.tup x).tget i=x.getD i .none:=_root_.id rfl
@[simp] theorem aID (x:D):(D.ref x).deref=x:=_root_.id rfl
@[simp] theorem aLu (s:SE)(t:Nat):(s.ev ρ).r t=PE.ev ρ (s.getR t):=_root_.id rfl
@[simp] theorem aLt (s:SE)(t:Nat):(s.ev ρ).o t=PE.ev ρ (s.getO t):=_root_.id rfl
@[simp] theorem aJz (o:List (Nat×PE))(u:Nat):SE.getR ⟨[],o⟩ u=.r u:=_root_.id rfl
@[simp] theorem aJy (t:Nat)(e:PE)(r o:List (Nat×PE))(u:Nat):SE.getR ⟨(t,e)::r,o⟩ u=if t=u then e else SE.getR ⟨r,o⟩ u:=by
  simp only[SE.getR,ab];by_cases h:t=u
  ·subst h;simp
  ·simp[ew h,h]
@[simp] theorem aJx (r:List (Nat×PE))(u:Nat):SE.getO ⟨r,[]⟩ u=.o u:=_root_.id rfl
@[simp] theorem aJw (t:Nat)(e:PE)(r o:List (Nat×PE))(u:Nat):SE.getO ⟨r,(t,e)::o⟩ u=if t=u then e else SE.getO ⟨r,o⟩ u:=by
  simp only[SE.getO,ab];by_cases h:t=u
  ·subst h;simp
  ·simp[ew h,h]
@[simp] theorem setR_r (t u:Nat)(d:D):(ρ.setR t d).r u=if u=t then d else ρ.r u:=Env.setR_r ρ t u d
@[simp] theorem aLA (t u:Nat)(d:D):(ρ.setR t d).o u=ρ.o u:=_root_.id rfl
@[simp] theorem setO_o (t u:Nat)(d:D):(ρ.setO t d).o u=if u=t then d else ρ.o u:=Env.setO_o ρ t u d
@[simp] theorem aLz (t u:Nat)(d:D):(ρ.setO t d).r u=ρ.r u:=_root_.id rfl
@[simp] theorem aLi (lr lo:List Nat)(vr vo:List D)(u:Nat):(ρ.put lr vr lo vo).r u=putL ρ.r lr vr u:=_root_.id rfl
@[simp] theorem aLh (lr lo:List Nat)(vr vo:List D)(u:Nat):(ρ.put lr vr lo vo).o u=putL ρ.o lo vo u:=_root_.id rfl
@[simp] theorem join_r (ρ':Env)(lr lo:List Nat)(u:Nat):(ρ.join lr lo ρ').r u=if u∈lr then ρ'.r u else ρ.r u:=Env.join_r ρ ρ' lr lo u
@[simp] theorem join_o (ρ':Env)(lr lo:List Nat)(u:Nat):(ρ.join lr lo ρ').o u=if u∈lo then ρ'.o u else ρ.o u:=Env.join_o ρ ρ' lr lo u
@[simp] theorem aLf (f:Nat→D)(i:Nat)(is:List Nat)(x:D)(xs:List D)(u:Nat):putL f (i::is) (x::xs) u=if u=i then x else putL f is xs u:=Lu f i is x xs u
@[simp] theorem aLg (f:Nat→D)(xs:List D)(u:Nat):putL f [] xs u=f u:=Lv f xs u
@[simp] theorem aII (ds:List D)(u:Nat):(j2 ds).r u=ds.getD u .none:=_root_.id rfl
@[simp] theorem aJ3:holds [] ρ=true:=_root_.id rfl
@[simp] theorem aJ2 (g:Nat×Bool)(gs:List (Nat×Bool)):holds (g::gs) ρ=((ρ.r g.1).b==g.2&&holds gs ρ):=_root_.id rfl
variable (Q:Out→Prop)
@[simp] theorem aMb (s:SE):aP T (.next s) ρ Q=Q (.next (s.ev ρ)):=_root_.id rfl
@[simp] theorem aL8 (id:Nat)(s:SE):aP T (.exit id s) ρ Q=Q (.exit id (s.ev ρ)):=_root_.id rfl
@[simp] theorem aMc (e:PE):aP T (.ret e) ρ Q=Q (.ret (e.ev ρ)):=_root_.id rfl
@[simp] theorem aL7 (e:PE)(k:PT):aP T (.chk e k) ρ Q=((e.ev ρ).b=true∧aP T k ρ Q):=_root_.id rfl
@[simp] theorem aL9 (c:PE)(a b:PT):aP T (.ite c a b) ρ Q=if(c.ev ρ).b=true then aP T a ρ Q else aP T b ρ Q:=_root_.id rfl
@[simp] theorem aL5 (s:SE)(gs:List (Nat×Bool))(dst f:Nat)(args:List PE)(k:PT):aP T (.call s gs dst f args k) ρ Q=if holds gs (s.ev ρ)=true then ∃d,ao T f (PE.evs ρ args) d∧aP T k ((s.ev ρ).setR dst d) Q else aP T k (s.ev ρ) Q:=_root_.id rfl
@[simp] theorem aMa (s:SE)(c:PE)(lr lo:List Nat)(a b k:PT):aP T (.iteS s c lr lo a b k) ρ Q=if(c.ev ρ).b=true then aP T a (s.ev ρ) (kf (s.ev ρ) lr lo (gx (fun ρ'=>aP T k ρ' Q) Q)) else aP T b (s.ev ρ) (kf (s.ev ρ) lr lo (gx (fun ρ'=>aP T k ρ' Q) Q)):=_root_.id rfl
@[simp] theorem aL3 (s:SE)(id:Nat)(lr lo:List Nat)(a k:PT):aP T (.blockS s id lr lo a k) ρ Q=aP T a (s.ev ρ) (lD (s.ev ρ) id lr lo (gx (fun ρ'=>aP T k ρ' Q) Q)):=_root_.id rfl
@[simp] theorem aL4 (s:SE)(c:PC)(k:PT):aP T (.brk s c k) ρ Q=aY T c (s.ev ρ) (gx (fun ρ'=>aP T k ρ' Q) Q):=_root_.id rfl
variable (K:Env→Prop) (id:Nat) (lr lo bC bB:List Nat) (K2:List D→List D→Prop)
@[simp] theorem aLx (ρ':Env):gx K Q (.next ρ')=K ρ':=_root_.id rfl
@[simp] theorem aLw (i:Nat)(ρ':Env):gx K Q (.exit i ρ')=Q (.exit i ρ'):=_root_.id rfl
@[simp] theorem aLy (d:D):gx K Q (.ret d)=Q (.ret d):=_root_.id rfl
@[simp] theorem aKl (ρ':Env):kf ρ lr lo Q (.next ρ')=Q (.next (ρ.join lr lo ρ')):=_root_.id rfl
@[simp] theorem aKm (d:D):kf ρ lr lo Q (.ret d)=Q (.ret d):=_root_.id rfl
@[simp] theorem aH8 (ρ':Env):lD ρ id lr lo Q (.next ρ')=Q (.next (ρ.join lr lo ρ')):=_root_.id rfl
@[simp] theorem aH7 (i:Nat)(ρ':Env):lD ρ id lr lo Q (.exit i ρ')=if i=id then Q (.next (ρ.join lr lo ρ')) else Q (.exit i ρ'):=_root_.id rfl
@[simp] theorem aH9 (d:D):lD ρ id lr lo Q (.ret d)=Q (.ret d):=_root_.id rfl
@[simp] theorem aLq (ρ':Env):eM ρ id bC bB lr lo K2 Q (.next ρ')=K2 (lr.map ρ'.r) (lo.map ρ'.o):=_root_.id rfl
@[simp] theorem aLp (i:Nat)(ρ':Env):eM ρ id bC bB lr lo K2 Q (.exit i ρ')=if i=id then Q (.next (ρ.put bC (bC.map ρ'.r) bB (bB.map ρ'.o))) else Q (.exit i ρ'):=_root_.id rfl
@[simp] theorem aLr (d:D):eM ρ id bC bB lr lo K2 Q (.ret d)=Q (.ret d):=_root_.id rfl
@[simp] theorem aL6 (s:SE)(gs:List (Nat×Bool))(dst:Nat)(e:PE)(args:List PE)(k:PT):aP T (.callc s gs dst e args k) ρ Q=if holds gs (s.ev ρ)=true then ∃f caps d,e.ev ρ=.clo f caps∧ao T f (PE.evs ρ args++caps) d∧aP T k ((s.ev ρ).setR dst d) Q else aP T k (s.ev ρ) Q:=_root_.id rfl
@[simp] theorem aIH (rt:Option PE)(K3:List D→Prop)(i:Nat)(ρ':Env):sT ρ lo rt K3 Q (.exit i ρ')=if i=cB then ∃e,rt=some e∧Q (.ret (e.ev (ρ.put [] [] lo (lo.map ρ'.o)))) else Q (.exit i (ρ.put [] [] lo (lo.map ρ'.o))):=_root_.id rfl
@[simp] theorem aIJ (J:Nat)(ds:List D)(u:Nat):(xE J ds).r u=(D.none::ds).getD u .none:=_root_.id rfl
theorem ap5 (J:Nat)(ds:List D)(u:Nat):(xE J ds).o u=if u=J then .list [] else .none:=by
 show(bif Nat.beq u J then D.list [] else .none)=_;by_cases h:u=J
 ·subst h;simp
 ·simp[ew h,h]
@[simp] theorem aLd (p:Nat)(x:D):partsOf [p] x=[x.tget 0]:=_root_.id rfl
end
section
variable (k:IntKind) (a b:Int)
@[simp] theorem aH0:dp .add k a b=k.wrap (a+b):=_root_.id rfl
@[simp] theorem aH4:dp .sub k a b=k.wrap (a-b):=_root_.id rfl
@[simp] theorem aH1:dp .mul k a b=k.wrap (a*b):=_root_.id rfl
@[simp] theorem aH2:dp .quo k a b=k.wrap (a.tdiv b):=_root_.id rfl
@[simp] theorem aH3:dp .rem k a b=a.tmod b:=_root_.id rfl
@[simp] theorem aIi:gW .eql a b=(a==b):=_root_.id rfl
@[simp] theorem aIn:gW .neq a b=(a !=b):=_root_.id rfl
@[simp] theorem aIm:gW .lss a b=decide (a<b):=_root_.id rfl
@[simp] theorem aIl:gW .leq a b=decide (a≤b):=_root_.id rfl
@[simp] theorem aIk:gW .gtr a b=decide (a>b):=_root_.id rfl
@[simp] theorem aIj:gW .geq a b=decide (a≥b):=_root_.id rfl
variable (x y:Bool)
@[simp] theorem aIb:uR .eql x y=(x==y):=_root_.id rfl
@[simp] theorem aIc:uR .neq x y=(!(x==y)):=_root_.id rfl
end
theorem ao.of_tree {tab:Nat→Option PC}{ext:Nat→Option (aV→List D→Option D)}{f:Nat}{pc:PC}{t:PT}{ds:List D}{d:D}(hx:ext f=none)(ht:tab f=some pc)(he:tree pc=t)(h:aP (cD tab ext) t (j2 ds) (fun x=>x=.ret d)):ao (cD tab ext) f ds d:=
 .of_pc hx ht (MR (he▸h))
@[simp] theorem aIx (n:Int):D.v (.int .i64 n)=D.int n:=_root_.id rfl
@[simp] theorem aIu (b:Bool):D.v (.bool b)=D.bool b:=_root_.id rfl
@[simp] theorem aIw (a b:Int):(D.int a=D.int b)=(a=b):=by
  apply propext;constructor
  ·intro h;injection h with h;injection h
  ·intro h;rw[h]
@[simp] theorem aIt (a b:Bool):(D.bool a=D.bool b)=(a=b):=by
  apply propext;constructor
  ·intro h;injection h with h;injection h
  ·intro h;rw[h]
section
variable (c:Prop) [Decidable c] (x y:D)
@[simp] theorem aKj:(if c then x else y).b=if c then x.b else y.b:=by split<;>rfl
@[simp] theorem aKk:(if c then x else y).i=if c then x.i else y.i:=by split<;>rfl
end
@[simp] theorem aMd:IntKind.i64.wrap 0=0:=bU (by omega)
end Cx
namespace Cx
open Go
inductive Tm where
 |mk (op n:Int) (args:List Tm)
instance:Inhabited Tm:=⟨.mk 0 0 []⟩
namespace Tm
def op:Tm→Int|.mk o _ _=>o
def n:Tm→Int|.mk _ n _=>n
def args:Tm→List Tm|.mk _ _ aa=>aa
end Tm
mutual
def dE:Tm→D
 |.mk o n aa=>.agg [.int o,.int n,.list (He aa)]
def He:List Tm→List D
 |[]=>[]
 |t::ts=>dE t::He ts
end
theorem OG:∀l:List Tm,He l=l.map dE
 |[]=>rfl
 |t::l=>by rw[He,OG l];rfl
theorem B4 (t:Tm):dE t=.agg [.int t.op,.int t.n,.list (t.args.map dE)]:=by
 cases t with
 |mk o n aa=>rw[dE,OG];rfl
inductive Tm.OK:Tm→Prop where
 |mk (o n:Int) (aa:List Tm) (h1:bh o) (h2:bh n) (h3:aa.length≤maxLen) (h:∀a,a∈aa→Tm.OK a):Tm.OK (.mk o n aa)
theorem DTy.trm_inv {d:D}(h:DTy .trmA d):∃t:Tm,d=dE t∧t.OK:=by
 suffices hs:∀(m:Nat) (d:D),sizeOf d≤m→DTy .trmA d→∃t:Tm,d=dE t∧t.OK from hs _ d (bk _) h
 intro m
 induction m with
 |zero=>
  intro d hm h;cases d<;>simp at hm
 |succ m ih=>
  intro d hm h;obtain⟨ds,rfl,hs⟩:=DTy.agg_inv h;obtain⟨d1,ds,rfl,h1,hs⟩:=hs.cons_inv;obtain⟨d2,ds,rfl,h2,hs⟩:=hs.cons_inv;obtain⟨d3,ds,rfl,h3,hs⟩:=hs.cons_inv;obtain rfl:=hs.nil_inv;obtain⟨o,rfl,b1⟩:=h1.i64_inv;obtain⟨n,rfl,b2⟩:=h2.i64_inv;obtain⟨xs,rfl,hl,hx⟩:=h3.slice_inv
  obtain⟨l,rfl,aH⟩:=jT (enc:=dE) (P:=Tm.OK) fun x hh=>ih x (by
   have:=List.sizeOf_lt_of_mem hh;simp at hm;omega) (hx x hh)
  exact⟨.mk o n l,by rw[dE,OG],.mk o n l b1 b2 (by simpa using hl) aH⟩
theorem DTy.trms_inv {d:D}(h:DTy (.slice .trm) d):∃l:List Tm,d=.list (l.map dE)∧l.length≤maxLen∧∀t,t∈l→t.OK:=by
 obtain⟨xs,rfl,hl,hx⟩:=h.slice_inv;obtain⟨l,rfl,aH⟩:=jT (enc:=dE) (P:=Tm.OK) fun x hh=>DTy.trm_inv (hx x hh);exact⟨l,rfl,by simpa using hl,aH⟩
end Cx
namespace Cx
open Go
def US (g:Nat)(zs:List Int):Nat→Option (Ty×D):=fun k=>bif Nat.beq k g then some (.agg (zs.map fun _=>.int .i64),.agg (zs.map fun z=>.v (.int .i64 z))) else none
theorem aCn {C:Ctx}{g:Nat}{zs:List Int}{name:String}{W:World}(hC:C.glob=US g zs)(hg:C.P.globalNamed name=some g)(hz:zs.all (fun z=>decide (IntKind.i64.min≤z)&&decide (z≤IntKind.i64.max))=true)
 (h:Lib.TabIs C.P W name .i64 zs):CtxOK C (mH W):=by
 refine⟨fun k x hx=>?_⟩;rw[hC] at hx;unfold US at hx;cases hk:Nat.beq k g<;>simp only[hk,cond_true,cond_false] at hx
 ·cases hx
 cases hx;obtain rfl:=aL hk
 have C7:Rep C.cap (mH W) (.agg (zs.map fun _=>.int .i64)) (.agg (zs.map fun z=>Value.int .i64 z).toArray) (.agg (zs.map fun z=>.v (.int .i64 z))):=by
  refine .agg _ _ _ (by simp) (by simp) (fun i t ht=>?_) (fun i t ht=>?_)
  ·rw[cS,aG] at ht;obtain⟨z,vK,rfl⟩:=ht;rw[aT,aT,cS,cS,vK];have:=bK.1 hz z (mh vK);simp only[ar,decide_eq_true_eq] at this;exact .int _ _ this.1 this.2
  ·rw[cS,aG] at ht;obtain⟨z,_,rfl⟩:=ht;rfl
 refine .ref _ k 0 _ _ C7 fun j u hu=>?_;simp only[Value.cells,Fx,cS,aG] at hu;obtain⟨z,vK,rfl⟩:=hu;have ah:=(fo.1 vK).1;have:=h.cell hg j ah;show W.cell? ⟨k,0+j,none⟩=_;rw[lq,this,aT,vK];rfl
end Cx
namespace Cx
open Go Go.RowKit
def loops:PC→List PC
 |.seq a b=>loops a++loops b
 |.ite _ _ _ a b=>loops a++loops b
 |.block id lr lo (.loop Rs Rn a)=>loops a++[.block id lr lo (.loop Rs Rn a)]
 |.block _ _ _ a=>loops a
 |.loop _ _ a=>loops a
 |.each e ps lo rt a=>loops a++[.each e ps lo rt a]
 |.meach J ps cC lo a=>loops a++[.meach J ps cC lo a]
 |_=>[]
def Og:PC→PC
 |.block _ _ _ (.loop _ _ a)=>a
 |.each _ _ _ _ a=>a
 |.meach _ _ _ _ a=>a
 |_=>.skip
def Iz (c:PC)(k:Nat):PC:=(loops c).getD k .skip
def rnd:PC→PT
 |.block id lr lo (.loop Rs Rn a)=>round id lr lo Rs Rn a
 |.each _ _ lo _ a=>pR lo a
 |.meach _ _ _ lo a=>pR lo a
 |_=>.next .id
inductive Shp where
 |lp (id:Nat) (bC bB lr lo:List Nat)
 |ea (lo:List Nat)
 |no
def zE:PC→Shp
 |.block id bC bB (.loop lr lo _)=>.lp id bC bB lr lo
 |.each _ _ lo _ _=>.ea lo
 |.meach _ _ _ lo _=>.ea lo
 |_=>.no
def told (c:PC):PT×List (Shp×PT):=(tree c,(loops c).map fun l=>(zE l,rnd l))
theorem ME {o:Option PC}{t:PT}{l:List (Shp×PT)}(h:o.map told=some (t,l)):o=some (o.getD .skip)∧tree (o.getD .skip)=t∧∀k x,l[k]?=some x→(zE (Iz (o.getD .skip) k),rnd (Iz (o.getD .skip) k))=x:=by
 cases o with
 |none=>cases h
 |some c=>
  have h1:told c=(t,l):=by injection h
  unfold told at h1;injection h1 with h1 h2
  refine⟨rfl,h1,fun k x hx=>?_⟩;subst h2;simp only[cS,aG] at hx;obtain⟨y,hy,rfl⟩:=hx;have:Iz ((some c:Option PC).getD .skip) k=y:=by
   show(loops c).getD k .skip=y;rw[aT,hy];rfl
  rw[this]
theorem aBo {c:PC}{id:Nat}{bC bB lr lo:List Nat}{t:PT}(h:(zE c,rnd c)=(.lp id bC bB lr lo,t)):round id bC bB lr lo (Og c)=t:=by
 injection h with h1 h2
 subst h2;unfold zE at h1;split at h1
 ·cases h1;rfl
 all_goals cases h1
theorem apT {c:PC}{lo:List Nat}{t:PT}(h:(zE c,rnd c)=(.ea lo,t)):pR lo (Og c)=t:=by
 injection h with h1 h2
 subst h2;unfold zE at h1;split at h1
 ·cases h1
 ·cases h1;rfl
 ·cases h1;rfl
 ·cases h1
noncomputable def cv {α:Type}(x:α):α:=Classical.choose (⟨x,rfl⟩:∃y,y=x)
theorem CH {α:Type}(x:α):cv x=x:=Classical.choose_spec (⟨x,rfl⟩:∃y,y=x)
noncomputable def ax (o:Option PC):Nat→PC:=fun k=>Og (Iz (o.getD .skip) k)
noncomputable abbrev aA (o:Option PC):PC:=cv (o.getD .skip)
noncomputable abbrev bE (o:Option PC):Nat→PC:=cv (ax o)
section
variable {o:Option PC} {F:(Nat→PC)→PT×List (Shp×PT)}
theorem aC (h:o.map told=some (F (ax o))):o=some (aA o):=by unfold aA;rw[CH];exact(ME (t:=(F (ax o)).1) (l:=(F (ax o)).2) h).1
theorem aK (h:o.map told=some (F (ax o))):tree (aA o)=(F (bE o)).1:=by unfold aA bE;rw[CH,CH];exact(ME (t:=(F (ax o)).1) (l:=(F (ax o)).2) h).2.1
theorem bq (h:o.map told=some (F (ax o)))(k:Nat){id:Nat}{bC bB lr lo:List Nat}{t:(Nat→PC)→PT}(hk:∀b,(F b).2[k]?=some (.lp id bC bB lr lo,t b)):round id bC bB lr lo (bE o k)=t (bE o):=by
 unfold bE;rw[CH];exact aBo ((ME (t:=(F (ax o)).1) (l:=(F (ax o)).2) h).2.2 k _ (hk _))
theorem UZ (h:o.map told=some (F (ax o)))(k:Nat){lo:List Nat}{t:(Nat→PC)→PT}(hk:∀b,(F b).2[k]?=some (.ea lo,t b)):pR lo (bE o k)=t (bE o):=by
 unfold bE;rw[CH];exact apT ((ME (t:=(F (ax o)).1) (l:=(F (ax o)).2) h).2.2 k _ (hk _))
end
theorem aD {α:Type}{R:Nat→α→Prop}{f:Nat}{x:α}{l:List (Nat×α)}(h:R f x)(k:Fq R l):Fq R ((f,x)::l):=⟨h,k⟩
theorem aE {α:Type}:∀{l:List (Nat×α)},(l.map (·.1)).Nodup→∀{k f:Nat} {x:α},l[k]?=some (f,x)→ab l f=some x
 |[],_,k,f,x,h=>by simp at h
 |y::l,hn,0,f,x,h=>by
  simp only[M5,bf] at h;subst h;simp[ab]
 |y::l,hn,k+1,f,x,h=>by
  simp only[XO] at h;rw[gn,ng] at hn;have hm:f∈l.map (·.1):=ej.2 ⟨(f,x),mh h,rfl⟩;have hb:Nat.beq y.1 f=false:=by
   cases e:Nat.beq y.1 f with
   |false=>rfl
   |true=>rw[cG e] at hn;exact absurd hm hn.1
  simp only[ab,hb,cond_false];exact aE hn.2 h
abbrev pT:PE:=.con (.bool true)
abbrev pF:PE:=.con (.bool false)
abbrev pN:PE:=.con .none
abbrev pL:PE:=.con (.list [])
abbrev pi (n:Int):PE:=.con (.int n)
abbrev aO (a b:PE):PE:=.ai .add .i64 a b
abbrev bD (a b:PE):PE:=.ai .sub .i64 a b
abbrev aq (a b:PE):PE:=.ci .eql a b
abbrev aU (a b:PE):PE:=.ci .neq a b
abbrev aj (a b:PE):PE:=.ci .lss a b
abbrev bJ (a b:PE):PE:=.ci .leq a b
abbrev be (a b:PE):PE:=.ci .gtr a b
abbrev bL (a b:PE):PE:=.ci .geq a b
abbrev pc (a:PE)(i:Nat):PE:=.cell a i
abbrev pn (a b:PE):PE:=.nth a b
abbrev av (a b:PE):PE:=.idx a b
abbrev z2:PE:=.con (.agg [(.int 0),(.int 0)])
abbrev z3:PE:=.con (.agg [(.int 0),(.int 0),(.int 0)])
abbrev z4:PE:=.con (.agg [(.int 0),(.int 0),(.int 0),(.int 0)])
abbrev z5:PE:=.con (.agg [(.int 0),(.int 0),(.int 0),(.int 0),(.int 0)])
abbrev z6:PE:=.con (.agg [(.int 0),(.int 0),(.int 0),(.int 0),(.int 0),(.int 0)])
abbrev z9:PE:=.con (.agg [(.int 0),(.int 0),(.int 0),(.int 0),(.int 0),(.int 0),(.int 0),(.int 0),(.int 0)])
abbrev Fo:PE:=.con (.agg [(.int 0),(.int 0),(.int 0),(.int 0),(.int 0),(.int 0),(.int 0),(.int 0),(.int 0),(.int 0),(.int 0),(.int 0),(.int 0),(.int 0),(.int 0)])
abbrev r0:PE:=.r 0
abbrev r1:PE:=.r 1
abbrev r2:PE:=.r 2
abbrev r3:PE:=.r 3
abbrev r4:PE:=.r 4
abbrev r5:PE:=.r 5
abbrev r6:PE:=.r 6
abbrev r7:PE:=.r 7
abbrev r8:PE:=.r 8
abbrev r9:PE:=.r 9
abbrev cR:PE:=.r 10
abbrev bu:PE:=.r 11
abbrev bW:PE:=.r 12
abbrev eH:PE:=.r 13
abbrev du:PE:=.r 14
abbrev gP:PE:=.r 15
abbrev dJ:PE:=.r 16
abbrev kp:PE:=.r 17
abbrev gQ:PE:=.r 18
abbrev gj:PE:=.r 19
abbrev eg:PE:=.r 20
abbrev kq:PE:=.r 21
abbrev D0:PE:=.r 22
abbrev jA:PE:=.r 23
abbrev pJ:PE:=.r 24
abbrev gR:PE:=.r 25
abbrev kU:PE:=.r 26
abbrev fh:PE:=.r 27
abbrev qQ:PE:=.r 28
abbrev nT:PE:=.r 29
abbrev tU:PE:=.r 30
abbrev qT:PE:=.r 31
abbrev D1:PE:=.r 32
abbrev sl:PE:=.r 33
abbrev r34:PE:=.r 34
abbrev wA:PE:=.r 35
abbrev kr:PE:=.r 36
abbrev lW:PE:=.r 37
abbrev fE:PE:=.r 38
abbrev D2:PE:=.r 39
abbrev nU:PE:=.r 40
abbrev qU:PE:=.r 41
abbrev r42:PE:=.r 42
abbrev sm:PE:=.r 43
abbrev tV:PE:=.r 44
abbrev nV:PE:=.r 45
abbrev tW:PE:=.r 46
abbrev Tz:PE:=.r 47
abbrev lX:PE:=.r 48
abbrev kV:PE:=.r 49
abbrev kW:PE:=.r 50
abbrev lY:PE:=.r 51
abbrev LM:PE:=.r 52
abbrev r53:PE:=.r 53
abbrev pK:PE:=.r 54
abbrev zi:PE:=.r 55
abbrev lZ:PE:=.r 56
abbrev LN:PE:=.r 57
abbrev D3:PE:=.r 58
abbrev TA:PE:=.r 59
abbrev D4:PE:=.r 60
abbrev kX:PE:=.r 61
abbrev mV:PE:=.r 62
abbrev LO:PE:=.r 63
abbrev ku:PE:=.r 64
abbrev zj:PE:=.r 65
abbrev LP:PE:=.r 66
abbrev tX:PE:=.r 67
abbrev r68:PE:=.r 68
abbrev sn:PE:=.r 69
abbrev TB:PE:=.r 70
abbrev r71:PE:=.r 71
abbrev tY:PE:=.r 72
abbrev D5:PE:=.r 73
abbrev wB:PE:=.r 74
abbrev zk:PE:=.r 75
abbrev pM:PE:=.r 76
abbrev LQ:PE:=.r 77
abbrev TC:PE:=.r 78
abbrev LR:PE:=.r 79
abbrev wC:PE:=.r 80
abbrev sq:PE:=.r 81
abbrev ky:PE:=.r 82
abbrev r84:PE:=.r 84
abbrev zl:PE:=.r 85
abbrev r86:PE:=.r 86
abbrev r87:PE:=.r 87
abbrev LS:PE:=.r 88
abbrev r89:PE:=.r 89
abbrev TD:PE:=.r 90
abbrev r91:PE:=.r 91
abbrev zm:PE:=.r 92
abbrev zn:PE:=.r 93
abbrev r94:PE:=.r 94
abbrev TE:PE:=.r 95
abbrev TF:PE:=.r 96
abbrev LU:PE:=.r 97
abbrev TG:PE:=.r 98
abbrev nW:PE:=.r 99
abbrev agQ:PE:=.r 101
abbrev agR:PE:=.r 102
abbrev LL:PE:=.r 103
abbrev DW:PE:=.r 104
abbrev agS:PE:=.r 105
abbrev DX:PE:=.r 106
abbrev aLj:PE:=.r 107
abbrev DY:PE:=.r 108
abbrev aA7:PE:=.r 109
abbrev agT:PE:=.r 110
abbrev DZ:PE:=.r 112
abbrev aLk:PE:=.r 113
abbrev aLl:PE:=.r 119
abbrev aLm:PE:=.r 120
abbrev aA8:PE:=.r 121
abbrev aLn:PE:=.r 126
abbrev aA9:PE:=.r 127
abbrev o0:PE:=.o 0
abbrev o1:PE:=.o 1
abbrev o2:PE:=.o 2
abbrev o3:PE:=.o 3
abbrev o4:PE:=.o 4
abbrev o5:PE:=.o 5
abbrev o6:PE:=.o 6
abbrev o7:PE:=.o 7
abbrev o8:PE:=.o 8
abbrev o9:PE:=.o 9
abbrev cq:PE:=.o 10
abbrev o11:PE:=.o 11
abbrev tN:PE:=.o 12
abbrev di:PE:=.o 13
abbrev nM:PE:=.o 14
abbrev o15:PE:=.o 15
abbrev o16:PE:=.o 16
abbrev o17:PE:=.o 17
abbrev o19:PE:=.o 19
abbrev o20:PE:=.o 20
abbrev o21:PE:=.o 21
abbrev o22:PE:=.o 22
abbrev IS:PE:=.o 45
end Cx
