/-
  Shared texts of this claim.
-/
import Derived.Test.YtipjidjopglknaaGreatDoorEAI
import Derived.Lib.LaidTab
set_option linter.unusedSimpArgs false
set_option linter.unusedVariables false
noncomputable section
namespace Cx
open Go Go.RowKit
structure SE where
 r:List (Nat×PE)
 o:List (Nat×PE)
def SE.getR (s:SE)(t:Nat):PE:=match aY s.r t with|some e=>e|none=>.r t
def SE.getO (s:SE)(t:Nat):PE:=match aY s.o t with|some e=>e|none=>.o t
def SE.setR (s:SE)(t:Nat)(e:PE):SE:=⟨(t,e)::s.r,s.o⟩
def SE.setO (s:SE)(t:Nat)(e:PE):SE:=⟨s.r,(t,e)::s.o⟩
def SE.id:SE:=⟨[],[]⟩
def SE.ev (s:SE)(ρ:Env):Env:=⟨fun t=>(s.getR t).ev ρ,fun t=>(s.getO t).ev ρ⟩
def SE.join (s:SE)(lr lo:List Nat)(s':SE):SE:=⟨lr.map (fun t=>(t,s'.getR t))++s.r,lo.map (fun t=>(t,s'.getO t))++s.o⟩
theorem SE.setR_ev (s:SE)(t:Nat)(e:PE)(ρ:Env):(s.setR t e).ev ρ=(s.ev ρ).setR t (e.ev ρ):=by
 have h:(fun u=>((s.setR t e).getR u).ev ρ)=bN (fun u=>(s.getR u).ev ρ) t (e.ev ρ):=by
  funext u;simp only[SE.getR,SE.setR,aY,eR];by_cases h:t=u
  ·subst h;simp
  ·have h':¬u=t:=fun e=>h e.symm;simp[dY h,h']
 simp only[SE.ev,Env.setR];rw[h];rfl
theorem SE.setO_ev (s:SE)(t:Nat)(e:PE)(ρ:Env):(s.setO t e).ev ρ=(s.ev ρ).setO t (e.ev ρ):=by
 have h:(fun u=>((s.setO t e).getO u).ev ρ)=bN (fun u=>(s.getO u).ev ρ) t (e.ev ρ):=by
  funext u;simp only[SE.getO,SE.setO,aY,eR];by_cases h:t=u
  ·subst h;simp
  ·have h':¬u=t:=fun e=>h e.symm;simp[dY h,h']
 simp only[SE.ev,Env.setO];rw[h];rfl
theorem vW {f:Nat→PE}{l:List (Nat×PE)}{u:Nat}:∀(lr:List Nat),aY (lr.map (fun t=>(t,f t))++l) u=if u∈lr then some (f u) else aY l u
 |[]=>by simp
 |t::lr=>by
  simp only[gr,EU,aY,vW lr,cM];by_cases h:t=u
  ·subst h;simp
  ·have h':¬u=t:=fun e=>h e.symm;simp[dY h,h']
theorem SE.join_ev (s s':SE)(lr lo:List Nat)(ρ:Env):(s.join lr lo s').ev ρ=(s.ev ρ).join lr lo (s'.ev ρ):=by
 have h1:∀u,((s.join lr lo s').getR u).ev ρ=((s.ev ρ).join lr lo (s'.ev ρ)).r u:=by
  intro u;rw[Env.join_r];have e:aY (s.join lr lo s').r u=if u∈lr then some (s'.getR u) else aY s.r u:=vW lr;unfold SE.getR;rw[e];by_cases h:u∈lr
  ·simp only[h,if_true];rfl
  ·simp only[h,if_false];rfl
 have h2:∀u,((s.join lr lo s').getO u).ev ρ=((s.ev ρ).join lr lo (s'.ev ρ)).o u:=by
  intro u;rw[Env.join_o];have e:aY (s.join lr lo s').o u=if u∈lo then some (s'.getO u) else aY s.o u:=vW lo;unfold SE.getO;rw[e];by_cases h:u∈lo
  ·simp only[h,if_true];rfl
  ·simp only[h,if_false];rfl
 have e1:(fun u=>((s.join lr lo s').getR u).ev ρ)=((s.ev ρ).join lr lo (s'.ev ρ)).r:=funext h1;have e2:(fun u=>((s.join lr lo s').getO u).ev ρ)=((s.ev ρ).join lr lo (s'.ev ρ)).o:=funext h2;show Env.mk _ _=_;rw[e1,e2]
abbrev bP:=List (PE×Bool)
def bP.ok (ab:bP)(ρ:Env):Prop:=∀x,x∈ab→(x.1.ev ρ).b=x.2
def E8 (e:PE):bP→Option Bool
 |[]=>none
 |x::l=>bif PE.beq x.1 e then some x.2 else E8 e l
theorem Tk {e:PE}{ρ:Env}{b:Bool}:∀{ab:bP},ab.ok ρ→E8 e ab=some b→(e.ev ρ).b=b
 |[],_,h=>by cases h
 |x::l,au,h=>by
  simp only[E8] at h;cases hb:PE.beq x.1 e<;>simp only[hb,cond_true,cond_false] at h
  ·exact Tk (fun y hy=>au y (dk _ hy)) h
  ·cases h;rw[←PE.beq_eq _ _ hb];exact au x (dp ..)
def uu (ab:bP):PE→Option Bool
 |.con (.v (.bool b))=>some b
 |.nt x=>(uu ab x).map (!·)
 |e=>E8 e ab
theorem wY {ab:bP}{ρ:Env}(h:ab.ok ρ):∀{e:PE} {b:Bool},uu ab e=some b→(e.ev ρ).b=b
 |.con (.v (.bool b)),b',he=>by simp only[uu,aQ] at he;subst he;rfl
 |.nt x,b',he=>by
  simp only[uu,ax] at he;obtain⟨c,hc,rfl⟩:=he;simp only[PE.ev,D.b_bool,wY h hc]
 |e,b',he=>by
  unfold uu at he;split at he
  ·cases he;rfl
  ·rename_i x;simp only[ax] at he;obtain⟨c,hc,rfl⟩:=he;simp only[PE.ev,D.b_bool,wY h hc]
  ·exact Tk h he
def rS (ab:bP)(c a b:PE):PE:=match uu ab c with|some true=>a|some false=>b|none=>.pick c a b
theorem Og {ab:bP}{ρ:Env}(h:ab.ok ρ)(c a b:PE):(rS ab c a b).ev ρ=(PE.pick c a b).ev ρ:=by
 unfold rS;split
 ·rename_i ht;simp[PE.ev,wY h ht]
 ·rename_i ht;simp[PE.ev,wY h ht]
 ·rfl
def KZ:PE→PE
 |.ref x=>x
 |x=>.deref x
theorem aei (x:PE)(ρ:Env):(KZ x).ev ρ=(PE.deref x).ev ρ:=by unfold KZ;split<;>rfl
def Qf:PE→Nat→PE
 |.tup es,i=>es.getD i (.con .none)
 |x,i=>.tget x i
theorem aop (x:PE)(i:Nat)(ρ:Env):(Qf x i).ev ρ=(PE.tget x i).ev ρ:=by
 unfold Qf;split
 ·rename_i es;simp only[PE.ev,D.tget_tup,PE.evs_eq,aG,cg];cases es[i]?<;>rfl
 ·rfl
def Dh:PE→Bool
 |.ai ..|.ci ..|.cb ..|.cs ..|.sadd ..|.nt _|.conv ..|.llen _|.bytes _|.slen _|.mlen _|.idx ..|.sidx ..|.sok ..|.slok ..|.lst _|.app ..|.setn ..|.rep ..|.slc ..|.ref _|.has ..|.put ..|.an ..|.imp ..|.tup _|.clo ..=>true
 |.con (.v _)|.con (.list _)|.con (.map _)=>true
 |_=>false
theorem alE {e:PE}(h:Dh e=true)(ρ:Env):(e.ev ρ).cells=[e.ev ρ]:=by
 unfold Dh at h;split at h<;>first|rfl|cases h
def KN:PE→Nat→PE
 |.mk es,i=>bif es.all Dh then es.getD i (.con .none) else .cell (.mk es) i
 |x,i=>.cell x i
theorem Ui {ρ:Env}:∀{es:List PE},es.all Dh=true→PE.evc ρ es=PE.evs ρ es
 |[],_=>rfl
 |e::es,h=>by
  simp only[pB,aj] at h;simp only[PE.evc,PE.evs,alE h.1,Ui h.2];rfl
theorem adB (x:PE)(i:Nat)(ρ:Env):(KN x i).ev ρ=(PE.cell x i).ev ρ:=by
 unfold KN;split
 ·rename_i es;cases hc:es.all Dh
  ·rfl
  ·simp only[cond_true,PE.ev,Ui hc,D.c_agg,PE.evs_eq,aG,cg];cases es[i]?<;>rfl
 ·rfl
def B2 (s:SE):List (Nat×Bool)→PE
 |[]=>.con (.v (.bool true))
 |g::gs=>.an (bif g.2 then s.getR g.1 else .nt (s.getR g.1)) (B2 s gs)
theorem UK (s:SE)(ρ:Env):∀gs,((B2 s gs).ev ρ).b=holds gs (s.ev ρ)
 |[]=>rfl
 |g::gs=>by
  have ih:=UK s ρ gs;rw[aiB,←ih];have e:((s.ev ρ).r g.1)=(s.getR g.1).ev ρ:=rfl;rw[e];cases hg:g.2
  ·simp only[B2,hg,cond_false,PE.ev,D.b_bool];cases((s.getR g.1).ev ρ).b<;>rfl
  ·simp only[B2,hg,cond_true,PE.ev,D.b_bool];cases((s.getR g.1).ev ρ).b<;>rfl
mutual
def PE.sub' (ab:bP)(s:SE):PE→PE
 |.r t=>s.getR t
 |.o j=>s.getO j
 |.con d=>.con d
 |.cell e i=>KN (PE.sub' ab s e) i
 |.sub e a b=>.sub (PE.sub' ab s e) a b
 |.setc e q x=>.setc (PE.sub' ab s e) q (PE.sub' ab s x)
 |.mk es=>.mk (PE.subs' ab s es)
 |.ai op k x y=>.ai op k (PE.sub' ab s x) (PE.sub' ab s y)
 |.ci op x y=>.ci op (PE.sub' ab s x) (PE.sub' ab s y)
 |.cb op x y=>.cb op (PE.sub' ab s x) (PE.sub' ab s y)
 |.cs op x y=>.cs op (PE.sub' ab s x) (PE.sub' ab s y)
 |.sadd x y=>.sadd (PE.sub' ab s x) (PE.sub' ab s y)
 |.nt x=>.nt (PE.sub' ab s x)
 |.conv k x=>.conv k (PE.sub' ab s x)
 |.pick c a b=>rS ab (PE.sub' ab s c) (PE.sub' ab s a) (PE.sub' ab s b)
 |.llen x=>.llen (PE.sub' ab s x)
 |.bytes x=>.bytes (PE.sub' ab s x)
 |.slen x=>.slen (PE.sub' ab s x)
 |.mlen x=>.mlen (PE.sub' ab s x)
 |.nth x y=>.nth (PE.sub' ab s x) (PE.sub' ab s y)
 |.idx x y=>.idx (PE.sub' ab s x) (PE.sub' ab s y)
 |.sidx x y=>.sidx (PE.sub' ab s x) (PE.sub' ab s y)
 |.sok x y=>.sok (PE.sub' ab s x) (PE.sub' ab s y)
 |.setn x y n z=>.setn (PE.sub' ab s x) (PE.sub' ab s y) n (PE.sub' ab s z)
 |.app x y=>.app (PE.sub' ab s x) (PE.sub' ab s y)
 |.lst es=>.lst (PE.subs' ab s es)
 |.rep x y=>.rep (PE.sub' ab s x) (PE.sub' ab s y)
 |.slc x y z=>.slc (PE.sub' ab s x) (PE.sub' ab s y) (PE.sub' ab s z)
 |.slok x y z=>.slok (PE.sub' ab s x) (PE.sub' ab s y) (PE.sub' ab s z)
 |.ref x=>.ref (PE.sub' ab s x)
 |.deref x=>KZ (PE.sub' ab s x)
 |.look x y z=>.look (PE.sub' ab s x) (PE.sub' ab s y) (PE.sub' ab s z)
 |.has x y=>.has (PE.sub' ab s x) (PE.sub' ab s y)
 |.put x y z=>.put (PE.sub' ab s x) (PE.sub' ab s y) (PE.sub' ab s z)
 |.mn x y=>.mn (PE.sub' ab s x) (PE.sub' ab s y)
 |.mx x y=>.mx (PE.sub' ab s x) (PE.sub' ab s y)
 |.tup es=>.tup (PE.subs' ab s es)
 |.tget x i=>Qf (PE.sub' ab s x) i
 |.clo f es=>.clo f (PE.subs' ab s es)
 |.an x y=>.an (PE.sub' ab s x) (PE.sub' ab s y)
 |.imp c x=>.nt (.an (B2 s c) (.nt (PE.sub' ab s x)))
def PE.subs' (ab:bP)(s:SE):List PE→List PE
 |[]=>[]
 |e::es=>PE.sub' ab s e::PE.subs' ab s es
end
mutual
theorem PE.sub_ev {ab:bP}{ρ:Env}(h:ab.ok ρ)(s:SE):∀(e:PE),(PE.sub' ab s e).ev ρ=e.ev (s.ev ρ)
 |.r t=>rfl
 |.o j=>rfl
 |.con d=>rfl
 |.cell e i=>by simp only[PE.sub',adB,PE.ev,PE.sub_ev h s e]
 |.sub e a b=>by simp only[PE.sub',PE.ev,PE.sub_ev h s e]
 |.setc e q x=>by simp only[PE.sub',PE.ev,PE.sub_ev h s e,PE.sub_ev h s x]
 |.mk es=>by simp only[PE.sub',PE.ev,PE.subc_ev h s es]
 |.ai op k x y=>by simp only[PE.sub',PE.ev,PE.sub_ev h s x,PE.sub_ev h s y]
 |.ci op x y=>by simp only[PE.sub',PE.ev,PE.sub_ev h s x,PE.sub_ev h s y]
 |.cb op x y=>by simp only[PE.sub',PE.ev,PE.sub_ev h s x,PE.sub_ev h s y]
 |.cs op x y=>by simp only[PE.sub',PE.ev,PE.sub_ev h s x,PE.sub_ev h s y]
 |.sadd x y=>by simp only[PE.sub',PE.ev,PE.sub_ev h s x,PE.sub_ev h s y]
 |.nt x=>by simp only[PE.sub',PE.ev,PE.sub_ev h s x]
 |.conv k x=>by simp only[PE.sub',PE.ev,PE.sub_ev h s x]
 |.pick c a b=>by simp only[PE.sub',Og h,PE.ev,PE.sub_ev h s c,PE.sub_ev h s a,PE.sub_ev h s b]
 |.llen x=>by simp only[PE.sub',PE.ev,PE.sub_ev h s x]
 |.bytes x=>by simp only[PE.sub',PE.ev,PE.sub_ev h s x]
 |.slen x=>by simp only[PE.sub',PE.ev,PE.sub_ev h s x]
 |.mlen x=>by simp only[PE.sub',PE.ev,PE.sub_ev h s x]
 |.nth x y=>by simp only[PE.sub',PE.ev,PE.sub_ev h s x,PE.sub_ev h s y]
 |.idx x y=>by simp only[PE.sub',PE.ev,PE.sub_ev h s x,PE.sub_ev h s y]
 |.sidx x y=>by simp only[PE.sub',PE.ev,PE.sub_ev h s x,PE.sub_ev h s y]
 |.sok x y=>by simp only[PE.sub',PE.ev,PE.sub_ev h s x,PE.sub_ev h s y]
 |.setn x y n z=>by simp only[PE.sub',PE.ev,PE.sub_ev h s x,PE.sub_ev h s y,PE.sub_ev h s z]
 |.app x y=>by simp only[PE.sub',PE.ev,PE.sub_ev h s x,PE.sub_ev h s y]
 |.lst es=>by simp only[PE.sub',PE.ev,PE.subs_ev h s es]
 |.rep x y=>by simp only[PE.sub',PE.ev,PE.sub_ev h s x,PE.sub_ev h s y]
 |.slc x y z=>by simp only[PE.sub',PE.ev,PE.sub_ev h s x,PE.sub_ev h s y,PE.sub_ev h s z]
 |.slok x y z=>by simp only[PE.sub',PE.ev,PE.sub_ev h s x,PE.sub_ev h s y,PE.sub_ev h s z]
 |.ref x=>by simp only[PE.sub',PE.ev,PE.sub_ev h s x]
 |.deref x=>by simp only[PE.sub',aei,PE.ev,PE.sub_ev h s x]
 |.look x y z=>by simp only[PE.sub',PE.ev,PE.sub_ev h s x,PE.sub_ev h s y,PE.sub_ev h s z]
 |.has x y=>by simp only[PE.sub',PE.ev,PE.sub_ev h s x,PE.sub_ev h s y]
 |.put x y z=>by simp only[PE.sub',PE.ev,PE.sub_ev h s x,PE.sub_ev h s y,PE.sub_ev h s z]
 |.mn x y=>by simp only[PE.sub',PE.ev,PE.sub_ev h s x,PE.sub_ev h s y]
 |.mx x y=>by simp only[PE.sub',PE.ev,PE.sub_ev h s x,PE.sub_ev h s y]
 |.tup es=>by simp only[PE.sub',PE.ev,PE.subs_ev h s es]
 |.tget x i=>by simp only[PE.sub',aop,PE.ev,PE.sub_ev h s x]
 |.clo f es=>by simp only[PE.sub',PE.ev,PE.subs_ev h s es]
 |.an x y=>by simp only[PE.sub',PE.ev,PE.sub_ev h s x,PE.sub_ev h s y]
 |.imp c x=>by
  simp only[PE.sub',PE.ev,D.b_bool,UK,PE.sub_ev h s x];cases holds c (s.ev ρ)<;>cases(x.ev (s.ev ρ)).b<;>rfl
theorem PE.subs_ev {ab:bP}{ρ:Env}(h:ab.ok ρ)(s:SE):∀(es:List PE),PE.evs ρ (PE.subs' ab s es)=PE.evs (s.ev ρ) es
 |[]=>rfl
 |e::es=>by simp only[PE.subs',PE.evs,PE.sub_ev h s e,PE.subs_ev h s es]
theorem PE.subc_ev {ab:bP}{ρ:Env}(h:ab.ok ρ)(s:SE):∀(es:List PE),PE.evc ρ (PE.subs' ab s es)=PE.evc (s.ev ρ) es
 |[]=>rfl
 |e::es=>by simp only[PE.subs',PE.evc,PE.sub_ev h s e,PE.subc_ev h s es]
end
inductive PT where
 |next (s:SE)
 |exit (id:Nat) (s:SE)
 |ret (e:PE)
 |chk (e:PE) (k:PT)
 |ite (c:PE) (a b:PT)
 |call (s:SE) (gs:List (Nat×Bool)) (dst f:Nat) (args:List PE) (k:PT)
 |callc (s:SE) (gs:List (Nat×Bool)) (dst:Nat) (e:PE) (args:List PE) (k:PT)
 |mcall (s:SE) (j f:Nat) (args:List PE) (k:PT)
 |iteS (s:SE) (c:PE) (lr lo:List Nat) (a b k:PT)
 |blockS (s:SE) (id:Nat) (lr lo:List Nat) (a k:PT)
 |brk (s:SE) (c:PC) (k:PT)
def aE (T:cq):PT→Env→(Out→Prop)→Prop
 |.next s,ρ,Q=>Q (.next (s.ev ρ))
 |.exit id s,ρ,Q=>Q (.exit id (s.ev ρ))
 |.ret e,ρ,Q=>Q (.ret (e.ev ρ))
 |.chk e k,ρ,Q=>(e.ev ρ).b=true∧aE T k ρ Q
 |.ite c a b,ρ,Q=>if(c.ev ρ).b=true then aE T a ρ Q else aE T b ρ Q
 |.call s gs dst f args k,ρ,Q=>if holds gs (s.ev ρ)=true then ∃d,ak T f (PE.evs ρ args) d∧aE T k ((s.ev ρ).setR dst d) Q else aE T k (s.ev ρ) Q
 |.callc s gs dst e args k,ρ,Q=>if holds gs (s.ev ρ)=true then ∃f caps d,e.ev ρ=.clo f caps∧ak T f (PE.evs ρ args++caps) d∧aE T k ((s.ev ρ).setR dst d) Q else aE T k (s.ev ρ) Q
 |.mcall s j f args k,ρ,Q=>∃d,ak T f (PE.evs ρ args) d∧aE T k ((s.ev ρ).setO j d) Q
 |.iteS s c lr lo a b k,ρ,Q=>if(c.ev ρ).b=true then aE T a (s.ev ρ) (kp (s.ev ρ) lr lo (gF (fun ρ'=>aE T k ρ' Q) Q)) else aE T b (s.ev ρ) (kp (s.ev ρ) lr lo (gF (fun ρ'=>aE T k ρ' Q) Q))
 |.blockS s id lr lo a k,ρ,Q=>aE T a (s.ev ρ) (lj (s.ev ρ) id lr lo (gF (fun ρ'=>aE T k ρ' Q) Q))
 |.brk s c k,ρ,Q=>aS T c (s.ev ρ) (gF (fun ρ'=>aE T k ρ' Q) Q)
def nz:PI→Bool
 |.setR ..|.setO ..|.chk _=>true
 |_=>false
def dG:PC→Bool
 |.loop ..=>false
 |.each ..=>false
 |.meach ..=>false
 |.seq a b=>dG a&&dG b
 |.ite _ _ _ a b=>dG a&&dG b
 |.block _ _ _ a=>dG a
 |.is l=>l.all nz
 |_=>true
abbrev Kn:=bP→SE→PT
abbrev Kx:=bP→Nat→SE→PT
def mL:List PI→bP→SE→Kn→PT
 |[],ab,s,k=>k ab s
 |.setR t e::l,ab,s,k=>mL l ab (s.setR t (e.sub' ab s)) k
 |.setO t e::l,ab,s,k=>mL l ab (s.setO t (e.sub' ab s)) k
 |.chk e::l,ab,s,k=>
  match uu ab (e.sub' ab s) with
  |some true=>mL l ab s k
  |_=>.chk (e.sub' ab s) (mL l ((e.sub' ab s,true)::ab) s k)
 |.call gs dst f args::l,ab,s,k=>.call s gs dst f (PE.subs' ab s args) (mL l [] .id k)
 |.callc gs dst e args::l,ab,s,k=>.callc s gs dst (e.sub' ab s) (PE.subs' ab s args) (mL l [] .id k)
 |.mcall j f args::l,ab,s,k=>.mcall s j f (PE.subs' ab s args) (mL l [] .id k)
def SE.merge (s:SE)(ab:bP)(lr lo:List Nat)(c:PE)(a b:SE):SE:=⟨lr.map (fun t=>(t,rS ab c (a.getR t) (b.getR t)))++s.r,lo.map (fun t=>(t,rS ab c (a.getO t) (b.getO t)))++s.o⟩
def oT:List PI→bP→SE→Option SE
 |[],_,s=>some s
 |.setR t e::l,ab,s=>oT l ab (s.setR t (e.sub' ab s))
 |.setO t e::l,ab,s=>oT l ab (s.setO t (e.sub' ab s))
 |_::_,_,_=>none
def plain:PC→bP→SE→Option SE
 |.skip,_,s=>some s
 |.is l,ab,s=>oT l ab s
 |.seq a b,ab,s=>(plain a ab s).bind fun s=>plain b ab s
 |.ite c lr lo a b,ab,s=>(plain a ab s).bind fun sa=>(plain b ab s).map fun sb=>s.merge ab lr lo (c.sub' ab s) sa sb
 |_,_,_=>none
def Wz:PC→Bool
 |.loop ..=>true
 |_=>false
def sx:PC→bP→SE→Kn→Kx→PT
 |.skip,ab,s,k,_=>k ab s
 |.is l,ab,s,k,_=>mL l ab s k
 |.seq a b,ab,s,k,kx=>sx a ab s (fun ab s=>sx b ab s k kx) kx
 |.ite c lr lo a b,ab,s,k,kx=>
  match uu ab (c.sub' ab s) with
  |some true=>bif dG a then sx a ab s (fun ab s'=>k ab (s.join lr lo s')) kx else .iteS s (c.sub' ab s) lr lo (sx a [] .id (fun _ s=>.next s) (fun _ id s=>.exit id s)) (sx b [] .id (fun _ s=>.next s) (fun _ id s=>.exit id s)) (k [] .id)
  |some false=>bif dG b then sx b ab s (fun ab s'=>k ab (s.join lr lo s')) kx else .iteS s (c.sub' ab s) lr lo (sx a [] .id (fun _ s=>.next s) (fun _ id s=>.exit id s)) (sx b [] .id (fun _ s=>.next s) (fun _ id s=>.exit id s)) (k [] .id)
  |none=>
   match plain a ab s,plain b ab s with
   |some sa,some sb=>k ab (s.merge ab lr lo (c.sub' ab s) sa sb)
   |_,_=>
   bif dG a&&dG b then
    .ite (c.sub' ab s) (sx a ((c.sub' ab s,true)::ab) s (fun ab s'=>k ab (s.join lr lo s')) kx) (sx b ((c.sub' ab s,false)::ab) s (fun ab s'=>k ab (s.join lr lo s')) kx)
   else .iteS s (c.sub' ab s) lr lo (sx a [] .id (fun _ s=>.next s) (fun _ id s=>.exit id s)) (sx b [] .id (fun _ s=>.next s) (fun _ id s=>.exit id s)) (k [] .id)
 |.block id lr lo a,ab,s,k,kx=>
  bif dG a then sx a ab s (fun ab s'=>k ab (s.join lr lo s')) (fun ab bL s'=>bif Nat.beq bL id then k ab (s.join lr lo s') else kx ab bL s')
  else bif Wz a then .brk s (.block id lr lo a) (k [] .id)
  else .blockS s id lr lo (sx a [] .id (fun _ s=>.next s) (fun _ id s=>.exit id s)) (k [] .id)
 |.loop lr lo a,_,s,k,_=>.brk s (.loop lr lo a) (k [] .id)
 |.each e ps lo rt a,_,s,k,_=>.brk s (.each e ps lo rt a) (k [] .id)
 |.meach J ps cS lo a,_,s,k,_=>.brk s (.meach J ps cS lo a) (k [] .id)
 |.exit id,ab,s,_,kx=>kx ab id s
 |.ret e,ab,s,_,_=>.ret (e.sub' ab s)
theorem bP.ok_nil (ρ:Env):bP.ok [] ρ:=fun _ h=>nomatch h
theorem bP.ok_cons {ab:bP}{ρ:Env}{e:PE}{b:Bool}(h:ab.ok ρ)(he:(e.ev ρ).b=b):bP.ok ((e,b)::ab) ρ:=fun x hx=>by
 rcases cM.1 hx with e'|hx
 ·rw[e'];exact he
 ·exact h x hx
theorem qD {T:cq}{Q:Out→Prop}{K:Env→Prop}{k:Kn}:∀{l:List PI} {ab:bP} {s:SE} {ρ:Env},ab.ok ρ→aE T (mL l ab s k) ρ Q→
 (∀ρ' ab s,(l.all nz=true→ρ'=ρ)→ab.ok ρ'→aE T (k ab s) ρ' Q→K (s.ev ρ'))→gG T l (s.ev ρ) K
 |[],ab,s,ρ,ha,h,hk=>hk ρ ab s (fun _=>rfl) ha h
 |.setR t e::l,ab,s,ρ,ha,h,hk=>by
  simp only[gG];rw[←PE.sub_ev ha s e,←SE.setR_ev];exact qD ha h fun ρ' ab s hp=>hk ρ' ab s fun hl=>hp (by simpa [nz] using hl)
 |.setO t e::l,ab,s,ρ,ha,h,hk=>by
  simp only[gG];rw[←PE.sub_ev ha s e,←SE.setO_ev];exact qD ha h fun ρ' ab s hp=>hk ρ' ab s fun hl=>hp (by simpa [nz] using hl)
 |.chk e::l,ab,s,ρ,ha,h,hk=>by
  simp only[gG];rw[←PE.sub_ev ha s e];simp only[mL] at h;split at h
  ·rename_i ht;exact⟨wY ha ht,qD ha h fun ρ' ab s hp=>hk ρ' ab s fun hl=>hp (by simpa [nz] using hl)⟩
  ·exact⟨h.1,qD (bP.ok_cons ha h.1) h.2 fun ρ' ab s hp=>hk ρ' ab s fun hl=>hp (by simpa [nz] using hl)⟩
 |.call gs dst f args::l,ab,s,ρ,ha,h,hk=>by
  simp only[gG];simp only[mL,aE,PE.subs_ev ha,PE.sub_ev ha] at h;have bm:∀{ρ0:Env},∀ρ' ab s,(l.all nz=true→ρ'=ρ0)→ab.ok ρ'→aE T (k ab s) ρ' Q→K (s.ev ρ'):=fun ρ' ab s _=>hk ρ' ab s fun hl=>by simp[nz] at hl
  split at h
  ·rename_i hg;rw[if_pos hg];obtain⟨d,hd,h⟩:=h;exact⟨d,hd,qD (s:=.id) (bP.ok_nil _) h bm⟩
  ·rename_i hg;rw[if_neg hg];exact qD (s:=.id) (bP.ok_nil _) h bm
 |.callc gs dst e args::l,ab,s,ρ,ha,h,hk=>by
  simp only[gG];simp only[mL,aE,PE.subs_ev ha,PE.sub_ev ha] at h;have bm:∀{ρ0:Env},∀ρ' ab s,(l.all nz=true→ρ'=ρ0)→ab.ok ρ'→aE T (k ab s) ρ' Q→K (s.ev ρ'):=fun ρ' ab s _=>hk ρ' ab s fun hl=>by simp[nz] at hl
  split at h
  ·rename_i hg;rw[if_pos hg];obtain⟨f,caps,d,he,hd,h⟩:=h;exact⟨f,caps,d,he,hd,qD (s:=.id) (bP.ok_nil _) h bm⟩
  ·rename_i hg;rw[if_neg hg];exact qD (s:=.id) (bP.ok_nil _) h bm
 |.mcall j f args::l,ab,s,ρ,ha,h,hk=>by
  simp only[gG];simp only[mL,aE,PE.subs_ev ha,PE.sub_ev ha] at h;have bm:∀{ρ0:Env},∀ρ' ab s,(l.all nz=true→ρ'=ρ0)→ab.ok ρ'→aE T (k ab s) ρ' Q→K (s.ev ρ'):=fun ρ' ab s _=>hk ρ' ab s fun hl=>by simp[nz] at hl
  obtain⟨d,hd,h⟩:=h;exact⟨d,hd,qD (s:=.id) (bP.ok_nil _) h bm⟩
theorem SE.merge_ev {ab:bP}{ρ:Env}(h:ab.ok ρ)(s a b:SE)(lr lo:List Nat)(c:PE):(s.merge ab lr lo c a b).ev ρ=(s.ev ρ).join lr lo (if(c.ev ρ).b=true then a.ev ρ else b.ev ρ):=by
 have h1:∀u,((s.merge ab lr lo c a b).getR u).ev ρ=((s.ev ρ).join lr lo (if(c.ev ρ).b=true then a.ev ρ else b.ev ρ)).r u:=by
  intro u;rw[Env.join_r];have e:aY (s.merge ab lr lo c a b).r u=if u∈lr then some (rS ab c (a.getR u) (b.getR u)) else aY s.r u:=vW lr;have e2:(s.merge ab lr lo c a b).getR u=if u∈lr then rS ab c (a.getR u) (b.getR u) else s.getR u:=by
   unfold SE.getR;rw[e];by_cases h:u∈lr<;>simp[h,SE.getR]
  rw[e2];by_cases hu:u∈lr
  ·simp only[hu,if_true,Og h,PE.ev];cases hc:(c.ev ρ).b<;>simp[SE.ev]
  ·simp only[hu,if_false];rfl
 have h2:∀u,((s.merge ab lr lo c a b).getO u).ev ρ=((s.ev ρ).join lr lo (if(c.ev ρ).b=true then a.ev ρ else b.ev ρ)).o u:=by
  intro u;rw[Env.join_o];have e:aY (s.merge ab lr lo c a b).o u=if u∈lo then some (rS ab c (a.getO u) (b.getO u)) else aY s.o u:=vW lo;have e2:(s.merge ab lr lo c a b).getO u=if u∈lo then rS ab c (a.getO u) (b.getO u) else s.getO u:=by
   unfold SE.getO;rw[e];by_cases h:u∈lo<;>simp[h,SE.getO]
  rw[e2];by_cases hu:u∈lo
  ·simp only[hu,if_true,Og h,PE.ev];cases hc:(c.ev ρ).b<;>simp[SE.ev]
  ·simp only[hu,if_false];rfl
 have e1:(fun u=>((s.merge ab lr lo c a b).getR u).ev ρ)=((s.ev ρ).join lr lo (if(c.ev ρ).b=true then a.ev ρ else b.ev ρ)).r:=funext h1;have e2:(fun u=>((s.merge ab lr lo c a b).getO u).ev ρ)=((s.ev ρ).join lr lo (if(c.ev ρ).b=true then a.ev ρ else b.ev ρ)).o:=funext h2;show Env.mk _ _=_;rw[e1,e2]
theorem Ol {T:cq}{ab:bP}{ρ:Env}(ha:ab.ok ρ):∀{l:List PI} {s s':SE},oT l ab s=some s'→∀{K:Env→Prop},K (s'.ev ρ)→gG T l (s.ev ρ) K
 |[],s,s',h,K,hk=>by simp only[oT,aQ] at h;subst h;exact hk
 |.setR t e::l,s,s',h,K,hk=>by simp only[gG];rw[←PE.sub_ev ha s e,←SE.setR_ev];exact Ol (l:=l) ha (show oT l ab _=some s' from h) hk
 |.setO t e::l,s,s',h,K,hk=>by simp only[gG];rw[←PE.sub_ev ha s e,←SE.setO_ev];exact Ol (l:=l) ha (show oT l ab _=some s' from h) hk
 |.chk _::_,_,_,h,_,_=>by simp[oT] at h
 |.call ..::_,_,_,h,_,_=>by simp[oT] at h
 |.callc ..::_,_,_,h,_,_=>by simp[oT] at h
 |.mcall ..::_,_,_,h,_,_=>by simp[oT] at h
theorem amw {T:cq}{ab:bP}{ρ:Env}(ha:ab.ok ρ):∀(c:PC) {s s':SE},plain c ab s=some s'→∀{Q:Out→Prop},Q (.next (s'.ev ρ))→aS T c (s.ev ρ) Q:=by
 intro c
 induction c with
 |skip=>intro s s' h Q hq;simp only[plain,aQ] at h;subst h;exact .skip hq
 |is l=>intro s s' h Q hq;exact .is (Ol ha h hq)
 |seq a b bu dS=>
  intro s s' h Q hq;simp only[plain,aq] at h;obtain⟨s1,h1,h2⟩:=h;exact .seq (bu h1 (dS h2 hq))
 |ite c lr lo a b bu dS=>
  intro s s' h Q hq;simp only[plain,aq,ax] at h;obtain⟨sa,h1,sb,h2,rfl⟩:=h;rw[SE.merge_ev ha,PE.sub_ev ha] at hq;refine .ite ?_;split
  ·rename_i hc;rw[if_pos hc] at hq;exact bu h1 hq
  ·rename_i hc;rw[if_neg hc] at hq;exact dS h2 hq
 |_=>intro s s' h;simp[plain] at h
theorem Jg {T:cq}:∀(c:PC) {ab:bP} {s:SE} {k:Kn} {kx:Kx} {ρ:Env} {Q Q':Out→Prop},ab.ok ρ→aE T (sx c ab s k kx) ρ Q→
 (∀ρ' ab s,(dG c=true→ρ'=ρ)→ab.ok ρ'→aE T (k ab s) ρ' Q→Q' (.next (s.ev ρ')))→
 (∀ρ' ab id s,(dG c=true→ρ'=ρ)→ab.ok ρ'→aE T (kx ab id s) ρ' Q→Q' (.exit id (s.ev ρ')))→(dG c=false→∀id ρ',Q (.exit id ρ')→Q' (.exit id ρ'))→(∀d,Q (.ret d)→Q' (.ret d))→aS T c (s.ev ρ) Q':=by
 intro c;have alone:∀(a:PC),(∀{ab:bP} {s:SE} {k:Kn} {kx:Kx} {ρ:Env} {Q Q':Out→Prop},ab.ok ρ→aE T (sx a ab s k kx) ρ Q→
  (∀ρ' ab s,(dG a=true→ρ'=ρ)→ab.ok ρ'→aE T (k ab s) ρ' Q→Q' (.next (s.ev ρ')))→
  (∀ρ' ab id s,(dG a=true→ρ'=ρ)→ab.ok ρ'→aE T (kx ab id s) ρ' Q→Q' (.exit id (s.ev ρ')))→(dG a=false→∀id ρ',Q (.exit id ρ')→Q' (.exit id ρ'))→(∀d,Q (.ret d)→Q' (.ret d))→aS T a (s.ev ρ) Q')→
  ∀{ρ:Env} {Q:Out→Prop},aE T (sx a [] .id (fun _ s=>.next s) (fun _ id s=>.exit id s)) ρ Q→aS T a ρ Q:=by
  intro a ih ρ Q h;exact ih (s:=.id) (bP.ok_nil _) h (fun ρ' ab s _ _ h=>h) (fun ρ' ab id s _ _ h=>h) (fun _ _ _ h=>h) (fun _ h=>h)
 induction c with
 |skip=>intro ab s k kx ρ Q Q' ha h hk _ _ _;exact .skip (hk ρ ab s (fun _=>rfl) ha h)
 |is l=>intro ab s k kx ρ Q Q' ha h hk _ _ _;exact .is (qD (K:=fun ρ'=>Q' (.next ρ')) ha h hk)
 |seq a b bu dS=>
  intro ab s k kx ρ Q Q' ha h hk hx jS hr;refine .seq (bu ha h (Q':=gF (fun ρ'=>aS T b ρ' Q') Q') (fun ρ' ab s hp vj h'=>?_) (fun ρ' ab id s hp vj h'=>?_) (fun hp=>?_) hr)
  ·refine dS vj h' (fun ρ2 ab s gg=>hk ρ2 ab s fun hl=>?_) (fun ρ2 ab id s gg=>hx ρ2 ab id s fun hl=>?_) (fun gg=>?_) hr
   ·simp only[dG,aj] at hl;rw[gg hl.2,hp hl.1]
   ·simp only[dG,aj] at hl;rw[gg hl.2,hp hl.1]
   ·exact jS (by simp[dG,gg])
  ·exact hx ρ' ab id s (fun hl=>by simp only[dG,aj] at hl;exact hp hl.1) vj h'
  ·exact jS (by simp[dG,hp])
 |ite c lr lo a b bu dS=>
  intro ab s k kx ρ Q Q' ha h hk hx jS hr;have bF:((c.sub' ab s).ev ρ).b=(c.ev (s.ev ρ)).b:=by rw[PE.sub_ev ha]
  have struct:(dG a&&dG b)=false→aE T (.iteS s (c.sub' ab s) lr lo (sx a [] .id (fun _ s=>.next s) (fun _ id s=>.exit id s)) (sx b [] .id (fun _ s=>.next s) (fun _ id s=>.exit id s)) (k [] .id)) ρ Q→aS T (.ite c lr lo a b) (s.ev ρ) Q':=by
   intro CJ h;have p9:dG (.ite c lr lo a b)=false:=CJ;simp only[aE,bF] at h
   have conv:∀x,kp (s.ev ρ) lr lo (gF (fun ρ'=>aE T (k [] .id) ρ' Q) Q) x→kp (s.ev ρ) lr lo Q' x:=by
      intro x db;cases x with
      |next ρ'=>exact hk _ [] .id (fun hl=>by rw[p9] at hl;cases hl) (bP.ok_nil _) db
      |exit id ρ'=>exact jS p9 id ρ' db
      |ret d=>exact hr d db
   refine .ite ?_;split at h
   ·rename_i hc;rw[if_pos hc];exact(alone a bu h).mono conv
   ·rename_i hc;rw[if_neg hc];exact(alone b dS h).mono conv
  have Wn:∀uR,uR.ok ρ→dG a=true→aE T (sx a uR s (fun ab s'=>k ab (s.join lr lo s')) kx) ρ Q→aS T a (s.ev ρ) (kp (s.ev ρ) lr lo Q'):=by
   intro uR vj dR h';refine bu vj h' (fun ρ' ab s' hp mZ kc=>?_) (fun ρ' ab id s' hp mZ kc=>?_) (fun hp=>by rw[dR] at hp;cases hp) hr
   ·have e:=hp dR;subst e;show Q' (.next _);rw[←SE.join_ev];exact hk ρ' ab _ (fun _=>rfl) mZ kc
   ·have e:=hp dR;subst e;exact hx ρ' ab id s' (fun _=>rfl) mZ kc
  have aL:∀uR,uR.ok ρ→dG b=true→aE T (sx b uR s (fun ab s'=>k ab (s.join lr lo s')) kx) ρ Q→aS T b (s.ev ρ) (kp (s.ev ρ) lr lo Q'):=by
   intro uR vj dR h';refine dS vj h' (fun ρ' ab s' hp mZ kc=>?_) (fun ρ' ab id s' hp mZ kc=>?_) (fun hp=>by rw[dR] at hp;cases hp) hr
   ·have e:=hp dR;subst e;show Q' (.next _);rw[←SE.join_ev];exact hk ρ' ab _ (fun _=>rfl) mZ kc
   ·have e:=hp dR;subst e;exact hx ρ' ab id s' (fun _=>rfl) mZ kc
  simp only[sx] at h;split at h
  ·rename_i ht;cases dR:dG a<;>simp only[dR,cond_true,cond_false] at h
   ·exact struct (by simp[dR]) h
   ·refine .ite ?_;rw[if_pos (by rw[←bF];exact wY ha ht)];exact Wn ab ha dR h
  ·rename_i ht;cases dR:dG b<;>simp only[dR,cond_true,cond_false] at h
   ·exact struct (by simp[dR]) h
   ·refine .ite ?_;rw[if_neg (by rw[←bF,wY ha ht];simp)];exact aL ab ha dR h
  ·split at h
   ·rename_i sa sb hsa jR;have fa:plain (.ite c lr lo a b) ab s=some (s.merge ab lr lo (c.sub' ab s) sa sb):=by simp[plain,hsa,jR]
    exact amw ha _ fa (hk ρ ab _ (fun _=>rfl) ha h)
   cases dR:(dG a&&dG b)<;>simp only[dR,cond_true,cond_false] at h
   ·exact struct dR h
   ·simp only[aj] at dR;simp only[aE] at h;refine .ite ?_;rw[←bF];split at h
    ·rename_i hc;rw[if_pos hc];exact Wn _ (bP.ok_cons ha hc) dR.1 h
    ·rename_i hc;rw[if_neg hc];exact aL _ (bP.ok_cons ha (by simpa using hc)) dR.2 h
 |block id lr lo a bu=>
  intro ab s k kx ρ Q Q' ha h hk hx jS hr;simp only[sx] at h;cases dR:dG a<;>simp only[dR,cond_true,cond_false] at h
  ·have p9:dG (.block id lr lo a)=false:=dR;cases hl:Wz a<;>simp only[hl,cond_true,cond_false] at h
   case true=>
        simp only[aE] at h;refine aS.mono h fun x db=>?_;cases x with
        |next ρ'=>exact hk _ [] .id (fun hl=>by rw[p9] at hl;cases hl) (bP.ok_nil _) db
        |exit id ρ'=>exact jS p9 id ρ' db
        |ret d=>exact hr d db
   simp only[aE] at h;refine .block ((alone a bu h).mono fun x db=>?_);cases x with
   |next ρ'=>exact hk _ [] .id (fun hl=>by rw[p9] at hl;cases hl) (bP.ok_nil _) db
   |exit bL ρ'=>
    simp only[lj] at db ⊢;split
    ·rename_i e;rw[if_pos e] at db;exact hk _ [] .id (fun hl=>by rw[p9] at hl;cases hl) (bP.ok_nil _) db
    ·rename_i e;rw[if_neg e] at db;exact jS p9 bL ρ' db
   |ret d=>exact hr d db
  ·refine .block (bu ha h (fun ρ' ab s' hp mZ kc=>?_) (fun ρ' ab bL s' hp mZ kc=>?_) (fun hp=>by rw[dR] at hp;cases hp) hr)
   ·have e:=hp dR;subst e;show Q' (.next _);rw[←SE.join_ev];exact hk ρ' ab _ (fun _=>rfl) mZ kc
   ·have e:=hp dR;subst e;simp only[lj];by_cases ct:bL=id
    ·subst ct;simp only[gu,cond_true] at kc;rw[if_pos rfl,←SE.join_ev];exact hk ρ' ab _ (fun _=>rfl) mZ kc
    ·rw[dY ct,cond_false] at kc;rw[if_neg ct];exact hx ρ' ab bL s' (fun _=>rfl) mZ kc
 |loop lr lo a bu=>
  intro ab s k kx ρ Q Q' ha h hk hx jS hr;simp only[sx,aE] at h;refine aS.mono h fun x db=>?_;cases x with
  |next ρ'=>exact hk _ [] .id (fun hl=>by cases hl) (bP.ok_nil _) db
  |exit id ρ'=>exact jS rfl id ρ' db
  |ret d=>exact hr d db
 |each e ps lo rt a bu=>
  intro ab s k kx ρ Q Q' ha h hk hx jS hr;simp only[sx,aE] at h;refine aS.mono h fun x db=>?_;cases x with
  |next ρ'=>exact hk _ [] .id (fun hl=>by cases hl) (bP.ok_nil _) db
  |exit id ρ'=>exact jS rfl id ρ' db
  |ret d=>exact hr d db
 |meach J ps cS lo a bu=>
  intro ab s k kx ρ Q Q' ha h hk hx jS hr;simp only[sx,aE] at h;refine aS.mono h fun x db=>?_;cases x with
  |next ρ'=>exact hk _ [] .id (fun hl=>by cases hl) (bP.ok_nil _) db
  |exit id ρ'=>exact jS rfl id ρ' db
  |ret d=>exact hr d db
 |exit id=>intro ab s k kx ρ Q Q' ha h _ hx _ _;exact .exit (hx ρ ab id s (fun _=>rfl) ha h)
 |ret e=>
  intro ab s k kx ρ Q Q' ha h _ _ _ hr;simp only[sx,aE] at h;refine .ret (hr _ ?_);rw[PE.sub_ev ha] at h;exact h
def Lk.un (a b:Lk):Lk:=⟨Nat.lor a.r b.r,jk a.o b.o⟩
def bits (l:List Nat):Nat:=l.foldr (fun t m=>Nat.lor (dz t) m) 0
theorem KH {l:List Nat}{t:Nat}(h:t∈l):ar (bits l) t=true:=by
 induction l with
 |nil=>cases h
 |cons x l ih=>
  show ar (Nat.lor (dz x) (bits l)) t=true;rw[eU];rcases cM.1 h with e|h
  ·subst e;rw[pJ];rfl
  ·rw[ih h,mN]
theorem Sf:∀{a b:List Nat} {x:Nat},x∈jk a b↔x∈a∨x∈b
 |[],b,x=>by simp[jk]
 |y::a,b,x=>by
  have ih:=Sf (a:=a) (b:=bif eL b y then b else y::b) (x:=x);show x∈jk a _↔_;rw[ih];cases hb:eL b y with
  |true=>simp only[cond_true,cM];have:=(oN b y).1 hb;constructor
         ·rintro(h|h);exact .inl (.inr h);exact .inr h
         ·rintro((rfl|h)|h);exact .inr this;exact .inl h;exact .inr h
  |false=>simp only[cond_false,cM];constructor
          ·rintro(h|h|h);exact .inl (.inr h);exact .inl (.inl h);exact .inr h
          ·rintro((h|h)|h);exact .inr (.inl h);exact .inl h;exact .inr (.inr h)
def Lk.Le (a K:Lk):Prop:=(∀t,ar a.r t=true→ar K.r t=true)∧∀j,j∈a.o→j∈K.o
theorem Lk.le_l (a b:Lk):a.Le (a.un b):=⟨fun t h=>by simp only[Lk.un,eU,h,xc],fun j h=>Sf.2 (.inl h)⟩
theorem Lk.le_r (a b:Lk):b.Le (a.un b):=⟨fun t h=>by simp only[Lk.un,eU,h,mN],fun j h=>Sf.2 (.inr h)⟩
theorem Lk.Le.trans {a b c:Lk}(h:a.Le b)(k:b.Le c):a.Le c:=⟨fun t ht=>k.1 t (h.1 t ht),fun j hj=>k.2 j (h.2 j hj)⟩
theorem Alike.le {a K:Lk}{ρ ρ':Env}(h:Alike K ρ ρ')(k:a.Le K):Alike a ρ ρ':=⟨fun t ht=>h.r t (k.1 t ht),fun j hj=>h.o j (k.2 j hj)⟩
theorem Lk.Le.of_un {a b K:Lk}(h:(a.un b).Le K):a.Le K∧b.Le K:=⟨(Lk.le_l a b).trans h,(Lk.le_r a b).trans h⟩
theorem Alike.setR {K:Lk}{ρ ρ':Env}(h:Alike K ρ ρ')(t:Nat)(d:D):Alike K (ρ.setR t d) (ρ'.setR t d):=⟨fun u hu=>by rw[Env.setR_r,Env.setR_r];split;rfl;exact h.r u hu,h.o⟩
theorem Alike.setO {K:Lk}{ρ ρ':Env}(h:Alike K ρ ρ')(t:Nat)(d:D):Alike K (ρ.setO t d) (ρ'.setO t d):=⟨h.r,fun u hu=>by rw[Env.setO_o,Env.setO_o];split;rfl;exact h.o u hu⟩
theorem Alike.join {K:Lk}{ρ ρ' η η':Env}(h:Alike K ρ ρ')(k:Alike K η η')(lr lo:List Nat):Alike K (ρ.join lr lo η) (ρ'.join lr lo η'):=
 ⟨fun u hu=>by rw[Env.join_r,Env.join_r];split;exact k.r u hu;exact h.r u hu,fun u hu=>by rw[Env.join_o,Env.join_o];split;exact k.o u hu;exact h.o u hu⟩
theorem On {f g:Nat→D}{u:Nat}(h:g u=f u):∀(ts:List Nat) (xs:List D),putL g ts xs u=putL f ts xs u
 |[],xs=>by rw[Ii,Ii];exact h
 |t::ts,[]=>by simp only[putL];exact h
 |t::ts,x::xs=>by rw[Ih,Ih];split;rfl;exact On h ts xs
theorem Alike.put {K:Lk}{ρ ρ':Env}(h:Alike K ρ ρ')(lr lo:List Nat)(vr vo:List D):Alike K (ρ.put lr vr lo vo) (ρ'.put lr vr lo vo):=⟨fun u hu=>On (h.r u hu) lr vr,fun u hu=>On (h.o u hu) lo vo⟩
def PI.lkw:PI→Lk
 |.setR t e=>e.lk.un ⟨dz t,[]⟩
 |.setO j e=>e.lk.un ⟨0,[j]⟩
 |.chk e=>e.lk
 |.call gs dst f aa=>(PI.call gs dst f aa).lk.un ⟨dz dst,[]⟩
 |.callc gs dst e aa=>(PI.callc gs dst e aa).lk.un ⟨dz dst,[]⟩
 |.mcall j f aa=>(PI.mcall j f aa).lk.un ⟨0,[j]⟩
def PC.lk:PC→Lk
 |.skip=>.none
 |.exit _=>.none
 |.is l=>l.foldr (fun p k=>p.lkw.un k) .none
 |.seq a b=>(PC.lk a).un (PC.lk b)
 |.ite c _ _ a b=>c.lk.un ((PC.lk a).un (PC.lk b))
 |.block _ _ _ a=>PC.lk a
 |.loop lr lo a=>(⟨bits lr,lo⟩:Lk).un (PC.lk a)
 |.ret e=>e.lk
 |.each e _ lo rt a=>e.lk.un ((match rt with|some e=>e.lk|none=>.none).un ((⟨0,lo⟩:Lk).un (PC.lk a)))
 |.meach J _ _ lo a=>(⟨0,J::lo⟩:Lk).un (PC.lk a)
structure Off (K:Lk) (b η η':Env):Prop where
 al:Alike K η η'
 r:∀t,ar K.r t=false→η'.r t=b.r t
 o:∀j,j∉K.o→η'.o j=b.o j
def sL (K:Lk)(b:Env):Out→Out→Prop
 |.next η,x=>∃η',x=.next η'∧Off K b η η'
 |.exit i η,x=>∃η',x=.exit i η'∧Off K b η η'
 |.ret d,x=>x=.ret d
theorem Off.uniq {K:Lk}{b η η' η2:Env}(h:Off K b η η')(k:Off K b η η2):η2=η':=by
 have h1:∀t,η2.r t=η'.r t:=fun t=>by
  cases hb:ar K.r t with
  |true=>rw[k.al.r t hb,h.al.r t hb]
  |false=>rw[k.r t hb,h.r t hb]
 have h2:∀t,η2.o t=η'.o t:=fun t=>by
  by_cases hb:t∈K.o
  ·rw[k.al.o t hb,h.al.o t hb]
  ·rw[k.o t hb,h.o t hb]
 cases η2;cases η'
 congr
 ·exact funext h1
 ·exact funext h2
theorem sL.uniq {K:Lk}{b:Env}{x y z:Out}(h:sL K b x y)(k:sL K b x z):z=y:=by
 cases x with
 |next η=>obtain⟨a,rfl,h⟩:=h;obtain⟨c,rfl,k⟩:=k;rw[h.uniq k]
 |exit i η=>obtain⟨a,rfl,h⟩:=h;obtain⟨c,rfl,k⟩:=k;rw[h.uniq k]
 |ret d=>rw[h,k]
theorem Off.setR {K:Lk}{b η η':Env}(h:Off K b η η'){t:Nat}(ht:ar K.r t=true)(d:D):Off K b (η.setR t d) (η'.setR t d):=
 ⟨h.al.setR t d,fun u hu=>by rw[Env.setR_r,if_neg (fun e=>by rw[e,ht] at hu;cases hu)];exact h.r u hu,h.o⟩
theorem Off.setO {K:Lk}{b η η':Env}(h:Off K b η η'){t:Nat}(ht:t∈K.o)(d:D):Off K b (η.setO t d) (η'.setO t d):=
 ⟨h.al.setO t d,h.r,fun u hu=>by rw[Env.setO_o,if_neg (fun e=>hu (by rw[e];exact ht))];exact h.o u hu⟩
theorem Off.join {K:Lk}{b η η' ζ ζ':Env}(h:Off K b η η')(k:Off K b ζ ζ')(lr lo:List Nat):Off K b (η.join lr lo ζ) (η'.join lr lo ζ'):=
 ⟨h.al.join k.al lr lo,fun u hu=>by rw[Env.join_r];split;exact k.r u hu;exact h.r u hu,fun u hu=>by rw[Env.join_o];split;exact k.o u hu;exact h.o u hu⟩
theorem Ot {f:Nat→D}{b:D}{u:Nat}(h:f u=b):∀(ts:List Nat) (xs:List D),u∉ts→putL f ts xs u=b
 |[],xs,_=>by rw[Ii];exact h
 |t::ts,[],_=>by simp only[putL];exact h
 |t::ts,x::xs,hu=>by rw[Ih,if_neg (fun e=>hu (by simp[e]))];exact Ot h ts xs (fun e=>hu (by simp[e]))
theorem Off.put {K:Lk}{b η η':Env}(h:Off K b η η'){lr lo:List Nat}(hr:∀t,t∈lr→ar K.r t=true)(ho:∀t,t∈lo→t∈K.o)(vr vo:List D):Off K b (η.put lr vr lo vo) (η'.put lr vr lo vo):=
 ⟨h.al.put lr lo vr vo,fun u hu=>Ot (h.r u hu) lr vr (fun e=>by rw[hr u e] at hu;cases hu),fun u hu=>Ot (h.o u hu) lo vo (fun e=>hu (ho u e))⟩
theorem PI.run_off {Φ:aK}{K:Lk}{b ρ ρ' η:Env}{p:PI}(hp:p.lkw.Le K)(h:Off K b ρ ρ')(hr:p.run Φ ρ=some η):∃η',p.run Φ ρ'=some η'∧Off K b η η':=by
 have vz:p.lk.Le K:=by cases p<;>first|exact hp|exact hp.of_un.1
 rw[PI.run_eff,PI.eff_alike p (h.al.le vz)];rw[PI.run_eff] at hr;cases he:p.eff Φ ρ with
 |none=>rw[he] at hr;cases hr
 |some x=>
  rw[he] at hr;simp only[jI,aQ] at hr;subst hr;refine⟨_,rfl,?_⟩;have hb:∀{t:Nat} {a:Lk},(a.un ⟨dz t,[]⟩).Le K→ar K.r t=true:=fun h=>h.of_un.2.1 _ (pJ _);have ho:∀{t:Nat} {a:Lk},(a.un ⟨0,[t]⟩).Le K→t∈K.o:=fun h=>h.of_un.2.2 _ (by simp);cases p with
  |setR t e=>simp only[PI.eff,aQ] at he;subst he;exact h.setR (hb hp) _
  |setO t e=>simp only[PI.eff,aQ] at he;subst he;exact h.setO (ho hp) _
  |chk e=>simp only[PI.eff] at he;cases vl:(e.ev ρ).b<;>rw[vl] at he<;>cases he;exact h
  |call gs d f aa=>
   simp only[PI.eff] at he;cases vl:holds gs ρ<;>simp only[vl,cond_true,cond_false,aQ,ax] at he
   ·subst he;exact h
   ·obtain⟨y,_,rfl⟩:=he;exact h.setR (hb hp) _
  |callc gs d e aa=>
   simp only[PI.eff] at he;cases vl:holds gs ρ<;>simp only[vl,cond_true,cond_false,aQ] at he
   ·subst he;exact h
   ·split at he
    ·simp only[ax] at he;obtain⟨y,_,rfl⟩:=he;exact h.setR (hb hp) _
    ·cases he
  |mcall j f aa=>simp only[PI.eff,ax] at he;obtain⟨y,_,rfl⟩:=he;exact h.setO (ho hp) _
theorem PI.runs_off {Φ:aK}{K:Lk}{b:Env}:∀{l:List PI} {ρ ρ' η:Env},(l.foldr (fun p k=>p.lkw.un k) Lk.none).Le K→Off K b ρ ρ'→PI.runs Φ l ρ=some η→∃η',PI.runs Φ l ρ'=some η'∧Off K b η η'
 |[],ρ,ρ',η,_,h,hr=>by simp only[PI.runs,aQ] at hr ⊢;subst hr;exact⟨_,rfl,h⟩
 |p::l,ρ,ρ',η,hl,h,hr=>by
  simp only[PI.runs,aq] at hr;obtain⟨ρ1,h1,h2⟩:=hr;obtain⟨ρ2,h3,h4⟩:=PI.run_off hl.of_un.1 h h1;obtain⟨η',h5,h6⟩:=PI.runs_off (l:=l) hl.of_un.2 h4 h2;exact⟨η',by simp only[PI.runs,h3,jG,h5],h6⟩
theorem vZ {K:Lk}{b η η':Env}(h:Off K b η η'){lo:List Nat}(ho:∀t,t∈lo→t∈K.o):lo.map η'.o=lo.map η.o:=xl fun t ht=>h.al.o t (ho t ht)
theorem Xc {K:Lk}{b η η':Env}(h:Off K b η η'){lr:List Nat}(hr:∀t,t∈lr→ar K.r t=true):lr.map η'.r=lr.map η.r:=xl fun t ht=>h.al.r t (hr t ht)
theorem PC.ev_off {Φ:aK}{n:Nat}{K:Lk}:∀(c:PC),c.lk.Le K→∀{b ρ ρ':Env} {x:Out},Off K b ρ ρ'→c.ev Φ n ρ=some x→∃x',c.ev Φ n ρ'=some x'∧sL K b x x':=by
 intro c
 induction c with
 |skip=>intro _ b ρ ρ' x h hr;simp only[PC.ev,aQ] at hr ⊢;subst hr;exact⟨_,rfl,_,rfl,h⟩
 |exit id=>intro _ b ρ ρ' x h hr;simp only[PC.ev,aQ] at hr ⊢;subst hr;exact⟨_,rfl,_,rfl,h⟩
 |ret e=>intro hk B ρ ρ' x h hr;simp only[PC.ev,aQ] at hr ⊢;subst hr;exact⟨_,rfl,by rw[PE.ev_alike e (h.al.le hk)];rfl⟩
 |is l=>
  intro hk B ρ ρ' x h hr;simp only[PC.ev,ax] at hr;obtain⟨η,h1,rfl⟩:=hr;obtain⟨η',h2,h3⟩:=PI.runs_off hk h h1;exact⟨.next η',by simp only[PC.ev,h2,jI],η',rfl,h3⟩
 |seq a b bu dS=>
  intro hk B ρ ρ' x h hr;simp only[PC.ev] at hr ⊢;cases ha:a.ev Φ n ρ with
  |none=>rw[ha] at hr;cases hr
  |some y=>
   obtain⟨y',h1,h2⟩:=bu hk.of_un.1 h ha;rw[ha] at hr;rw[h1];cases y with
   |next η=>obtain⟨η',rfl,h3⟩:=h2;exact dS hk.of_un.2 h3 hr
   |exit i η=>obtain⟨η',rfl,h3⟩:=h2;cases hr;exact⟨_,rfl,η',rfl,h3⟩
   |ret d=>cases h2;cases hr;exact⟨_,rfl,rfl⟩
 |ite c lr lo a b bu dS=>
  intro hk B ρ ρ' x h hr;have hc:(c.ev ρ').b=(c.ev ρ).b:=by rw[PE.ev_alike c (h.al.le hk.of_un.1)]
  have key:∀(d:PC),(∀{ρ ρ':Env} {x:Out},Off K B ρ ρ'→d.ev Φ n ρ=some x→∃x',d.ev Φ n ρ'=some x'∧sL K B x x')→(match d.ev Φ n ρ with|some (.next η)=>some (.next (ρ.join lr lo η))|x=>x)=some x→
      ∃x',(match d.ev Φ n ρ' with|some (.next η)=>some (.next (ρ'.join lr lo η))|x=>x)=some x'∧sL K B x x':=by
   intro d ih hr;cases ha:d.ev Φ n ρ with
   |none=>rw[ha] at hr;cases hr
   |some y=>
    obtain⟨y',h1,h2⟩:=ih h ha;rw[ha] at hr;rw[h1];cases y with
    |next η=>obtain⟨η',rfl,h3⟩:=h2;cases hr;exact⟨_,rfl,_,rfl,h.join h3 lr lo⟩
    |exit i η=>obtain⟨η',rfl,h3⟩:=h2;cases hr;exact⟨_,rfl,η',rfl,h3⟩
    |ret d=>cases h2;cases hr;exact⟨_,rfl,rfl⟩
  simp only[PC.ev,hc] at hr ⊢;cases iy:(c.ev ρ).b<;>simp only[iy,cond_true,cond_false] at hr ⊢
  ·exact key b (fun h1 h2=>dS hk.of_un.2.of_un.2 h1 h2) hr
  ·exact key a (fun h1 h2=>bu hk.of_un.2.of_un.1 h1 h2) hr
 |block id lr lo a bu=>
  intro hk B ρ ρ' x h hr;simp only[PC.ev] at hr ⊢;cases ha:a.ev Φ n ρ with
  |none=>rw[ha] at hr;cases hr
  |some y=>
   obtain⟨y',h1,h2⟩:=bu hk h ha;rw[ha] at hr;rw[h1];cases y with
   |next η=>obtain⟨η',rfl,h3⟩:=h2;cases hr;exact⟨_,rfl,_,rfl,h.join h3 lr lo⟩
   |exit i η=>
    obtain⟨η',rfl,h3⟩:=h2;simp only at hr ⊢;cases hb:Nat.beq i id<;>simp only[hb,cond_true,cond_false] at hr ⊢<;>cases hr
    ·exact⟨_,rfl,η',rfl,h3⟩
    ·exact⟨_,rfl,_,rfl,h.join h3 lr lo⟩
   |ret d=>cases h2;cases hr;exact⟨_,rfl,rfl⟩
 |loop lr lo a bu=>
  intro hk B ρ ρ' x h hr;have iJ:∀t,t∈lr→ar K.r t=true:=fun t ht=>hk.of_un.1.1 t (KH ht);have jx:∀t,t∈lo→t∈K.o:=fun t ht=>hk.of_un.1.2 t ht;have key:∀(m:Nat) (vr vo:List D),gW (a.ev Φ n) ρ lr lo m vr vo=some x→∃x',gW (a.ev Φ n) ρ' lr lo m vr vo=some x'∧sL K B x x':=by
   intro m
   induction m with
   |zero=>intro vr vo h;simp[gW] at h
   |succ m M8=>
    intro vr vo hr;simp only[gW] at hr ⊢;cases ha:a.ev Φ n (ρ.put lr vr lo vo) with
    |none=>rw[ha] at hr;cases hr
    |some y=>
     obtain⟨y',h1,h2⟩:=bu hk.of_un.2 (h.put iJ jx vr vo) ha;rw[ha] at hr;rw[h1];cases y with
     |next η=>obtain⟨η',rfl,h3⟩:=h2;simp only[vZ h3 jx,Xc h3 iJ];exact M8 _ _ hr
     |exit i η=>obtain⟨η',rfl,h3⟩:=h2;cases hr;exact⟨_,rfl,η',rfl,h3⟩
     |ret d=>cases h2;cases hr;exact⟨_,rfl,rfl⟩
  simp only[PC.ev] at hr ⊢;rw[vZ h jx,Xc h iJ];exact key n _ _ hr
 |each e ps lo rt a bu=>
  intro hk B ρ ρ' x h hr;obtain⟨bD,cH⟩:=hk.of_un;obtain⟨cH,y2⟩:=cH.of_un;obtain⟨y2,L2⟩:=y2.of_un;have jx:∀t,t∈lo→t∈K.o:=fun t ht=>y2.2 t ht;have key:∀(xs vo:List D),il (a.ev Φ n) ρ ps lo rt xs vo=some x→∃x',il (a.ev Φ n) ρ' ps lo rt xs vo=some x'∧sL K B x x':=by
   intro xs
   induction xs with
   |nil=>intro vo hr;simp only[il,aQ] at hr ⊢;subst hr;exact⟨_,rfl,_,rfl,h.put (fun _ h=>by cases h) jx _ _⟩
   |cons y xs jd=>
    intro vo hr;simp only[il] at hr ⊢;cases ha:a.ev Φ n (ρ.put ps (partsOf ps y) lo vo) with
    |none=>rw[ha] at hr;cases hr
    |some z=>
     have jb:Off K (ρ'.put ps (partsOf ps y) lo vo) (ρ.put ps (partsOf ps y) lo vo) (ρ'.put ps (partsOf ps y) lo vo):=⟨h.al.put ps lo _ _,fun _ _=>rfl,fun _ _=>rfl⟩
     obtain⟨z',h1,h2⟩:=bu L2 jb ha;rw[ha] at hr;rw[h1];cases z with
     |next η=>obtain⟨η',rfl,h3⟩:=h2;simp only[vZ h3 jx];exact jd _ hr
     |exit i η=>
      obtain⟨η',rfl,h3⟩:=h2;simp only[vZ h3 jx] at hr ⊢;have hp:=h.put (lr:=[]) (fun _ h=>by cases h) jx [] (lo.map η.o);cases hb:Nat.beq i cD<;>simp only[hb,cond_true,cond_false] at hr ⊢
      ·cases hr;exact⟨_,rfl,_,rfl,hp⟩
      ·cases rt with
       |none=>cases hr
       |some e2=>cases hr;exact⟨_,rfl,by show Out.ret _=Out.ret _;rw[PE.ev_alike e2 (hp.al.le cH)]⟩
     |ret d=>cases hr
  simp only[PC.ev] at hr ⊢;rw[PE.ev_alike e (h.al.le bD),vZ h jx];exact key _ _ hr
 |meach J ps cS lo a bu=>
  intro hk B ρ ρ' x h hr;obtain⟨y2,L2⟩:=hk.of_un;have jx:∀t,t∈lo→t∈K.o:=fun t ht=>y2.2 t (dk _ ht);have hJ:ρ'.o J=ρ.o J:=h.al.o J (y2.2 J (dp ..));have key:∀(es:D) (xs done vo qF:List D),ny (a.ev Φ n) ρ J es ps cS lo xs done vo=some qF→ny (a.ev Φ n) ρ' J es ps cS lo xs done vo=some qF:=by
   intro es xs
   induction xs with
   |nil=>intro done vo qF h;exact h
   |cons y xs jd=>
    intro done vo qF hr;simp only[ny] at hr ⊢;cases ha:a.ev Φ n ((ρ.put ps (cS.map y.tget) lo vo).setO J (.tup [.list (done++[y]),es])) with
    |none=>rw[ha] at hr;cases hr
    |some z=>
     have jb:Off K ((ρ'.put ps (cS.map y.tget) lo vo).setO J (.tup [.list (done++[y]),es])) ((ρ.put ps (cS.map y.tget) lo vo).setO J (.tup [.list (done++[y]),es])) ((ρ'.put ps (cS.map y.tget) lo vo).setO J (.tup [.list (done++[y]),es])):=
          ⟨(h.al.put ps lo _ _).setO J _,fun _ _=>rfl,fun _ _=>rfl⟩
     obtain⟨z',h1,h2⟩:=bu L2 jb ha;rw[ha] at hr;rw[h1];cases z with
     |next η=>obtain⟨η',rfl,h3⟩:=h2;simp only[vZ h3 jx];exact jd _ _ _ hr
     |exit i η=>cases hr
     |ret d=>cases hr
  simp only[PC.ev,zO] at hr;obtain⟨vo,⟨h1,h2⟩,rfl⟩:=hr;refine⟨.next (ρ'.put [] [] lo vo),?_,_,rfl,h.put (fun _ h=>by cases h) jx _ _⟩;simp only[PC.ev,zO];refine⟨vo,⟨by rw[hJ];exact h1,fun ys hy=>?_⟩,rfl⟩;rw[hJ] at hy ⊢;rw[vZ h jx];exact key _ _ _ _ _ (h2 ys hy)
def mX:List Nat→PC→Bool
 |l,.exit id=>eL l id
 |l,.seq a b=>mX l a&&mX l b
 |l,.ite _ _ _ a b=>mX l a&&mX l b
 |l,.block id _ _ a=>mX (id::l) a
 |l,.loop _ _ a=>mX l a
 |l,.each _ _ _ _ a=>mX (cD::l) a
 |_,_=>true
theorem afl {Φ:aK}{n:Nat}:∀(c:PC) {l:List Nat},mX l c=true→∀{ρ:Env} {i:Nat} {η:Env},c.ev Φ n ρ=some (.exit i η)→i∈l:=by
 intro c
 induction c with
 |skip=>intro l _ ρ i η h;simp[PC.ev] at h
 |exit id=>intro l hl ρ i η h;simp only[PC.ev,aQ] at h;injection h with h1 h2;subst h1;exact(oN _ _).1 hl
 |ret e=>intro l _ ρ i η h;simp[PC.ev] at h
 |is _=>intro l _ ρ i η h;simp[PC.ev] at h
 |seq a b bu dS=>
  intro l hl ρ i η h;simp only[mX,aj] at hl;simp only[PC.ev] at h;split at h
  ·exact dS hl.2 h
  ·exact bu hl.1 h
 |ite c lr lo a b bu dS=>
  intro l hl ρ i η h;simp only[mX,aj] at hl;simp only[PC.ev] at h;cases hc:(c.ev ρ).b<;>simp only[hc,cond_true,cond_false] at h
  ·split at h
   ·cases h
   ·exact dS hl.2 h
  ·split at h
   ·cases h
   ·exact bu hl.1 h
 |block id lr lo a bu=>
  intro l hl ρ i η h;simp only[PC.ev] at h;split at h
  ·cases h
  ·rename_i bL ρ2 ha;cases hb:Nat.beq bL id<;>simp only[hb,cond_true,cond_false] at h<;>cases h;rcases cM.1 (bu hl ha) with e|e
   ·subst e;rw[gu] at hb;cases hb
   ·exact e
  ·rename_i h1 h2;exact absurd h (h2 _ _)
 |loop lr lo a bu=>
  intro l hl ρ i η h;have key:∀(m:Nat) (vr vo:List D),gW (a.ev Φ n) ρ lr lo m vr vo=some (.exit i η)→i∈l:=by
   intro m
   induction m with
   |zero=>intro vr vo h;simp[gW] at h
   |succ m M8=>
    intro vr vo h;simp only[gW] at h;split at h
    ·exact M8 _ _ h
    ·exact bu hl h
  exact key _ _ _ h
 |each e ps lo rt a bu=>
  intro l hl ρ i η h;have key:∀(xs vo:List D),il (a.ev Φ n) ρ ps lo rt xs vo=some (.exit i η)→i∈l:=by
   intro xs
   induction xs with
   |nil=>intro vo h;simp[il] at h
   |cons x xs jd=>
    intro vo h;simp only[il] at h;split at h
    ·exact jd _ h
    ·rename_i bL ρ2 ha;cases hb:Nat.beq bL cD<;>simp only[hb,cond_true,cond_false] at h
     ·injection h with h;injection h with h1 h2;subst h1
      rcases cM.1 (bu hl ha) with e|e
      ·subst e;rw[gu] at hb;cases hb
      ·exact e
     ·cases rt<;>simp at h
    ·cases h
  exact key _ _ h
 |meach J ps cS lo a _=>
  intro l _ ρ i η h;simp only[PC.ev,zO] at h;obtain⟨vo,_,h⟩:=h;cases h
def Ww (t:Nat):PE→Bool
 |.r u=>Nat.beq u t
 |_=>false
def Wx (t:Nat):PE→Bool
 |.o u=>Nat.beq u t
 |_=>false
def fk (nl:Nat→PE→Bool)(p:Nat→Bool):List Nat→List (Nat×PE)→List (Nat×PE)
 |_,[]=>[]
 |seen,x::l=>bif p x.1&& !eL seen x.1 then(bif nl x.1 x.2 then fk nl p (x.1::seen) l else x::fk nl p (x.1::seen) l) else fk nl p seen l
theorem Gv {nl:Nat→PE→Bool}{p:Nat→Bool}:∀{l:List (Nat×PE)} {seen:List Nat} {t:Nat},eL seen t=true→aY (fk nl p seen l) t=none
 |[],_,_,_=>rfl
 |x::l,seen,t,h=>by
  have h':eL (x.1::seen) t=true:=by rw[oN] at h ⊢;exact dk _ h
  simp only[fk];cases hb:(p x.1&& !eL seen x.1) with
  |false=>exact Gv h
  |true=>
   simp only[cond_true];cases nl x.1 x.2 with
   |true=>exact Gv h'
   |false=>
    simp only[cond_false,aY];have:Nat.beq x.1 t=false:=by
      cases e:Nat.beq x.1 t with
      |false=>rfl
      |true=>rw[cI e,h] at hb;simp at hb
    rw[this];exact Gv h'
theorem BU {nl:Nat→PE→Bool}{p:Nat→Bool}{dflt:Nat→PE}(ct:∀t e,nl t e=true→e=dflt t):∀{l:List (Nat×PE)} {seen:List Nat} {t:Nat},p t=true→eL seen t=false→
 (match aY (fk nl p seen l) t with|some e=>e|none=>dflt t)=(match aY l t with|some e=>e|none=>dflt t)
 |[],_,_,_,_=>rfl
 |x::l,seen,t,hp,hs=>by
  simp only[fk,aY];cases e:Nat.beq x.1 t with
  |true=>
   have e':=cI e;rw[e',hp,hs];simp only[Bool.not_false,Bool.and_self,cond_true];cases hi:nl t x.2 with
   |true=>simp only[cond_true];rw[Gv (by rw[oN];exact dp ..)];exact(ct _ _ hi).symm
   |false=>simp only[cond_false,aY,e,cond_true]
  |false=>
   simp only[cond_false];cases hb:(p x.1&& !eL seen x.1) with
   |false=>exact BU ct hp hs
   |true=>
    have eu:eL (x.1::seen) t=false:=by
      cases hm:eL (x.1::seen) t with
      |false=>rfl
      |true=>
       rcases cM.1 ((oN _ _).1 hm) with h|h
       ·rw[h,gu] at e;cases e
       ·rw[(oN _ _).2 h] at hs;cases hs
    simp only[cond_true];cases nl x.1 x.2 with
    |true=>exact BU ct hp eu
    |false=>simp only[cond_false,aY,e];exact BU ct hp eu
def SE.cut (s:SE)(k:Lk):SE:=⟨fk Ww (ar k.r) [] s.r,fk Wx (eL k.o) [] s.o⟩
def Nl (l:List (Nat×PE)):Lk:=l.foldr (fun x k=>x.2.lk.un k) .none
def SE.lks (s:SE):Lk:=(Nl s.r).un (Nl s.o)
theorem Nn:∀{l:List (Nat×PE)} {t:Nat} {e:PE},aY l t=some e→e.lk.Le (Nl l)
 |[],_,_,h=>by cases h
 |x::l,t,e,h=>by
  simp only[aY] at h;cases hb:Nat.beq x.1 t<;>simp only[hb,cond_true,cond_false] at h
  ·exact(Nn h).trans (Lk.le_r _ _)
  ·cases h;exact Lk.le_l _ _
theorem SE.cut_al {s:SE}{L:Lk}{ρ1 ρ2:Env}(h:Alike (L.un (s.cut L).lks) ρ1 ρ2):Alike L ((s.cut L).ev ρ1) (s.ev ρ2):=by
 have hL:=h.le (Lk.le_l _ _);have hs:=h.le (Lk.le_r _ _);constructor
 ·intro t ht;show(s.getR t).ev ρ2=((s.cut L).getR t).ev ρ1;have e:(s.cut L).getR t=s.getR t:=BU (dflt:=.r) (fun t e he=>by unfold Ww at he;split at he;rw[cI he];cases he) ht rfl;rw[←e];cases hl:aY (s.cut L).r t with
  |none=>have:(s.cut L).getR t=.r t:=by unfold SE.getR;rw[hl]
         rw[this];exact hL.r t ht
  |some x=>have:(s.cut L).getR t=x:=by unfold SE.getR;rw[hl]
           rw[this];exact PE.ev_alike x (hs.le ((Nn hl).trans (Lk.le_l _ _)))
 ·intro t ht;show(s.getO t).ev ρ2=((s.cut L).getO t).ev ρ1;have e:(s.cut L).getO t=s.getO t:=BU (dflt:=.o) (fun t e he=>by unfold Wx at he;split at he;rw[cI he];cases he) ((oN _ _).2 ht) rfl;rw[←e];cases hl:aY (s.cut L).o t with
  |none=>have:(s.cut L).getO t=.o t:=by unfold SE.getO;rw[hl]
         rw[this];exact hL.o t ht
  |some x=>have:(s.cut L).getO t=x:=by unfold SE.getO;rw[hl]
           rw[this];exact PE.ev_alike x (hs.le ((Nn hl).trans (Lk.le_r _ _)))
structure LC where
 next:Lk
 ov:List (Nat×Lk)
def LC.all (c:LC):Lk:=c.ov.foldr (fun x k=>x.2.un k) .none
def JX (c:LC)(Q1 Q2:Out→Prop):Prop:=
 (∀ρ1 ρ2,Alike c.next ρ1 ρ2→Q1 (.next ρ1)→Q2 (.next ρ2))∧(∀id k ρ1 ρ2,aY c.ov id=some k→Alike k ρ1 ρ2→Q1 (.exit id ρ1)→Q2 (.exit id ρ2))∧∀d,Q1 (.ret d)→Q2 (.ret d)
def fD:LC→PT→Option (PT×Lk)
 |c,.next s=>some (.next (s.cut c.next),c.next.un (s.cut c.next).lks)
 |c,.exit id s=>(aY c.ov id).map fun k=>(.exit id (s.cut k),k.un (s.cut k).lks)
 |_,.ret e=>some (.ret e,e.lk)
 |c,.chk e k=>(fD c k).map fun r=>(.chk e r.1,e.lk.un r.2)
 |c,.ite e a b=>(fD c a).bind fun x=>(fD c b).map fun y=>(.ite e x.1 y.1,e.lk.un (x.2.un y.2))
 |c,.call s gs dst f args k=>(fD c k).map fun r=>(.call (s.cut (r.2.un (ls gs))) gs dst f args r.1,(PE.lks args).un ((r.2.un (ls gs)).un (s.cut (r.2.un (ls gs))).lks))
 |c,.callc s gs dst e args k=>(fD c k).map fun r=>(.callc (s.cut (r.2.un (ls gs))) gs dst e args r.1,(e.lk.un (PE.lks args)).un ((r.2.un (ls gs)).un (s.cut (r.2.un (ls gs))).lks))
 |c,.mcall s j f args k=>(fD c k).map fun r=>(.mcall (s.cut r.2) j f args r.1,(PE.lks args).un (r.2.un (s.cut r.2).lks))
 |c,.iteS s e lr lo a b k=>(fD c k).bind fun r=>(fD ⟨r.2,c.ov⟩ a).bind fun x=>(fD ⟨r.2,c.ov⟩ b).map fun y=>
    (.iteS (s.cut (r.2.un (x.2.un y.2))) e lr lo x.1 y.1 r.1,e.lk.un ((r.2.un (x.2.un y.2)).un (s.cut (r.2.un (x.2.un y.2))).lks))
 |c,.blockS s id lr lo a k=>(fD c k).bind fun r=>(fD ⟨r.2,(id,r.2)::c.ov⟩ a).map fun x=>(.blockS (s.cut (r.2.un x.2)) id lr lo x.1 r.1,(r.2.un x.2).un (s.cut (r.2.un x.2)).lks)
 |c,.brk s p k=>(fD c k).bind fun r=>bif mX (c.ov.map (·.1)) p then some (.brk (s.cut (p.lk.un (r.2.un c.all))) p r.1,(p.lk.un (r.2.un c.all)).un (s.cut (p.lk.un (r.2.un c.all))).lks) else none
theorem LC.all_le:∀{l:List (Nat×Lk)} {id:Nat} {k:Lk},aY l id=some k→k.Le (l.foldr (fun x k=>x.2.un k) .none)
 |[],_,_,h=>by cases h
 |x::l,t,e,h=>by
  simp only[aY] at h;cases hb:Nat.beq x.1 t<;>simp only[hb,cond_true,cond_false] at h
  ·exact(LC.all_le h).trans (Lk.le_r _ _)
  ·cases h;exact Lk.le_l _ _
theorem WS:∀{l:List (Nat×Lk)} {id:Nat},id∈l.map (·.1)→∃k,aY l id=some k
 |[],_,h=>by cases h
 |x::l,id,h=>by
  simp only[aY];cases hb:Nat.beq x.1 id with
  |true=>exact⟨_,rfl⟩
  |false=>
   simp only[cond_false];rcases cM.1 h with e|h
   ·rw[e,gu] at hb;cases hb
   ·exact WS h
theorem amC {T:cq}:∀(t:PT) {c:LC} {t':PT} {L:Lk},fD c t=some (t',L)→∀{Q1 Q2:Out→Prop} {ρ1 ρ2:Env},JX c Q1 Q2→Alike L ρ1 ρ2→aE T t' ρ1 Q1→aE T t ρ2 Q2:=by
 intro t
 induction t with
 |next s=>
  intro c t' L hp Q1 Q2 ρ1 ρ2 hQ hA h;simp only[fD,aQ,mR] at hp;obtain⟨rfl,rfl⟩:=hp;exact hQ.1 _ _ (SE.cut_al hA) h
 |exit id s=>
  intro c t' L hp Q1 Q2 ρ1 ρ2 hQ hA h;simp only[fD,ax,mR] at hp;obtain⟨k,hk,rfl,rfl⟩:=hp;exact hQ.2.1 _ k _ _ hk (SE.cut_al hA) h
 |ret e=>
  intro c t' L hp Q1 Q2 ρ1 ρ2 hQ hA h;simp only[fD,aQ,mR] at hp;obtain⟨rfl,rfl⟩:=hp;show Q2 (.ret (e.ev ρ2));rw[PE.ev_alike e hA];exact hQ.2.2 _ h
 |chk e k ih=>
  intro c t' L hp Q1 Q2 ρ1 ρ2 hQ hA h;simp only[fD,ax,mR] at hp;obtain⟨r,hr,rfl,rfl⟩:=hp;exact⟨by rw[PE.ev_alike e (hA.le (Lk.le_l _ _))];exact h.1,ih hr hQ (hA.le (Lk.le_r _ _)) h.2⟩
 |ite e a b bu dS=>
  intro c t' L hp Q1 Q2 ρ1 ρ2 hQ hA h;simp only[fD,aq,ax,mR] at hp;obtain⟨x,hx,y,hy,rfl,rfl⟩:=hp;have h2:=hA.le (Lk.le_r _ _);simp only[aE] at h ⊢;rw[PE.ev_alike e (hA.le (Lk.le_l _ _))];split
  ·rename_i hc;rw[if_pos hc] at h;exact bu hx hQ (h2.le (Lk.le_l _ _)) h
  ·rename_i hc;rw[if_neg hc] at h;exact dS hy hQ (h2.le (Lk.le_r _ _)) h
 |call s gs dst f args k ih=>
  intro c t' L hp Q1 Q2 ρ1 ρ2 hQ hA h;simp only[fD,ax,mR] at hp;obtain⟨r,hr,rfl,rfl⟩:=hp;have hS:=SE.cut_al (hA.le (Lk.le_r _ _));simp only[aE] at h ⊢;rw[PE.evs_alike args (hA.le (Lk.le_l _ _)),y6 (hS.le (Lk.le_r _ _))];split
  ·rename_i hc;rw[if_pos hc] at h;obtain⟨d,hd,h⟩:=h;exact⟨d,hd,ih hr hQ ((hS.le (Lk.le_l _ _)).setR dst d) h⟩
  ·rename_i hc;rw[if_neg hc] at h;exact ih hr hQ (hS.le (Lk.le_l _ _)) h
 |callc s gs dst e args k ih=>
  intro c t' L hp Q1 Q2 ρ1 ρ2 hQ hA h;simp only[fD,ax,mR] at hp;obtain⟨r,hr,rfl,rfl⟩:=hp;have hS:=SE.cut_al (hA.le (Lk.le_r _ _));have hE:=hA.le (Lk.le_l _ _);simp only[aE] at h ⊢;rw[PE.ev_alike e (hE.le (Lk.le_l _ _)),PE.evs_alike args (hE.le (Lk.le_r _ _)),y6 (hS.le (Lk.le_r _ _))];split
  ·rename_i hc;rw[if_pos hc] at h;obtain⟨f,caps,d,he,hd,h⟩:=h;exact⟨f,caps,d,he,hd,ih hr hQ ((hS.le (Lk.le_l _ _)).setR dst d) h⟩
  ·rename_i hc;rw[if_neg hc] at h;exact ih hr hQ (hS.le (Lk.le_l _ _)) h
 |mcall s j f args k ih=>
  intro c t' L hp Q1 Q2 ρ1 ρ2 hQ hA h;simp only[fD,ax,mR] at hp;obtain⟨r,hr,rfl,rfl⟩:=hp;have hS:=SE.cut_al (hA.le (Lk.le_r _ _));simp only[aE] at h ⊢;rw[PE.evs_alike args (hA.le (Lk.le_l _ _))];obtain⟨d,hd,h⟩:=h;exact⟨d,hd,ih hr hQ (hS.setO j d) h⟩
 |iteS s e lr lo a b k bu dS jz=>
  intro c t' L hp Q1 Q2 ρ1 ρ2 hQ hA h;simp only[fD,aq,ax,mR] at hp;obtain⟨r,hr,x,hx,y,hy,rfl,rfl⟩:=hp;have hS:=SE.cut_al (hA.le (Lk.le_r _ _));have GL:=hS.le (Lk.le_l _ _);have B4:=hS.le ((Lk.le_l _ _).trans (Lk.le_r _ _));have hSy:=hS.le ((Lk.le_r _ _).trans (Lk.le_r _ _))
  have rel:JX ⟨r.2,c.ov⟩ (kp ((s.cut (r.2.un (x.2.un y.2))).ev ρ1) lr lo (gF (fun ρ'=>aE T r.1 ρ' Q1) Q1)) (kp (s.ev ρ2) lr lo (gF (fun ρ'=>aE T k ρ' Q2) Q2)):=
   ⟨fun η1 η2 ha hq=>jz hr hQ (GL.join ha lr lo) hq,fun id k' η1 η2 hk ha hq=>hQ.2.1 id k' _ _ hk ha hq,fun d hq=>hQ.2.2 d hq⟩
  simp only[aE] at h ⊢;rw[PE.ev_alike e (hA.le (Lk.le_l _ _))];split
  ·rename_i hc;rw[if_pos hc] at h;exact bu hx rel B4 h
  ·rename_i hc;rw[if_neg hc] at h;exact dS hy rel hSy h
 |blockS s id lr lo a k bu jz=>
  intro c t' L hp Q1 Q2 ρ1 ρ2 hQ hA h;simp only[fD,aq,ax,mR] at hp;obtain⟨r,hr,x,hx,rfl,rfl⟩:=hp;have hS:=SE.cut_al hA;have GL:=hS.le (Lk.le_l _ _);refine bu hx (Q1:=lj ((s.cut (r.2.un x.2)).ev ρ1) id lr lo (gF (fun ρ'=>aE T r.1 ρ' Q1) Q1)) ⟨fun η1 η2 ha hq=>jz hr hQ (GL.join ha lr lo) hq,fun bL k' η1 η2 hk ha hq=>?_,fun d hq=>hQ.2.2 d hq⟩ (hS.le (Lk.le_r _ _)) h;simp only[lj] at hq ⊢;simp only[aY] at hk;by_cases e:bL=id
  ·subst e;simp only[gu,cond_true,aQ] at hk;subst hk;rw[if_pos rfl] at hq ⊢;exact jz hr hQ (GL.join ha lr lo) hq
  ·rw[if_neg e] at hq ⊢;rw[dY (fun h=>e h.symm),cond_false] at hk;exact hQ.2.1 bL k' _ _ hk ha hq
 |brk s p k jz=>
  intro c t' L hp Q1 Q2 ρ1 ρ2 hQ hA h;simp only[fD,aq] at hp;obtain⟨r,hr,hp⟩:=hp;cases hx:mX (c.ov.map (·.1)) p<;>simp only[hx,cond_true,cond_false,aQ,mR] at hp
  ·cases hp
  obtain⟨rfl,rfl⟩:=hp;have hS:=SE.cut_al hA;have jb:Off (p.lk.un (r.2.un c.all)) (s.ev ρ2) ((s.cut (p.lk.un (r.2.un c.all))).ev ρ1) (s.ev ρ2):=⟨hS,fun _ _=>rfl,fun _ _=>rfl⟩
  obtain⟨x,hq,n0,hn⟩:=h;have step:=fun n (hle:n0≤n)=>PC.ev_off p (Lk.le_l _ _) jb (hn n hle);obtain⟨x',h1,h2⟩:=step n0 (aW _);refine⟨x',?_,n0,fun n hle=>?_⟩
  ·cases x with
   |next η=>obtain⟨η',rfl,h3⟩:=h2;exact jz hr hQ (h3.al.le ((Lk.le_l _ _).trans (Lk.le_r _ _))) hq
   |exit i η=>
    obtain⟨η',rfl,h3⟩:=h2;obtain⟨k',bm⟩:=WS (afl p hx (hn n0 (aW _)));exact hQ.2.1 i k' _ _ bm (h3.al.le ((LC.all_le bm).trans ((Lk.le_r _ _).trans (Lk.le_r _ _)))) hq
   |ret d=>cases h2;exact hQ.2.2 d hq
  ·obtain⟨x2,h3,h4⟩:=step n hle;rw[h3,h2.uniq h4]
def Dq (c:LC)(t:PT):PT:=match fD c t with|some r=>r.1|none=>t
theorem Ig {T:cq}{c:LC}{t:PT}{Q:Out→Prop}{ρ:Env}(hQ:JX c Q Q)(h:aE T (Dq c t) ρ Q):aE T t ρ Q:=by
 unfold Dq at h;split at h
 ·rename_i r hr;exact amC t hr hQ ⟨fun _ _=>rfl,fun _ _=>rfl⟩ h
 ·exact h
def aba (c:PC):PT:=sx c [] .id (fun _ s=>.next s) (fun _ id s=>.exit id s)
theorem abb {T:cq}{c:PC}{ρ:Env}{Q:Out→Prop}(h:aE T (aba c) ρ Q):aS T c ρ Q:=
 Jg (s:=.id) c (bP.ok_nil _) h (fun ρ' ab s _ _ h=>h) (fun ρ' ab id s _ _ h=>h) (fun _ _ _ h=>h) (fun _ h=>h)
def tree (c:PC):PT:=Dq ⟨.none,[]⟩ (aba c)
theorem Jx {T:cq}{c:PC}{ρ:Env}{d:D}(h:aE T (tree c) ρ fun x=>x=.ret d):aS T c ρ fun x=>x=.ret d:=
 abb (Ig ⟨fun _ _ _ h=>(by cases h),fun _ _ _ _ _ _ h=>(by cases h),fun _ h=>h⟩ h)
def SE.keep (s:SE)(lr lo:List Nat):SE:=⟨lr.map fun t=>(t,s.getR t),lo.map fun t=>(t,s.getO t)⟩
theorem SE.keep_r (s:SE)(lr lo:List Nat)(ρ:Env):lr.map ((s.keep lr lo).ev ρ).r=lr.map (s.ev ρ).r:=by
 apply xl;intro t ht;show((s.keep lr lo).getR t).ev ρ=(s.getR t).ev ρ;have:=vW (f:=fun t=>s.getR t) (l:=[]) (u:=t) lr;rw[lZ,if_pos ht] at this;have e:(s.keep lr lo).getR t=s.getR t:=by unfold SE.getR SE.keep;simp only[];rw[this];rfl
 rw[e]
theorem SE.keep_o (s:SE)(lr lo:List Nat)(ρ:Env):lo.map ((s.keep lr lo).ev ρ).o=lo.map (s.ev ρ).o:=by
 apply xl;intro t ht;show((s.keep lr lo).getO t).ev ρ=(s.getO t).ev ρ;have:=vW (f:=fun t=>s.getO t) (l:=[]) (u:=t) lo;rw[lZ,if_pos ht] at this;have e:(s.keep lr lo).getO t=s.getO t:=by unfold SE.getO SE.keep;simp only[];rw[this];rfl
 rw[e]
def aax (id:Nat)(bo bn lr lo:List Nat)(a:PC):PT:=
 sx a [] .id (fun _ s=>.next (s.keep lr lo)) (fun _ bL s=>bif Nat.beq bL id then .exit id (s.keep bo bn) else .exit bL s)
def eO (ρ:Env)(id:Nat)(bo bn lr lo:List Nat)(K:List D→List D→Prop)(Q:Out→Prop):Out→Prop
 |.next ρ'=>K (lr.map ρ'.r) (lo.map ρ'.o)
 |.exit bL ρ'=>if bL=id then Q (.next (ρ.put bo (bo.map ρ'.r) bn (bn.map ρ'.o))) else Q (.exit bL ρ')
 |.ret d=>Q (.ret d)
def round (id:Nat)(bo bn lr lo:List Nat)(a:PC):PT:=Dq ⟨⟨bits lr,lo⟩,[(id,⟨bits bo,bn⟩)]⟩ (aax id bo bn lr lo a)
theorem Xb {k:Lk}{lr:List Nat}{ρ1 ρ2:Env}(h:Alike k ρ1 ρ2)(hk:∀t,t∈lr→ar k.r t=true):lr.map ρ2.r=lr.map ρ1.r:=xl fun t ht=>h.r t (hk t ht)
theorem HG {k:Lk}{lo:List Nat}{ρ1 ρ2:Env}(h:Alike k ρ1 ρ2)(hk:∀t,t∈lo→t∈k.o):lo.map ρ2.o=lo.map ρ1.o:=xl fun t ht=>h.o t (hk t ht)
theorem anE {T:cq}{id:Nat}{bo bn lr lo:List Nat}{a:PC}{ρ ρ0:Env}{K:List D→List D→Prop}{Q:Out→Prop}(h:aE T (round id bo bn lr lo a) ρ (eO ρ0 id bo bn lr lo K Q)):aE T (aax id bo bn lr lo a) ρ (eO ρ0 id bo bn lr lo K Q):=by
 refine Ig ⟨fun ρ1 ρ2 ha hq=>?_,fun bL k ρ1 ρ2 hk ha hq=>?_,fun d hq=>hq⟩ h
 ·simp only[eO] at hq ⊢;rw[Xb ha fun t ht=>KH ht,HG ha fun t ht=>ht];exact hq
 ·simp only[aY] at hk;cases hb:Nat.beq id bL<;>simp only[hb,cond_true,cond_false] at hk
  ·cases hk
  ·cases hk;have:=cI hb;subst this;simp only[eO,if_true] at hq ⊢;rw[Xb ha fun t ht=>KH ht,HG ha fun t ht=>ht];exact hq
theorem aS.forLoop {T:cq}{id:Nat}{bo bn lr lo:List Nat}{a:PC}{ρ:Env}{Q:Out→Prop}{α:Type}(inv:α→List D→List D→Prop)(tN:α→Nat)(s0:α)(h0:inv s0 (lr.map ρ.r) (lo.map ρ.o))
 (step:∀s vr vo,inv s vr vo→aE T (round id bo bn lr lo a) (ρ.put lr vr lo vo) (eO ρ id bo bn lr lo (fun vr vo=>∃s',tN s'<tN s∧inv s' vr vo) Q)):aS T (.block id bo bn (.loop lr lo a)) ρ Q:=by
 refine .block (.loop inv tN s0 h0 fun s vr vo hi=>?_);have h:=anE (step s vr vo hi);refine Jg (s:=.id) a (bP.ok_nil _) h (fun ρ' ab s' _ _ h=>?_) (fun ρ' ab bL s' _ _ h=>?_) (fun _ bL ρ' h=>?_) (fun d h=>h)
 ·simp only[aE,eO] at h;rw[SE.keep_r,SE.keep_o] at h;exact h
 ·simp only[gF,lj];by_cases ct:bL=id
  ·subst ct;simp only[gu,cond_true,aE,eO,if_true] at h;rw[SE.keep_r,SE.keep_o] at h;rw[if_pos rfl];exact h
  ·rw[dY ct,cond_false] at h;simp only[aE,eO] at h;rw[if_neg ct] at h ⊢;exact h
 ·simp only[gF,lj];simp only[eO] at h;split
  ·rename_i e;rw[if_pos e] at h;exact h
  ·rename_i e;rw[if_neg e] at h;exact h
def aay (lo:List Nat)(a:PC):PT:=sx a [] .id (fun _ s=>.next (s.keep [] lo)) (fun _ id s=>.exit id (s.keep [] lo))
def pw (lo:List Nat)(a:PC):PT:=Dq ⟨⟨0,lo⟩,[(cD,⟨0,lo⟩)]⟩ (aay lo a)
theorem aaz {T:cq}{lo:List Nat}{a:PC}{ρ:Env}{Q:Out→Prop}(hn:∀ρ1 ρ2,lo.map ρ2.o=lo.map ρ1.o→Q (.next ρ1)→Q (.next ρ2))(hx:∀ρ1 ρ2,lo.map ρ2.o=lo.map ρ1.o→Q (.exit cD ρ1)→Q (.exit cD ρ2))(h:aE T (pw lo a) ρ Q):aE T (aay lo a) ρ Q:=by
 refine Ig ⟨fun ρ1 ρ2 ha hq=>hn ρ1 ρ2 (HG ha fun t ht=>ht) hq,fun bL k ρ1 ρ2 hk ha hq=>?_,fun d hq=>hq⟩ h;simp only[aY] at hk;cases hb:Nat.beq cD bL<;>simp only[hb,cond_true,cond_false] at hk
 ·cases hk
 ·cases hk;have:=cI hb;subst this;exact hx ρ1 ρ2 (HG ha fun t ht=>ht) hq
theorem aS.eachR {T:cq}{e:PE}{ps lo:List Nat}{rt:Option PE}{a:PC}{ρ:Env}{Q:Out→Prop}(xs:List D)(he:(e.ev ρ).l=xs)(inv:Nat→List D→Prop)(h0:inv 0 (lo.map ρ.o))
 (step:∀k x vo,xs[k]?=some x→inv k vo→aE T (pw lo a) (ρ.put ps (partsOf ps x) lo vo) (sV ρ lo rt (inv (k+1)) Q)) (done:∀vo,inv xs.length vo→Q (.next (ρ.put [] [] lo vo))):aS T (.each e ps lo rt a) ρ Q:=by
 refine .each xs he inv h0 (fun k x vo hx hi=>?_) done;have h:=aaz (fun ρ1 ρ2 e hq=>by simp only[sV] at hq ⊢;rw[e];exact hq) (fun ρ1 ρ2 e hq=>by simp only[sV,if_true] at hq ⊢;rw[e];exact hq) (step k x vo hx hi);refine Jg (s:=.id) a (bP.ok_nil _) h (fun ρ' ab s' _ _ h=>?_) (fun ρ' ab bL s' _ _ h=>?_) (fun _ bL ρ' h=>h) (fun d h=>h)
 ·simp only[aE,sV] at h;rw[SE.keep_o] at h;exact h
 ·simp only[aE,sV] at h;rw[SE.keep_o] at h;exact h
theorem aS.meachR {T:cq}{J:Nat}{ps cS lo:List Nat}{a:PC}{ρ:Env}{Q:Out→Prop}(es:List (D×D))(he:ρ.o J=.tup [.list [],.map es])(inv:List D→List D→Prop)(h0:inv [] (lo.map ρ.o))
 (step:∀done x rest vo,(done++x::rest).Perm (gY (.map es))→inv done vo→aE T (pw lo a) ((ρ.put ps (cS.map x.tget) lo vo).setO J (.tup [.list (done++[x]),.map es])) (fun y=>∃ρ',y=.next ρ'∧inv (done++[x]) (lo.map ρ'.o)))
 (last:∃vo,(∀done,done.Perm (gY (.map es))→∀qF,inv done qF→qF=vo)∧Q (.next (ρ.put [] [] lo vo))):aS T (.meach J ps cS lo a) ρ Q:=by
 refine .meach es he inv h0 (fun done x rest vo hp hi=>?_) last;have h:=aaz (fun ρ1 ρ2 e ⟨ρ',e1,hq⟩=>by cases e1;exact⟨_,rfl,by rw[e];exact hq⟩) (fun ρ1 ρ2 e ⟨ρ',e1,hq⟩=>by cases e1) (step done x rest vo hp hi);refine Jg (s:=.id) a (bP.ok_nil _) h (fun ρ' ab s' _ _ h=>?_) (fun ρ' ab bL s' _ _ h=>?_) (fun _ bL ρ' h=>?_) (fun d h=>?_)
 ·simp only[aE] at h;obtain⟨ρ2,e,h⟩:=h;injection e with e;subst e;rw[SE.keep_o] at h;exact⟨_,rfl,h⟩
 ·simp only[aE] at h;obtain⟨ρ2,e,h⟩:=h;cases e
 ·obtain⟨ρ2,e,_⟩:=h;cases e
 ·obtain⟨ρ2,e,_⟩:=h;cases e
theorem xm {T:cq}:∀(t:PT) {ρ:Env} {Q Q':Out→Prop},(∀x,Q x→Q' x)→aE T t ρ Q→aE T t ρ Q':=by
 intro t
 induction t with
 |next s=>intro ρ Q Q' h hx;exact h _ hx
 |exit id s=>intro ρ Q Q' h hx;exact h _ hx
 |ret e=>intro ρ Q Q' h hx;exact h _ hx
 |chk e k ih=>intro ρ Q Q' h hx;exact⟨hx.1,ih h hx.2⟩
 |ite c a b bu dS=>
  intro ρ Q Q' h hx;simp only[aE] at hx ⊢;split
  ·rename_i hc;rw[if_pos hc] at hx;exact bu h hx
  ·rename_i hc;rw[if_neg hc] at hx;exact dS h hx
 |call s gs dst f args k ih=>
  intro ρ Q Q' h hx;simp only[aE] at hx ⊢;split
  ·rename_i hc;rw[if_pos hc] at hx;obtain⟨d,hd,hx⟩:=hx;exact⟨d,hd,ih h hx⟩
  ·rename_i hc;rw[if_neg hc] at hx;exact ih h hx
 |callc s gs dst e args k ih=>
  intro ρ Q Q' h hx;simp only[aE] at hx ⊢;split
  ·rename_i hc;rw[if_pos hc] at hx;obtain⟨f,c,d,he,hd,hx⟩:=hx;exact⟨f,c,d,he,hd,ih h hx⟩
  ·rename_i hc;rw[if_neg hc] at hx;exact ih h hx
 |mcall s j f args k ih=>intro ρ Q Q' h hx;obtain⟨d,hd,hx⟩:=hx;exact⟨d,hd,ih h hx⟩
 |iteS s c lr lo a b k bu dS jz=>
  intro ρ Q Q' h hx
  have hq:∀x,kp (s.ev ρ) lr lo (gF (fun ρ'=>aE T k ρ' Q) Q) x→kp (s.ev ρ) lr lo (gF (fun ρ'=>aE T k ρ' Q') Q') x:=by
   intro x hx;cases x with
   |next ρ'=>exact jz h hx
   |exit id ρ'=>exact h _ hx
   |ret d=>exact h _ hx
  simp only[aE] at hx ⊢;split
  ·rename_i hc;rw[if_pos hc] at hx;exact bu hq hx
  ·rename_i hc;rw[if_neg hc] at hx;exact dS hq hx
 |blockS s id lr lo a k bu jz=>
  intro ρ Q Q' h hx;refine bu (fun x hx=>?_) hx;cases x with
  |next ρ'=>exact jz h hx
  |exit bL ρ'=>
   simp only[lj] at hx ⊢;split
   ·rename_i e;rw[if_pos e] at hx;exact jz h hx
   ·rename_i e;rw[if_neg e] at hx;exact h _ hx
  |ret d=>exact h _ hx
 |brk s c k ih=>
  intro ρ Q Q' h hx;refine aS.mono hx fun x hx=>?_;cases x with
  |next ρ'=>exact ih h hx
  |exit id ρ'=>exact h _ hx
  |ret d=>exact h _ hx
theorem aS.forRounds {T:cq}{id:Nat}{bo bn lr lo:List Nat}{a:PC}{ρ:Env}{Q:Out→Prop}(N:Nat)(str fh:Nat→List D)(h0:lr.map ρ.r=str 0∧lo.map ρ.o=fh 0)
 (step:∀k,k<N→aE T (round id bo bn lr lo a) (ρ.put lr (str k) lo (fh k)) (eO ρ id bo bn lr lo (fun vr vo=>vr=str (k+1)∧vo=fh (k+1)) Q))
 (last:aE T (round id bo bn lr lo a) (ρ.put lr (str N) lo (fh N)) (eO ρ id bo bn lr lo (fun _ _=>False) Q)):aS T (.block id bo bn (.loop lr lo a)) ρ Q:=by
 refine .forLoop (α:=Nat) (fun k vr vo=>k≤N∧vr=str k∧vo=fh k) (fun k=>N-k) 0 ⟨nS _,h0.1,h0.2⟩ ?_;rintro k vr vo ⟨hk,rfl,rfl⟩;have mono:∀{K K':List D→List D→Prop},(∀a b,K a b→K' a b)→∀x,eO ρ id bo bn lr lo K Q x→eO ρ id bo bn lr lo K' Q x:=by
  intro K K' h x hx;cases x with
  |next ρ'=>exact h _ _ hx
  |exit bL ρ'=>exact hx
  |ret d=>exact hx
 by_cases af:k<N
 ·exact xm _ (mono fun a b ⟨h1,h2⟩=>⟨k+1,by omega,by omega,h1,h2⟩) (step k af)
 ·obtain rfl:k=N:=by omega
  exact xm _ (mono fun a b h=>h.elim) last
theorem PX {ρ:Env}{id:Nat}{bo bn lr lo:List Nat}{K K':List D→List D→Prop}{Q:Out→Prop}(h:∀a b,K a b→K' a b):∀x,eO ρ id bo bn lr lo K Q x→eO ρ id bo bn lr lo K' Q x:=by
 intro x hx;cases x with
 |next ρ'=>exact h _ _ hx
 |exit bL ρ'=>exact hx
 |ret d=>exact hx
theorem aS.scan {T:cq}{id:Nat}{bo bn lr lo:List Nat}{a:PC}{ρ:Env}{Q:Out→Prop}(N:Nat)(ok:Nat→Prop)(str fh:Nat→List D)(h0:lr.map ρ.r=str 0∧lo.map ρ.o=fh 0)
 (step:∀k,k<N→(∀j,j<k→ok j)→ok k→aE T (round id bo bn lr lo a) (ρ.put lr (str k) lo (fh k)) (eO ρ id bo bn lr lo (fun vr vo=>vr=str (k+1)∧vo=fh (k+1)) Q))
 (bad:∀k,k<N→(∀j,j<k→ok j)→¬ok k→aE T (round id bo bn lr lo a) (ρ.put lr (str k) lo (fh k)) (eO ρ id bo bn lr lo (fun _ _=>False) Q))
 (last:(∀j,j<N→ok j)→aE T (round id bo bn lr lo a) (ρ.put lr (str N) lo (fh N)) (eO ρ id bo bn lr lo (fun _ _=>False) Q)):aS T (.block id bo bn (.loop lr lo a)) ρ Q:=by
 refine .forLoop (α:=Nat) (fun k vr vo=>k≤N∧(∀j,j<k→ok j)∧vr=str k∧vo=fh k) (fun k=>N-k) 0 ⟨nS _,fun j hj=>by omega,h0.1,h0.2⟩ ?_;rintro k vr vo ⟨hk,hj,rfl,rfl⟩;by_cases af:k<N
 ·by_cases au:ok k
  ·refine xm _ (PX fun a b ⟨h1,h2⟩=>⟨k+1,by omega,by omega,fun j G6=>?_,h1,h2⟩) (step k af hj au);by_cases e:j=k
   ·subst e;exact au
   ·exact hj j (by omega)
  ·exact xm _ (PX fun a b h=>h.elim) (bad k af hj au)
 ·obtain rfl:k=N:=by omega
  exact xm _ (PX fun a b h=>h.elim) (last hj)
def aB (n:Nat)(e:PE):PE:=.mk ((List.range n).map fun i=>.cell e i)
def j9 (n:Nat)(d:D):D:=.agg ((List.range n).flatMap fun i=>(d.c i).cells)
theorem afj (ρ:Env)(n:Nat)(e:PE):(aB n e).ev ρ=j9 n (e.ev ρ):=by
 have key:∀l:List Nat,PE.evc ρ (l.map fun i=>.cell e i)=l.flatMap fun i=>((e.ev ρ).c i).cells:=by
  intro l
  induction l with
  |nil=>rfl
  |cons i l ih=>simp only[gr,PE.evc,PE.ev,uF,ih]
 show D.agg _=_;rw[key];rfl
end Cx
namespace Cx
open Go Go.RowKit
def aT (n:Int):Prop:=-9223372036854775808≤n∧n≤9223372036854775807
def ints (l:List Int):D:=.list (l.map .int)
theorem cY {n:Int}(h:-9223372036854775808≤n∧n≤9223372036854775807):IntKind.i64.wrap n=n:=by
 simp only[IntKind.wrap,IntKind.signed,IntKind.bits];simp;split<;>omega
theorem DTy.int_inv {k:IntKind}{d:D}(h:DTy (.int k) d):∃n,d=.v (.int k n)∧k.min≤n∧n≤k.max:=by
 cases h with
 |int k n h1 h2=>exact⟨n,rfl,h1,h2⟩
 |other t d h=>exact h.elim
theorem DTy.i64_inv {d:D}(h:DTy (.int .i64) d):∃n,d=.int n∧aT n:=by
 obtain⟨n,rfl,h1,h2⟩:=h.int_inv;exact⟨n,rfl,by simpa [IntKind.min,IntKind.max,IntKind.signed,IntKind.bits] using h1,by simpa [IntKind.min,IntKind.max,IntKind.signed,IntKind.bits] using h2⟩
theorem DTy.bool_inv {d:D}(h:DTy .bool d):∃b,d=.bool b:=by
 cases h with
 |bool b=>exact⟨b,rfl⟩
 |other t d h=>exact h.elim
theorem DTy.slice_inv {e:Ty}{d:D}(h:DTy (.slice e) d):∃xs,d=.list xs∧xs.length≤maxLen∧∀x,x∈xs→DTy e.unf x:=by
 cases h with
 |slice e xs hm h=>exact⟨xs,rfl,hm,h⟩
 |other t d h=>exact h.elim
theorem DTy.agg_inv {ts:List Ty}{d:D}(h:DTy (.agg ts) d):∃ds,d=.agg ds∧DTys ts ds:=by
 cases h with
 |agg ts ds h=>exact⟨ds,rfl,h⟩
 |other t d h=>exact h.elim
theorem DTys.cons_inv {t:Ty}{ts:List Ty}{ds:List D}(h:DTys (t::ts) ds):∃d ds',ds=d::ds'∧DTy t d∧DTys ts ds':=by
 cases h with
 |cons h hs=>exact⟨_,_,rfl,h,hs⟩
theorem DTys.nil_inv {ds:List D}(h:DTys [] ds):ds=[]:=by cases h;rfl
theorem jU {α:Type}{enc:α→D}{P:α→Prop}{xs:List D}(h:∀x,x∈xs→∃a,x=enc a∧P a):∃l:List α,xs=l.map enc∧∀a,a∈l→P a:=by
 induction xs with
 |nil=>exact⟨[],rfl,fun _ h=>nomatch h⟩
 |cons x xs ih=>
  obtain⟨l,hl,hp⟩:=ih fun y hy=>h y (dk _ hy);obtain⟨a,ha,pa⟩:=h x (dp ..)
  exact⟨a::l,by rw[hl,ha];rfl,fun b hb=>by
   rcases cM.1 hb with e|hb
   ·rw[e];exact pa
   ·exact hp b hb⟩
theorem DTy.ints_inv {d:D}(h:DTy (.slice (.int .i64)) d):∃l:List Int,d=ints l∧l.length≤maxLen∧∀x,x∈l→aT x:=by
 obtain⟨xs,rfl,hm,hx⟩:=h.slice_inv;obtain⟨l,rfl,hl⟩:=jU (enc:=D.int) (P:=aT) fun x hh=>(hx x hh).i64_inv;exact⟨l,rfl,by simpa using hm,hl⟩
section
variable (ρ:Env) (T:cq)
@[simp] theorem aum (t:Nat):PE.ev ρ (.r t)=ρ.r t:=_root_.id rfl
@[simp] theorem auj (t:Nat):PE.ev ρ (.o t)=ρ.o t:=_root_.id rfl
@[simp] theorem at3 (d:D):PE.ev ρ (.con d)=d:=_root_.id rfl
@[simp] theorem at0 (e:PE)(i:Nat):PE.ev ρ (.cell e i)=(PE.ev ρ e).c i:=_root_.id rfl
@[simp] theorem auw (e:PE)(a n:Nat):PE.ev ρ (.sub e a n)=.agg (((PE.ev ρ e).cells.drop a).take n):=_root_.id rfl
@[simp] theorem aup (e x:PE)(n:Nat):PE.ev ρ (.setc e n x)=.agg (eF (PE.ev ρ e).cells n (PE.ev ρ x).cells):=_root_.id rfl
@[simp] theorem auc (es:List PE):PE.ev ρ (.mk es)=.agg (PE.evc ρ es):=_root_.id rfl
@[simp] theorem atV (op:BinOp)(k:IntKind)(x y:PE):PE.ev ρ (.ai op k x y)=.v (.int k (eH op k (PE.ev ρ x).i (PE.ev ρ y).i)):=_root_.id rfl
@[simp] theorem at1 (op:BinOp)(x y:PE):PE.ev ρ (.ci op x y)=.v (.bool (iW op (PE.ev ρ x).i (PE.ev ρ y).i)):=_root_.id rfl
@[simp] theorem atZ (op:BinOp)(x y:PE):PE.ev ρ (.cb op x y)=.v (.bool (ym op (PE.ev ρ x).b (PE.ev ρ y).b)):=_root_.id rfl
@[simp] theorem at5 (op:BinOp)(x y:PE):PE.ev ρ (.cs op x y)=.v (.bool (yo op (PE.ev ρ x).s (PE.ev ρ y).s)):=_root_.id rfl
@[simp] theorem auh (x:PE):PE.ev ρ (.nt x)=.v (.bool (!(PE.ev ρ x).b)):=_root_.id rfl
@[simp] theorem at4 (k:IntKind)(x:PE):PE.ev ρ (.conv k x)=.v (.int k (k.wrap (PE.ev ρ x).i)):=_root_.id rfl
@[simp] theorem auk (c a b:PE):PE.ev ρ (.pick c a b)=if(PE.ev ρ c).b=true then PE.ev ρ a else PE.ev ρ b:=by
  simp only[PE.ev];cases(PE.ev ρ c).b<;>rfl
@[simp] theorem aud (n:Nat)(e:PE):PE.ev ρ (aB n e)=j9 n (PE.ev ρ e):=afj ρ n e
@[simp] theorem atY (x:PE):PE.ev ρ (.bytes x)=.list ((PE.ev ρ x).s.data.toList.map fun b=>.v (.int .u8 b.toNat)):=_root_.id rfl
@[simp] theorem aua (x:PE):PE.ev ρ (.llen x)=.v (.int .i64 (PE.ev ρ x).l.length):=_root_.id rfl
@[simp] theorem aut (x:PE):PE.ev ρ (.slen x)=.v (.int .i64 (PE.ev ρ x).s.size):=_root_.id rfl
@[simp] theorem aue (x:PE):PE.ev ρ (.mlen x)=.v (.int .i64 (PE.ev ρ x).m.length):=_root_.id rfl
@[simp] theorem aui (x i:PE):PE.ev ρ (.nth x i)=(PE.ev ρ x).l.getD (PE.ev ρ i).i.toNat .none:=_root_.id rfl
@[simp] theorem at7 (x i:PE):PE.ev ρ (.idx x i)=.v (.bool (decide (0≤(PE.ev ρ i).i∧(PE.ev ρ i).i<(PE.ev ρ x).l.length))):=_root_.id rfl
@[simp] theorem auq (x i y:PE)(n:Nat):PE.ev ρ (.setn x i n y)=.list ((PE.ev ρ x).l.set (PE.ev ρ i).i.toNat (uk ((PE.ev ρ x).l.getD (PE.ev ρ i).i.toNat .none) n (PE.ev ρ y))):=_root_.id rfl
@[simp] theorem atX (x y:PE):PE.ev ρ (.app x y)=.list ((PE.ev ρ x).l++(PE.ev ρ y).l):=_root_.id rfl
@[simp] theorem aub (es:List PE):PE.ev ρ (.lst es)=.list (PE.evs ρ es):=_root_.id rfl
@[simp] theorem auo (x y:PE):PE.ev ρ (.rep x y)=.list (List.replicate (PE.ev ρ x).i.toNat (PE.ev ρ y)):=_root_.id rfl
@[simp] theorem aus (x a b:PE):PE.ev ρ (.slc x a b)=.list (((PE.ev ρ x).l.take (PE.ev ρ b).i.toNat).drop (PE.ev ρ a).i.toNat):=_root_.id rfl
@[simp] theorem auu (x a b:PE):PE.ev ρ (.slok x a b)=.v (.bool (decide (0≤(PE.ev ρ a).i∧(PE.ev ρ a).i≤(PE.ev ρ b).i∧(PE.ev ρ b).i≤(PE.ev ρ x).l.length))):=_root_.id rfl
@[simp] theorem aun (x:PE):PE.ev ρ (.ref x)=.ref (PE.ev ρ x):=_root_.id rfl
@[simp] theorem at6 (x:PE):PE.ev ρ (.deref x)=(PE.ev ρ x).deref:=_root_.id rfl
@[simp] theorem aul (m k v:PE):PE.ev ρ (.put m k v)=.map (ky (PE.ev ρ k) (PE.ev ρ v) (PE.ev ρ m).m):=_root_.id rfl
@[simp] theorem auf (x y:PE):PE.ev ρ (.mn x y)=if(PE.ev ρ y).i<(PE.ev ρ x).i then PE.ev ρ y else PE.ev ρ x:=by
  simp only[PE.ev];by_cases h:(PE.ev ρ y).i<(PE.ev ρ x).i<;>simp[h]
@[simp] theorem aug (x y:PE):PE.ev ρ (.mx x y)=if(PE.ev ρ y).i>(PE.ev ρ x).i then PE.ev ρ y else PE.ev ρ x:=by
  simp only[PE.ev];by_cases h:(PE.ev ρ y).i>(PE.ev ρ x).i<;>simp[h]
@[simp] theorem auz (es:List PE):PE.ev ρ (.tup es)=.tup (PE.evs ρ es):=_root_.id rfl
@[simp] theorem auy (x:PE)(i:Nat):PE.ev ρ (.tget x i)=(PE.ev ρ x).tget i:=_root_.id rfl
@[simp] theorem at2 (f:Nat)(es:List PE):PE.ev ρ (.clo f es)=.clo f (PE.evs ρ es):=_root_.id rfl
@[simp] theorem atW (x y:PE):PE.ev ρ (.an x y)=.v (.bool ((PE.ev ρ x).b&&(PE.ev ρ y).b)):=_root_.id rfl
@[simp] theorem auD:PE.evs ρ []=[]:=_root_.id rfl
@[simp] theorem auC (e:PE)(es:List PE):PE.evs ρ (e::es)=PE.ev ρ e::PE.evs ρ es:=_root_.id rfl
@[simp] theorem auB:PE.evc ρ []=[]:=_root_.id rfl
@[simp] theorem auA (e:PE)(es:List PE):PE.evc ρ (e::es)=(PE.ev ρ e).cells++PE.evc ρ es:=_root_.id rfl
@[simp] theorem atx (x:Bool):(D.bool x).b=x:=_root_.id rfl
@[simp] theorem atO (k:IntKind)(n:Int):(D.v (.int k n)).i=n:=_root_.id rfl
@[simp] theorem aej (n:Int):(D.int n).i=n:=_root_.id rfl
@[simp] theorem atJ (x:List D):(D.list x).l=x:=_root_.id rfl
@[simp] theorem atH (l:List Int):(ints l).l=l.map .int:=_root_.id rfl
@[simp] theorem atK (x:List (D×D)):(D.map x).m=x:=_root_.id rfl
@[simp] theorem atv (x:List D)(i:Nat):(D.agg x).c i=x.getD i .none:=_root_.id rfl
@[simp] theorem atw (x:List D):(D.agg x).cells=x:=_root_.id rfl
@[simp] theorem atI (x:List D):(D.list x).cells=[.list x]:=_root_.id rfl
@[simp] theorem atG (x:List Int):(ints x).cells=[ints x]:=_root_.id rfl
@[simp] theorem atC (n:Int):(D.int n).cells=[.int n]:=_root_.id rfl
@[simp] theorem aty (n:Bool):(D.bool n).cells=[.bool n]:=_root_.id rfl
@[simp] theorem atN (x:Value):(D.v x).cells=[.v x]:=_root_.id rfl
@[simp] theorem atM (x:List D)(i:Nat):(D.tup x).tget i=x.getD i .none:=_root_.id rfl
@[simp] theorem atL (x:D):(D.ref x).deref=x:=_root_.id rfl
@[simp] theorem awH (s:SE)(t:Nat):(s.ev ρ).r t=PE.ev ρ (s.getR t):=_root_.id rfl
@[simp] theorem awG (s:SE)(t:Nat):(s.ev ρ).o t=PE.ev ρ (s.getO t):=_root_.id rfl
@[simp] theorem auN (o:List (Nat×PE))(u:Nat):SE.getR ⟨[],o⟩ u=.r u:=_root_.id rfl
@[simp] theorem auM (t:Nat)(e:PE)(r o:List (Nat×PE))(u:Nat):SE.getR ⟨(t,e)::r,o⟩ u=if t=u then e else SE.getR ⟨r,o⟩ u:=by
  simp only[SE.getR,aY];by_cases h:t=u
  ·subst h;simp
  ·simp[dY h,h]
@[simp] theorem auL (r:List (Nat×PE))(u:Nat):SE.getO ⟨r,[]⟩ u=.o u:=_root_.id rfl
@[simp] theorem auK (t:Nat)(e:PE)(r o:List (Nat×PE))(u:Nat):SE.getO ⟨r,(t,e)::o⟩ u=if t=u then e else SE.getO ⟨r,o⟩ u:=by
  simp only[SE.getO,aY];by_cases h:t=u
  ·subst h;simp
  ·simp[dY h,h]
@[simp] theorem setR_r (t u:Nat)(d:D):(ρ.setR t d).r u=if u=t then d else ρ.r u:=Env.setR_r ρ t u d
@[simp] theorem awN (t u:Nat)(d:D):(ρ.setR t d).o u=ρ.o u:=_root_.id rfl
@[simp] theorem setO_o (t u:Nat)(d:D):(ρ.setO t d).o u=if u=t then d else ρ.o u:=Env.setO_o ρ t u d
@[simp] theorem awM (t u:Nat)(d:D):(ρ.setO t d).r u=ρ.r u:=_root_.id rfl
@[simp] theorem awo (lr lo:List Nat)(vr vo:List D)(u:Nat):(ρ.put lr vr lo vo).r u=putL ρ.r lr vr u:=_root_.id rfl
@[simp] theorem awn (lr lo:List Nat)(vr vo:List D)(u:Nat):(ρ.put lr vr lo vo).o u=putL ρ.o lo vo u:=_root_.id rfl
@[simp] theorem join_r (ρ':Env)(lr lo:List Nat)(u:Nat):(ρ.join lr lo ρ').r u=if u∈lr then ρ'.r u else ρ.r u:=Env.join_r ρ ρ' lr lo u
@[simp] theorem join_o (ρ':Env)(lr lo:List Nat)(u:Nat):(ρ.join lr lo ρ').o u=if u∈lo then ρ'.o u else ρ.o u:=Env.join_o ρ ρ' lr lo u
@[simp] theorem awl (f:Nat→D)(i:Nat)(is:List Nat)(x:D)(xs:List D)(u:Nat):putL f (i::is) (x::xs) u=if u=i then x else putL f is xs u:=Ih f i is x xs u
@[simp] theorem awm (f:Nat→D)(xs:List D)(u:Nat):putL f [] xs u=f u:=Ii f xs u
@[simp] theorem atQ (ds:List D)(u:Nat):(kG ds).r u=ds.getD u .none:=_root_.id rfl
@[simp] theorem avg:holds [] ρ=true:=_root_.id rfl
@[simp] theorem avf (g:Nat×Bool)(gs:List (Nat×Bool)):holds (g::gs) ρ=((ρ.r g.1).b==g.2&&holds gs ρ):=_root_.id rfl
variable (Q:Out→Prop)
@[simp] theorem axn (s:SE):aE T (.next s) ρ Q=Q (.next (s.ev ρ)):=_root_.id rfl
@[simp] theorem axk (id:Nat)(s:SE):aE T (.exit id s) ρ Q=Q (.exit id (s.ev ρ)):=_root_.id rfl
@[simp] theorem axo (e:PE):aE T (.ret e) ρ Q=Q (.ret (e.ev ρ)):=_root_.id rfl
@[simp] theorem axj (e:PE)(k:PT):aE T (.chk e k) ρ Q=((e.ev ρ).b=true∧aE T k ρ Q):=_root_.id rfl
@[simp] theorem axl (c:PE)(a b:PT):aE T (.ite c a b) ρ Q=if(c.ev ρ).b=true then aE T a ρ Q else aE T b ρ Q:=_root_.id rfl
@[simp] theorem axh (s:SE)(gs:List (Nat×Bool))(dst f:Nat)(args:List PE)(k:PT):aE T (.call s gs dst f args k) ρ Q=if holds gs (s.ev ρ)=true then ∃d,ak T f (PE.evs ρ args) d∧aE T k ((s.ev ρ).setR dst d) Q else aE T k (s.ev ρ) Q:=_root_.id rfl
@[simp] theorem axm (s:SE)(c:PE)(lr lo:List Nat)(a b k:PT):aE T (.iteS s c lr lo a b k) ρ Q=if(c.ev ρ).b=true then aE T a (s.ev ρ) (kp (s.ev ρ) lr lo (gF (fun ρ'=>aE T k ρ' Q) Q)) else aE T b (s.ev ρ) (kp (s.ev ρ) lr lo (gF (fun ρ'=>aE T k ρ' Q) Q)):=_root_.id rfl
@[simp] theorem axf (s:SE)(id:Nat)(lr lo:List Nat)(a k:PT):aE T (.blockS s id lr lo a k) ρ Q=aE T a (s.ev ρ) (lj (s.ev ρ) id lr lo (gF (fun ρ'=>aE T k ρ' Q) Q)):=_root_.id rfl
@[simp] theorem axg (s:SE)(c:PC)(k:PT):aE T (.brk s c k) ρ Q=aS T c (s.ev ρ) (gF (fun ρ'=>aE T k ρ' Q) Q):=_root_.id rfl
variable (K:Env→Prop) (id:Nat) (lr lo bo bn:List Nat) (K2:List D→List D→Prop)
@[simp] theorem awK (ρ':Env):gF K Q (.next ρ')=K ρ':=_root_.id rfl
@[simp] theorem awJ (i:Nat)(ρ':Env):gF K Q (.exit i ρ')=Q (.exit i ρ'):=_root_.id rfl
@[simp] theorem awL (d:D):gF K Q (.ret d)=Q (.ret d):=_root_.id rfl
@[simp] theorem avy (ρ':Env):kp ρ lr lo Q (.next ρ')=Q (.next (ρ.join lr lo ρ')):=_root_.id rfl
@[simp] theorem avz (d:D):kp ρ lr lo Q (.ret d)=Q (.ret d):=_root_.id rfl
@[simp] theorem ate (ρ':Env):lj ρ id lr lo Q (.next ρ')=Q (.next (ρ.join lr lo ρ')):=_root_.id rfl
@[simp] theorem atd (i:Nat)(ρ':Env):lj ρ id lr lo Q (.exit i ρ')=if i=id then Q (.next (ρ.join lr lo ρ')) else Q (.exit i ρ'):=_root_.id rfl
@[simp] theorem atf (d:D):lj ρ id lr lo Q (.ret d)=Q (.ret d):=_root_.id rfl
@[simp] theorem awD (ρ':Env):eO ρ id bo bn lr lo K2 Q (.next ρ')=K2 (lr.map ρ'.r) (lo.map ρ'.o):=_root_.id rfl
@[simp] theorem awC (i:Nat)(ρ':Env):eO ρ id bo bn lr lo K2 Q (.exit i ρ')=if i=id then Q (.next (ρ.put bo (bo.map ρ'.r) bn (bn.map ρ'.o))) else Q (.exit i ρ'):=_root_.id rfl
@[simp] theorem awE (d:D):eO ρ id bo bn lr lo K2 Q (.ret d)=Q (.ret d):=_root_.id rfl
@[simp] theorem axi (s:SE)(gs:List (Nat×Bool))(dst:Nat)(e:PE)(args:List PE)(k:PT):aE T (.callc s gs dst e args k) ρ Q=if holds gs (s.ev ρ)=true then ∃f caps d,e.ev ρ=.clo f caps∧ak T f (PE.evs ρ args++caps) d∧aE T k ((s.ev ρ).setR dst d) Q else aE T k (s.ev ρ) Q:=_root_.id rfl
@[simp] theorem atP (rt:Option PE)(K3:List D→Prop)(i:Nat)(ρ':Env):sV ρ lo rt K3 Q (.exit i ρ')=if i=cD then ∃e,rt=some e∧Q (.ret (e.ev (ρ.put [] [] lo (lo.map ρ'.o)))) else Q (.exit i (ρ.put [] [] lo (lo.map ρ'.o))):=_root_.id rfl
@[simp] theorem atT (J:Nat)(ds:List D)(u:Nat):(yw J ds).r u=(D.none::ds).getD u .none:=_root_.id rfl
theorem afg (J:Nat)(ds:List D)(u:Nat):(yw J ds).o u=if u=J then .list [] else .none:=by
 show(bif Nat.beq u J then D.list [] else .none)=_;by_cases h:u=J
 ·subst h;simp
 ·simp[dY h,h]
@[simp] theorem awk (p:Nat)(x:D):partsOf [p] x=[x.tget 0]:=_root_.id rfl
end
section
variable (k:IntKind) (a b:Int)
@[simp] theorem as6:eH .add k a b=k.wrap (a+b):=_root_.id rfl
@[simp] theorem ata:eH .sub k a b=k.wrap (a-b):=_root_.id rfl
@[simp] theorem as7:eH .mul k a b=k.wrap (a*b):=_root_.id rfl
@[simp] theorem as8:eH .quo k a b=k.wrap (a.tdiv b):=_root_.id rfl
@[simp] theorem as9:eH .rem k a b=a.tmod b:=_root_.id rfl
@[simp] theorem atn:iW .eql a b=(a==b):=_root_.id rfl
@[simp] theorem ats:iW .neq a b=(a !=b):=_root_.id rfl
@[simp] theorem atr:iW .lss a b=decide (a<b):=_root_.id rfl
@[simp] theorem atq:iW .leq a b=decide (a≤b):=_root_.id rfl
@[simp] theorem atp:iW .gtr a b=decide (a>b):=_root_.id rfl
@[simp] theorem ato:iW .geq a b=decide (a≥b):=_root_.id rfl
variable (x y:Bool)
@[simp] theorem atg:ym .eql x y=(x==y):=_root_.id rfl
@[simp] theorem ath:ym .neq x y=(!(x==y)):=_root_.id rfl
end
theorem ak.of_tree {tab:Nat→Option PC}{ext:Nat→Option (aK→List D→Option D)}{f:Nat}{pc:PC}{t:PT}{ds:List D}{d:D}(hx:ext f=none)(ht:tab f=some pc)(he:tree pc=t)(h:aE (eG tab ext) t (kG ds) (fun x=>x=.ret d)):ak (eG tab ext) f ds d:=
 .of_pc hx ht (Jx (he▸h))
@[simp] theorem atE (n:Int):D.v (.int .i64 n)=D.int n:=_root_.id rfl
@[simp] theorem atA (b:Bool):D.v (.bool b)=D.bool b:=_root_.id rfl
@[simp] theorem atD (a b:Int):(D.int a=D.int b)=(a=b):=by
  apply propext;constructor
  ·intro h;injection h with h;injection h
  ·intro h;rw[h]
@[simp] theorem atz (a b:Bool):(D.bool a=D.bool b)=(a=b):=by
  apply propext;constructor
  ·intro h;injection h with h;injection h
  ·intro h;rw[h]
section
variable (c:Prop) [Decidable c] (x y:D)
@[simp] theorem avw:(if c then x else y).b=if c then x.b else y.b:=by split<;>rfl
@[simp] theorem avx:(if c then x else y).i=if c then x.i else y.i:=by split<;>rfl
end
@[simp] theorem axp:IntKind.i64.wrap 0=0:=cY (by omega)
end Cx
namespace Cx
open Go
inductive Tm where
 |mk (op n:Int) (args:List Tm)
instance:Inhabited Tm:=⟨.mk 0 0 []⟩
namespace Tm
def op:Tm→Int|.mk o _ _=>o
def n:Tm→Int|.mk _ n _=>n
def args:Tm→List Tm|.mk _ _ aa=>aa
end Tm
mutual
def df:Tm→D
 |.mk o n aa=>.agg [.int o,.int n,.list (Gn aa)]
def Gn:List Tm→List D
 |[]=>[]
 |t::ts=>df t::Gn ts
end
theorem K9:∀l:List Tm,Gn l=l.map df
 |[]=>rfl
 |t::l=>by rw[Gn,K9 l];rfl
theorem BL (t:Tm):df t=.agg [.int t.op,.int t.n,.list (t.args.map df)]:=by
 cases t with
 |mk o n aa=>rw[df,K9];rfl
inductive Tm.OK:Tm→Prop where
 |mk (o n:Int) (aa:List Tm) (h1:aT o) (h2:aT n) (h3:aa.length≤maxLen) (h:∀a,a∈aa→Tm.OK a):Tm.OK (.mk o n aa)
theorem DTy.trm_inv {d:D}(h:DTy .trmA d):∃t:Tm,d=df t∧t.OK:=by
 suffices hs:∀(m:Nat) (d:D),sizeOf d≤m→DTy .trmA d→∃t:Tm,d=df t∧t.OK from hs _ d (aW _) h
 intro m
 induction m with
 |zero=>
  intro d hm h;cases d<;>simp at hm
 |succ m ih=>
  intro d hm h;obtain⟨ds,rfl,hs⟩:=DTy.agg_inv h;obtain⟨d1,ds,rfl,h1,hs⟩:=hs.cons_inv;obtain⟨d2,ds,rfl,h2,hs⟩:=hs.cons_inv;obtain⟨d3,ds,rfl,h3,hs⟩:=hs.cons_inv;obtain rfl:=hs.nil_inv;obtain⟨o,rfl,b1⟩:=h1.i64_inv;obtain⟨n,rfl,b2⟩:=h2.i64_inv;obtain⟨xs,rfl,hl,hx⟩:=h3.slice_inv
  obtain⟨l,rfl,au⟩:=jU (enc:=df) (P:=Tm.OK) fun x hh=>ih x (by
   have:=List.sizeOf_lt_of_mem hh;simp at hm;omega) (hx x hh)
  exact⟨.mk o n l,by rw[df,K9],.mk o n l b1 b2 (by simpa using hl) au⟩
theorem DTy.trms_inv {d:D}(h:DTy (.slice .trm) d):∃l:List Tm,d=.list (l.map df)∧l.length≤maxLen∧∀t,t∈l→t.OK:=by
 obtain⟨xs,rfl,hl,hx⟩:=h.slice_inv;obtain⟨l,rfl,au⟩:=jU (enc:=df) (P:=Tm.OK) fun x hh=>DTy.trm_inv (hx x hh);exact⟨l,rfl,by simpa using hl,au⟩
end Cx
namespace Cx
open Go
def Jh (g:Nat)(zs:List Int):Nat→Option (Ty×D):=fun k=>bif Nat.beq k g then some (.agg (zs.map fun _=>.int .i64),.agg (zs.map fun z=>.v (.int .i64 z))) else none
theorem an9 {C:Ctx}{g:Nat}{zs:List Int}{name:String}{W:World}(hC:C.glob=Jh g zs)(hg:C.P.globalNamed name=some g)(hz:zs.all (fun z=>decide (IntKind.i64.min≤z)&&decide (z≤IntKind.i64.max))=true)
 (h:Lib.TabIs C.P W name .i64 zs) (h0:g=0:=by rfl) (ay:0<zs.length:=by decide):CtxOK C (kl W):=by
 have tp:∀g' x,C.glob g'=some x→g'=g:=fun g' x hx=>by
  rw[hC] at hx;unfold Jh at hx;cases hk:Nat.beq g' g<;>simp only[hk,cond_true,cond_false] at hx
  ·cases hx
  ·exact av hk
 refine⟨fun k x hx=>?_,fun k x hx=>?_⟩
 rotate_right
 ·obtain rfl:=tp k x hx;exact Wm (h.cell hg 0 ay)
 rw[hC] at hx;unfold Jh at hx;cases hk:Nat.beq k g<;>simp only[hk,cond_true,cond_false] at hx
 ·cases hx
 cases hx;obtain rfl:=av hk
 have rF:Rep C.cap (kl W) (.agg (zs.map fun _=>.int .i64)) (.agg (zs.map fun z=>Value.int .i64 z).toArray) (.agg (zs.map fun z=>.v (.int .i64 z))):=by
  refine .agg _ _ _ (by simp) (by simp) (fun i t ht=>?_) (fun i t ht=>?_)
  ·rw[cg,ax] at ht;obtain⟨z,rL,rfl⟩:=ht;rw[aG,aG,cg,cg,rL];have:=bz.1 hz z (jn rL);simp only[aj,decide_eq_true_eq] at this;exact .int _ _ this.1 this.2
  ·rw[cg,ax] at ht;obtain⟨z,_,rfl⟩:=ht;rfl
 refine .ref _ k 0 _ _ rF fun j u hu=>?_;simp only[Value.cells,EW,cg,ax] at hu;obtain⟨z,rL,rfl⟩:=hu;have af:=(eT.1 rL).1;have:=h.cell hg j af;refine Wl ?_ (.inl h0);rw[gw,this,aG,rL];rfl
end Cx
namespace Cx
open Go Go.RowKit
def loops:PC→List PC
 |.seq a b=>loops a++loops b
 |.ite _ _ _ a b=>loops a++loops b
 |.block id lr lo (.loop Nt No a)=>loops a++[.block id lr lo (.loop Nt No a)]
 |.block _ _ _ a=>loops a
 |.loop _ _ a=>loops a
 |.each e ps lo rt a=>loops a++[.each e ps lo rt a]
 |.meach J ps cS lo a=>loops a++[.meach J ps cS lo a]
 |_=>[]
def KI:PC→PC
 |.block _ _ _ (.loop _ _ a)=>a
 |.each _ _ _ _ a=>a
 |.meach _ _ _ _ a=>a
 |_=>.skip
def HF (c:PC)(k:Nat):PC:=(loops c).getD k .skip
def rnd:PC→PT
 |.block id lr lo (.loop Nt No a)=>round id lr lo Nt No a
 |.each _ _ lo _ a=>pw lo a
 |.meach _ _ _ lo a=>pw lo a
 |_=>.next .id
inductive Shp where
 |lp (id:Nat) (bo bn lr lo:List Nat)
 |ea (lo:List Nat)
 |no
def Am:PC→Shp
 |.block id bo bn (.loop lr lo _)=>.lp id bo bn lr lo
 |.each _ _ lo _ _=>.ea lo
 |.meach _ _ _ lo _=>.ea lo
 |_=>.no
def told (c:PC):PT×List (Shp×PT):=(tree c,(loops c).map fun l=>(Am l,rnd l))
theorem Jl {o:Option PC}{t:PT}{l:List (Shp×PT)}(h:o.map told=some (t,l)):o=some (o.getD .skip)∧tree (o.getD .skip)=t∧∀k x,l[k]?=some x→(Am (HF (o.getD .skip) k),rnd (HF (o.getD .skip) k))=x:=by
 cases o with
 |none=>cases h
 |some c=>
  have h1:told c=(t,l):=by injection h
  unfold told at h1;injection h1 with h1 h2
  refine⟨rfl,h1,fun k x hx=>?_⟩;subst h2;simp only[cg,ax] at hx;obtain⟨y,hy,rfl⟩:=hx;have:HF ((some c:Option PC).getD .skip) k=y:=by
   show(loops c).getD k .skip=y;rw[aG,hy];rfl
  rw[this]
theorem am7 {c:PC}{id:Nat}{bo bn lr lo:List Nat}{t:PT}(h:(Am c,rnd c)=(.lp id bo bn lr lo,t)):round id bo bn lr lo (KI c)=t:=by
 injection h with h1 h2
 subst h2;unfold Am at h1;split at h1
 ·cases h1;rfl
 all_goals cases h1
theorem ae4 {c:PC}{lo:List Nat}{t:PT}(h:(Am c,rnd c)=(.ea lo,t)):pw lo (KI c)=t:=by
 injection h with h1 h2
 subst h2;unfold Am at h1;split at h1
 ·cases h1
 ·cases h1;rfl
 ·cases h1;rfl
 ·cases h1
def ct {α:Type}(x:α):α:=Classical.choose (⟨x,rfl⟩:∃y,y=x)
theorem Cl {α:Type}(x:α):ct x=x:=SA (⟨x,rfl⟩:∃y,y=x)
def bA (o:Option PC):Nat→PC:=fun k=>KI (HF (o.getD .skip) k)
abbrev ae (o:Option PC):PC:=ct (o.getD .skip)
abbrev bB (o:Option PC):Nat→PC:=ct (bA o)
section
variable {o:Option PC} {F:(Nat→PC)→PT×List (Shp×PT)}
theorem aoq (h:o.map told=some (F (bA o))):o=some (ae o):=by unfold ae;rw[Cl];exact(Jl (t:=(F (bA o)).1) (l:=(F (bA o)).2) h).1
theorem cd (h:o.map told=some (F (bA o))):tree (ae o)=(F (bB o)).1:=by unfold ae bB;rw[Cl,Cl];exact(Jl (t:=(F (bA o)).1) (l:=(F (bA o)).2) h).2.1
theorem bx (h:o.map told=some (F (bA o)))(k:Nat){id:Nat}{bo bn lr lo:List Nat}{t:(Nat→PC)→PT}(hk:∀b,(F b).2[k]?=some (.lp id bo bn lr lo,t b)):round id bo bn lr lo (bB o k)=t (bB o):=by
 unfold bB;rw[Cl];exact am7 ((Jl (t:=(F (bA o)).1) (l:=(F (bA o)).2) h).2.2 k _ (hk _))
theorem Qh (h:o.map told=some (F (bA o)))(k:Nat){lo:List Nat}{t:(Nat→PC)→PT}(hk:∀b,(F b).2[k]?=some (.ea lo,t b)):pw lo (bB o k)=t (bB o):=by
 unfold bB;rw[Cl];exact ae4 ((Jl (t:=(F (bA o)).1) (l:=(F (bA o)).2) h).2.2 k _ (hk _))
end
theorem aH {α:Type}{R:Nat→α→Prop}{f:Nat}{x:α}{l:List (Nat×α)}(h:R f x)(k:ER R l):ER R ((f,x)::l):=⟨h,k⟩
theorem nr {α:Type}:∀{l:List (Nat×α)},(l.map (·.1)).Nodup→∀{k f:Nat} {x:α},l[k]?=some (f,x)→aY l f=some x
 |[],_,k,f,x,h=>by simp at h
 |y::l,hn,0,f,x,h=>by
  simp only[JM,aQ] at h;subst h;simp[aY]
 |y::l,hn,k+1,f,x,h=>by
  simp only[EV] at h;rw[gr,l0] at hn;have hm:f∈l.map (·.1):=dP.2 ⟨(f,x),jn h,rfl⟩;have hb:Nat.beq y.1 f=false:=by
   cases e:Nat.beq y.1 f with
   |false=>rfl
   |true=>rw[cI e] at hn;exact absurd hm hn.1
  simp only[aY,hb,cond_false];exact nr hn.2 h
abbrev pT:PE:=.con (.bool true)
abbrev pF:PE:=.con (.bool false)
abbrev pN:PE:=.con .none
abbrev pL:PE:=.con (.list [])
abbrev pi (n:Int):PE:=.con (.int n)
abbrev aP (a b:PE):PE:=.ai .add .i64 a b
abbrev bZ (a b:PE):PE:=.ai .sub .i64 a b
abbrev peq (a b:PE):PE:=.ci .eql a b
abbrev bk (a b:PE):PE:=.ci .neq a b
abbrev ao (a b:PE):PE:=.ci .lss a b
abbrev bY (a b:PE):PE:=.ci .leq a b
abbrev bp (a b:PE):PE:=.ci .gtr a b
abbrev dx (a b:PE):PE:=.ci .geq a b
abbrev pc (a:PE)(i:Nat):PE:=.cell a i
abbrev pn (a b:PE):PE:=.nth a b
abbrev az (a b:PE):PE:=.idx a b
abbrev z2:PE:=.con (.agg [(.int 0),(.int 0)])
abbrev z3:PE:=.con (.agg [(.int 0),(.int 0),(.int 0)])
abbrev z4:PE:=.con (.agg [(.int 0),(.int 0),(.int 0),(.int 0)])
abbrev z5:PE:=.con (.agg [(.int 0),(.int 0),(.int 0),(.int 0),(.int 0)])
abbrev z6:PE:=.con (.agg [(.int 0),(.int 0),(.int 0),(.int 0),(.int 0),(.int 0)])
abbrev z9:PE:=.con (.agg [(.int 0),(.int 0),(.int 0),(.int 0),(.int 0),(.int 0),(.int 0),(.int 0),(.int 0)])
abbrev JD:PE:=.con (.agg [(.int 0),(.int 0),(.int 0),(.int 0),(.int 0),(.int 0),(.int 0),(.int 0),(.int 0),(.int 0),(.int 0),(.int 0),(.int 0),(.int 0),(.int 0)])
abbrev r0:PE:=.r 0
abbrev r1:PE:=.r 1
abbrev r2:PE:=.r 2
abbrev r3:PE:=.r 3
abbrev r4:PE:=.r 4
abbrev r5:PE:=.r 5
abbrev r6:PE:=.r 6
abbrev r7:PE:=.r 7
abbrev r8:PE:=.r 8
abbrev r9:PE:=.r 9
abbrev dL:PE:=.r 10
abbrev bQ:PE:=.r 11
abbrev cj:PE:=.r 12
abbrev eC:PE:=.r 13
abbrev dj:PE:=.r 14
abbrev ji:PE:=.r 15
abbrev eD:PE:=.r 16
abbrev qv:PE:=.r 17
abbrev kz:PE:=.r 18
abbrev iP:PE:=.r 19
abbrev eN:PE:=.r 20
abbrev lM:PE:=.r 21
abbrev Ix:PE:=.r 22
abbrev lN:PE:=.r 23
abbrev oZ:PE:=.r 24
abbrev jZ:PE:=.r 25
abbrev mE:PE:=.r 26
abbrev fS:PE:=.r 27
abbrev rY:PE:=.r 28
abbrev qw:PE:=.r 29
abbrev zY:PE:=.r 30
abbrev tX:PE:=.r 31
abbrev ON:PE:=.r 32
abbrev tY:PE:=.r 33
abbrev ZQ:PE:=.r 34
abbrev wH:PE:=.r 35
abbrev kW:PE:=.r 36
abbrev pf:PE:=.r 37
abbrev jj:PE:=.r 38
abbrev DA:PE:=.r 39
abbrev pg:PE:=.r 40
abbrev rZ:PE:=.r 41
abbrev r42:PE:=.r 42
abbrev sc:PE:=.r 43
abbrev wI:PE:=.r 44
abbrev ph:PE:=.r 45
abbrev Iy:PE:=.r 46
abbrev r47:PE:=.r 47
abbrev qx:PE:=.r 48
abbrev sd:PE:=.r 49
abbrev mF:PE:=.r 50
abbrev Iz:PE:=.r 51
abbrev IA:PE:=.r 52
abbrev r53:PE:=.r 53
abbrev se:PE:=.r 54
abbrev wJ:PE:=.r 55
abbrev mG:PE:=.r 56
abbrev OO:PE:=.r 57
abbrev IB:PE:=.r 58
abbrev OP:PE:=.r 59
abbrev OQ:PE:=.r 60
abbrev DB:PE:=.r 61
abbrev wK:PE:=.r 62
abbrev OR:PE:=.r 63
abbrev IC:PE:=.r 64
abbrev r65:PE:=.r 65
abbrev OS:PE:=.r 66
abbrev sf:PE:=.r 67
abbrev ZR:PE:=.r 68
abbrev sk:PE:=.r 69
abbrev ZS:PE:=.r 70
abbrev ZT:PE:=.r 71
abbrev OT:PE:=.r 72
abbrev OU:PE:=.r 73
abbrev zZ:PE:=.r 74
abbrev DC:PE:=.r 75
abbrev pj:PE:=.r 76
abbrev ZU:PE:=.r 77
abbrev OV:PE:=.r 78
abbrev ZV:PE:=.r 79
abbrev z7:PE:=.r 80
abbrev sl:PE:=.r 81
abbrev kA:PE:=.r 82
abbrev r84:PE:=.r 84
abbrev DD:PE:=.r 85
abbrev r86:PE:=.r 86
abbrev ZW:PE:=.r 87
abbrev ID:PE:=.r 88
abbrev r89:PE:=.r 89
abbrev ZX:PE:=.r 90
abbrev ZY:PE:=.r 91
abbrev DE:PE:=.r 92
abbrev DF:PE:=.r 93
abbrev r94:PE:=.r 94
abbrev r95:PE:=.r 95
abbrev ZZ:PE:=.r 96
abbrev Z0:PE:=.r 97
abbrev Z1:PE:=.r 98
abbrev IE:PE:=.r 99
abbrev ZK:PE:=.r 102
abbrev Iv:PE:=.r 103
abbrev OI:PE:=.r 104
abbrev ZL:PE:=.r 105
abbrev ZM:PE:=.r 106
abbrev OJ:PE:=.r 108
abbrev awp:PE:=.r 109
abbrev awq:PE:=.r 110
abbrev OL:PE:=.r 112
abbrev awr:PE:=.r 113
abbrev aws:PE:=.r 119
abbrev awt:PE:=.r 120
abbrev awu:PE:=.r 121
abbrev awv:PE:=.r 126
abbrev aww:PE:=.r 127
abbrev o0:PE:=.o 0
abbrev o1:PE:=.o 1
abbrev o2:PE:=.o 2
abbrev o3:PE:=.o 3
abbrev o4:PE:=.o 4
abbrev o5:PE:=.o 5
abbrev o6:PE:=.o 6
abbrev o7:PE:=.o 7
abbrev o8:PE:=.o 8
abbrev o9:PE:=.o 9
abbrev cA:PE:=.o 10
abbrev o11:PE:=.o 11
abbrev HQ:PE:=.o 12
abbrev HR:PE:=.o 13
abbrev o14:PE:=.o 14
abbrev o15:PE:=.o 15
abbrev o17:PE:=.o 17
abbrev HS:PE:=.o 45
end Cx
