/-
  Shared texts of this claim.
-/
import Derived.Test.YtefchokhgdmamaaGreatDoorHAI
import Derived.Lib.LaidTab
import Derived.Test.YtefchokhgdmamaaGreatDoorProg
set_option linter.unusedSimpArgs false
set_option linter.unusedVariables false
noncomputable section
namespace Cx
open Go Go.RowKit
structure SE where
 r:List (Nat×PE)
 o:List (Nat×PE)
def SE.getR (s:SE)(t:Nat):PE:=match bx s.r t with|some e=>e|none=>.r t
def SE.getO (s:SE)(t:Nat):PE:=match bx s.o t with|some e=>e|none=>.o t
def SE.setR (s:SE)(t:Nat)(e:PE):SE:=⟨(t,e)::s.r,s.o⟩
def SE.setO (s:SE)(t:Nat)(e:PE):SE:=⟨s.r,(t,e)::s.o⟩
def SE.id:SE:=⟨[],[]⟩
def SE.ev (s:SE)(ρ:Env):Env:=⟨fun t=>(s.getR t).ev ρ,fun t=>(s.getO t).ev ρ⟩
def SE.join (s:SE)(lr lo:List Nat)(s':SE):SE:=⟨lr.map (fun t=>(t,s'.getR t))++s.r,lo.map (fun t=>(t,s'.getO t))++s.o⟩
theorem SE.setR_ev (s:SE)(t:Nat)(e:PE)(ρ:Env):(s.setR t e).ev ρ=(s.ev ρ).setR t (e.ev ρ):=by
 have h:(fun u=>((s.setR t e).getR u).ev ρ)=bO (fun u=>(s.getR u).ev ρ) t (e.ev ρ):=by
  funext u;simp only[SE.getR,SE.setR,bx,fj];by_cases h:t=u
  ·subst h;simp
  ·have h':¬u=t:=fun e=>h e.symm;simp[eX h,h']
 simp only[SE.ev,Env.setR];rw[h];rfl
theorem SE.setO_ev (s:SE)(t:Nat)(e:PE)(ρ:Env):(s.setO t e).ev ρ=(s.ev ρ).setO t (e.ev ρ):=by
 have h:(fun u=>((s.setO t e).getO u).ev ρ)=bO (fun u=>(s.getO u).ev ρ) t (e.ev ρ):=by
  funext u;simp only[SE.getO,SE.setO,bx,fj];by_cases h:t=u
  ·subst h;simp
  ·have h':¬u=t:=fun e=>h e.symm;simp[eX h,h']
 simp only[SE.ev,Env.setO];rw[h];rfl
theorem wc {f:Nat→PE}{l:List (Nat×PE)}{u:Nat}:∀(lr:List Nat),bx (lr.map (fun t=>(t,f t))++l) u=if u∈lr then some (f u) else bx l u
 |[]=>by simp
 |t::lr=>by
  simp only[gz,EA,bx,wc lr,df];by_cases h:t=u
  ·subst h;simp
  ·have h':¬u=t:=fun e=>h e.symm;simp[eX h,h']
theorem SE.join_ev (s s':SE)(lr lo:List Nat)(ρ:Env):(s.join lr lo s').ev ρ=(s.ev ρ).join lr lo (s'.ev ρ):=by
 have h1:∀u,((s.join lr lo s').getR u).ev ρ=((s.ev ρ).join lr lo (s'.ev ρ)).r u:=by
  intro u;rw[Env.join_r];have e:bx (s.join lr lo s').r u=if u∈lr then some (s'.getR u) else bx s.r u:=wc lr;unfold SE.getR;rw[e];by_cases h:u∈lr
  ·simp only[h,if_true];rfl
  ·simp only[h,if_false];rfl
 have h2:∀u,((s.join lr lo s').getO u).ev ρ=((s.ev ρ).join lr lo (s'.ev ρ)).o u:=by
  intro u;rw[Env.join_o];have e:bx (s.join lr lo s').o u=if u∈lo then some (s'.getO u) else bx s.o u:=wc lo;unfold SE.getO;rw[e];by_cases h:u∈lo
  ·simp only[h,if_true];rfl
  ·simp only[h,if_false];rfl
 have e1:(fun u=>((s.join lr lo s').getR u).ev ρ)=((s.ev ρ).join lr lo (s'.ev ρ)).r:=funext h1;have e2:(fun u=>((s.join lr lo s').getO u).ev ρ)=((s.ev ρ).join lr lo (s'.ev ρ)).o:=funext h2;show Env.mk _ _=_;rw[e1,e2]
abbrev bV:=List (PE×Bool)
def bV.ok (ab:bV)(ρ:Env):Prop:=∀x,x∈ab→(x.1.ev ρ).b=x.2
def EU (e:PE):bV→Option Bool
 |[]=>none
 |x::l=>bif PE.beq x.1 e then some x.2 else EU e l
theorem SJ {e:PE}{ρ:Env}{b:Bool}:∀{ab:bV},ab.ok ρ→EU e ab=some b→(e.ev ρ).b=b
 |[],_,h=>by cases h
 |x::l,ax,h=>by
  simp only[EU] at h;cases hb:PE.beq x.1 e<;>simp only[hb,cond_true,cond_false] at h
  ·exact SJ (fun y hy=>ax y (dz _ hy)) h
  ·cases h;rw[←PE.beq_eq _ _ hb];exact ax x (dG ..)
def uH (ab:bV):PE→Option Bool
 |.con (.v (.bool b))=>some b
 |.nt x=>(uH ab x).map (!·)
 |e=>EU e ab
theorem wT {ab:bV}{ρ:Env}(h:ab.ok ρ):∀{e:PE} {b:Bool},uH ab e=some b→(e.ev ρ).b=b
 |.con (.v (.bool b)),b',he=>by simp only[uH,aO] at he;subst he;rfl
 |.nt x,b',he=>by
  simp only[uH,av] at he;obtain⟨c,hc,rfl⟩:=he;simp only[PE.ev,D.b_bool,wT h hc]
 |e,b',he=>by
  unfold uH at he;split at he
  ·cases he;rfl
  ·rename_i x;simp only[av] at he;obtain⟨c,hc,rfl⟩:=he;simp only[PE.ev,D.b_bool,wT h hc]
  ·exact SJ h he
def rU (ab:bV)(c a b:PE):PE:=match uH ab c with|some true=>a|some false=>b|none=>.pick c a b
theorem Oh {ab:bV}{ρ:Env}(h:ab.ok ρ)(c a b:PE):(rU ab c a b).ev ρ=(PE.pick c a b).ev ρ:=by
 unfold rU;split
 ·rename_i ht;simp[PE.ev,wT h ht]
 ·rename_i ht;simp[PE.ev,wT h ht]
 ·rfl
def KP:PE→PE
 |.ref x=>x
 |x=>.deref x
theorem acn (x:PE)(ρ:Env):(KP x).ev ρ=(PE.deref x).ev ρ:=by unfold KP;split<;>rfl
def PY:PE→Nat→PE
 |.tup es,i=>es.getD i (.con .none)
 |x,i=>.tget x i
theorem aml (x:PE)(i:Nat)(ρ:Env):(PY x i).ev ρ=(PE.tget x i).ev ρ:=by
 unfold PY;split
 ·rename_i es;simp only[PE.ev,D.tget_tup,PE.evs_eq,aF,cA];cases es[i]?<;>rfl
 ·rfl
def C4:PE→Bool
 |.ai ..|.ci ..|.cb ..|.cs ..|.sadd ..|.nt _|.conv ..|.llen _|.bytes _|.slen _|.mlen _|.idx ..|.sidx ..|.sok ..|.slok ..|.lst _|.app ..|.setn ..|.rep ..|.slc ..|.ref _|.has ..|.put ..|.an ..|.imp ..|.tup _|.clo ..=>true
 |.con (.v _)|.con (.list _)|.con (.map _)=>true
 |_=>false
theorem ajE {e:PE}(h:C4 e=true)(ρ:Env):(e.ev ρ).cells=[e.ev ρ]:=by
 unfold C4 at h;split at h<;>first|rfl|cases h
def KE:PE→Nat→PE
 |.mk es,i=>bif es.all C4 then es.getD i (.con .none) else .cell (.mk es) i
 |x,i=>.cell x i
theorem TC {ρ:Env}:∀{es:List PE},es.all C4=true→PE.evc ρ es=PE.evs ρ es
 |[],_=>rfl
 |e::es,h=>by
  simp only[pK,aj] at h;simp only[PE.evc,PE.evs,ajE h.1,TC h.2];rfl
theorem abE (x:PE)(i:Nat)(ρ:Env):(KE x i).ev ρ=(PE.cell x i).ev ρ:=by
 unfold KE;split
 ·rename_i es;cases hc:es.all C4
  ·rfl
  ·simp only[cond_true,PE.ev,TC hc,D.c_agg,PE.evs_eq,aF,cA];cases es[i]?<;>rfl
 ·rfl
def BD (s:SE):List (Nat×Bool)→PE
 |[]=>.con (.v (.bool true))
 |g::gs=>.an (bif g.2 then s.getR g.1 else .nt (s.getR g.1)) (BD s gs)
theorem T5 (s:SE)(ρ:Env):∀gs,((BD s gs).ev ρ).b=holds gs (s.ev ρ)
 |[]=>rfl
 |g::gs=>by
  have ih:=T5 s ρ gs;rw[agK,←ih];have e:((s.ev ρ).r g.1)=(s.getR g.1).ev ρ:=rfl;rw[e];cases hg:g.2
  ·simp only[BD,hg,cond_false,PE.ev,D.b_bool];cases((s.getR g.1).ev ρ).b<;>rfl
  ·simp only[BD,hg,cond_true,PE.ev,D.b_bool];cases((s.getR g.1).ev ρ).b<;>rfl
mutual
def PE.sub' (ab:bV)(s:SE):PE→PE
 |.r t=>s.getR t
 |.o j=>s.getO j
 |.con d=>.con d
 |.cell e i=>KE (PE.sub' ab s e) i
 |.sub e a b=>.sub (PE.sub' ab s e) a b
 |.setc e q x=>.setc (PE.sub' ab s e) q (PE.sub' ab s x)
 |.mk es=>.mk (PE.subs' ab s es)
 |.ai op k x y=>.ai op k (PE.sub' ab s x) (PE.sub' ab s y)
 |.ci op x y=>.ci op (PE.sub' ab s x) (PE.sub' ab s y)
 |.cb op x y=>.cb op (PE.sub' ab s x) (PE.sub' ab s y)
 |.cs op x y=>.cs op (PE.sub' ab s x) (PE.sub' ab s y)
 |.sadd x y=>.sadd (PE.sub' ab s x) (PE.sub' ab s y)
 |.nt x=>.nt (PE.sub' ab s x)
 |.conv k x=>.conv k (PE.sub' ab s x)
 |.pick c a b=>rU ab (PE.sub' ab s c) (PE.sub' ab s a) (PE.sub' ab s b)
 |.llen x=>.llen (PE.sub' ab s x)
 |.bytes x=>.bytes (PE.sub' ab s x)
 |.slen x=>.slen (PE.sub' ab s x)
 |.mlen x=>.mlen (PE.sub' ab s x)
 |.nth x y=>.nth (PE.sub' ab s x) (PE.sub' ab s y)
 |.idx x y=>.idx (PE.sub' ab s x) (PE.sub' ab s y)
 |.sidx x y=>.sidx (PE.sub' ab s x) (PE.sub' ab s y)
 |.sok x y=>.sok (PE.sub' ab s x) (PE.sub' ab s y)
 |.setn x y n z=>.setn (PE.sub' ab s x) (PE.sub' ab s y) n (PE.sub' ab s z)
 |.app x y=>.app (PE.sub' ab s x) (PE.sub' ab s y)
 |.lst es=>.lst (PE.subs' ab s es)
 |.rep x y=>.rep (PE.sub' ab s x) (PE.sub' ab s y)
 |.slc x y z=>.slc (PE.sub' ab s x) (PE.sub' ab s y) (PE.sub' ab s z)
 |.slok x y z=>.slok (PE.sub' ab s x) (PE.sub' ab s y) (PE.sub' ab s z)
 |.ref x=>.ref (PE.sub' ab s x)
 |.deref x=>KP (PE.sub' ab s x)
 |.look x y z=>.look (PE.sub' ab s x) (PE.sub' ab s y) (PE.sub' ab s z)
 |.has x y=>.has (PE.sub' ab s x) (PE.sub' ab s y)
 |.put x y z=>.put (PE.sub' ab s x) (PE.sub' ab s y) (PE.sub' ab s z)
 |.mn x y=>.mn (PE.sub' ab s x) (PE.sub' ab s y)
 |.mx x y=>.mx (PE.sub' ab s x) (PE.sub' ab s y)
 |.tup es=>.tup (PE.subs' ab s es)
 |.tget x i=>PY (PE.sub' ab s x) i
 |.clo f es=>.clo f (PE.subs' ab s es)
 |.an x y=>.an (PE.sub' ab s x) (PE.sub' ab s y)
 |.imp c x=>.nt (.an (BD s c) (.nt (PE.sub' ab s x)))
def PE.subs' (ab:bV)(s:SE):List PE→List PE
 |[]=>[]
 |e::es=>PE.sub' ab s e::PE.subs' ab s es
end
mutual
theorem PE.sub_ev {ab:bV}{ρ:Env}(h:ab.ok ρ)(s:SE):∀(e:PE),(PE.sub' ab s e).ev ρ=e.ev (s.ev ρ)
 |.r t=>rfl
 |.o j=>rfl
 |.con d=>rfl
 |.cell e i=>by simp only[PE.sub',abE,PE.ev,PE.sub_ev h s e]
 |.sub e a b=>by simp only[PE.sub',PE.ev,PE.sub_ev h s e]
 |.setc e q x=>by simp only[PE.sub',PE.ev,PE.sub_ev h s e,PE.sub_ev h s x]
 |.mk es=>by simp only[PE.sub',PE.ev,PE.subc_ev h s es]
 |.ai op k x y=>by simp only[PE.sub',PE.ev,PE.sub_ev h s x,PE.sub_ev h s y]
 |.ci op x y=>by simp only[PE.sub',PE.ev,PE.sub_ev h s x,PE.sub_ev h s y]
 |.cb op x y=>by simp only[PE.sub',PE.ev,PE.sub_ev h s x,PE.sub_ev h s y]
 |.cs op x y=>by simp only[PE.sub',PE.ev,PE.sub_ev h s x,PE.sub_ev h s y]
 |.sadd x y=>by simp only[PE.sub',PE.ev,PE.sub_ev h s x,PE.sub_ev h s y]
 |.nt x=>by simp only[PE.sub',PE.ev,PE.sub_ev h s x]
 |.conv k x=>by simp only[PE.sub',PE.ev,PE.sub_ev h s x]
 |.pick c a b=>by simp only[PE.sub',Oh h,PE.ev,PE.sub_ev h s c,PE.sub_ev h s a,PE.sub_ev h s b]
 |.llen x=>by simp only[PE.sub',PE.ev,PE.sub_ev h s x]
 |.bytes x=>by simp only[PE.sub',PE.ev,PE.sub_ev h s x]
 |.slen x=>by simp only[PE.sub',PE.ev,PE.sub_ev h s x]
 |.mlen x=>by simp only[PE.sub',PE.ev,PE.sub_ev h s x]
 |.nth x y=>by simp only[PE.sub',PE.ev,PE.sub_ev h s x,PE.sub_ev h s y]
 |.idx x y=>by simp only[PE.sub',PE.ev,PE.sub_ev h s x,PE.sub_ev h s y]
 |.sidx x y=>by simp only[PE.sub',PE.ev,PE.sub_ev h s x,PE.sub_ev h s y]
 |.sok x y=>by simp only[PE.sub',PE.ev,PE.sub_ev h s x,PE.sub_ev h s y]
 |.setn x y n z=>by simp only[PE.sub',PE.ev,PE.sub_ev h s x,PE.sub_ev h s y,PE.sub_ev h s z]
 |.app x y=>by simp only[PE.sub',PE.ev,PE.sub_ev h s x,PE.sub_ev h s y]
 |.lst es=>by simp only[PE.sub',PE.ev,PE.subs_ev h s es]
 |.rep x y=>by simp only[PE.sub',PE.ev,PE.sub_ev h s x,PE.sub_ev h s y]
 |.slc x y z=>by simp only[PE.sub',PE.ev,PE.sub_ev h s x,PE.sub_ev h s y,PE.sub_ev h s z]
 |.slok x y z=>by simp only[PE.sub',PE.ev,PE.sub_ev h s x,PE.sub_ev h s y,PE.sub_ev h s z]
 |.ref x=>by simp only[PE.sub',PE.ev,PE.sub_ev h s x]
 |.deref x=>by simp only[PE.sub',acn,PE.ev,PE.sub_ev h s x]
 |.look x y z=>by simp only[PE.sub',PE.ev,PE.sub_ev h s x,PE.sub_ev h s y,PE.sub_ev h s z]
 |.has x y=>by simp only[PE.sub',PE.ev,PE.sub_ev h s x,PE.sub_ev h s y]
 |.put x y z=>by simp only[PE.sub',PE.ev,PE.sub_ev h s x,PE.sub_ev h s y,PE.sub_ev h s z]
 |.mn x y=>by simp only[PE.sub',PE.ev,PE.sub_ev h s x,PE.sub_ev h s y]
 |.mx x y=>by simp only[PE.sub',PE.ev,PE.sub_ev h s x,PE.sub_ev h s y]
 |.tup es=>by simp only[PE.sub',PE.ev,PE.subs_ev h s es]
 |.tget x i=>by simp only[PE.sub',aml,PE.ev,PE.sub_ev h s x]
 |.clo f es=>by simp only[PE.sub',PE.ev,PE.subs_ev h s es]
 |.an x y=>by simp only[PE.sub',PE.ev,PE.sub_ev h s x,PE.sub_ev h s y]
 |.imp c x=>by
  simp only[PE.sub',PE.ev,D.b_bool,T5,PE.sub_ev h s x];cases holds c (s.ev ρ)<;>cases(x.ev (s.ev ρ)).b<;>rfl
theorem PE.subs_ev {ab:bV}{ρ:Env}(h:ab.ok ρ)(s:SE):∀(es:List PE),PE.evs ρ (PE.subs' ab s es)=PE.evs (s.ev ρ) es
 |[]=>rfl
 |e::es=>by simp only[PE.subs',PE.evs,PE.sub_ev h s e,PE.subs_ev h s es]
theorem PE.subc_ev {ab:bV}{ρ:Env}(h:ab.ok ρ)(s:SE):∀(es:List PE),PE.evc ρ (PE.subs' ab s es)=PE.evc (s.ev ρ) es
 |[]=>rfl
 |e::es=>by simp only[PE.subs',PE.evc,PE.sub_ev h s e,PE.subc_ev h s es]
end
inductive PT where
 |next (s:SE)
 |exit (id:Nat) (s:SE)
 |ret (e:PE)
 |chk (e:PE) (k:PT)
 |ite (c:PE) (a b:PT)
 |call (s:SE) (gs:List (Nat×Bool)) (dst f:Nat) (args:List PE) (k:PT)
 |callc (s:SE) (gs:List (Nat×Bool)) (dst:Nat) (e:PE) (args:List PE) (k:PT)
 |mcall (s:SE) (j f:Nat) (args:List PE) (k:PT)
 |iteS (s:SE) (c:PE) (lr lo:List Nat) (a b k:PT)
 |blockS (s:SE) (id:Nat) (lr lo:List Nat) (a k:PT)
 |brk (s:SE) (c:PC) (k:PT)
def aE (T:dk):PT→Env→(Out→Prop)→Prop
 |.next s,ρ,Q=>Q (.next (s.ev ρ))
 |.exit id s,ρ,Q=>Q (.exit id (s.ev ρ))
 |.ret e,ρ,Q=>Q (.ret (e.ev ρ))
 |.chk e k,ρ,Q=>(e.ev ρ).b=true∧aE T k ρ Q
 |.ite c a b,ρ,Q=>if(c.ev ρ).b=true then aE T a ρ Q else aE T b ρ Q
 |.call s gs dst f args k,ρ,Q=>if holds gs (s.ev ρ)=true then ∃d,aw T f (PE.evs ρ args) d∧aE T k ((s.ev ρ).setR dst d) Q else aE T k (s.ev ρ) Q
 |.callc s gs dst e args k,ρ,Q=>if holds gs (s.ev ρ)=true then ∃f caps d,e.ev ρ=.clo f caps∧aw T f (PE.evs ρ args++caps) d∧aE T k ((s.ev ρ).setR dst d) Q else aE T k (s.ev ρ) Q
 |.mcall s j f args k,ρ,Q=>∃d,aw T f (PE.evs ρ args) d∧aE T k ((s.ev ρ).setO j d) Q
 |.iteS s c lr lo a b k,ρ,Q=>if(c.ev ρ).b=true then aE T a (s.ev ρ) (kH (s.ev ρ) lr lo (gG (fun ρ'=>aE T k ρ' Q) Q)) else aE T b (s.ev ρ) (kH (s.ev ρ) lr lo (gG (fun ρ'=>aE T k ρ' Q) Q))
 |.blockS s id lr lo a k,ρ,Q=>aE T a (s.ev ρ) (lM (s.ev ρ) id lr lo (gG (fun ρ'=>aE T k ρ' Q) Q))
 |.brk s c k,ρ,Q=>aS T c (s.ev ρ) (gG (fun ρ'=>aE T k ρ' Q) Q)
def nR:PI→Bool
 |.setR ..|.setO ..|.chk _=>true
 |_=>false
def dW:PC→Bool
 |.loop ..=>false
 |.each ..=>false
 |.meach ..=>false
 |.seq a b=>dW a&&dW b
 |.ite _ _ _ a b=>dW a&&dW b
 |.block _ _ _ a=>dW a
 |.is l=>l.all nR
 |_=>true
abbrev Kn:=bV→SE→PT
abbrev Kx:=bV→Nat→SE→PT
def m5:List PI→bV→SE→Kn→PT
 |[],ab,s,k=>k ab s
 |.setR t e::l,ab,s,k=>m5 l ab (s.setR t (e.sub' ab s)) k
 |.setO t e::l,ab,s,k=>m5 l ab (s.setO t (e.sub' ab s)) k
 |.chk e::l,ab,s,k=>
  match uH ab (e.sub' ab s) with
  |some true=>m5 l ab s k
  |_=>.chk (e.sub' ab s) (m5 l ((e.sub' ab s,true)::ab) s k)
 |.call gs dst f args::l,ab,s,k=>.call s gs dst f (PE.subs' ab s args) (m5 l [] .id k)
 |.callc gs dst e args::l,ab,s,k=>.callc s gs dst (e.sub' ab s) (PE.subs' ab s args) (m5 l [] .id k)
 |.mcall j f args::l,ab,s,k=>.mcall s j f (PE.subs' ab s args) (m5 l [] .id k)
def SE.merge (s:SE)(ab:bV)(lr lo:List Nat)(c:PE)(a b:SE):SE:=⟨lr.map (fun t=>(t,rU ab c (a.getR t) (b.getR t)))++s.r,lo.map (fun t=>(t,rU ab c (a.getO t) (b.getO t)))++s.o⟩
def ph:List PI→bV→SE→Option SE
 |[],_,s=>some s
 |.setR t e::l,ab,s=>ph l ab (s.setR t (e.sub' ab s))
 |.setO t e::l,ab,s=>ph l ab (s.setO t (e.sub' ab s))
 |_::_,_,_=>none
def plain:PC→bV→SE→Option SE
 |.skip,_,s=>some s
 |.is l,ab,s=>ph l ab s
 |.seq a b,ab,s=>(plain a ab s).bind fun s=>plain b ab s
 |.ite c lr lo a b,ab,s=>(plain a ab s).bind fun sa=>(plain b ab s).map fun sb=>s.merge ab lr lo (c.sub' ab s) sa sb
 |_,_,_=>none
def VO:PC→Bool
 |.loop ..=>true
 |_=>false
def sx:PC→bV→SE→Kn→Kx→PT
 |.skip,ab,s,k,_=>k ab s
 |.is l,ab,s,k,_=>m5 l ab s k
 |.seq a b,ab,s,k,kx=>sx a ab s (fun ab s=>sx b ab s k kx) kx
 |.ite c lr lo a b,ab,s,k,kx=>
  match uH ab (c.sub' ab s) with
  |some true=>bif dW a then sx a ab s (fun ab s'=>k ab (s.join lr lo s')) kx else .iteS s (c.sub' ab s) lr lo (sx a [] .id (fun _ s=>.next s) (fun _ id s=>.exit id s)) (sx b [] .id (fun _ s=>.next s) (fun _ id s=>.exit id s)) (k [] .id)
  |some false=>bif dW b then sx b ab s (fun ab s'=>k ab (s.join lr lo s')) kx else .iteS s (c.sub' ab s) lr lo (sx a [] .id (fun _ s=>.next s) (fun _ id s=>.exit id s)) (sx b [] .id (fun _ s=>.next s) (fun _ id s=>.exit id s)) (k [] .id)
  |none=>
   match plain a ab s,plain b ab s with
   |some sa,some sb=>k ab (s.merge ab lr lo (c.sub' ab s) sa sb)
   |_,_=>
   bif dW a&&dW b then
    .ite (c.sub' ab s) (sx a ((c.sub' ab s,true)::ab) s (fun ab s'=>k ab (s.join lr lo s')) kx) (sx b ((c.sub' ab s,false)::ab) s (fun ab s'=>k ab (s.join lr lo s')) kx)
   else .iteS s (c.sub' ab s) lr lo (sx a [] .id (fun _ s=>.next s) (fun _ id s=>.exit id s)) (sx b [] .id (fun _ s=>.next s) (fun _ id s=>.exit id s)) (k [] .id)
 |.block id lr lo a,ab,s,k,kx=>
  bif dW a then sx a ab s (fun ab s'=>k ab (s.join lr lo s')) (fun ab bR s'=>bif Nat.beq bR id then k ab (s.join lr lo s') else kx ab bR s')
  else bif VO a then .brk s (.block id lr lo a) (k [] .id)
  else .blockS s id lr lo (sx a [] .id (fun _ s=>.next s) (fun _ id s=>.exit id s)) (k [] .id)
 |.loop lr lo a,_,s,k,_=>.brk s (.loop lr lo a) (k [] .id)
 |.each e ps lo rt a,_,s,k,_=>.brk s (.each e ps lo rt a) (k [] .id)
 |.meach J ps da lo a,_,s,k,_=>.brk s (.meach J ps da lo a) (k [] .id)
 |.exit id,ab,s,_,kx=>kx ab id s
 |.ret e,ab,s,_,_=>.ret (e.sub' ab s)
theorem bV.ok_nil (ρ:Env):bV.ok [] ρ:=fun _ h=>nomatch h
theorem bV.ok_cons {ab:bV}{ρ:Env}{e:PE}{b:Bool}(h:ab.ok ρ)(he:(e.ev ρ).b=b):bV.ok ((e,b)::ab) ρ:=fun x hx=>by
 rcases df.1 hx with e'|hx
 ·rw[e'];exact he
 ·exact h x hx
theorem qH {T:dk}{Q:Out→Prop}{K:Env→Prop}{k:Kn}:∀{l:List PI} {ab:bV} {s:SE} {ρ:Env},ab.ok ρ→aE T (m5 l ab s k) ρ Q→
 (∀ρ' ab s,(l.all nR=true→ρ'=ρ)→ab.ok ρ'→aE T (k ab s) ρ' Q→K (s.ev ρ'))→gH T l (s.ev ρ) K
 |[],ab,s,ρ,ha,h,hk=>hk ρ ab s (fun _=>rfl) ha h
 |.setR t e::l,ab,s,ρ,ha,h,hk=>by
  simp only[gH];rw[←PE.sub_ev ha s e,←SE.setR_ev];exact qH ha h fun ρ' ab s hp=>hk ρ' ab s fun hl=>hp (by simpa [nR] using hl)
 |.setO t e::l,ab,s,ρ,ha,h,hk=>by
  simp only[gH];rw[←PE.sub_ev ha s e,←SE.setO_ev];exact qH ha h fun ρ' ab s hp=>hk ρ' ab s fun hl=>hp (by simpa [nR] using hl)
 |.chk e::l,ab,s,ρ,ha,h,hk=>by
  simp only[gH];rw[←PE.sub_ev ha s e];simp only[m5] at h;split at h
  ·rename_i ht;exact⟨wT ha ht,qH ha h fun ρ' ab s hp=>hk ρ' ab s fun hl=>hp (by simpa [nR] using hl)⟩
  ·exact⟨h.1,qH (bV.ok_cons ha h.1) h.2 fun ρ' ab s hp=>hk ρ' ab s fun hl=>hp (by simpa [nR] using hl)⟩
 |.call gs dst f args::l,ab,s,ρ,ha,h,hk=>by
  simp only[gH];simp only[m5,aE,PE.subs_ev ha,PE.sub_ev ha] at h;have bU:∀{ρ0:Env},∀ρ' ab s,(l.all nR=true→ρ'=ρ0)→ab.ok ρ'→aE T (k ab s) ρ' Q→K (s.ev ρ'):=fun ρ' ab s _=>hk ρ' ab s fun hl=>by simp[nR] at hl
  split at h
  ·rename_i hg;rw[if_pos hg];obtain⟨d,hd,h⟩:=h;exact⟨d,hd,qH (s:=.id) (bV.ok_nil _) h bU⟩
  ·rename_i hg;rw[if_neg hg];exact qH (s:=.id) (bV.ok_nil _) h bU
 |.callc gs dst e args::l,ab,s,ρ,ha,h,hk=>by
  simp only[gH];simp only[m5,aE,PE.subs_ev ha,PE.sub_ev ha] at h;have bU:∀{ρ0:Env},∀ρ' ab s,(l.all nR=true→ρ'=ρ0)→ab.ok ρ'→aE T (k ab s) ρ' Q→K (s.ev ρ'):=fun ρ' ab s _=>hk ρ' ab s fun hl=>by simp[nR] at hl
  split at h
  ·rename_i hg;rw[if_pos hg];obtain⟨f,caps,d,he,hd,h⟩:=h;exact⟨f,caps,d,he,hd,qH (s:=.id) (bV.ok_nil _) h bU⟩
  ·rename_i hg;rw[if_neg hg];exact qH (s:=.id) (bV.ok_nil _) h bU
 |.mcall j f args::l,ab,s,ρ,ha,h,hk=>by
  simp only[gH];simp only[m5,aE,PE.subs_ev ha,PE.sub_ev ha] at h;have bU:∀{ρ0:Env},∀ρ' ab s,(l.all nR=true→ρ'=ρ0)→ab.ok ρ'→aE T (k ab s) ρ' Q→K (s.ev ρ'):=fun ρ' ab s _=>hk ρ' ab s fun hl=>by simp[nR] at hl
  obtain⟨d,hd,h⟩:=h;exact⟨d,hd,qH (s:=.id) (bV.ok_nil _) h bU⟩
theorem SE.merge_ev {ab:bV}{ρ:Env}(h:ab.ok ρ)(s a b:SE)(lr lo:List Nat)(c:PE):(s.merge ab lr lo c a b).ev ρ=(s.ev ρ).join lr lo (if(c.ev ρ).b=true then a.ev ρ else b.ev ρ):=by
 have h1:∀u,((s.merge ab lr lo c a b).getR u).ev ρ=((s.ev ρ).join lr lo (if(c.ev ρ).b=true then a.ev ρ else b.ev ρ)).r u:=by
  intro u;rw[Env.join_r];have e:bx (s.merge ab lr lo c a b).r u=if u∈lr then some (rU ab c (a.getR u) (b.getR u)) else bx s.r u:=wc lr;have e2:(s.merge ab lr lo c a b).getR u=if u∈lr then rU ab c (a.getR u) (b.getR u) else s.getR u:=by
   unfold SE.getR;rw[e];by_cases h:u∈lr<;>simp[h,SE.getR]
  rw[e2];by_cases hu:u∈lr
  ·simp only[hu,if_true,Oh h,PE.ev];cases hc:(c.ev ρ).b<;>simp[SE.ev]
  ·simp only[hu,if_false];rfl
 have h2:∀u,((s.merge ab lr lo c a b).getO u).ev ρ=((s.ev ρ).join lr lo (if(c.ev ρ).b=true then a.ev ρ else b.ev ρ)).o u:=by
  intro u;rw[Env.join_o];have e:bx (s.merge ab lr lo c a b).o u=if u∈lo then some (rU ab c (a.getO u) (b.getO u)) else bx s.o u:=wc lo;have e2:(s.merge ab lr lo c a b).getO u=if u∈lo then rU ab c (a.getO u) (b.getO u) else s.getO u:=by
   unfold SE.getO;rw[e];by_cases h:u∈lo<;>simp[h,SE.getO]
  rw[e2];by_cases hu:u∈lo
  ·simp only[hu,if_true,Oh h,PE.ev];cases hc:(c.ev ρ).b<;>simp[SE.ev]
  ·simp only[hu,if_false];rfl
 have e1:(fun u=>((s.merge ab lr lo c a b).getR u).ev ρ)=((s.ev ρ).join lr lo (if(c.ev ρ).b=true then a.ev ρ else b.ev ρ)).r:=funext h1;have e2:(fun u=>((s.merge ab lr lo c a b).getO u).ev ρ)=((s.ev ρ).join lr lo (if(c.ev ρ).b=true then a.ev ρ else b.ev ρ)).o:=funext h2;show Env.mk _ _=_;rw[e1,e2]
theorem Ok {T:dk}{ab:bV}{ρ:Env}(ha:ab.ok ρ):∀{l:List PI} {s s':SE},ph l ab s=some s'→∀{K:Env→Prop},K (s'.ev ρ)→gH T l (s.ev ρ) K
 |[],s,s',h,K,hk=>by simp only[ph,aO] at h;subst h;exact hk
 |.setR t e::l,s,s',h,K,hk=>by simp only[gH];rw[←PE.sub_ev ha s e,←SE.setR_ev];exact Ok (l:=l) ha (show ph l ab _=some s' from h) hk
 |.setO t e::l,s,s',h,K,hk=>by simp only[gH];rw[←PE.sub_ev ha s e,←SE.setO_ev];exact Ok (l:=l) ha (show ph l ab _=some s' from h) hk
 |.chk _::_,_,_,h,_,_=>by simp[ph] at h
 |.call ..::_,_,_,h,_,_=>by simp[ph] at h
 |.callc ..::_,_,_,h,_,_=>by simp[ph] at h
 |.mcall ..::_,_,_,h,_,_=>by simp[ph] at h
theorem akz {T:dk}{ab:bV}{ρ:Env}(ha:ab.ok ρ):∀(c:PC) {s s':SE},plain c ab s=some s'→∀{Q:Out→Prop},Q (.next (s'.ev ρ))→aS T c (s.ev ρ) Q:=by
 intro c
 induction c with
 |skip=>intro s s' h Q hq;simp only[plain,aO] at h;subst h;exact .skip hq
 |is l=>intro s s' h Q hq;exact .is (Ok ha h hq)
 |seq a b bu ew=>
  intro s s' h Q hq;simp only[plain,ao] at h;obtain⟨s1,h1,h2⟩:=h;exact .seq (bu h1 (ew h2 hq))
 |ite c lr lo a b bu ew=>
  intro s s' h Q hq;simp only[plain,ao,av] at h;obtain⟨sa,h1,sb,h2,rfl⟩:=h;rw[SE.merge_ev ha,PE.sub_ev ha] at hq;refine .ite ?_;split
  ·rename_i hc;rw[if_pos hc] at hq;exact bu h1 hq
  ·rename_i hc;rw[if_neg hc] at hq;exact ew h2 hq
 |_=>intro s s' h;simp[plain] at h
theorem PU {T:dk}:∀(c:PC) {ab:bV} {s:SE} {k:Kn} {kx:Kx} {ρ:Env} {Q Q':Out→Prop},ab.ok ρ→aE T (sx c ab s k kx) ρ Q→
 (∀ρ' ab s,(dW c=true→ρ'=ρ)→ab.ok ρ'→aE T (k ab s) ρ' Q→Q' (.next (s.ev ρ')))→
 (∀ρ' ab id s,(dW c=true→ρ'=ρ)→ab.ok ρ'→aE T (kx ab id s) ρ' Q→Q' (.exit id (s.ev ρ')))→(dW c=false→∀id ρ',Q (.exit id ρ')→Q' (.exit id ρ'))→(∀d,Q (.ret d)→Q' (.ret d))→aS T c (s.ev ρ) Q':=by
 intro c;have alone:∀(a:PC),(∀{ab:bV} {s:SE} {k:Kn} {kx:Kx} {ρ:Env} {Q Q':Out→Prop},ab.ok ρ→aE T (sx a ab s k kx) ρ Q→
  (∀ρ' ab s,(dW a=true→ρ'=ρ)→ab.ok ρ'→aE T (k ab s) ρ' Q→Q' (.next (s.ev ρ')))→
  (∀ρ' ab id s,(dW a=true→ρ'=ρ)→ab.ok ρ'→aE T (kx ab id s) ρ' Q→Q' (.exit id (s.ev ρ')))→(dW a=false→∀id ρ',Q (.exit id ρ')→Q' (.exit id ρ'))→(∀d,Q (.ret d)→Q' (.ret d))→aS T a (s.ev ρ) Q')→
  ∀{ρ:Env} {Q:Out→Prop},aE T (sx a [] .id (fun _ s=>.next s) (fun _ id s=>.exit id s)) ρ Q→aS T a ρ Q:=by
  intro a ih ρ Q h;exact ih (s:=.id) (bV.ok_nil _) h (fun ρ' ab s _ _ h=>h) (fun ρ' ab id s _ _ h=>h) (fun _ _ _ h=>h) (fun _ h=>h)
 induction c with
 |skip=>intro ab s k kx ρ Q Q' ha h hk _ _ _;exact .skip (hk ρ ab s (fun _=>rfl) ha h)
 |is l=>intro ab s k kx ρ Q Q' ha h hk _ _ _;exact .is (qH (K:=fun ρ'=>Q' (.next ρ')) ha h hk)
 |seq a b bu ew=>
  intro ab s k kx ρ Q Q' ha h hk hx jY hr;refine .seq (bu ha h (Q':=gG (fun ρ'=>aS T b ρ' Q') Q') (fun ρ' ab s hp mJ h'=>?_) (fun ρ' ab id s hp mJ h'=>?_) (fun hp=>?_) hr)
  ·refine ew mJ h' (fun ρ2 ab s fw=>hk ρ2 ab s fun hl=>?_) (fun ρ2 ab id s fw=>hx ρ2 ab id s fun hl=>?_) (fun fw=>?_) hr
   ·simp only[dW,aj] at hl;rw[fw hl.2,hp hl.1]
   ·simp only[dW,aj] at hl;rw[fw hl.2,hp hl.1]
   ·exact jY (by simp[dW,fw])
  ·exact hx ρ' ab id s (fun hl=>by simp only[dW,aj] at hl;exact hp hl.1) mJ h'
  ·exact jY (by simp[dW,hp])
 |ite c lr lo a b bu ew=>
  intro ab s k kx ρ Q Q' ha h hk hx jY hr;have bD:((c.sub' ab s).ev ρ).b=(c.ev (s.ev ρ)).b:=by rw[PE.sub_ev ha]
  have struct:(dW a&&dW b)=false→aE T (.iteS s (c.sub' ab s) lr lo (sx a [] .id (fun _ s=>.next s) (fun _ id s=>.exit id s)) (sx b [] .id (fun _ s=>.next s) (fun _ id s=>.exit id s)) (k [] .id)) ρ Q→aS T (.ite c lr lo a b) (s.ev ρ) Q':=by
   intro Ct h;have qh:dW (.ite c lr lo a b)=false:=Ct;simp only[aE,bD] at h
   have conv:∀x,kH (s.ev ρ) lr lo (gG (fun ρ'=>aE T (k [] .id) ρ' Q) Q) x→kH (s.ev ρ) lr lo Q' x:=by
      intro x du;cases x with
      |next ρ'=>exact hk _ [] .id (fun hl=>by rw[qh] at hl;cases hl) (bV.ok_nil _) du
      |exit id ρ'=>exact jY qh id ρ' du
      |ret d=>exact hr d du
   refine .ite ?_;split at h
   ·rename_i hc;rw[if_pos hc];exact(alone a bu h).mono conv
   ·rename_i hc;rw[if_neg hc];exact(alone b ew h).mono conv
  have VF:∀va,va.ok ρ→dW a=true→aE T (sx a va s (fun ab s'=>k ab (s.join lr lo s')) kx) ρ Q→aS T a (s.ev ρ) (kH (s.ev ρ) lr lo Q'):=by
   intro va mJ fe h';refine bu mJ h' (fun ρ' ab s' hp nw ko=>?_) (fun ρ' ab id s' hp nw ko=>?_) (fun hp=>by rw[fe] at hp;cases hp) hr
   ·have e:=hp fe;subst e;show Q' (.next _);rw[←SE.join_ev];exact hk ρ' ab _ (fun _=>rfl) nw ko
   ·have e:=hp fe;subst e;exact hx ρ' ab id s' (fun _=>rfl) nw ko
  have aH:∀va,va.ok ρ→dW b=true→aE T (sx b va s (fun ab s'=>k ab (s.join lr lo s')) kx) ρ Q→aS T b (s.ev ρ) (kH (s.ev ρ) lr lo Q'):=by
   intro va mJ fe h';refine ew mJ h' (fun ρ' ab s' hp nw ko=>?_) (fun ρ' ab id s' hp nw ko=>?_) (fun hp=>by rw[fe] at hp;cases hp) hr
   ·have e:=hp fe;subst e;show Q' (.next _);rw[←SE.join_ev];exact hk ρ' ab _ (fun _=>rfl) nw ko
   ·have e:=hp fe;subst e;exact hx ρ' ab id s' (fun _=>rfl) nw ko
  simp only[sx] at h;split at h
  ·rename_i ht;cases fe:dW a<;>simp only[fe,cond_true,cond_false] at h
   ·exact struct (by simp[fe]) h
   ·refine .ite ?_;rw[if_pos (by rw[←bD];exact wT ha ht)];exact VF ab ha fe h
  ·rename_i ht;cases fe:dW b<;>simp only[fe,cond_true,cond_false] at h
   ·exact struct (by simp[fe]) h
   ·refine .ite ?_;rw[if_neg (by rw[←bD,wT ha ht];simp)];exact aH ab ha fe h
  ·split at h
   ·rename_i sa sb ML jc;have fy:plain (.ite c lr lo a b) ab s=some (s.merge ab lr lo (c.sub' ab s) sa sb):=by simp[plain,ML,jc]
    exact akz ha _ fy (hk ρ ab _ (fun _=>rfl) ha h)
   cases fe:(dW a&&dW b)<;>simp only[fe,cond_true,cond_false] at h
   ·exact struct fe h
   ·simp only[aj] at fe;simp only[aE] at h;refine .ite ?_;rw[←bD];split at h
    ·rename_i hc;rw[if_pos hc];exact VF _ (bV.ok_cons ha hc) fe.1 h
    ·rename_i hc;rw[if_neg hc];exact aH _ (bV.ok_cons ha (by simpa using hc)) fe.2 h
 |block id lr lo a bu=>
  intro ab s k kx ρ Q Q' ha h hk hx jY hr;simp only[sx] at h;cases fe:dW a<;>simp only[fe,cond_true,cond_false] at h
  ·have qh:dW (.block id lr lo a)=false:=fe;cases hl:VO a<;>simp only[hl,cond_true,cond_false] at h
   case true=>
        simp only[aE] at h;refine aS.mono h fun x du=>?_;cases x with
        |next ρ'=>exact hk _ [] .id (fun hl=>by rw[qh] at hl;cases hl) (bV.ok_nil _) du
        |exit id ρ'=>exact jY qh id ρ' du
        |ret d=>exact hr d du
   simp only[aE] at h;refine .block ((alone a bu h).mono fun x du=>?_);cases x with
   |next ρ'=>exact hk _ [] .id (fun hl=>by rw[qh] at hl;cases hl) (bV.ok_nil _) du
   |exit bR ρ'=>
    simp only[lM] at du ⊢;split
    ·rename_i e;rw[if_pos e] at du;exact hk _ [] .id (fun hl=>by rw[qh] at hl;cases hl) (bV.ok_nil _) du
    ·rename_i e;rw[if_neg e] at du;exact jY qh bR ρ' du
   |ret d=>exact hr d du
  ·refine .block (bu ha h (fun ρ' ab s' hp nw ko=>?_) (fun ρ' ab bR s' hp nw ko=>?_) (fun hp=>by rw[fe] at hp;cases hp) hr)
   ·have e:=hp fe;subst e;show Q' (.next _);rw[←SE.join_ev];exact hk ρ' ab _ (fun _=>rfl) nw ko
   ·have e:=hp fe;subst e;simp only[lM];by_cases cQ:bR=id
    ·subst cQ;simp only[gL,cond_true] at ko;rw[if_pos rfl,←SE.join_ev];exact hk ρ' ab _ (fun _=>rfl) nw ko
    ·rw[eX cQ,cond_false] at ko;rw[if_neg cQ];exact hx ρ' ab bR s' (fun _=>rfl) nw ko
 |loop lr lo a bu=>
  intro ab s k kx ρ Q Q' ha h hk hx jY hr;simp only[sx,aE] at h;refine aS.mono h fun x du=>?_;cases x with
  |next ρ'=>exact hk _ [] .id (fun hl=>by cases hl) (bV.ok_nil _) du
  |exit id ρ'=>exact jY rfl id ρ' du
  |ret d=>exact hr d du
 |each e ps lo rt a bu=>
  intro ab s k kx ρ Q Q' ha h hk hx jY hr;simp only[sx,aE] at h;refine aS.mono h fun x du=>?_;cases x with
  |next ρ'=>exact hk _ [] .id (fun hl=>by cases hl) (bV.ok_nil _) du
  |exit id ρ'=>exact jY rfl id ρ' du
  |ret d=>exact hr d du
 |meach J ps da lo a bu=>
  intro ab s k kx ρ Q Q' ha h hk hx jY hr;simp only[sx,aE] at h;refine aS.mono h fun x du=>?_;cases x with
  |next ρ'=>exact hk _ [] .id (fun hl=>by cases hl) (bV.ok_nil _) du
  |exit id ρ'=>exact jY rfl id ρ' du
  |ret d=>exact hr d du
 |exit id=>intro ab s k kx ρ Q Q' ha h _ hx _ _;exact .exit (hx ρ ab id s (fun _=>rfl) ha h)
 |ret e=>
  intro ab s k kx ρ Q Q' ha h _ _ _ hr;simp only[sx,aE] at h;refine .ret (hr _ ?_);rw[PE.sub_ev ha] at h;exact h
def Lk.un (a b:Lk):Lk:=⟨Nat.lor a.r b.r,jm a.o b.o⟩
def bits (l:List Nat):Nat:=l.foldr (fun t m=>Nat.lor (dO t) m) 0
theorem Ky {l:List Nat}{t:Nat}(h:t∈l):aq (bits l) t=true:=by
 induction l with
 |nil=>cases h
 |cons x l ih=>
  show aq (Nat.lor (dO x) (bits l)) t=true;rw[fo];rcases df.1 h with e|h
  ·subst e;rw[pS];rfl
  ·rw[ih h,m8]
theorem RH:∀{a b:List Nat} {x:Nat},x∈jm a b↔x∈a∨x∈b
 |[],b,x=>by simp[jm]
 |y::a,b,x=>by
  have ih:=RH (a:=a) (b:=bif fC b y then b else y::b) (x:=x);show x∈jm a _↔_;rw[ih];cases hb:fC b y with
  |true=>simp only[cond_true,df];have:=(oX b y).1 hb;constructor
         ·rintro(h|h);exact .inl (.inr h);exact .inr h
         ·rintro((rfl|h)|h);exact .inr this;exact .inl h;exact .inr h
  |false=>simp only[cond_false,df];constructor
          ·rintro(h|h|h);exact .inl (.inr h);exact .inl (.inl h);exact .inr h
          ·rintro((h|h)|h);exact .inr (.inl h);exact .inl h;exact .inr (.inr h)
def Lk.Le (a K:Lk):Prop:=(∀t,aq a.r t=true→aq K.r t=true)∧∀j,j∈a.o→j∈K.o
theorem Lk.le_l (a b:Lk):a.Le (a.un b):=⟨fun t h=>by simp only[Lk.un,fo,h,w5],fun j h=>RH.2 (.inl h)⟩
theorem Lk.le_r (a b:Lk):b.Le (a.un b):=⟨fun t h=>by simp only[Lk.un,fo,h,m8],fun j h=>RH.2 (.inr h)⟩
theorem Lk.Le.trans {a b c:Lk}(h:a.Le b)(k:b.Le c):a.Le c:=⟨fun t ht=>k.1 t (h.1 t ht),fun j hj=>k.2 j (h.2 j hj)⟩
theorem Alike.le {a K:Lk}{ρ ρ':Env}(h:Alike K ρ ρ')(k:a.Le K):Alike a ρ ρ':=⟨fun t ht=>h.r t (k.1 t ht),fun j hj=>h.o j (k.2 j hj)⟩
theorem Lk.Le.of_un {a b K:Lk}(h:(a.un b).Le K):a.Le K∧b.Le K:=⟨(Lk.le_l a b).trans h,(Lk.le_r a b).trans h⟩
theorem Alike.setR {K:Lk}{ρ ρ':Env}(h:Alike K ρ ρ')(t:Nat)(d:D):Alike K (ρ.setR t d) (ρ'.setR t d):=⟨fun u hu=>by rw[Env.setR_r,Env.setR_r];split;rfl;exact h.r u hu,h.o⟩
theorem Alike.setO {K:Lk}{ρ ρ':Env}(h:Alike K ρ ρ')(t:Nat)(d:D):Alike K (ρ.setO t d) (ρ'.setO t d):=⟨h.r,fun u hu=>by rw[Env.setO_o,Env.setO_o];split;rfl;exact h.o u hu⟩
theorem Alike.join {K:Lk}{ρ ρ' η η':Env}(h:Alike K ρ ρ')(k:Alike K η η')(lr lo:List Nat):Alike K (ρ.join lr lo η) (ρ'.join lr lo η'):=
 ⟨fun u hu=>by rw[Env.join_r,Env.join_r];split;exact k.r u hu;exact h.r u hu,fun u hu=>by rw[Env.join_o,Env.join_o];split;exact k.o u hu;exact h.o u hu⟩
theorem Om {f g:Nat→D}{u:Nat}(h:g u=f u):∀(ts:List Nat) (xs:List D),putL g ts xs u=putL f ts xs u
 |[],xs=>by rw[Ih,Ih];exact h
 |t::ts,[]=>by simp only[putL];exact h
 |t::ts,x::xs=>by rw[Ig,Ig];split;rfl;exact Om h ts xs
theorem Alike.put {K:Lk}{ρ ρ':Env}(h:Alike K ρ ρ')(lr lo:List Nat)(vr vo:List D):Alike K (ρ.put lr vr lo vo) (ρ'.put lr vr lo vo):=⟨fun u hu=>Om (h.r u hu) lr vr,fun u hu=>Om (h.o u hu) lo vo⟩
def PI.lkw:PI→Lk
 |.setR t e=>e.lk.un ⟨dO t,[]⟩
 |.setO j e=>e.lk.un ⟨0,[j]⟩
 |.chk e=>e.lk
 |.call gs dst f aa=>(PI.call gs dst f aa).lk.un ⟨dO dst,[]⟩
 |.callc gs dst e aa=>(PI.callc gs dst e aa).lk.un ⟨dO dst,[]⟩
 |.mcall j f aa=>(PI.mcall j f aa).lk.un ⟨0,[j]⟩
def PC.lk:PC→Lk
 |.skip=>.none
 |.exit _=>.none
 |.is l=>l.foldr (fun p k=>p.lkw.un k) .none
 |.seq a b=>(PC.lk a).un (PC.lk b)
 |.ite c _ _ a b=>c.lk.un ((PC.lk a).un (PC.lk b))
 |.block _ _ _ a=>PC.lk a
 |.loop lr lo a=>(⟨bits lr,lo⟩:Lk).un (PC.lk a)
 |.ret e=>e.lk
 |.each e _ lo rt a=>e.lk.un ((match rt with|some e=>e.lk|none=>.none).un ((⟨0,lo⟩:Lk).un (PC.lk a)))
 |.meach J _ _ lo a=>(⟨0,J::lo⟩:Lk).un (PC.lk a)
structure Off (K:Lk) (b η η':Env):Prop where
 al:Alike K η η'
 r:∀t,aq K.r t=false→η'.r t=b.r t
 o:∀j,j∉K.o→η'.o j=b.o j
def sJ (K:Lk)(b:Env):Out→Out→Prop
 |.next η,x=>∃η',x=.next η'∧Off K b η η'
 |.exit i η,x=>∃η',x=.exit i η'∧Off K b η η'
 |.ret d,x=>x=.ret d
theorem Off.uniq {K:Lk}{b η η' η2:Env}(h:Off K b η η')(k:Off K b η η2):η2=η':=by
 have h1:∀t,η2.r t=η'.r t:=fun t=>by
  cases hb:aq K.r t with
  |true=>rw[k.al.r t hb,h.al.r t hb]
  |false=>rw[k.r t hb,h.r t hb]
 have h2:∀t,η2.o t=η'.o t:=fun t=>by
  by_cases hb:t∈K.o
  ·rw[k.al.o t hb,h.al.o t hb]
  ·rw[k.o t hb,h.o t hb]
 cases η2;cases η'
 congr
 ·exact funext h1
 ·exact funext h2
theorem sJ.uniq {K:Lk}{b:Env}{x y z:Out}(h:sJ K b x y)(k:sJ K b x z):z=y:=by
 cases x with
 |next η=>obtain⟨a,rfl,h⟩:=h;obtain⟨c,rfl,k⟩:=k;rw[h.uniq k]
 |exit i η=>obtain⟨a,rfl,h⟩:=h;obtain⟨c,rfl,k⟩:=k;rw[h.uniq k]
 |ret d=>rw[h,k]
theorem Off.setR {K:Lk}{b η η':Env}(h:Off K b η η'){t:Nat}(ht:aq K.r t=true)(d:D):Off K b (η.setR t d) (η'.setR t d):=
 ⟨h.al.setR t d,fun u hu=>by rw[Env.setR_r,if_neg (fun e=>by rw[e,ht] at hu;cases hu)];exact h.r u hu,h.o⟩
theorem Off.setO {K:Lk}{b η η':Env}(h:Off K b η η'){t:Nat}(ht:t∈K.o)(d:D):Off K b (η.setO t d) (η'.setO t d):=
 ⟨h.al.setO t d,h.r,fun u hu=>by rw[Env.setO_o,if_neg (fun e=>hu (by rw[e];exact ht))];exact h.o u hu⟩
theorem Off.join {K:Lk}{b η η' ζ ζ':Env}(h:Off K b η η')(k:Off K b ζ ζ')(lr lo:List Nat):Off K b (η.join lr lo ζ) (η'.join lr lo ζ'):=
 ⟨h.al.join k.al lr lo,fun u hu=>by rw[Env.join_r];split;exact k.r u hu;exact h.r u hu,fun u hu=>by rw[Env.join_o];split;exact k.o u hu;exact h.o u hu⟩
theorem Oq {f:Nat→D}{b:D}{u:Nat}(h:f u=b):∀(ts:List Nat) (xs:List D),u∉ts→putL f ts xs u=b
 |[],xs,_=>by rw[Ih];exact h
 |t::ts,[],_=>by simp only[putL];exact h
 |t::ts,x::xs,hu=>by rw[Ig,if_neg (fun e=>hu (by simp[e]))];exact Oq h ts xs (fun e=>hu (by simp[e]))
theorem Off.put {K:Lk}{b η η':Env}(h:Off K b η η'){lr lo:List Nat}(hr:∀t,t∈lr→aq K.r t=true)(ho:∀t,t∈lo→t∈K.o)(vr vo:List D):Off K b (η.put lr vr lo vo) (η'.put lr vr lo vo):=
 ⟨h.al.put lr lo vr vo,fun u hu=>Oq (h.r u hu) lr vr (fun e=>by rw[hr u e] at hu;cases hu),fun u hu=>Oq (h.o u hu) lo vo (fun e=>hu (ho u e))⟩
theorem PI.run_off {Φ:aR}{K:Lk}{b ρ ρ' η:Env}{p:PI}(hp:p.lkw.Le K)(h:Off K b ρ ρ')(hr:p.run Φ ρ=some η):∃η',p.run Φ ρ'=some η'∧Off K b η η':=by
 have vK:p.lk.Le K:=by cases p<;>first|exact hp|exact hp.of_un.1
 rw[PI.run_eff,PI.eff_alike p (h.al.le vK)];rw[PI.run_eff] at hr;cases he:p.eff Φ ρ with
 |none=>rw[he] at hr;cases hr
 |some x=>
  rw[he] at hr;simp only[kg,aO] at hr;subst hr;refine⟨_,rfl,?_⟩;have hb:∀{t:Nat} {a:Lk},(a.un ⟨dO t,[]⟩).Le K→aq K.r t=true:=fun h=>h.of_un.2.1 _ (pS _);have ho:∀{t:Nat} {a:Lk},(a.un ⟨0,[t]⟩).Le K→t∈K.o:=fun h=>h.of_un.2.2 _ (by simp);cases p with
  |setR t e=>simp only[PI.eff,aO] at he;subst he;exact h.setR (hb hp) _
  |setO t e=>simp only[PI.eff,aO] at he;subst he;exact h.setO (ho hp) _
  |chk e=>simp only[PI.eff] at he;cases vy:(e.ev ρ).b<;>rw[vy] at he<;>cases he;exact h
  |call gs d f aa=>
   simp only[PI.eff] at he;cases vy:holds gs ρ<;>simp only[vy,cond_true,cond_false,aO,av] at he
   ·subst he;exact h
   ·obtain⟨y,_,rfl⟩:=he;exact h.setR (hb hp) _
  |callc gs d e aa=>
   simp only[PI.eff] at he;cases vy:holds gs ρ<;>simp only[vy,cond_true,cond_false,aO] at he
   ·subst he;exact h
   ·split at he
    ·simp only[av] at he;obtain⟨y,_,rfl⟩:=he;exact h.setR (hb hp) _
    ·cases he
  |mcall j f aa=>simp only[PI.eff,av] at he;obtain⟨y,_,rfl⟩:=he;exact h.setO (ho hp) _
theorem PI.runs_off {Φ:aR}{K:Lk}{b:Env}:∀{l:List PI} {ρ ρ' η:Env},(l.foldr (fun p k=>p.lkw.un k) Lk.none).Le K→Off K b ρ ρ'→PI.runs Φ l ρ=some η→∃η',PI.runs Φ l ρ'=some η'∧Off K b η η'
 |[],ρ,ρ',η,_,h,hr=>by simp only[PI.runs,aO] at hr ⊢;subst hr;exact⟨_,rfl,h⟩
 |p::l,ρ,ρ',η,hl,h,hr=>by
  simp only[PI.runs,ao] at hr;obtain⟨ρ1,h1,h2⟩:=hr;obtain⟨ρ2,h3,h4⟩:=PI.run_off hl.of_un.1 h h1;obtain⟨η',h5,h6⟩:=PI.runs_off (l:=l) hl.of_un.2 h4 h2;exact⟨η',by simp only[PI.runs,h3,jQ,h5],h6⟩
theorem wg {K:Lk}{b η η':Env}(h:Off K b η η'){lo:List Nat}(ho:∀t,t∈lo→t∈K.o):lo.map η'.o=lo.map η.o:=xb fun t ht=>h.al.o t (ho t ht)
theorem Wq {K:Lk}{b η η':Env}(h:Off K b η η'){lr:List Nat}(hr:∀t,t∈lr→aq K.r t=true):lr.map η'.r=lr.map η.r:=xb fun t ht=>h.al.r t (hr t ht)
theorem PC.ev_off {Φ:aR}{n:Nat}{K:Lk}:∀(c:PC),c.lk.Le K→∀{b ρ ρ':Env} {x:Out},Off K b ρ ρ'→c.ev Φ n ρ=some x→∃x',c.ev Φ n ρ'=some x'∧sJ K b x x':=by
 intro c
 induction c with
 |skip=>intro _ b ρ ρ' x h hr;simp only[PC.ev,aO] at hr ⊢;subst hr;exact⟨_,rfl,_,rfl,h⟩
 |exit id=>intro _ b ρ ρ' x h hr;simp only[PC.ev,aO] at hr ⊢;subst hr;exact⟨_,rfl,_,rfl,h⟩
 |ret e=>intro hk B ρ ρ' x h hr;simp only[PC.ev,aO] at hr ⊢;subst hr;exact⟨_,rfl,by rw[PE.ev_alike e (h.al.le hk)];rfl⟩
 |is l=>
  intro hk B ρ ρ' x h hr;simp only[PC.ev,av] at hr;obtain⟨η,h1,rfl⟩:=hr;obtain⟨η',h2,h3⟩:=PI.runs_off hk h h1;exact⟨.next η',by simp only[PC.ev,h2,kg],η',rfl,h3⟩
 |seq a b bu ew=>
  intro hk B ρ ρ' x h hr;simp only[PC.ev] at hr ⊢;cases ha:a.ev Φ n ρ with
  |none=>rw[ha] at hr;cases hr
  |some y=>
   obtain⟨y',h1,h2⟩:=bu hk.of_un.1 h ha;rw[ha] at hr;rw[h1];cases y with
   |next η=>obtain⟨η',rfl,h3⟩:=h2;exact ew hk.of_un.2 h3 hr
   |exit i η=>obtain⟨η',rfl,h3⟩:=h2;cases hr;exact⟨_,rfl,η',rfl,h3⟩
   |ret d=>cases h2;cases hr;exact⟨_,rfl,rfl⟩
 |ite c lr lo a b bu ew=>
  intro hk B ρ ρ' x h hr;have hc:(c.ev ρ').b=(c.ev ρ).b:=by rw[PE.ev_alike c (h.al.le hk.of_un.1)]
  have key:∀(d:PC),(∀{ρ ρ':Env} {x:Out},Off K B ρ ρ'→d.ev Φ n ρ=some x→∃x',d.ev Φ n ρ'=some x'∧sJ K B x x')→(match d.ev Φ n ρ with|some (.next η)=>some (.next (ρ.join lr lo η))|x=>x)=some x→
      ∃x',(match d.ev Φ n ρ' with|some (.next η)=>some (.next (ρ'.join lr lo η))|x=>x)=some x'∧sJ K B x x':=by
   intro d ih hr;cases ha:d.ev Φ n ρ with
   |none=>rw[ha] at hr;cases hr
   |some y=>
    obtain⟨y',h1,h2⟩:=ih h ha;rw[ha] at hr;rw[h1];cases y with
    |next η=>obtain⟨η',rfl,h3⟩:=h2;cases hr;exact⟨_,rfl,_,rfl,h.join h3 lr lo⟩
    |exit i η=>obtain⟨η',rfl,h3⟩:=h2;cases hr;exact⟨_,rfl,η',rfl,h3⟩
    |ret d=>cases h2;cases hr;exact⟨_,rfl,rfl⟩
  simp only[PC.ev,hc] at hr ⊢;cases ku:(c.ev ρ).b<;>simp only[ku,cond_true,cond_false] at hr ⊢
  ·exact key b (fun h1 h2=>ew hk.of_un.2.of_un.2 h1 h2) hr
  ·exact key a (fun h1 h2=>bu hk.of_un.2.of_un.1 h1 h2) hr
 |block id lr lo a bu=>
  intro hk B ρ ρ' x h hr;simp only[PC.ev] at hr ⊢;cases ha:a.ev Φ n ρ with
  |none=>rw[ha] at hr;cases hr
  |some y=>
   obtain⟨y',h1,h2⟩:=bu hk h ha;rw[ha] at hr;rw[h1];cases y with
   |next η=>obtain⟨η',rfl,h3⟩:=h2;cases hr;exact⟨_,rfl,_,rfl,h.join h3 lr lo⟩
   |exit i η=>
    obtain⟨η',rfl,h3⟩:=h2;simp only at hr ⊢;cases hb:Nat.beq i id<;>simp only[hb,cond_true,cond_false] at hr ⊢<;>cases hr
    ·exact⟨_,rfl,η',rfl,h3⟩
    ·exact⟨_,rfl,_,rfl,h.join h3 lr lo⟩
   |ret d=>cases h2;cases hr;exact⟨_,rfl,rfl⟩
 |loop lr lo a bu=>
  intro hk B ρ ρ' x h hr;have iw:∀t,t∈lr→aq K.r t=true:=fun t ht=>hk.of_un.1.1 t (Ky ht);have jG:∀t,t∈lo→t∈K.o:=fun t ht=>hk.of_un.1.2 t ht;have key:∀(m:Nat) (vr vo:List D),gU (a.ev Φ n) ρ lr lo m vr vo=some x→∃x',gU (a.ev Φ n) ρ' lr lo m vr vo=some x'∧sJ K B x x':=by
   intro m
   induction m with
   |zero=>intro vr vo h;simp[gU] at h
   |succ m Nb=>
    intro vr vo hr;simp only[gU] at hr ⊢;cases ha:a.ev Φ n (ρ.put lr vr lo vo) with
    |none=>rw[ha] at hr;cases hr
    |some y=>
     obtain⟨y',h1,h2⟩:=bu hk.of_un.2 (h.put iw jG vr vo) ha;rw[ha] at hr;rw[h1];cases y with
     |next η=>obtain⟨η',rfl,h3⟩:=h2;simp only[wg h3 jG,Wq h3 iw];exact Nb _ _ hr
     |exit i η=>obtain⟨η',rfl,h3⟩:=h2;cases hr;exact⟨_,rfl,η',rfl,h3⟩
     |ret d=>cases h2;cases hr;exact⟨_,rfl,rfl⟩
  simp only[PC.ev] at hr ⊢;rw[wg h jG,Wq h iw];exact key n _ _ hr
 |each e ps lo rt a bu=>
  intro hk B ρ ρ' x h hr;obtain⟨bH,bt⟩:=hk.of_un;obtain⟨bt,gE⟩:=bt.of_un;obtain⟨gE,lS⟩:=gE.of_un;have jG:∀t,t∈lo→t∈K.o:=fun t ht=>gE.2 t ht;have key:∀(xs vo:List D),kj (a.ev Φ n) ρ ps lo rt xs vo=some x→∃x',kj (a.ev Φ n) ρ' ps lo rt xs vo=some x'∧sJ K B x x':=by
   intro xs
   induction xs with
   |nil=>intro vo hr;simp only[kj,aO] at hr ⊢;subst hr;exact⟨_,rfl,_,rfl,h.put (fun _ h=>by cases h) jG _ _⟩
   |cons y xs jd=>
    intro vo hr;simp only[kj] at hr ⊢;cases ha:a.ev Φ n (ρ.put ps (partsOf ps y) lo vo) with
    |none=>rw[ha] at hr;cases hr
    |some z=>
     have iY:Off K (ρ'.put ps (partsOf ps y) lo vo) (ρ.put ps (partsOf ps y) lo vo) (ρ'.put ps (partsOf ps y) lo vo):=⟨h.al.put ps lo _ _,fun _ _=>rfl,fun _ _=>rfl⟩
     obtain⟨z',h1,h2⟩:=bu lS iY ha;rw[ha] at hr;rw[h1];cases z with
     |next η=>obtain⟨η',rfl,h3⟩:=h2;simp only[wg h3 jG];exact jd _ hr
     |exit i η=>
      obtain⟨η',rfl,h3⟩:=h2;simp only[wg h3 jG] at hr ⊢;have hp:=h.put (lr:=[]) (fun _ h=>by cases h) jG [] (lo.map η.o);cases hb:Nat.beq i cO<;>simp only[hb,cond_true,cond_false] at hr ⊢
      ·cases hr;exact⟨_,rfl,_,rfl,hp⟩
      ·cases rt with
       |none=>cases hr
       |some e2=>cases hr;exact⟨_,rfl,by show Out.ret _=Out.ret _;rw[PE.ev_alike e2 (hp.al.le bt)]⟩
     |ret d=>cases hr
  simp only[PC.ev] at hr ⊢;rw[PE.ev_alike e (h.al.le bH),wg h jG];exact key _ _ hr
 |meach J ps da lo a bu=>
  intro hk B ρ ρ' x h hr;obtain⟨gE,lS⟩:=hk.of_un;have jG:∀t,t∈lo→t∈K.o:=fun t ht=>gE.2 t (dz _ ht);have hJ:ρ'.o J=ρ.o J:=h.al.o J (gE.2 J (dG ..));have key:∀(es:D) (xs done vo qJ:List D),nQ (a.ev Φ n) ρ J es ps da lo xs done vo=some qJ→nQ (a.ev Φ n) ρ' J es ps da lo xs done vo=some qJ:=by
   intro es xs
   induction xs with
   |nil=>intro done vo qJ h;exact h
   |cons y xs jd=>
    intro done vo qJ hr;simp only[nQ] at hr ⊢;cases ha:a.ev Φ n ((ρ.put ps (da.map y.tget) lo vo).setO J (.tup [.list (done++[y]),es])) with
    |none=>rw[ha] at hr;cases hr
    |some z=>
     have iY:Off K ((ρ'.put ps (da.map y.tget) lo vo).setO J (.tup [.list (done++[y]),es])) ((ρ.put ps (da.map y.tget) lo vo).setO J (.tup [.list (done++[y]),es])) ((ρ'.put ps (da.map y.tget) lo vo).setO J (.tup [.list (done++[y]),es])):=
          ⟨(h.al.put ps lo _ _).setO J _,fun _ _=>rfl,fun _ _=>rfl⟩
     obtain⟨z',h1,h2⟩:=bu lS iY ha;rw[ha] at hr;rw[h1];cases z with
     |next η=>obtain⟨η',rfl,h3⟩:=h2;simp only[wg h3 jG];exact jd _ _ _ hr
     |exit i η=>cases hr
     |ret d=>cases hr
  simp only[PC.ev,zB] at hr;obtain⟨vo,⟨h1,h2⟩,rfl⟩:=hr;refine⟨.next (ρ'.put [] [] lo vo),?_,_,rfl,h.put (fun _ h=>by cases h) jG _ _⟩;simp only[PC.ev,zB];refine⟨vo,⟨by rw[hJ];exact h1,fun ys hy=>?_⟩,rfl⟩;rw[hJ] at hy ⊢;rw[wg h jG];exact key _ _ _ _ _ (h2 ys hy)
def nq:List Nat→PC→Bool
 |l,.exit id=>fC l id
 |l,.seq a b=>nq l a&&nq l b
 |l,.ite _ _ _ a b=>nq l a&&nq l b
 |l,.block id _ _ a=>nq (id::l) a
 |l,.loop _ _ a=>nq l a
 |l,.each _ _ _ _ a=>nq (cO::l) a
 |_,_=>true
theorem adr {Φ:aR}{n:Nat}:∀(c:PC) {l:List Nat},nq l c=true→∀{ρ:Env} {i:Nat} {η:Env},c.ev Φ n ρ=some (.exit i η)→i∈l:=by
 intro c
 induction c with
 |skip=>intro l _ ρ i η h;simp[PC.ev] at h
 |exit id=>intro l hl ρ i η h;simp only[PC.ev,aO] at h;injection h with h1 h2;subst h1;exact(oX _ _).1 hl
 |ret e=>intro l _ ρ i η h;simp[PC.ev] at h
 |is _=>intro l _ ρ i η h;simp[PC.ev] at h
 |seq a b bu ew=>
  intro l hl ρ i η h;simp only[nq,aj] at hl;simp only[PC.ev] at h;split at h
  ·exact ew hl.2 h
  ·exact bu hl.1 h
 |ite c lr lo a b bu ew=>
  intro l hl ρ i η h;simp only[nq,aj] at hl;simp only[PC.ev] at h;cases hc:(c.ev ρ).b<;>simp only[hc,cond_true,cond_false] at h
  ·split at h
   ·cases h
   ·exact ew hl.2 h
  ·split at h
   ·cases h
   ·exact bu hl.1 h
 |block id lr lo a bu=>
  intro l hl ρ i η h;simp only[PC.ev] at h;split at h
  ·cases h
  ·rename_i bR ρ2 ha;cases hb:Nat.beq bR id<;>simp only[hb,cond_true,cond_false] at h<;>cases h;rcases df.1 (bu hl ha) with e|e
   ·subst e;rw[gL] at hb;cases hb
   ·exact e
  ·rename_i h1 h2;exact absurd h (h2 _ _)
 |loop lr lo a bu=>
  intro l hl ρ i η h;have key:∀(m:Nat) (vr vo:List D),gU (a.ev Φ n) ρ lr lo m vr vo=some (.exit i η)→i∈l:=by
   intro m
   induction m with
   |zero=>intro vr vo h;simp[gU] at h
   |succ m Nb=>
    intro vr vo h;simp only[gU] at h;split at h
    ·exact Nb _ _ h
    ·exact bu hl h
  exact key _ _ _ h
 |each e ps lo rt a bu=>
  intro l hl ρ i η h;have key:∀(xs vo:List D),kj (a.ev Φ n) ρ ps lo rt xs vo=some (.exit i η)→i∈l:=by
   intro xs
   induction xs with
   |nil=>intro vo h;simp[kj] at h
   |cons x xs jd=>
    intro vo h;simp only[kj] at h;split at h
    ·exact jd _ h
    ·rename_i bR ρ2 ha;cases hb:Nat.beq bR cO<;>simp only[hb,cond_true,cond_false] at h
     ·injection h with h;injection h with h1 h2;subst h1
      rcases df.1 (bu hl ha) with e|e
      ·subst e;rw[gL] at hb;cases hb
      ·exact e
     ·cases rt<;>simp at h
    ·cases h
  exact key _ _ h
 |meach J ps da lo a _=>
  intro l _ ρ i η h;simp only[PC.ev,zB] at h;obtain⟨vo,_,h⟩:=h;cases h
def VL (t:Nat):PE→Bool
 |.r u=>Nat.beq u t
 |_=>false
def VM (t:Nat):PE→Bool
 |.o u=>Nat.beq u t
 |_=>false
def fk (nI:Nat→PE→Bool)(p:Nat→Bool):List Nat→List (Nat×PE)→List (Nat×PE)
 |_,[]=>[]
 |seen,x::l=>bif p x.1&& !fC seen x.1 then(bif nI x.1 x.2 then fk nI p (x.1::seen) l else x::fk nI p (x.1::seen) l) else fk nI p seen l
theorem Ge {nI:Nat→PE→Bool}{p:Nat→Bool}:∀{l:List (Nat×PE)} {seen:List Nat} {t:Nat},fC seen t=true→bx (fk nI p seen l) t=none
 |[],_,_,_=>rfl
 |x::l,seen,t,h=>by
  have h':fC (x.1::seen) t=true:=by rw[oX] at h ⊢;exact dz _ h
  simp only[fk];cases hb:(p x.1&& !fC seen x.1) with
  |false=>exact Ge h
  |true=>
   simp only[cond_true];cases nI x.1 x.2 with
   |true=>exact Ge h'
   |false=>
    simp only[cond_false,bx];have:Nat.beq x.1 t=false:=by
      cases e:Nat.beq x.1 t with
      |false=>rfl
      |true=>rw[cM e,h] at hb;simp at hb
    rw[this];exact Ge h'
theorem Bu {nI:Nat→PE→Bool}{p:Nat→Bool}{dflt:Nat→PE}(cQ:∀t e,nI t e=true→e=dflt t):∀{l:List (Nat×PE)} {seen:List Nat} {t:Nat},p t=true→fC seen t=false→
 (match bx (fk nI p seen l) t with|some e=>e|none=>dflt t)=(match bx l t with|some e=>e|none=>dflt t)
 |[],_,_,_,_=>rfl
 |x::l,seen,t,hp,hs=>by
  simp only[fk,bx];cases e:Nat.beq x.1 t with
  |true=>
   have e':=cM e;rw[e',hp,hs];simp only[Bool.not_false,Bool.and_self,cond_true];cases hi:nI t x.2 with
   |true=>simp only[cond_true];rw[Ge (by rw[oX];exact dG ..)];exact(cQ _ _ hi).symm
   |false=>simp only[cond_false,bx,e,cond_true]
  |false=>
   simp only[cond_false];cases hb:(p x.1&& !fC seen x.1) with
   |false=>exact Bu cQ hp hs
   |true=>
    have oS:fC (x.1::seen) t=false:=by
      cases hm:fC (x.1::seen) t with
      |false=>rfl
      |true=>
       rcases df.1 ((oX _ _).1 hm) with h|h
       ·rw[h,gL] at e;cases e
       ·rw[(oX _ _).2 h] at hs;cases hs
    simp only[cond_true];cases nI x.1 x.2 with
    |true=>exact Bu cQ hp oS
    |false=>simp only[cond_false,bx,e];exact Bu cQ hp oS
def SE.cut (s:SE)(k:Lk):SE:=⟨fk VL (aq k.r) [] s.r,fk VM (fC k.o) [] s.o⟩
def No (l:List (Nat×PE)):Lk:=l.foldr (fun x k=>x.2.lk.un k) .none
def SE.lks (s:SE):Lk:=(No s.r).un (No s.o)
theorem Np:∀{l:List (Nat×PE)} {t:Nat} {e:PE},bx l t=some e→e.lk.Le (No l)
 |[],_,_,h=>by cases h
 |x::l,t,e,h=>by
  simp only[bx] at h;cases hb:Nat.beq x.1 t<;>simp only[hb,cond_true,cond_false] at h
  ·exact(Np h).trans (Lk.le_r _ _)
  ·cases h;exact Lk.le_l _ _
theorem SE.cut_al {s:SE}{L:Lk}{ρ1 ρ2:Env}(h:Alike (L.un (s.cut L).lks) ρ1 ρ2):Alike L ((s.cut L).ev ρ1) (s.ev ρ2):=by
 have hL:=h.le (Lk.le_l _ _);have hs:=h.le (Lk.le_r _ _);constructor
 ·intro t ht;show(s.getR t).ev ρ2=((s.cut L).getR t).ev ρ1;have e:(s.cut L).getR t=s.getR t:=Bu (dflt:=.r) (fun t e he=>by unfold VL at he;split at he;rw[cM he];cases he) ht rfl;rw[←e];cases hl:bx (s.cut L).r t with
  |none=>have:(s.cut L).getR t=.r t:=by unfold SE.getR;rw[hl]
         rw[this];exact hL.r t ht
  |some x=>have:(s.cut L).getR t=x:=by unfold SE.getR;rw[hl]
           rw[this];exact PE.ev_alike x (hs.le ((Np hl).trans (Lk.le_l _ _)))
 ·intro t ht;show(s.getO t).ev ρ2=((s.cut L).getO t).ev ρ1;have e:(s.cut L).getO t=s.getO t:=Bu (dflt:=.o) (fun t e he=>by unfold VM at he;split at he;rw[cM he];cases he) ((oX _ _).2 ht) rfl;rw[←e];cases hl:bx (s.cut L).o t with
  |none=>have:(s.cut L).getO t=.o t:=by unfold SE.getO;rw[hl]
         rw[this];exact hL.o t ht
  |some x=>have:(s.cut L).getO t=x:=by unfold SE.getO;rw[hl]
           rw[this];exact PE.ev_alike x (hs.le ((Np hl).trans (Lk.le_r _ _)))
structure LC where
 next:Lk
 ov:List (Nat×Lk)
def LC.all (c:LC):Lk:=c.ov.foldr (fun x k=>x.2.un k) .none
def JT (c:LC)(Q1 Q2:Out→Prop):Prop:=
 (∀ρ1 ρ2,Alike c.next ρ1 ρ2→Q1 (.next ρ1)→Q2 (.next ρ2))∧(∀id k ρ1 ρ2,bx c.ov id=some k→Alike k ρ1 ρ2→Q1 (.exit id ρ1)→Q2 (.exit id ρ2))∧∀d,Q1 (.ret d)→Q2 (.ret d)
def fO:LC→PT→Option (PT×Lk)
 |c,.next s=>some (.next (s.cut c.next),c.next.un (s.cut c.next).lks)
 |c,.exit id s=>(bx c.ov id).map fun k=>(.exit id (s.cut k),k.un (s.cut k).lks)
 |_,.ret e=>some (.ret e,e.lk)
 |c,.chk e k=>(fO c k).map fun r=>(.chk e r.1,e.lk.un r.2)
 |c,.ite e a b=>(fO c a).bind fun x=>(fO c b).map fun y=>(.ite e x.1 y.1,e.lk.un (x.2.un y.2))
 |c,.call s gs dst f args k=>(fO c k).map fun r=>(.call (s.cut (r.2.un (lQ gs))) gs dst f args r.1,(PE.lks args).un ((r.2.un (lQ gs)).un (s.cut (r.2.un (lQ gs))).lks))
 |c,.callc s gs dst e args k=>(fO c k).map fun r=>(.callc (s.cut (r.2.un (lQ gs))) gs dst e args r.1,(e.lk.un (PE.lks args)).un ((r.2.un (lQ gs)).un (s.cut (r.2.un (lQ gs))).lks))
 |c,.mcall s j f args k=>(fO c k).map fun r=>(.mcall (s.cut r.2) j f args r.1,(PE.lks args).un (r.2.un (s.cut r.2).lks))
 |c,.iteS s e lr lo a b k=>(fO c k).bind fun r=>(fO ⟨r.2,c.ov⟩ a).bind fun x=>(fO ⟨r.2,c.ov⟩ b).map fun y=>
    (.iteS (s.cut (r.2.un (x.2.un y.2))) e lr lo x.1 y.1 r.1,e.lk.un ((r.2.un (x.2.un y.2)).un (s.cut (r.2.un (x.2.un y.2))).lks))
 |c,.blockS s id lr lo a k=>(fO c k).bind fun r=>(fO ⟨r.2,(id,r.2)::c.ov⟩ a).map fun x=>(.blockS (s.cut (r.2.un x.2)) id lr lo x.1 r.1,(r.2.un x.2).un (s.cut (r.2.un x.2)).lks)
 |c,.brk s p k=>(fO c k).bind fun r=>bif nq (c.ov.map (·.1)) p then some (.brk (s.cut (p.lk.un (r.2.un c.all))) p r.1,(p.lk.un (r.2.un c.all)).un (s.cut (p.lk.un (r.2.un c.all))).lks) else none
theorem LC.all_le:∀{l:List (Nat×Lk)} {id:Nat} {k:Lk},bx l id=some k→k.Le (l.foldr (fun x k=>x.2.un k) .none)
 |[],_,_,h=>by cases h
 |x::l,t,e,h=>by
  simp only[bx] at h;cases hb:Nat.beq x.1 t<;>simp only[hb,cond_true,cond_false] at h
  ·exact(LC.all_le h).trans (Lk.le_r _ _)
  ·cases h;exact Lk.le_l _ _
theorem V6:∀{l:List (Nat×Lk)} {id:Nat},id∈l.map (·.1)→∃k,bx l id=some k
 |[],_,h=>by cases h
 |x::l,id,h=>by
  simp only[bx];cases hb:Nat.beq x.1 id with
  |true=>exact⟨_,rfl⟩
  |false=>
   simp only[cond_false];rcases df.1 h with e|h
   ·rw[e,gL] at hb;cases hb
   ·exact V6 h
theorem akF {T:dk}:∀(t:PT) {c:LC} {t':PT} {L:Lk},fO c t=some (t',L)→∀{Q1 Q2:Out→Prop} {ρ1 ρ2:Env},JT c Q1 Q2→Alike L ρ1 ρ2→aE T t' ρ1 Q1→aE T t ρ2 Q2:=by
 intro t
 induction t with
 |next s=>
  intro c t' L hp Q1 Q2 ρ1 ρ2 hQ hA h;simp only[fO,aO,ng] at hp;obtain⟨rfl,rfl⟩:=hp;exact hQ.1 _ _ (SE.cut_al hA) h
 |exit id s=>
  intro c t' L hp Q1 Q2 ρ1 ρ2 hQ hA h;simp only[fO,av,ng] at hp;obtain⟨k,hk,rfl,rfl⟩:=hp;exact hQ.2.1 _ k _ _ hk (SE.cut_al hA) h
 |ret e=>
  intro c t' L hp Q1 Q2 ρ1 ρ2 hQ hA h;simp only[fO,aO,ng] at hp;obtain⟨rfl,rfl⟩:=hp;show Q2 (.ret (e.ev ρ2));rw[PE.ev_alike e hA];exact hQ.2.2 _ h
 |chk e k ih=>
  intro c t' L hp Q1 Q2 ρ1 ρ2 hQ hA h;simp only[fO,av,ng] at hp;obtain⟨r,hr,rfl,rfl⟩:=hp;exact⟨by rw[PE.ev_alike e (hA.le (Lk.le_l _ _))];exact h.1,ih hr hQ (hA.le (Lk.le_r _ _)) h.2⟩
 |ite e a b bu ew=>
  intro c t' L hp Q1 Q2 ρ1 ρ2 hQ hA h;simp only[fO,ao,av,ng] at hp;obtain⟨x,hx,y,hy,rfl,rfl⟩:=hp;have h2:=hA.le (Lk.le_r _ _);simp only[aE] at h ⊢;rw[PE.ev_alike e (hA.le (Lk.le_l _ _))];split
  ·rename_i hc;rw[if_pos hc] at h;exact bu hx hQ (h2.le (Lk.le_l _ _)) h
  ·rename_i hc;rw[if_neg hc] at h;exact ew hy hQ (h2.le (Lk.le_r _ _)) h
 |call s gs dst f args k ih=>
  intro c t' L hp Q1 Q2 ρ1 ρ2 hQ hA h;simp only[fO,av,ng] at hp;obtain⟨r,hr,rfl,rfl⟩:=hp;have hS:=SE.cut_al (hA.le (Lk.le_r _ _));simp only[aE] at h ⊢;rw[PE.evs_alike args (hA.le (Lk.le_l _ _)),yU (hS.le (Lk.le_r _ _))];split
  ·rename_i hc;rw[if_pos hc] at h;obtain⟨d,hd,h⟩:=h;exact⟨d,hd,ih hr hQ ((hS.le (Lk.le_l _ _)).setR dst d) h⟩
  ·rename_i hc;rw[if_neg hc] at h;exact ih hr hQ (hS.le (Lk.le_l _ _)) h
 |callc s gs dst e args k ih=>
  intro c t' L hp Q1 Q2 ρ1 ρ2 hQ hA h;simp only[fO,av,ng] at hp;obtain⟨r,hr,rfl,rfl⟩:=hp;have hS:=SE.cut_al (hA.le (Lk.le_r _ _));have hE:=hA.le (Lk.le_l _ _);simp only[aE] at h ⊢;rw[PE.ev_alike e (hE.le (Lk.le_l _ _)),PE.evs_alike args (hE.le (Lk.le_r _ _)),yU (hS.le (Lk.le_r _ _))];split
  ·rename_i hc;rw[if_pos hc] at h;obtain⟨f,caps,d,he,hd,h⟩:=h;exact⟨f,caps,d,he,hd,ih hr hQ ((hS.le (Lk.le_l _ _)).setR dst d) h⟩
  ·rename_i hc;rw[if_neg hc] at h;exact ih hr hQ (hS.le (Lk.le_l _ _)) h
 |mcall s j f args k ih=>
  intro c t' L hp Q1 Q2 ρ1 ρ2 hQ hA h;simp only[fO,av,ng] at hp;obtain⟨r,hr,rfl,rfl⟩:=hp;have hS:=SE.cut_al (hA.le (Lk.le_r _ _));simp only[aE] at h ⊢;rw[PE.evs_alike args (hA.le (Lk.le_l _ _))];obtain⟨d,hd,h⟩:=h;exact⟨d,hd,ih hr hQ (hS.setO j d) h⟩
 |iteS s e lr lo a b k bu ew jZ=>
  intro c t' L hp Q1 Q2 ρ1 ρ2 hQ hA h;simp only[fO,ao,av,ng] at hp;obtain⟨r,hr,x,hx,y,hy,rfl,rfl⟩:=hp;have hS:=SE.cut_al (hA.le (Lk.le_r _ _));have Gy:=hS.le (Lk.le_l _ _);have BG:=hS.le ((Lk.le_l _ _).trans (Lk.le_r _ _));have hSy:=hS.le ((Lk.le_r _ _).trans (Lk.le_r _ _))
  have rel:JT ⟨r.2,c.ov⟩ (kH ((s.cut (r.2.un (x.2.un y.2))).ev ρ1) lr lo (gG (fun ρ'=>aE T r.1 ρ' Q1) Q1)) (kH (s.ev ρ2) lr lo (gG (fun ρ'=>aE T k ρ' Q2) Q2)):=
   ⟨fun η1 η2 ha hq=>jZ hr hQ (Gy.join ha lr lo) hq,fun id k' η1 η2 hk ha hq=>hQ.2.1 id k' _ _ hk ha hq,fun d hq=>hQ.2.2 d hq⟩
  simp only[aE] at h ⊢;rw[PE.ev_alike e (hA.le (Lk.le_l _ _))];split
  ·rename_i hc;rw[if_pos hc] at h;exact bu hx rel BG h
  ·rename_i hc;rw[if_neg hc] at h;exact ew hy rel hSy h
 |blockS s id lr lo a k bu jZ=>
  intro c t' L hp Q1 Q2 ρ1 ρ2 hQ hA h;simp only[fO,ao,av,ng] at hp;obtain⟨r,hr,x,hx,rfl,rfl⟩:=hp;have hS:=SE.cut_al hA;have Gy:=hS.le (Lk.le_l _ _);refine bu hx (Q1:=lM ((s.cut (r.2.un x.2)).ev ρ1) id lr lo (gG (fun ρ'=>aE T r.1 ρ' Q1) Q1)) ⟨fun η1 η2 ha hq=>jZ hr hQ (Gy.join ha lr lo) hq,fun bR k' η1 η2 hk ha hq=>?_,fun d hq=>hQ.2.2 d hq⟩ (hS.le (Lk.le_r _ _)) h;simp only[lM] at hq ⊢;simp only[bx] at hk;by_cases e:bR=id
  ·subst e;simp only[gL,cond_true,aO] at hk;subst hk;rw[if_pos rfl] at hq ⊢;exact jZ hr hQ (Gy.join ha lr lo) hq
  ·rw[if_neg e] at hq ⊢;rw[eX (fun h=>e h.symm),cond_false] at hk;exact hQ.2.1 bR k' _ _ hk ha hq
 |brk s p k jZ=>
  intro c t' L hp Q1 Q2 ρ1 ρ2 hQ hA h;simp only[fO,ao] at hp;obtain⟨r,hr,hp⟩:=hp;cases hx:nq (c.ov.map (·.1)) p<;>simp only[hx,cond_true,cond_false,aO,ng] at hp
  ·cases hp
  obtain⟨rfl,rfl⟩:=hp;have hS:=SE.cut_al hA;have iY:Off (p.lk.un (r.2.un c.all)) (s.ev ρ2) ((s.cut (p.lk.un (r.2.un c.all))).ev ρ1) (s.ev ρ2):=⟨hS,fun _ _=>rfl,fun _ _=>rfl⟩
  obtain⟨x,hq,n0,hn⟩:=h;have step:=fun n (hle:n0≤n)=>PC.ev_off p (Lk.le_l _ _) iY (hn n hle);obtain⟨x',h1,h2⟩:=step n0 (aU _);refine⟨x',?_,n0,fun n hle=>?_⟩
  ·cases x with
   |next η=>obtain⟨η',rfl,h3⟩:=h2;exact jZ hr hQ (h3.al.le ((Lk.le_l _ _).trans (Lk.le_r _ _))) hq
   |exit i η=>
    obtain⟨η',rfl,h3⟩:=h2;obtain⟨k',bU⟩:=V6 (adr p hx (hn n0 (aU _)));exact hQ.2.1 i k' _ _ bU (h3.al.le ((LC.all_le bU).trans ((Lk.le_r _ _).trans (Lk.le_r _ _)))) hq
   |ret d=>cases h2;exact hQ.2.2 d hq
  ·obtain⟨x2,h3,h4⟩:=step n hle;rw[h3,h2.uniq h4]
def Da (c:LC)(t:PT):PT:=match fO c t with|some r=>r.1|none=>t
theorem If {T:dk}{c:LC}{t:PT}{Q:Out→Prop}{ρ:Env}(hQ:JT c Q Q)(h:aE T (Da c t) ρ Q):aE T t ρ Q:=by
 unfold Da at h;split at h
 ·rename_i r hr;exact akF t hr hQ ⟨fun _ _=>rfl,fun _ _=>rfl⟩ h
 ·exact h
def Z8 (c:PC):PT:=sx c [] .id (fun _ s=>.next s) (fun _ id s=>.exit id s)
theorem Z9 {T:dk}{c:PC}{ρ:Env}{Q:Out→Prop}(h:aE T (Z8 c) ρ Q):aS T c ρ Q:=
 PU (s:=.id) c (bV.ok_nil _) h (fun ρ' ab s _ _ h=>h) (fun ρ' ab id s _ _ h=>h) (fun _ _ _ h=>h) (fun _ h=>h)
def tree (c:PC):PT:=Da ⟨.none,[]⟩ (Z8 c)
theorem Rs {T:dk}{c:PC}{ρ:Env}{d:D}(h:aE T (tree c) ρ fun x=>x=.ret d):aS T c ρ fun x=>x=.ret d:=
 Z9 (If ⟨fun _ _ _ h=>(by cases h),fun _ _ _ _ _ _ h=>(by cases h),fun _ h=>h⟩ h)
def SE.keep (s:SE)(lr lo:List Nat):SE:=⟨lr.map fun t=>(t,s.getR t),lo.map fun t=>(t,s.getO t)⟩
theorem SE.keep_r (s:SE)(lr lo:List Nat)(ρ:Env):lr.map ((s.keep lr lo).ev ρ).r=lr.map (s.ev ρ).r:=by
 apply xb;intro t ht;show((s.keep lr lo).getR t).ev ρ=(s.getR t).ev ρ;have:=wc (f:=fun t=>s.getR t) (l:=[]) (u:=t) lr;rw[kO,if_pos ht] at this;have e:(s.keep lr lo).getR t=s.getR t:=by unfold SE.getR SE.keep;simp only[];rw[this];rfl
 rw[e]
theorem SE.keep_o (s:SE)(lr lo:List Nat)(ρ:Env):lo.map ((s.keep lr lo).ev ρ).o=lo.map (s.ev ρ).o:=by
 apply xb;intro t ht;show((s.keep lr lo).getO t).ev ρ=(s.getO t).ev ρ;have:=wc (f:=fun t=>s.getO t) (l:=[]) (u:=t) lo;rw[kO,if_pos ht] at this;have e:(s.keep lr lo).getO t=s.getO t:=by unfold SE.getO SE.keep;simp only[];rw[this];rfl
 rw[e]
def Zu (id:Nat)(bn bm lr lo:List Nat)(a:PC):PT:=
 sx a [] .id (fun _ s=>.next (s.keep lr lo)) (fun _ bR s=>bif Nat.beq bR id then .exit id (s.keep bn bm) else .exit bR s)
def fh (ρ:Env)(id:Nat)(bn bm lr lo:List Nat)(K:List D→List D→Prop)(Q:Out→Prop):Out→Prop
 |.next ρ'=>K (lr.map ρ'.r) (lo.map ρ'.o)
 |.exit bR ρ'=>if bR=id then Q (.next (ρ.put bn (bn.map ρ'.r) bm (bm.map ρ'.o))) else Q (.exit bR ρ')
 |.ret d=>Q (.ret d)
def round (id:Nat)(bn bm lr lo:List Nat)(a:PC):PT:=Da ⟨⟨bits lr,lo⟩,[(id,⟨bits bn,bm⟩)]⟩ (Zu id bn bm lr lo a)
theorem Wp {k:Lk}{lr:List Nat}{ρ1 ρ2:Env}(h:Alike k ρ1 ρ2)(hk:∀t,t∈lr→aq k.r t=true):lr.map ρ2.r=lr.map ρ1.r:=xb fun t ht=>h.r t (hk t ht)
theorem HH {k:Lk}{lo:List Nat}{ρ1 ρ2:Env}(h:Alike k ρ1 ρ2)(hk:∀t,t∈lo→t∈k.o):lo.map ρ2.o=lo.map ρ1.o:=xb fun t ht=>h.o t (hk t ht)
theorem alz {T:dk}{id:Nat}{bn bm lr lo:List Nat}{a:PC}{ρ ρ0:Env}{K:List D→List D→Prop}{Q:Out→Prop}(h:aE T (round id bn bm lr lo a) ρ (fh ρ0 id bn bm lr lo K Q)):aE T (Zu id bn bm lr lo a) ρ (fh ρ0 id bn bm lr lo K Q):=by
 refine If ⟨fun ρ1 ρ2 ha hq=>?_,fun bR k ρ1 ρ2 hk ha hq=>?_,fun d hq=>hq⟩ h
 ·simp only[fh] at hq ⊢;rw[Wp ha fun t ht=>Ky ht,HH ha fun t ht=>ht];exact hq
 ·simp only[bx] at hk;cases hb:Nat.beq id bR<;>simp only[hb,cond_true,cond_false] at hk
  ·cases hk
  ·cases hk;have:=cM hb;subst this;simp only[fh,if_true] at hq ⊢;rw[Wp ha fun t ht=>Ky ht,HH ha fun t ht=>ht];exact hq
theorem aS.forLoop {T:dk}{id:Nat}{bn bm lr lo:List Nat}{a:PC}{ρ:Env}{Q:Out→Prop}{α:Type}(inv:α→List D→List D→Prop)(tP:α→Nat)(s0:α)(h0:inv s0 (lr.map ρ.r) (lo.map ρ.o))
 (step:∀s vr vo,inv s vr vo→aE T (round id bn bm lr lo a) (ρ.put lr vr lo vo) (fh ρ id bn bm lr lo (fun vr vo=>∃s',tP s'<tP s∧inv s' vr vo) Q)):aS T (.block id bn bm (.loop lr lo a)) ρ Q:=by
 refine .block (.loop inv tP s0 h0 fun s vr vo hi=>?_);have h:=alz (step s vr vo hi);refine PU (s:=.id) a (bV.ok_nil _) h (fun ρ' ab s' _ _ h=>?_) (fun ρ' ab bR s' _ _ h=>?_) (fun _ bR ρ' h=>?_) (fun d h=>h)
 ·simp only[aE,fh] at h;rw[SE.keep_r,SE.keep_o] at h;exact h
 ·simp only[gG,lM];by_cases cQ:bR=id
  ·subst cQ;simp only[gL,cond_true,aE,fh,if_true] at h;rw[SE.keep_r,SE.keep_o] at h;rw[if_pos rfl];exact h
  ·rw[eX cQ,cond_false] at h;simp only[aE,fh] at h;rw[if_neg cQ] at h ⊢;exact h
 ·simp only[gG,lM];simp only[fh] at h;split
  ·rename_i e;rw[if_pos e] at h;exact h
  ·rename_i e;rw[if_neg e] at h;exact h
def Zv (lo:List Nat)(a:PC):PT:=sx a [] .id (fun _ s=>.next (s.keep [] lo)) (fun _ id s=>.exit id (s.keep [] lo))
def sl (lo:List Nat)(a:PC):PT:=Da ⟨⟨0,lo⟩,[(cO,⟨0,lo⟩)]⟩ (Zv lo a)
theorem alx {T:dk}{lo:List Nat}{a:PC}{ρ:Env}{Q:Out→Prop}(hn:∀ρ1 ρ2,lo.map ρ2.o=lo.map ρ1.o→Q (.next ρ1)→Q (.next ρ2))(hx:∀ρ1 ρ2,lo.map ρ2.o=lo.map ρ1.o→Q (.exit cO ρ1)→Q (.exit cO ρ2))(h:aE T (sl lo a) ρ Q):aE T (Zv lo a) ρ Q:=by
 refine If ⟨fun ρ1 ρ2 ha hq=>hn ρ1 ρ2 (HH ha fun t ht=>ht) hq,fun bR k ρ1 ρ2 hk ha hq=>?_,fun d hq=>hq⟩ h;simp only[bx] at hk;cases hb:Nat.beq cO bR<;>simp only[hb,cond_true,cond_false] at hk
 ·cases hk
 ·cases hk;have:=cM hb;subst this;exact hx ρ1 ρ2 (HH ha fun t ht=>ht) hq
theorem aS.meachR {T:dk}{J:Nat}{ps da lo:List Nat}{a:PC}{ρ:Env}{Q:Out→Prop}(es:List (D×D))(he:ρ.o J=.tup [.list [],.map es])(inv:List D→List D→Prop)(h0:inv [] (lo.map ρ.o))
 (step:∀done x rest vo,(done++x::rest).Perm (gW (.map es))→inv done vo→aE T (sl lo a) ((ρ.put ps (da.map x.tget) lo vo).setO J (.tup [.list (done++[x]),.map es])) (fun y=>∃ρ',y=.next ρ'∧inv (done++[x]) (lo.map ρ'.o)))
 (last:∃vo,(∀done,done.Perm (gW (.map es))→∀qJ,inv done qJ→qJ=vo)∧Q (.next (ρ.put [] [] lo vo))):aS T (.meach J ps da lo a) ρ Q:=by
 refine .meach es he inv h0 (fun done x rest vo hp hi=>?_) last;have h:=alx (fun ρ1 ρ2 e ⟨ρ',e1,hq⟩=>by cases e1;exact⟨_,rfl,by rw[e];exact hq⟩) (fun ρ1 ρ2 e ⟨ρ',e1,hq⟩=>by cases e1) (step done x rest vo hp hi);refine PU (s:=.id) a (bV.ok_nil _) h (fun ρ' ab s' _ _ h=>?_) (fun ρ' ab bR s' _ _ h=>?_) (fun _ bR ρ' h=>?_) (fun d h=>?_)
 ·simp only[aE] at h;obtain⟨ρ2,e,h⟩:=h;injection e with e;subst e;rw[SE.keep_o] at h;exact⟨_,rfl,h⟩
 ·simp only[aE] at h;obtain⟨ρ2,e,h⟩:=h;cases e
 ·obtain⟨ρ2,e,_⟩:=h;cases e
 ·obtain⟨ρ2,e,_⟩:=h;cases e
theorem xd {T:dk}:∀(t:PT) {ρ:Env} {Q Q':Out→Prop},(∀x,Q x→Q' x)→aE T t ρ Q→aE T t ρ Q':=by
 intro t
 induction t with
 |next s=>intro ρ Q Q' h hx;exact h _ hx
 |exit id s=>intro ρ Q Q' h hx;exact h _ hx
 |ret e=>intro ρ Q Q' h hx;exact h _ hx
 |chk e k ih=>intro ρ Q Q' h hx;exact⟨hx.1,ih h hx.2⟩
 |ite c a b bu ew=>
  intro ρ Q Q' h hx;simp only[aE] at hx ⊢;split
  ·rename_i hc;rw[if_pos hc] at hx;exact bu h hx
  ·rename_i hc;rw[if_neg hc] at hx;exact ew h hx
 |call s gs dst f args k ih=>
  intro ρ Q Q' h hx;simp only[aE] at hx ⊢;split
  ·rename_i hc;rw[if_pos hc] at hx;obtain⟨d,hd,hx⟩:=hx;exact⟨d,hd,ih h hx⟩
  ·rename_i hc;rw[if_neg hc] at hx;exact ih h hx
 |callc s gs dst e args k ih=>
  intro ρ Q Q' h hx;simp only[aE] at hx ⊢;split
  ·rename_i hc;rw[if_pos hc] at hx;obtain⟨f,c,d,he,hd,hx⟩:=hx;exact⟨f,c,d,he,hd,ih h hx⟩
  ·rename_i hc;rw[if_neg hc] at hx;exact ih h hx
 |mcall s j f args k ih=>intro ρ Q Q' h hx;obtain⟨d,hd,hx⟩:=hx;exact⟨d,hd,ih h hx⟩
 |iteS s c lr lo a b k bu ew jZ=>
  intro ρ Q Q' h hx
  have hq:∀x,kH (s.ev ρ) lr lo (gG (fun ρ'=>aE T k ρ' Q) Q) x→kH (s.ev ρ) lr lo (gG (fun ρ'=>aE T k ρ' Q') Q') x:=by
   intro x hx;cases x with
   |next ρ'=>exact jZ h hx
   |exit id ρ'=>exact h _ hx
   |ret d=>exact h _ hx
  simp only[aE] at hx ⊢;split
  ·rename_i hc;rw[if_pos hc] at hx;exact bu hq hx
  ·rename_i hc;rw[if_neg hc] at hx;exact ew hq hx
 |blockS s id lr lo a k bu jZ=>
  intro ρ Q Q' h hx;refine bu (fun x hx=>?_) hx;cases x with
  |next ρ'=>exact jZ h hx
  |exit bR ρ'=>
   simp only[lM] at hx ⊢;split
   ·rename_i e;rw[if_pos e] at hx;exact jZ h hx
   ·rename_i e;rw[if_neg e] at hx;exact h _ hx
  |ret d=>exact h _ hx
 |brk s c k ih=>
  intro ρ Q Q' h hx;refine aS.mono hx fun x hx=>?_;cases x with
  |next ρ'=>exact ih h hx
  |exit id ρ'=>exact h _ hx
  |ret d=>exact h _ hx
theorem aS.forRounds {T:dk}{id:Nat}{bn bm lr lo:List Nat}{a:PC}{ρ:Env}{Q:Out→Prop}(N:Nat)(str fF:Nat→List D)(h0:lr.map ρ.r=str 0∧lo.map ρ.o=fF 0)
 (step:∀k,k<N→aE T (round id bn bm lr lo a) (ρ.put lr (str k) lo (fF k)) (fh ρ id bn bm lr lo (fun vr vo=>vr=str (k+1)∧vo=fF (k+1)) Q))
 (last:aE T (round id bn bm lr lo a) (ρ.put lr (str N) lo (fF N)) (fh ρ id bn bm lr lo (fun _ _=>False) Q)):aS T (.block id bn bm (.loop lr lo a)) ρ Q:=by
 refine .forLoop (α:=Nat) (fun k vr vo=>k≤N∧vr=str k∧vo=fF k) (fun k=>N-k) 0 ⟨nf _,h0.1,h0.2⟩ ?_;rintro k vr vo ⟨hk,rfl,rfl⟩;have mono:∀{K K':List D→List D→Prop},(∀a b,K a b→K' a b)→∀x,fh ρ id bn bm lr lo K Q x→fh ρ id bn bm lr lo K' Q x:=by
  intro K K' h x hx;cases x with
  |next ρ'=>exact h _ _ hx
  |exit bR ρ'=>exact hx
  |ret d=>exact hx
 by_cases ae:k<N
 ·exact xd _ (mono fun a b ⟨h1,h2⟩=>⟨k+1,by omega,by omega,h1,h2⟩) (step k ae)
 ·obtain rfl:k=N:=by omega
  exact xd _ (mono fun a b h=>h.elim) last
theorem PF {ρ:Env}{id:Nat}{bn bm lr lo:List Nat}{K K':List D→List D→Prop}{Q:Out→Prop}(h:∀a b,K a b→K' a b):∀x,fh ρ id bn bm lr lo K Q x→fh ρ id bn bm lr lo K' Q x:=by
 intro x hx;cases x with
 |next ρ'=>exact h _ _ hx
 |exit bR ρ'=>exact hx
 |ret d=>exact hx
theorem aS.scan {T:dk}{id:Nat}{bn bm lr lo:List Nat}{a:PC}{ρ:Env}{Q:Out→Prop}(N:Nat)(ok:Nat→Prop)(str fF:Nat→List D)(h0:lr.map ρ.r=str 0∧lo.map ρ.o=fF 0)
 (step:∀k,k<N→(∀j,j<k→ok j)→ok k→aE T (round id bn bm lr lo a) (ρ.put lr (str k) lo (fF k)) (fh ρ id bn bm lr lo (fun vr vo=>vr=str (k+1)∧vo=fF (k+1)) Q))
 (bad:∀k,k<N→(∀j,j<k→ok j)→¬ok k→aE T (round id bn bm lr lo a) (ρ.put lr (str k) lo (fF k)) (fh ρ id bn bm lr lo (fun _ _=>False) Q))
 (last:(∀j,j<N→ok j)→aE T (round id bn bm lr lo a) (ρ.put lr (str N) lo (fF N)) (fh ρ id bn bm lr lo (fun _ _=>False) Q)):aS T (.block id bn bm (.loop lr lo a)) ρ Q:=by
 refine .forLoop (α:=Nat) (fun k vr vo=>k≤N∧(∀j,j<k→ok j)∧vr=str k∧vo=fF k) (fun k=>N-k) 0 ⟨nf _,fun j hj=>by omega,h0.1,h0.2⟩ ?_;rintro k vr vo ⟨hk,hj,rfl,rfl⟩;by_cases ae:k<N
 ·by_cases ax:ok k
  ·refine xd _ (PF fun a b ⟨h1,h2⟩=>⟨k+1,by omega,by omega,fun j GW=>?_,h1,h2⟩) (step k ae hj ax);by_cases e:j=k
   ·subst e;exact ax
   ·exact hj j (by omega)
  ·exact xd _ (PF fun a b h=>h.elim) (bad k ae hj ax)
 ·obtain rfl:k=N:=by omega
  exact xd _ (PF fun a b h=>h.elim) (last hj)
def aI (n:Nat)(e:PE):PE:=.mk ((List.range n).map fun i=>.cell e i)
def lL (n:Nat)(d:D):D:=.agg ((List.range n).flatMap fun i=>(d.c i).cells)
theorem adp (ρ:Env)(n:Nat)(e:PE):(aI n e).ev ρ=lL n (e.ev ρ):=by
 have key:∀l:List Nat,PE.evc ρ (l.map fun i=>.cell e i)=l.flatMap fun i=>((e.ev ρ).c i).cells:=by
  intro l
  induction l with
  |nil=>rfl
  |cons i l ih=>simp only[gz,PE.evc,PE.ev,qO,ih]
 show D.agg _=_;rw[key];rfl
end Cx
namespace Cx
open Go Go.RowKit
def aT (n:Int):Prop:=-9223372036854775808≤n∧n≤9223372036854775807
def ints (l:List Int):D:=.list (l.map .int)
theorem cm {n:Int}(h:-9223372036854775808≤n∧n≤9223372036854775807):IntKind.i64.wrap n=n:=by
 simp only[IntKind.wrap,IntKind.signed,IntKind.bits];simp;split<;>omega
theorem DTy.int_inv {k:IntKind}{d:D}(h:DTy (.int k) d):∃n,d=.v (.int k n)∧k.min≤n∧n≤k.max:=by
 cases h with
 |int k n h1 h2=>exact⟨n,rfl,h1,h2⟩
 |other t d h=>exact h.elim
theorem DTy.i64_inv {d:D}(h:DTy (.int .i64) d):∃n,d=.int n∧aT n:=by
 obtain⟨n,rfl,h1,h2⟩:=h.int_inv;exact⟨n,rfl,by simpa [IntKind.min,IntKind.max,IntKind.signed,IntKind.bits] using h1,by simpa [IntKind.min,IntKind.max,IntKind.signed,IntKind.bits] using h2⟩
theorem DTy.bool_inv {d:D}(h:DTy .bool d):∃b,d=.bool b:=by
 cases h with
 |bool b=>exact⟨b,rfl⟩
 |other t d h=>exact h.elim
theorem DTy.slice_inv {e:Ty}{d:D}(h:DTy (.slice e) d):∃xs,d=.list xs∧xs.length≤maxLen∧∀x,x∈xs→DTy e.unf x:=by
 cases h with
 |slice e xs hm h=>exact⟨xs,rfl,hm,h⟩
 |other t d h=>exact h.elim
theorem DTy.agg_inv {ts:List Ty}{d:D}(h:DTy (.agg ts) d):∃ds,d=.agg ds∧DTys ts ds:=by
 cases h with
 |agg ts ds h=>exact⟨ds,rfl,h⟩
 |other t d h=>exact h.elim
theorem DTys.cons_inv {t:Ty}{ts:List Ty}{ds:List D}(h:DTys (t::ts) ds):∃d ds',ds=d::ds'∧DTy t d∧DTys ts ds':=by
 cases h with
 |cons h hs=>exact⟨_,_,rfl,h,hs⟩
theorem DTys.nil_inv {ds:List D}(h:DTys [] ds):ds=[]:=by cases h;rfl
theorem j1 {α:Type}{enc:α→D}{P:α→Prop}{xs:List D}(h:∀x,x∈xs→∃a,x=enc a∧P a):∃l:List α,xs=l.map enc∧∀a,a∈l→P a:=by
 induction xs with
 |nil=>exact⟨[],rfl,fun _ h=>nomatch h⟩
 |cons x xs ih=>
  obtain⟨l,hl,hp⟩:=ih fun y hy=>h y (dz _ hy);obtain⟨a,ha,pa⟩:=h x (dG ..)
  exact⟨a::l,by rw[hl,ha];rfl,fun b hb=>by
   rcases df.1 hb with e|hb
   ·rw[e];exact pa
   ·exact hp b hb⟩
theorem DTy.ints_inv {d:D}(h:DTy (.slice (.int .i64)) d):∃l:List Int,d=ints l∧l.length≤maxLen∧∀x,x∈l→aT x:=by
 obtain⟨xs,rfl,hm,hx⟩:=h.slice_inv;obtain⟨l,rfl,hl⟩:=j1 (enc:=D.int) (P:=aT) fun x hh=>(hx x hh).i64_inv;exact⟨l,rfl,by simpa using hm,hl⟩
section
variable (ρ:Env) (T:dk)
@[simp] theorem arW (t:Nat):PE.ev ρ (.r t)=ρ.r t:=_root_.id rfl
@[simp] theorem arT (t:Nat):PE.ev ρ (.o t)=ρ.o t:=_root_.id rfl
@[simp] theorem arE (d:D):PE.ev ρ (.con d)=d:=_root_.id rfl
@[simp] theorem arB (e:PE)(i:Nat):PE.ev ρ (.cell e i)=(PE.ev ρ e).c i:=_root_.id rfl
@[simp] theorem ar4 (e:PE)(a n:Nat):PE.ev ρ (.sub e a n)=.agg (((PE.ev ρ e).cells.drop a).take n):=_root_.id rfl
@[simp] theorem arZ (e x:PE)(n:Nat):PE.ev ρ (.setc e n x)=.agg (eM (PE.ev ρ e).cells n (PE.ev ρ x).cells):=_root_.id rfl
@[simp] theorem arM (es:List PE):PE.ev ρ (.mk es)=.agg (PE.evc ρ es):=_root_.id rfl
@[simp] theorem arw (op:BinOp)(k:IntKind)(x y:PE):PE.ev ρ (.ai op k x y)=.v (.int k (cU op k (PE.ev ρ x).i (PE.ev ρ y).i)):=_root_.id rfl
@[simp] theorem arC (op:BinOp)(x y:PE):PE.ev ρ (.ci op x y)=.v (.bool (iQ op (PE.ev ρ x).i (PE.ev ρ y).i)):=_root_.id rfl
@[simp] theorem arA (op:BinOp)(x y:PE):PE.ev ρ (.cb op x y)=.v (.bool (yb op (PE.ev ρ x).b (PE.ev ρ y).b)):=_root_.id rfl
@[simp] theorem arG (op:BinOp)(x y:PE):PE.ev ρ (.cs op x y)=.v (.bool (yd op (PE.ev ρ x).s (PE.ev ρ y).s)):=_root_.id rfl
@[simp] theorem arR (x:PE):PE.ev ρ (.nt x)=.v (.bool (!(PE.ev ρ x).b)):=_root_.id rfl
@[simp] theorem arF (k:IntKind)(x:PE):PE.ev ρ (.conv k x)=.v (.int k (k.wrap (PE.ev ρ x).i)):=_root_.id rfl
@[simp] theorem arU (c a b:PE):PE.ev ρ (.pick c a b)=if(PE.ev ρ c).b=true then PE.ev ρ a else PE.ev ρ b:=by
  simp only[PE.ev];cases(PE.ev ρ c).b<;>rfl
@[simp] theorem arN (n:Nat)(e:PE):PE.ev ρ (aI n e)=lL n (PE.ev ρ e):=adp ρ n e
@[simp] theorem arz (x:PE):PE.ev ρ (.bytes x)=.list ((PE.ev ρ x).s.data.toList.map fun b=>.v (.int .u8 b.toNat)):=_root_.id rfl
@[simp] theorem arK (x:PE):PE.ev ρ (.llen x)=.v (.int .i64 (PE.ev ρ x).l.length):=_root_.id rfl
@[simp] theorem ar2 (x:PE):PE.ev ρ (.slen x)=.v (.int .i64 (PE.ev ρ x).s.size):=_root_.id rfl
@[simp] theorem arO (x:PE):PE.ev ρ (.mlen x)=.v (.int .i64 (PE.ev ρ x).m.length):=_root_.id rfl
@[simp] theorem arS (x i:PE):PE.ev ρ (.nth x i)=(PE.ev ρ x).l.getD (PE.ev ρ i).i.toNat .none:=_root_.id rfl
@[simp] theorem arJ (x i:PE):PE.ev ρ (.idx x i)=.v (.bool (decide (0≤(PE.ev ρ i).i∧(PE.ev ρ i).i<(PE.ev ρ x).l.length))):=_root_.id rfl
@[simp] theorem ar0 (x i y:PE)(n:Nat):PE.ev ρ (.setn x i n y)=.list ((PE.ev ρ x).l.set (PE.ev ρ i).i.toNat (uB ((PE.ev ρ x).l.getD (PE.ev ρ i).i.toNat .none) n (PE.ev ρ y))):=_root_.id rfl
@[simp] theorem ary (x y:PE):PE.ev ρ (.app x y)=.list ((PE.ev ρ x).l++(PE.ev ρ y).l):=_root_.id rfl
@[simp] theorem arL (es:List PE):PE.ev ρ (.lst es)=.list (PE.evs ρ es):=_root_.id rfl
@[simp] theorem arY (x y:PE):PE.ev ρ (.rep x y)=.list (List.replicate (PE.ev ρ x).i.toNat (PE.ev ρ y)):=_root_.id rfl
@[simp] theorem ar1 (x a b:PE):PE.ev ρ (.slc x a b)=.list (((PE.ev ρ x).l.take (PE.ev ρ b).i.toNat).drop (PE.ev ρ a).i.toNat):=_root_.id rfl
@[simp] theorem ar3 (x a b:PE):PE.ev ρ (.slok x a b)=.v (.bool (decide (0≤(PE.ev ρ a).i∧(PE.ev ρ a).i≤(PE.ev ρ b).i∧(PE.ev ρ b).i≤(PE.ev ρ x).l.length))):=_root_.id rfl
@[simp] theorem arX (x:PE):PE.ev ρ (.ref x)=.ref (PE.ev ρ x):=_root_.id rfl
@[simp] theorem arH (x:PE):PE.ev ρ (.deref x)=(PE.ev ρ x).deref:=_root_.id rfl
@[simp] theorem arV (m k v:PE):PE.ev ρ (.put m k v)=.map (kL (PE.ev ρ k) (PE.ev ρ v) (PE.ev ρ m).m):=_root_.id rfl
@[simp] theorem arP (x y:PE):PE.ev ρ (.mn x y)=if(PE.ev ρ y).i<(PE.ev ρ x).i then PE.ev ρ y else PE.ev ρ x:=by
  simp only[PE.ev];by_cases h:(PE.ev ρ y).i<(PE.ev ρ x).i<;>simp[h]
@[simp] theorem arQ (x y:PE):PE.ev ρ (.mx x y)=if(PE.ev ρ y).i>(PE.ev ρ x).i then PE.ev ρ y else PE.ev ρ x:=by
  simp only[PE.ev];by_cases h:(PE.ev ρ y).i>(PE.ev ρ x).i<;>simp[h]
@[simp] theorem ar6 (es:List PE):PE.ev ρ (.tup es)=.tup (PE.evs ρ es):=_root_.id rfl
@[simp] theorem ar5 (x:PE)(i:Nat):PE.ev ρ (.tget x i)=(PE.ev ρ x).tget i:=_root_.id rfl
@[simp] theorem arD (f:Nat)(es:List PE):PE.ev ρ (.clo f es)=.clo f (PE.evs ρ es):=_root_.id rfl
@[simp] theorem arx (x y:PE):PE.ev ρ (.an x y)=.v (.bool ((PE.ev ρ x).b&&(PE.ev ρ y).b)):=_root_.id rfl
@[simp] theorem asa:PE.evs ρ []=[]:=_root_.id rfl
@[simp] theorem ar9 (e:PE)(es:List PE):PE.evs ρ (e::es)=PE.ev ρ e::PE.evs ρ es:=_root_.id rfl
@[simp] theorem ar8:PE.evc ρ []=[]:=_root_.id rfl
@[simp] theorem ar7 (e:PE)(es:List PE):PE.evc ρ (e::es)=(PE.ev ρ e).cells++PE.evc ρ es:=_root_.id rfl
@[simp] theorem acm (x:Bool):(D.bool x).b=x:=_root_.id rfl
@[simp] theorem art (k:IntKind)(n:Int):(D.v (.int k n)).i=n:=_root_.id rfl
@[simp] theorem arf (n:Int):(D.int n).i=n:=_root_.id rfl
@[simp] theorem arn (x:List D):(D.list x).l=x:=_root_.id rfl
@[simp] theorem ark (l:List Int):(ints l).l=l.map .int:=_root_.id rfl
@[simp] theorem aro (x:List (D×D)):(D.map x).m=x:=_root_.id rfl
@[simp] theorem aq8 (x:List D)(i:Nat):(D.agg x).c i=x.getD i .none:=_root_.id rfl
@[simp] theorem aq9 (x:List D):(D.agg x).cells=x:=_root_.id rfl
@[simp] theorem arl (x:List D):(D.list x).cells=[.list x]:=_root_.id rfl
@[simp] theorem arj (x:List Int):(ints x).cells=[ints x]:=_root_.id rfl
@[simp] theorem ard (n:Int):(D.int n).cells=[.int n]:=_root_.id rfl
@[simp] theorem ara (n:Bool):(D.bool n).cells=[.bool n]:=_root_.id rfl
@[simp] theorem ars (x:Value):(D.v x).cells=[.v x]:=_root_.id rfl
@[simp] theorem arq (x:List D)(i:Nat):(D.tup x).tget i=x.getD i .none:=_root_.id rfl
@[simp] theorem arp (x:D):(D.ref x).deref=x:=_root_.id rfl
@[simp] theorem aun (s:SE)(t:Nat):(s.ev ρ).r t=PE.ev ρ (s.getR t):=_root_.id rfl
@[simp] theorem aum (s:SE)(t:Nat):(s.ev ρ).o t=PE.ev ρ (s.getO t):=_root_.id rfl
@[simp] theorem asl (o:List (Nat×PE))(u:Nat):SE.getR ⟨[],o⟩ u=.r u:=_root_.id rfl
@[simp] theorem asj (t:Nat)(e:PE)(r o:List (Nat×PE))(u:Nat):SE.getR ⟨(t,e)::r,o⟩ u=if t=u then e else SE.getR ⟨r,o⟩ u:=by
  simp only[SE.getR,bx];by_cases h:t=u
  ·subst h;simp
  ·simp[eX h,h]
@[simp] theorem asi (r:List (Nat×PE))(u:Nat):SE.getO ⟨r,[]⟩ u=.o u:=_root_.id rfl
@[simp] theorem ash (t:Nat)(e:PE)(r o:List (Nat×PE))(u:Nat):SE.getO ⟨r,(t,e)::o⟩ u=if t=u then e else SE.getO ⟨r,o⟩ u:=by
  simp only[SE.getO,bx];by_cases h:t=u
  ·subst h;simp
  ·simp[eX h,h]
@[simp] theorem setR_r (t u:Nat)(d:D):(ρ.setR t d).r u=if u=t then d else ρ.r u:=Env.setR_r ρ t u d
@[simp] theorem aut (t u:Nat)(d:D):(ρ.setR t d).o u=ρ.o u:=_root_.id rfl
@[simp] theorem setO_o (t u:Nat)(d:D):(ρ.setO t d).o u=if u=t then d else ρ.o u:=Env.setO_o ρ t u d
@[simp] theorem aus (t u:Nat)(d:D):(ρ.setO t d).r u=ρ.r u:=_root_.id rfl
@[simp] theorem at0 (lr lo:List Nat)(vr vo:List D)(u:Nat):(ρ.put lr vr lo vo).r u=putL ρ.r lr vr u:=_root_.id rfl
@[simp] theorem atZ (lr lo:List Nat)(vr vo:List D)(u:Nat):(ρ.put lr vr lo vo).o u=putL ρ.o lo vo u:=_root_.id rfl
@[simp] theorem join_r (ρ':Env)(lr lo:List Nat)(u:Nat):(ρ.join lr lo ρ').r u=if u∈lr then ρ'.r u else ρ.r u:=Env.join_r ρ ρ' lr lo u
@[simp] theorem join_o (ρ':Env)(lr lo:List Nat)(u:Nat):(ρ.join lr lo ρ').o u=if u∈lo then ρ'.o u else ρ.o u:=Env.join_o ρ ρ' lr lo u
@[simp] theorem atX (f:Nat→D)(i:Nat)(is:List Nat)(x:D)(xs:List D)(u:Nat):putL f (i::is) (x::xs) u=if u=i then x else putL f is xs u:=Ig f i is x xs u
@[simp] theorem atY (f:Nat→D)(xs:List D)(u:Nat):putL f [] xs u=f u:=Ih f xs u
@[simp] theorem aru (ds:List D)(u:Nat):(kR ds).r u=ds.getD u .none:=_root_.id rfl
@[simp] theorem asS:holds [] ρ=true:=_root_.id rfl
@[simp] theorem asR (g:Nat×Bool)(gs:List (Nat×Bool)):holds (g::gs) ρ=((ρ.r g.1).b==g.2&&holds gs ρ):=_root_.id rfl
variable (Q:Out→Prop)
@[simp] theorem au4 (s:SE):aE T (.next s) ρ Q=Q (.next (s.ev ρ)):=_root_.id rfl
@[simp] theorem au1 (id:Nat)(s:SE):aE T (.exit id s) ρ Q=Q (.exit id (s.ev ρ)):=_root_.id rfl
@[simp] theorem au5 (e:PE):aE T (.ret e) ρ Q=Q (.ret (e.ev ρ)):=_root_.id rfl
@[simp] theorem au0 (e:PE)(k:PT):aE T (.chk e k) ρ Q=((e.ev ρ).b=true∧aE T k ρ Q):=_root_.id rfl
@[simp] theorem au2 (c:PE)(a b:PT):aE T (.ite c a b) ρ Q=if(c.ev ρ).b=true then aE T a ρ Q else aE T b ρ Q:=_root_.id rfl
@[simp] theorem auY (s:SE)(gs:List (Nat×Bool))(dst f:Nat)(args:List PE)(k:PT):aE T (.call s gs dst f args k) ρ Q=if holds gs (s.ev ρ)=true then ∃d,aw T f (PE.evs ρ args) d∧aE T k ((s.ev ρ).setR dst d) Q else aE T k (s.ev ρ) Q:=_root_.id rfl
@[simp] theorem au3 (s:SE)(c:PE)(lr lo:List Nat)(a b k:PT):aE T (.iteS s c lr lo a b k) ρ Q=if(c.ev ρ).b=true then aE T a (s.ev ρ) (kH (s.ev ρ) lr lo (gG (fun ρ'=>aE T k ρ' Q) Q)) else aE T b (s.ev ρ) (kH (s.ev ρ) lr lo (gG (fun ρ'=>aE T k ρ' Q) Q)):=_root_.id rfl
@[simp] theorem auW (s:SE)(id:Nat)(lr lo:List Nat)(a k:PT):aE T (.blockS s id lr lo a k) ρ Q=aE T a (s.ev ρ) (lM (s.ev ρ) id lr lo (gG (fun ρ'=>aE T k ρ' Q) Q)):=_root_.id rfl
@[simp] theorem auX (s:SE)(c:PC)(k:PT):aE T (.brk s c k) ρ Q=aS T c (s.ev ρ) (gG (fun ρ'=>aE T k ρ' Q) Q):=_root_.id rfl
variable (K:Env→Prop) (id:Nat) (lr lo bn bm:List Nat) (K2:List D→List D→Prop)
@[simp] theorem auq (ρ':Env):gG K Q (.next ρ')=K ρ':=_root_.id rfl
@[simp] theorem aup (i:Nat)(ρ':Env):gG K Q (.exit i ρ')=Q (.exit i ρ'):=_root_.id rfl
@[simp] theorem aur (d:D):gG K Q (.ret d)=Q (.ret d):=_root_.id rfl
@[simp] theorem ata (ρ':Env):kH ρ lr lo Q (.next ρ')=Q (.next (ρ.join lr lo ρ')):=_root_.id rfl
@[simp] theorem atb (d:D):kH ρ lr lo Q (.ret d)=Q (.ret d):=_root_.id rfl
@[simp] theorem aqR (ρ':Env):lM ρ id lr lo Q (.next ρ')=Q (.next (ρ.join lr lo ρ')):=_root_.id rfl
@[simp] theorem aqQ (i:Nat)(ρ':Env):lM ρ id lr lo Q (.exit i ρ')=if i=id then Q (.next (ρ.join lr lo ρ')) else Q (.exit i ρ'):=_root_.id rfl
@[simp] theorem aqS (d:D):lM ρ id lr lo Q (.ret d)=Q (.ret d):=_root_.id rfl
@[simp] theorem auj (ρ':Env):fh ρ id bn bm lr lo K2 Q (.next ρ')=K2 (lr.map ρ'.r) (lo.map ρ'.o):=_root_.id rfl
@[simp] theorem aui (i:Nat)(ρ':Env):fh ρ id bn bm lr lo K2 Q (.exit i ρ')=if i=id then Q (.next (ρ.put bn (bn.map ρ'.r) bm (bm.map ρ'.o))) else Q (.exit i ρ'):=_root_.id rfl
@[simp] theorem auk (d:D):fh ρ id bn bm lr lo K2 Q (.ret d)=Q (.ret d):=_root_.id rfl
@[simp] theorem auZ (s:SE)(gs:List (Nat×Bool))(dst:Nat)(e:PE)(args:List PE)(k:PT):aE T (.callc s gs dst e args k) ρ Q=if holds gs (s.ev ρ)=true then ∃f caps d,e.ev ρ=.clo f caps∧aw T f (PE.evs ρ args++caps) d∧aE T k ((s.ev ρ).setR dst d) Q else aE T k (s.ev ρ) Q:=_root_.id rfl
end
section
variable (k:IntKind) (a b:Int)
@[simp] theorem aqK:cU .add k a b=k.wrap (a+b):=_root_.id rfl
@[simp] theorem aqN:cU .sub k a b=k.wrap (a-b):=_root_.id rfl
@[simp] theorem aqL:cU .mul k a b=k.wrap (a*b):=_root_.id rfl
@[simp] theorem aqM:cU .rem k a b=a.tmod b:=_root_.id rfl
@[simp] theorem aq0:iQ .eql a b=(a==b):=_root_.id rfl
@[simp] theorem aq5:iQ .neq a b=(a !=b):=_root_.id rfl
@[simp] theorem aq4:iQ .lss a b=decide (a<b):=_root_.id rfl
@[simp] theorem aq3:iQ .leq a b=decide (a≤b):=_root_.id rfl
@[simp] theorem aq2:iQ .gtr a b=decide (a>b):=_root_.id rfl
@[simp] theorem aq1:iQ .geq a b=decide (a≥b):=_root_.id rfl
variable (x y:Bool)
@[simp] theorem aqT:yb .eql x y=(x==y):=_root_.id rfl
@[simp] theorem aqU:yb .neq x y=(!(x==y)):=_root_.id rfl
end
theorem aw.of_tree {tab:Nat→Option PC}{ext:Nat→Option (aR→List D→Option D)}{f:Nat}{pc:PC}{t:PT}{ds:List D}{d:D}(hx:ext f=none)(ht:tab f=some pc)(he:tree pc=t)(h:aE (fm tab ext) t (kR ds) (fun x=>x=.ret d)):aw (fm tab ext) f ds d:=
 .of_pc hx ht (Rs (he▸h))
@[simp] theorem ari (n:Int):D.v (.int .i64 n)=D.int n:=_root_.id rfl
@[simp] theorem arc (b:Bool):D.v (.bool b)=D.bool b:=_root_.id rfl
@[simp] theorem arh (a b:Int):(D.int a=D.int b)=(a=b):=by
  apply propext;constructor
  ·intro h;injection h with h;injection h
  ·intro h;rw[h]
@[simp] theorem arb (a b:Bool):(D.bool a=D.bool b)=(a=b):=by
  apply propext;constructor
  ·intro h;injection h with h;injection h
  ·intro h;rw[h]
section
variable (c:Prop) [Decidable c] (x y:D)
@[simp] theorem as8:(if c then x else y).b=if c then x.b else y.b:=by split<;>rfl
@[simp] theorem as9:(if c then x else y).i=if c then x.i else y.i:=by split<;>rfl
end
@[simp] theorem au6:IntKind.i64.wrap 0=0:=cm (by omega)
end Cx
namespace Cx
open Go
inductive Tm where
 |mk (op n:Int) (args:List Tm)
instance:Inhabited Tm:=⟨.mk 0 0 []⟩
namespace Tm
def op:Tm→Int|.mk o _ _=>o
def n:Tm→Int|.mk _ n _=>n
def args:Tm→List Tm|.mk _ _ aa=>aa
end Tm
mutual
def dQ:Tm→D
 |.mk o n aa=>.agg [.int o,.int n,.list (F8 aa)]
def F8:List Tm→List D
 |[]=>[]
 |t::ts=>dQ t::F8 ts
end
theorem K0:∀l:List Tm,F8 l=l.map dQ
 |[]=>rfl
 |t::l=>by rw[F8,K0 l];rfl
theorem Bj (t:Tm):dQ t=.agg [.int t.op,.int t.n,.list (t.args.map dQ)]:=by
 cases t with
 |mk o n aa=>rw[dQ,K0];rfl
inductive Tm.OK:Tm→Prop where
 |mk (o n:Int) (aa:List Tm) (h1:aT o) (h2:aT n) (h3:aa.length≤maxLen) (h:∀a,a∈aa→Tm.OK a):Tm.OK (.mk o n aa)
theorem DTy.trm_inv {d:D}(h:DTy .trmA d):∃t:Tm,d=dQ t∧t.OK:=by
 suffices hs:∀(m:Nat) (d:D),sizeOf d≤m→DTy .trmA d→∃t:Tm,d=dQ t∧t.OK from hs _ d (aU _) h
 intro m
 induction m with
 |zero=>
  intro d hm h;cases d<;>simp at hm
 |succ m ih=>
  intro d hm h;obtain⟨ds,rfl,hs⟩:=DTy.agg_inv h;obtain⟨d1,ds,rfl,h1,hs⟩:=hs.cons_inv;obtain⟨d2,ds,rfl,h2,hs⟩:=hs.cons_inv;obtain⟨d3,ds,rfl,h3,hs⟩:=hs.cons_inv;obtain rfl:=hs.nil_inv;obtain⟨o,rfl,b1⟩:=h1.i64_inv;obtain⟨n,rfl,b2⟩:=h2.i64_inv;obtain⟨xs,rfl,hl,hx⟩:=h3.slice_inv
  obtain⟨l,rfl,ax⟩:=j1 (enc:=dQ) (P:=Tm.OK) fun x hh=>ih x (by
   have:=List.sizeOf_lt_of_mem hh;simp at hm;omega) (hx x hh)
  exact⟨.mk o n l,by rw[dQ,K0],.mk o n l b1 b2 (by simpa using hl) ax⟩
theorem DTy.trms_inv {d:D}(h:DTy (.slice .trm) d):∃l:List Tm,d=.list (l.map dQ)∧l.length≤maxLen∧∀t,t∈l→t.OK:=by
 obtain⟨xs,rfl,hl,hx⟩:=h.slice_inv;obtain⟨l,rfl,ax⟩:=j1 (enc:=dQ) (P:=Tm.OK) fun x hh=>DTy.trm_inv (hx x hh);exact⟨l,rfl,by simpa using hl,ax⟩
end Cx
namespace Cx
open Go
def PV (g:Nat)(zs:List Int):Nat→Option (Ty×D):=fun k=>bif Nat.beq k g then some (.agg (zs.map fun _=>.int .i64),.agg (zs.map fun z=>.v (.int .i64 z))) else none
theorem ama {C:Ctx}{g:Nat}{zs:List Int}{name:String}{W:World}(hC:C.glob=PV g zs)(hg:C.P.globalNamed name=some g)(hz:zs.all (fun z=>decide (IntKind.i64.min≤z)&&decide (z≤IntKind.i64.max))=true)
 (h:Lib.TabIs C.P W name .i64 zs):CtxOK C (mR W):=by
 refine⟨fun k x hx=>?_⟩;rw[hC] at hx;unfold PV at hx;cases hk:Nat.beq k g<;>simp only[hk,cond_true,cond_false] at hx
 ·cases hx
 cases hx;obtain rfl:=au hk
 have ff:Rep C.cap (mR W) (.agg (zs.map fun _=>.int .i64)) (.agg (zs.map fun z=>Value.int .i64 z).toArray) (.agg (zs.map fun z=>.v (.int .i64 z))):=by
  refine .agg _ _ _ (by simp) (by simp) (fun i t ht=>?_) (fun i t ht=>?_)
  ·rw[cA,av] at ht;obtain⟨z,kF,rfl⟩:=ht;rw[aF,aF,cA,cA,kF];have:=bz.1 hz z (jO kF);simp only[aj,decide_eq_true_eq] at this;exact .int _ _ this.1 this.2
  ·rw[cA,av] at ht;obtain⟨z,_,rfl⟩:=ht;rfl
 refine .ref _ k 0 _ _ ff fun j u hu=>?_;simp only[Value.cells,ED,cA,av] at hu;obtain⟨z,kF,rfl⟩:=hu;have ae:=(dZ.1 kF).1;have:=h.cell hg j ae;show W.cell? ⟨k,0+j,none⟩=_;rw[eW,this,aF,kF];rfl
end Cx
namespace Cx
open Go Go.RowKit
def loops:PC→List PC
 |.seq a b=>loops a++loops b
 |.ite _ _ _ a b=>loops a++loops b
 |.block id lr lo (.loop Nv Nq a)=>loops a++[.block id lr lo (.loop Nv Nq a)]
 |.block _ _ _ a=>loops a
 |.loop _ _ a=>loops a
 |.each e ps lo rt a=>loops a++[.each e ps lo rt a]
 |.meach J ps da lo a=>loops a++[.meach J ps da lo a]
 |_=>[]
def Kz:PC→PC
 |.block _ _ _ (.loop _ _ a)=>a
 |.each _ _ _ _ a=>a
 |.meach _ _ _ _ a=>a
 |_=>.skip
def HG (c:PC)(k:Nat):PC:=(loops c).getD k .skip
def rnd:PC→PT
 |.block id lr lo (.loop Nv Nq a)=>round id lr lo Nv Nq a
 |.each _ _ lo _ a=>sl lo a
 |.meach _ _ _ lo a=>sl lo a
 |_=>.next .id
inductive Shp where
 |lp (id:Nat) (bn bm lr lo:List Nat)
 |ea (lo:List Nat)
 |no
def Ab:PC→Shp
 |.block id bn bm (.loop lr lo _)=>.lp id bn bm lr lo
 |.each _ _ lo _ _=>.ea lo
 |.meach _ _ _ lo _=>.ea lo
 |_=>.no
def told (c:PC):PT×List (Shp×PT):=(tree c,(loops c).map fun l=>(Ab l,rnd l))
theorem Ji {o:Option PC}{t:PT}{l:List (Shp×PT)}(h:o.map told=some (t,l)):o=some (o.getD .skip)∧tree (o.getD .skip)=t∧∀k x,l[k]?=some x→(Ab (HG (o.getD .skip) k),rnd (HG (o.getD .skip) k))=x:=by
 cases o with
 |none=>cases h
 |some c=>
  have h1:told c=(t,l):=by injection h
  unfold told at h1;injection h1 with h1 h2
  refine⟨rfl,h1,fun k x hx=>?_⟩;subst h2;simp only[cA,av] at hx;obtain⟨y,hy,rfl⟩:=hx;have:HG ((some c:Option PC).getD .skip) k=y:=by
   show(loops c).getD k .skip=y;rw[aF,hy];rfl
  rw[this]
theorem ak7 {c:PC}{id:Nat}{bn bm lr lo:List Nat}{t:PT}(h:(Ab c,rnd c)=(.lp id bn bm lr lo,t)):round id bn bm lr lo (Kz c)=t:=by
 injection h with h1 h2
 subst h2;unfold Ab at h1;split at h1
 ·cases h1;rfl
 all_goals cases h1
theorem ac9 {c:PC}{lo:List Nat}{t:PT}(h:(Ab c,rnd c)=(.ea lo,t)):sl lo (Kz c)=t:=by
 injection h with h1 h2
 subst h2;unfold Ab at h1;split at h1
 ·cases h1
 ·cases h1;rfl
 ·cases h1;rfl
 ·cases h1
def cQ {α:Type}(x:α):α:=Classical.choose (⟨x,rfl⟩:∃y,y=x)
theorem B4 {α:Type}(x:α):cQ x=x:=RY (⟨x,rfl⟩:∃y,y=x)
def bT (o:Option PC):Nat→PC:=fun k=>Kz (HG (o.getD .skip) k)
abbrev ah (o:Option PC):PC:=cQ (o.getD .skip)
abbrev cd (o:Option PC):Nat→PC:=cQ (bT o)
section
variable {o:Option PC} {F:(Nat→PC)→PT×List (Shp×PT)}
theorem amn (h:o.map told=some (F (bT o))):o=some (ah o):=by unfold ah;rw[B4];exact(Ji (t:=(F (bT o)).1) (l:=(F (bT o)).2) h).1
theorem cT (h:o.map told=some (F (bT o))):tree (ah o)=(F (cd o)).1:=by unfold ah cd;rw[B4,B4];exact(Ji (t:=(F (bT o)).1) (l:=(F (bT o)).2) h).2.1
theorem bN (h:o.map told=some (F (bT o)))(k:Nat){id:Nat}{bn bm lr lo:List Nat}{t:(Nat→PC)→PT}(hk:∀b,(F b).2[k]?=some (.lp id bn bm lr lo,t b)):round id bn bm lr lo (cd o k)=t (cd o):=by
 unfold cd;rw[B4];exact ak7 ((Ji (t:=(F (bT o)).1) (l:=(F (bT o)).2) h).2.2 k _ (hk _))
theorem Z4 (h:o.map told=some (F (bT o)))(k:Nat){lo:List Nat}{t:(Nat→PC)→PT}(hk:∀b,(F b).2[k]?=some (.ea lo,t b)):sl lo (cd o k)=t (cd o):=by
 unfold cd;rw[B4];exact ac9 ((Ji (t:=(F (bT o)).1) (l:=(F (bT o)).2) h).2.2 k _ (hk _))
end
theorem aK {α:Type}{R:Nat→α→Prop}{f:Nat}{x:α}{l:List (Nat×α)}(h:R f x)(k:Er R l):Er R ((f,x)::l):=⟨h,k⟩
theorem Wf {α:Type}:∀{l:List (Nat×α)},(l.map (·.1)).Nodup→∀{k f:Nat} {x:α},l[k]?=some (f,x)→bx l f=some x
 |[],_,k,f,x,h=>by simp at h
 |y::l,hn,0,f,x,h=>by
  simp only[JH,aO] at h;subst h;simp[bx]
 |y::l,hn,k+1,f,x,h=>by
  simp only[EC] at h;rw[gz,mB] at hn;have hm:f∈l.map (·.1):=eE.2 ⟨(f,x),jO h,rfl⟩;have hb:Nat.beq y.1 f=false:=by
   cases e:Nat.beq y.1 f with
   |false=>rfl
   |true=>rw[cM e] at hn;exact absurd hm hn.1
  simp only[bx,hb,cond_false];exact Wf hn.2 h
abbrev pT:PE:=.con (.bool true)
abbrev pF:PE:=.con (.bool false)
abbrev pN:PE:=.con .none
abbrev pL:PE:=.con (.list [])
abbrev pi (n:Int):PE:=.con (.int n)
abbrev bB (a b:PE):PE:=.ai .add .i64 a b
abbrev cJ (a b:PE):PE:=.ai .sub .i64 a b
abbrev ar (a b:PE):PE:=.ci .eql a b
abbrev bC (a b:PE):PE:=.ci .neq a b
abbrev ak (a b:PE):PE:=.ci .lss a b
abbrev cS (a b:PE):PE:=.ci .leq a b
abbrev bY (a b:PE):PE:=.ci .gtr a b
abbrev dD (a b:PE):PE:=.ci .geq a b
abbrev pc (a:PE)(i:Nat):PE:=.cell a i
abbrev pn (a b:PE):PE:=.nth a b
abbrev aB (a b:PE):PE:=.idx a b
abbrev z2:PE:=.con (.agg [(.int 0),(.int 0)])
abbrev z3:PE:=.con (.agg [(.int 0),(.int 0),(.int 0)])
abbrev z4:PE:=.con (.agg [(.int 0),(.int 0),(.int 0),(.int 0)])
abbrev z5:PE:=.con (.agg [(.int 0),(.int 0),(.int 0),(.int 0),(.int 0)])
abbrev z6:PE:=.con (.agg [(.int 0),(.int 0),(.int 0),(.int 0),(.int 0),(.int 0)])
abbrev z9:PE:=.con (.agg [(.int 0),(.int 0),(.int 0),(.int 0),(.int 0),(.int 0),(.int 0),(.int 0),(.int 0)])
abbrev Jw:PE:=.con (.agg [(.int 0),(.int 0),(.int 0),(.int 0),(.int 0),(.int 0),(.int 0),(.int 0),(.int 0),(.int 0),(.int 0),(.int 0),(.int 0),(.int 0),(.int 0)])
abbrev r0:PE:=.r 0
abbrev r1:PE:=.r 1
abbrev r2:PE:=.r 2
abbrev r3:PE:=.r 3
abbrev r4:PE:=.r 4
abbrev r5:PE:=.r 5
abbrev r6:PE:=.r 6
abbrev r7:PE:=.r 7
abbrev r8:PE:=.r 8
abbrev r9:PE:=.r 9
abbrev fP:PE:=.r 10
abbrev bK:PE:=.r 11
abbrev cN:PE:=.r 12
abbrev eC:PE:=.r 13
abbrev cG:PE:=.r 14
abbrev gq:PE:=.r 15
abbrev dE:PE:=.r 16
abbrev mY:PE:=.r 17
abbrev lu:PE:=.r 18
abbrev jI:PE:=.r 19
abbrev gX:PE:=.r 20
abbrev mf:PE:=.r 21
abbrev zM:PE:=.r 22
abbrev jk:PE:=.r 23
abbrev nV:PE:=.r 24
abbrev mg:PE:=.r 25
abbrev pq:PE:=.r 26
abbrev fZ:PE:=.r 27
abbrev Di:PE:=.r 28
abbrev sd:PE:=.r 29
abbrev uc:PE:=.r 30
abbrev zN:PE:=.r 31
abbrev OI:PE:=.r 32
abbrev Iu:PE:=.r 33
abbrev r34:PE:=.r 34
abbrev Iv:PE:=.r 35
abbrev se:PE:=.r 36
abbrev pv:PE:=.r 37
abbrev lx:PE:=.r 38
abbrev Iw:PE:=.r 39
abbrev pw:PE:=.r 40
abbrev wH:PE:=.r 41
abbrev YE:PE:=.r 42
abbrev ud:PE:=.r 43
abbrev Dj:PE:=.r 44
abbrev qy:PE:=.r 45
abbrev OJ:PE:=.r 46
abbrev Ix:PE:=.r 47
abbrev qz:PE:=.r 48
abbrev uf:PE:=.r 49
abbrev ly:PE:=.r 50
abbrev px:PE:=.r 51
abbrev OL:PE:=.r 52
abbrev OM:PE:=.r 53
abbrev sf:PE:=.r 54
abbrev Dk:PE:=.r 55
abbrev mh:PE:=.r 56
abbrev wI:PE:=.r 57
abbrev ug:PE:=.r 58
abbrev r59:PE:=.r 59
abbrev zO:PE:=.r 60
abbrev YG:PE:=.r 61
abbrev py:PE:=.r 62
abbrev Dl:PE:=.r 63
abbrev jJ:PE:=.r 64
abbrev zP:PE:=.r 65
abbrev YH:PE:=.r 66
abbrev uh:PE:=.r 67
abbrev ON:PE:=.r 68
abbrev wJ:PE:=.r 69
abbrev YI:PE:=.r 70
abbrev r71:PE:=.r 71
abbrev Dm:PE:=.r 72
abbrev Dn:PE:=.r 73
abbrev Iy:PE:=.r 74
abbrev Dp:PE:=.r 75
abbrev ui:PE:=.r 76
abbrev YJ:PE:=.r 77
abbrev r78:PE:=.r 78
abbrev r79:PE:=.r 79
abbrev wK:PE:=.r 80
abbrev uj:PE:=.r 81
abbrev kN:PE:=.r 82
abbrev r83:PE:=.r 83
abbrev Iz:PE:=.r 84
abbrev zQ:PE:=.r 85
abbrev r86:PE:=.r 86
abbrev YK:PE:=.r 87
abbrev OO:PE:=.r 88
abbrev r89:PE:=.r 89
abbrev r90:PE:=.r 90
abbrev r91:PE:=.r 91
abbrev YL:PE:=.r 92
abbrev OP:PE:=.r 93
abbrev r94:PE:=.r 94
abbrev r95:PE:=.r 95
abbrev r96:PE:=.r 96
abbrev r98:PE:=.r 98
abbrev YM:PE:=.r 99
abbrev YA:PE:=.r 103
abbrev akK:PE:=.r 104
abbrev akL:PE:=.r 106
abbrev OG:PE:=.r 108
abbrev akM:PE:=.r 109
abbrev OH:PE:=.r 112
abbrev at1:PE:=.r 113
abbrev at2:PE:=.r 117
abbrev at3:PE:=.r 119
abbrev at4:PE:=.r 120
abbrev akN:PE:=.r 121
abbrev at5:PE:=.r 122
abbrev at6:PE:=.r 126
abbrev akO:PE:=.r 127
abbrev at7:PE:=.r 128
abbrev aua:PE:=.r 129
abbrev o0:PE:=.o 0
abbrev o1:PE:=.o 1
abbrev o2:PE:=.o 2
abbrev o3:PE:=.o 3
abbrev o4:PE:=.o 4
abbrev o5:PE:=.o 5
abbrev o6:PE:=.o 6
abbrev o7:PE:=.o 7
abbrev o8:PE:=.o 8
abbrev o9:PE:=.o 9
abbrev cZ:PE:=.o 10
abbrev tS:PE:=.o 11
abbrev o12:PE:=.o 12
abbrev NI:PE:=.o 13
abbrev o15:PE:=.o 15
abbrev HT:PE:=.o 45
end Cx
set_option maxRecDepth 100000
namespace Rm
open Go Go.Proofs Cx
abbrev I:Ty:=.int .i64
abbrev Y0:Ty:=.agg [.str,I,I,(.slice I),(.slice I),(.slice I)]
abbrev Y1:Ty:=.agg [I]
abbrev Y2:Ty:=.agg [.str,I,I]
abbrev Y3:Ty:=.agg [I,I,.bool]
abbrev Y4:Ty:=.agg [I,I,I,(.slice .trm)]
abbrev Y5:Ty:=.agg [.str,.bool,(.slice Y3),(.slice Y4)]
abbrev Y6:Ty:=.agg [I,I,I]
abbrev Y7:Ty:=.agg [I,I,I,I,I]
abbrev Y8:Ty:=.agg [(.slice .str),(.slice Y0),(.slice Y1),(.slice Y2),(.slice Y5),(.slice Y6),(.slice Y7),(.slice Y6)]
abbrev Y9:Ty:=.agg [I,I,I,I,I,I,I,I,I]
abbrev pO:Ty:=.agg [I,I]
abbrev jt:Ty:=.agg [I,I,I,I,I,I,I,I,I,I,I,I,I,I,I,(.slice Y9),(.slice pO),(.slice Y9),(.slice Y6),I,I,I,I,I]
abbrev ju:Ty:=.agg [I,I,I,I,I,I,I,I,I,I,I,I,I,I,I,(.slice Y9),(.slice pO),(.slice Y9),(.slice Y6)]
abbrev Su:Ty:=.agg [.bool,I,I,(.slice I),I]
abbrev Sv:Ty:=.agg [I,I,I,I,I,I,I,I,I,I,I,I,I,I,I]
abbrev kP:Ty:=.agg [.bool,I]
abbrev qW:Ty:=.agg [I,I,(.slice .trm)]
abbrev Sw:Ty:=.agg [(.slice kP)]
abbrev Y18:Ty:=.agg [(.slice I),I]
def uz:List (Nat×Sig):=[
 (5,⟨[Y8,I,I,I,jt],.bool,.dat⟩),
 (8,⟨[],.bool,.dat⟩),
 (9,⟨[Y8,jt],.bool,.dat⟩),
 (10,⟨[Y8,I,I,I,jt],(.tup [(.slice I),(.slice I),.bool]),.dat⟩),
 (12,⟨[(.slice I),(.slice I)],.bool,.dat⟩),
 (13,⟨[Y8,I,I,I,jt],I,.dat⟩),
 (16,⟨[ju,I,I,I],ju,.dat⟩),
 (21,⟨[Y8,ju],I,.dat⟩),
 (22,⟨[(.slice Y6),I,(.slice I),(.slice I)],.bool,.dat⟩),
 (23,⟨[(.slice Y6)],(.tup [Y8,jt]),.dat⟩),
 (24,⟨[Y8,ju],.bool,.dat⟩),
 (25,⟨[Y8],I,.dat⟩),
 (26,⟨[ju],.bool,.dat⟩),
 (27,⟨[I,I],(.slice (.slice I)),.dat⟩),
 (28,⟨[jt,(.slice I),I],jt,.dat⟩),
 (30,⟨[Y8,I,I,jt],Su,.dat⟩),
 (32,⟨[Y6,(.ref I),(.ref I)],.bool,.dat⟩),
 (34,⟨[(.slice Y6),(.fn [Y6] .bool)],I,.dat⟩),
 (36,⟨[Y6,(.ref I),(.ref I)],.bool,.dat⟩),
 (37,⟨[(.slice I)],I,.dat⟩),
 (38,⟨[I,I],I,.dat⟩),
 (42,⟨[Y8,Sv],I,.dat⟩),
 (43,⟨[Y8,ju,I],I,.dat⟩),
 (44,⟨[I,I,I],.bool,.dat⟩),
 (45,⟨[Y8,ju],I,.dat⟩),
 (46,⟨[ju],I,.dat⟩),
 (47,⟨[Y8],.bool,.dat⟩),
 (48,⟨[ju],.bool,.dat⟩),
 (49,⟨[Y5],.bool,.dat⟩),
 (50,⟨[Y8],(.tup [(.slice .str),(.slice .str),(.slice .str)]),.dat⟩),
 (51,⟨[(.slice .str),I,(.fn [I] .bool)],I,.dat⟩),
 (52,⟨[I],.bool,.dat⟩),
 (53,⟨[I,(.ref Y8)],.bool,.dat⟩),
 (54,⟨[Y8,Y0],.bool,.dat⟩),
 (55,⟨[I,I],.bool,.dat⟩),
 (56,⟨[I,(.ref Y8)],.bool,.dat⟩),
 (57,⟨[I,(.ref Y8)],.bool,.dat⟩),
 (58,⟨[Y5],.bool,.dat⟩),
 (59,⟨[Y8],I,.dat⟩),
 (60,⟨[Y8],I,.dat⟩),
 (61,⟨[jt,I],I,.dat⟩),
 (63,⟨[Y8,I,I,jt],(.tup [Su,(.slice kP)]),.dat⟩),
 (64,⟨[Y5,I,(.slice kP)],(.tup [kP,I]),.dat⟩),
 (70,⟨[I],.bool,.dat⟩),
 (73,⟨[I,I],.bool,.dat⟩),
 (74,⟨[Sv],.bool,.dat⟩),
 (75,⟨[Y8,I,I],(.tup [I,I]),.dat⟩),
 (76,⟨[Y8,ju,I],.bool,.dat⟩),
 (77,⟨[Y8,ju,Y9],.bool,.dat⟩),
 (78,⟨[qW],.bool,.dat⟩),
 (79,⟨[(.slice .str),I],I,.dat⟩),
 (80,⟨[(.slice I),I,I],.bool,.dat⟩),
 (81,⟨[Y8,jt],(.tup [jt,(.slice kP)]),.dat⟩),
 (82,⟨[I],(.tup [I,.bool]),.dat⟩),
 (83,⟨[Y8,I,jt],(.nsl I),.dat⟩),
 (84,⟨[Y8,I,I,(.slice I)],(.tup [(.slice I),I]),.dat⟩),
 (85,⟨[Y5,I],(.tup [qW,I]),.dat⟩),
 (86,⟨[qW,(.slice kP)],kP,.dat⟩),
 (98,⟨[ju,I,(.slice I)],.bool,.dat⟩),
 (99,⟨[ju,I,I],.bool,.dat⟩),
 (100,⟨[qW,I,I],I,.dat⟩),
 (101,⟨[.str],.bool,.dat⟩),
 (102,⟨[(.slice .str),.str],.bool,.dat⟩),
 (103,⟨[ju,I],ju,(.rows [.dat I,.dat I,.dat I,.dat I,.dat I,.dat I,.dat I,.dat I,.dat I,.dat I,.dat I,.dat I,.dat I,.dat I,.dat I,.row 81 Y9,.row 83 pO,.row 85 Y9,.row 61 Y6])⟩),
 (104,⟨[Y8,jt],(.slice kP),.dat⟩),
 (105,⟨[(.slice I),I],.bool,.dat⟩),
 (106,⟨[Y8,I],I,.dat⟩),
 (107,⟨[Y8,I,I,(.slice I)],.bool,.dat⟩),
 (108,⟨[Y8,I,I,(.slice I)],(.tup [I,.bool]),.dat⟩),
 (109,⟨[(.slice Y4),(.fn [Y4] .bool)],I,.dat⟩),
 (110,⟨[Y4,(.ref I)],.bool,.dat⟩),
 (111,⟨[qW],(.tup [I,I]),.dat⟩),
 (112,⟨[Sw,qW],(.tup [kP,(.slice I)]),.dat⟩),
 (122,⟨[(.slice .str),.str],I,.dat⟩),
 (123,⟨[I,I],.bool,.dat⟩),
 (124,⟨[(.slice pO),(.fn [pO] .bool)],.bool,.dat⟩),
 (125,⟨[pO,(.ref jt)],.bool,.dat⟩),
 (126,⟨[.bool],kP,.dat⟩),
 (127,⟨[ju,I,I],kP,.dat⟩),
 (128,⟨[(.slice I),I],I,.dat⟩),
 (129,⟨[(.slice I),(.fn [I] .bool)],.bool,.dat⟩),
 (130,⟨[I,(.ref I)],.bool,.dat⟩),
 (131,⟨[qW,I],I,.dat⟩),
 (132,⟨[qW],(.tup [I,I]),.dat⟩),
 (133,⟨[Sw,I],kP,.dat⟩),
 (134,⟨[I,(.slice kP)],kP,.dat⟩),
 (135,⟨[(.slice (.slice I))],(.slice I),.dat⟩),
 (140,⟨[(.slice pO),(.fn [pO] .bool)],I,.dat⟩),
 (141,⟨[(.slice I),(.fn [I] .bool)],I,.dat⟩),
 (142,⟨[qW],(.tup [I,I]),.dat⟩),
 (143,⟨[I],Y18,.dat⟩),
 (144,⟨[I],(.tup [I,.bool]),.dat⟩),
 (145,⟨[.bool],kP,.dat⟩),
 (146,⟨[I],I,.dat⟩),
 (147,⟨[I,I,I],I,.dat⟩),
 (148,⟨[.nils .bool,I],(.slice I),(.row 3 I)⟩),
 (156,⟨[I,I],I,.dat⟩),
 (157,⟨[(.int .u64),(.int .u64)],(.tup [(.int .u64),(.int .u64)]),.dat⟩)]
def KC:List (Nat×CSig):=[
 (32,⟨[(.ref I),(.ref I)],[Y6],.bool⟩),
 (36,⟨[(.ref I),(.ref I)],[Y6],.bool⟩),
 (52,⟨[],[I],.bool⟩),
 (53,⟨[(.ref Y8)],[I],.bool⟩),
 (56,⟨[(.ref Y8)],[I],.bool⟩),
 (57,⟨[(.ref Y8)],[I],.bool⟩),
 (110,⟨[(.ref I)],[Y4],.bool⟩),
 (125,⟨[(.ref jt)],[pO],.bool⟩),
 (130,⟨[(.ref I)],[I],.bool⟩)]
def ctx:Ctx:={P:=Tryz.prog,cap:=bx KC,sig:=bx uz,ajc:=fun _=>none,glob:=PV 0 [6,7,10,12,13,14,15,16,20,21]}
abbrev Jb (i:Nat):Sig:=(bx uz i).getD default
def cF (a b:List Nat)(f:Func)(i:Nat)(l:List Nat):Option PC:=lN {ctx with fr:=a,nh:=b} f (Jb i) l
theorem bA {o:Option PC}{t:PT}{l:List (Shp×PT)}(h:o.map told=some (t,l)):tree (ah o)=t:=cT (F:=fun _=>(t,l)) h
theorem aJ (o:Option PC){p:PT×List (Shp×PT)}(h:o.map told=some p):o=some (ah o):=amn (F:=fun _=>p) h
theorem aN (l a b:List Nat){f:Nat}{fn:Func}{c:PC}(h0:ctx.P.funcs[f]?=some fn)(h1:ctx.sig f=some (Jb f))(h2:lN {ctx with fr:=a,nh:=b} fn (Jb f) l=some c):∃fn s ids fr nh,ctx.P.funcs[f]?=some fn∧ctx.sig f=some s∧lN {ctx with fr:=fr,nh:=nh} fn s ids=some c:=⟨fn,Jb f,l,a,b,h0,h1,h2⟩
abbrev j4:PE:=.setc (.con (.agg [(.int 0),(.int 0),(.int 0),(.int 0),(.int 0),(.int 0),(.int 0),(.int 0),(.int 0),(.int 0),(.int 0),(.int 0),(.int 0),(.int 0),(.int 0),(.list []),(.list []),(.list []),(.list [])])) 0 (.mk [(.mk [(pi 0),(pi 1),(pi 1),(pi 100),(pi 0),z3,(pi 10),(pi 0),(pi 0),(pi (-1)),(pi 0),(pi 0),(pi 1)]),(.lst [(.mk [(pi 0),(pi 0),(pi 0),(pi (-1)),(pi (-1)),(pi 0),(pi 10),(pi 0),(pi 0)])]),pL,pL,r0])
abbrev De:PE:=.con (.agg [(.int 0),(.int 0),(.int 0),(.int 0),(.int 0),(.int 0),(.int 0),(.int 0),(.int 0),(.int 0),(.int 0),(.int 0),(.int 0),(.int 0),(.int 0),(.list []),(.list []),(.list []),(.list [])])
abbrev fY:PE:=.con (.agg [(.bool false),(.int 0)])
abbrev Ip:PE:=.setc (.setc (.con (.agg [(.list []),(.list []),(.list []),(.list []),(.list []),(.list []),(.list []),(.list [])])) 0 (.mk [(.lst [(.con (.v (.string ⟨#[102,114,97,110,99]⟩)))]),(.lst [(.mk [(.con (.v (.string ⟨#[76,121,111,110]⟩))),(pi 0),(pi 0),pL,pL,pL])]),(.lst [(.mk [(pi 0)])]),(.lst [(.mk [(.con (.v (.string ⟨#[65]⟩))),(pi 0),(pi 0)]),(.mk [(.con (.v (.string ⟨#[66]⟩))),(pi 0),(pi 0)])]),pL,pL,pL,pL])) 4 pN
abbrev zI:PE:=.con (.agg [(.int 0),(.int 0),(.int 0),(.int 0),(.int 0),(.int 0),(.int 0),(.int 0),(.int 0),(.int 0),(.int 0),(.int 0),(.int 0),(.int 0),(.int 0),(.list []),(.list []),(.list []),(.list []),(.int 0),(.int 0),(.int 0),(.int 0),(.int 0)])
abbrev qx:PE:=.deref (.con (.ref (.agg [(.int 6),(.int 7),(.int 10),(.int 12),(.int 13),(.int 14),(.int 15),(.int 16),(.int 20),(.int 21)])))
abbrev jj:PE:=.con (.agg [(.int 0),(.int 0),(.list [])])
abbrev kM:PE:=.setc z3 0 (.mk [(pc (.mk [r0]) 5),(pc (.mk [r0]) 6),(pc (.mk [r0]) 7)])
abbrev It:PE:=.put (.put (.put (.put (.con (.map [])) (pi 7) (bC (.ai .and .i64 (pc o6 13) (pi 1)) (pi 0))) (pi 8) (ar (pc o6 2) (pi (-1)))) (pi 9) (bC (.ai .and .i64 (pc o6 13) (pi 4)) (pi 0))) (pi 10) (bC (.ai .and .i64 (pc o6 13) (pi 2)) (pi 0))
abbrev nS:PE:=.con (.agg [(.bool false),(.int 0),(.int 0),(.list []),(.int 0)])
abbrev lq:PE:=.con (.agg [(.list []),(.int 0)])
abbrev dx:PE:=pi 4294967296
abbrev nT:PE:=.setc z9 0 (pn (pc (.mk [r1]) 15) r2)
abbrev zF:PE:=.mk [(pc (.setc fY 0 fZ) 0),(pc (.setc fY 0 fZ) 1)]
abbrev zG:PE:=.setc z9 0 (pn (pc (.mk [r2]) 15) (pc (.mk [r2]) 19))
abbrev Ov:PE:=.setc jj 0 (.mk [(pi 5),(pi 0),(.lst [(.mk [(pc (.setc jj 0 (.mk [(pi 2),(pi 15),pL])) 0),(pc (.setc jj 0 (.mk [(pi 2),(pi 15),pL])) 1),pL]),(.mk [(pi 2),(pi 17),pL])])])
abbrev Ow:PE:=.put (.put (.put (.con (.map [])) (pi 0) (pc o6 3)) (pi 1) (pc o6 14)) (pi 2) (pc o6 5)
abbrev Ik:PE:=.pick (.pick (ar (.tget Di 0) (pi 0)) (pc cZ 0) pF) (.setc cZ 1 (.mn (.mx (pc cZ 1) (pi 0)) (pi 20000))) cZ
abbrev Dc:PE:=.mk [(pc (.setc o4 0 (.mk [pF,(pi 0)])) 0),(pc (.setc o4 0 (.mk [pF,(pi 0)])) 1)]
abbrev Il:PE:=.con (.agg [(.int 0),(.int 0),(.bool false)])
abbrev Yg:PE:=.ai .add .u64 (.ai .mul .u64 (.ai .shr .u64 r0 (.con (.v (.int .u64 32)))) (.ai .and .u64 r1 (.con (.v (.int .u64 4294967295))))) (.ai .shr .u64 (.ai .mul .u64 (.ai .and .u64 r0 (.con (.v (.int .u64 4294967295)))) (.ai .and .u64 r1 (.con (.v (.int .u64 4294967295))))) (.con (.v (.int .u64 32))))
abbrev wE:PE:=.setc (.setc cZ 3 (.tget OJ 0)) 4 (.tget OJ 1)
abbrev wF:PE:=pc (.mk [r0]) 2
abbrev Ox:PE:=.con (.agg [(.list []),(.list []),(.list []),(.list []),(.list []),(.list []),(.list []),(.list [])])
abbrev Oy:PE:=.mk [(pc (.setc o4 0 (.mk [(pi 0),(pi 0),pL])) 0),(pc (.setc o4 0 (.mk [(pi 0),(pi 0),pL])) 1),pL]
abbrev mX:PE:=aI 8 (.mk [r0])
abbrev ls:PE:=.setc o4 0 o5
abbrev Yh:PE:=.pick (.pick (ar (.tget jI 0) (.con (.v (.int .u64 0)))) (ak (.tget jI 1) (.con (.v (.int .u64 1099511627776)))) pF) (.conv .i64 (.tget jI 1)) (pi 1099511627776)
abbrev Oz:PE:=aI 5 (.setc o8 0 (.mk [(pc cZ 0),(pc cZ 1),(pc cZ 2),(.o 16394),(pc cZ 4)]))
abbrev nU:PE:=.llen (pc o3 2)
abbrev Yi:PE:=.pick (.pick (.pick (ak (pc zG 2) (pi 0)) pT (dD (pc zG 2) (.llen (pc (.mk [r0]) 3)))) pT (ak r1 (pi 0))) pT (dD r1 (.llen (pc (.mk [r0]) 4)))
abbrev OA:PE:=.put (.con (.map [])) (pi 7) (bC (.ai .and .i64 (pc o6 13) (pi 1)) (pi 0))
abbrev pk:PE:=pc (.mk [r0]) 0
abbrev Yj:PE:=.app o2 (.lst [(pc (.setc (.con (.agg [(.v (.string ⟨#[]⟩)),(.int 0),(.int 0),(.list []),(.list []),(.list [])])) 0 (pn cN cG)) 0)])
abbrev Df:PE:=cJ (pi 2) (pc (pn o7 (pi 0)) 1)
abbrev Io:PE:=.setc jj 0 (.sub (pn (pc o2 3) jk) 1 3)
abbrev rZ:PE:=pc (.mk [r0]) 15
abbrev Yk:PE:=.app o4 (.lst [(pc (.setc (.con (.agg [(.v (.string ⟨#[]⟩)),(.bool false),(.list []),(.list [])])) 0 (pn lx pw)) 0)])
abbrev Dg:PE:=pc (.setc De 0 sd) 18
abbrev zH:PE:=.con (.v (.int .u64 32))
abbrev Yl:PE:=.put (.put (.put It (pi 11) (bC OG OH)) (pi 12) eC) (pi 13) (bC (.ai .and .i64 (pc o8 8) (pi 1)) (pi 0))
abbrev po:PE:=pn r1 (pi 1)
abbrev OB:PE:=.put (.put Ow (pi 3) (pc o6 12)) (pi 4) (pc o8 0)
abbrev Ym:PE:=.pick (bY (.llen (pc (pn (pc o1 1) r3) 4)) (pi 70)) pT (bY (.llen (pc (pn (pc o1 1) r3) 5)) (pi 210))
abbrev Dh:PE:=.setc Il 0 (pn jk mg)
abbrev Yn:PE:=.app o3 (.lst [(pc (.setc (.con (.agg [(.v (.string ⟨#[]⟩)),(.int 0),(.int 0)])) 0 (pn mg fZ)) 0)])
abbrev Yo:PE:=.app o4 (.lst [(pc (.setc (.con (.agg [(.int 0),(.int 0),(.int 0),(.list [])])) 0 (pn fZ sd)) 0)])
abbrev tX:PE:=pc (.mk [r0]) 1
abbrev tY:PE:=.llen (pc o1 4)
abbrev tZ:PE:=.llen (pc o1 1)
abbrev Yp:PE:=.an (.cb .eql (pc (pn r1 (pi 0)) 0) (pc zF 0)) (.an (ar (pc (pn r1 (pi 0)) 1) (pc zF 1)) pT)
abbrev Yq:PE:=.app (.o 69637) (.lst [(.mk [(pc (.setc z2 0 (pn sf mh)) 0),(pc (.setc z2 0 (pn sf mh)) 1)])])
abbrev OC:PE:=.setc o4 0 (.mk [(pc o9 0),(pc o9 1),(pc o9 2)])
abbrev ua:PE:=bB r8 (pi 1)
abbrev qw:PE:=.llen wF
abbrev Yr:PE:=.setc o4 0 (.mk [(pc (.setc fY 0 (.tget mf 0)) 0),(pc (.setc fY 0 (.tget mf 0)) 1)])
abbrev Ys:PE:=.app tS (.lst [(.ai .and .i64 (.ai .shr .i64 lu (cJ (cJ gq (pi 1)) zQ)) (pi 1))])
abbrev Iq:PE:=.setc fY 0 (.mk [pT,(pi 1)])
abbrev Ir:PE:=.setc fY 0 (.mk [pT,(pi 0)])
abbrev Is:PE:=cJ (.llen (pc o3 3)) (pi 1)
abbrev wG:PE:=.mk [pF,(pi 0)]
abbrev zJ:PE:=pi 1099511627776
abbrev zK:PE:=pc (.mk [r0]) 18
abbrev OD:PE:=ar (pc (.setc nS 0 jI) 4) (pi 0)
abbrev ub:PE:=ak bK fP
abbrev OE:PE:=.pick (dD r0 (pi 0)) (ak r0 r1) pF
abbrev zL:PE:=.llen (pc o1 3)
abbrev Yt:PE:=.setc o4 0 (.mk [(pc (.setc fY 0 OO) 0),(pc (.setc fY 0 OO) 1)])
abbrev Yu:PE:=.setc o4 0 (.mk [(pc (.setc fY 0 pq) 0),(pc (.setc fY 0 pq) 1)])
abbrev Yv:PE:=.setc lq 0 (.mk [(.lst [(pi 1),(pi (-1)),(pi (-1))]),(pi (-1))])
abbrev Yw:PE:=.pick (bC (pc o3 22) (pi (-1))) (cJ (pc o8 6) (pc o3 22)) (pi 0)
abbrev OF:PE:=.ai .rem .i64 (pn r8 fP) (pi 100)
abbrev Yx:PE:=.pick (.pick (.pick r1 r2 pF) r3 pF) (ar (.llen Dg) (pi 2)) pF
abbrev Yy:PE:=pc (.setc (.con (.agg [(.int 0)])) 0 (.llen (pc (.mk [r0]) 4))) 0
abbrev Yz:PE:=.app (.o 77829) (.lst [(.mk [(pc NI 0),(pc NI 1),(pc NI 2)])])
end Rm
