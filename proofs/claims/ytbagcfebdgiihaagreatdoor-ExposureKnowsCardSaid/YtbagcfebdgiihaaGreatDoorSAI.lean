/-
  Shared texts of this claim.
-/
import Derived.Test.YtbagcfebdgiihaaGreatDoorSAH
import Derived.Lib.LaidTab
set_option linter.unusedSimpArgs false
set_option linter.unusedVariables false
noncomputable section
namespace Cx
open Go Go.RowKit
structure SE where
 r:List (Nat×PE)
 o:List (Nat×PE)
def SE.getR (s:SE)(t:Nat):PE:=match bu s.r t with|some e=>e|none=>.r t
def SE.getO (s:SE)(t:Nat):PE:=match bu s.o t with|some e=>e|none=>.o t
def SE.setR (s:SE)(t:Nat)(e:PE):SE:=⟨(t,e)::s.r,s.o⟩
def SE.setO (s:SE)(t:Nat)(e:PE):SE:=⟨s.r,(t,e)::s.o⟩
def SE.id:SE:=⟨[],[]⟩
def SE.ev (s:SE)(ρ:Env):Env:=⟨fun t=>(s.getR t).ev ρ,fun t=>(s.getO t).ev ρ⟩
def SE.join (s:SE)(lr lo:List Nat)(s':SE):SE:=⟨lr.map (fun t=>(t,s'.getR t))++s.r,lo.map (fun t=>(t,s'.getO t))++s.o⟩
theorem SE.setR_ev (s:SE)(t:Nat)(e:PE)(ρ:Env):(s.setR t e).ev ρ=(s.ev ρ).setR t (e.ev ρ):=by
 have h:(fun u=>((s.setR t e).getR u).ev ρ)=bV (fun u=>(s.getR u).ev ρ) t (e.ev ρ):=by
  funext u;simp only[SE.getR,SE.setR,bu,fg];by_cases h:t=u
  ·subst h;simp
  ·have h':¬u=t:=fun e=>h e.symm;simp[eQ h,h']
 simp only[SE.ev,Env.setR];rw[h];rfl
theorem SE.setO_ev (s:SE)(t:Nat)(e:PE)(ρ:Env):(s.setO t e).ev ρ=(s.ev ρ).setO t (e.ev ρ):=by
 have h:(fun u=>((s.setO t e).getO u).ev ρ)=bV (fun u=>(s.getO u).ev ρ) t (e.ev ρ):=by
  funext u;simp only[SE.getO,SE.setO,bu,fg];by_cases h:t=u
  ·subst h;simp
  ·have h':¬u=t:=fun e=>h e.symm;simp[eQ h,h']
 simp only[SE.ev,Env.setO];rw[h];rfl
theorem vq {f:Nat→PE}{l:List (Nat×PE)}{u:Nat}:∀(lr:List Nat),bu (lr.map (fun t=>(t,f t))++l) u=if u∈lr then some (f u) else bu l u
 |[]=>by simp
 |t::lr=>by
  simp only[eB,Eb,bu,vq lr,cG];by_cases h:t=u
  ·subst h;simp
  ·have h':¬u=t:=fun e=>h e.symm;simp[eQ h,h']
theorem SE.join_ev (s s':SE)(lr lo:List Nat)(ρ:Env):(s.join lr lo s').ev ρ=(s.ev ρ).join lr lo (s'.ev ρ):=by
 have h1:∀u,((s.join lr lo s').getR u).ev ρ=((s.ev ρ).join lr lo (s'.ev ρ)).r u:=by
  intro u;rw[Env.join_r];have e:bu (s.join lr lo s').r u=if u∈lr then some (s'.getR u) else bu s.r u:=vq lr;unfold SE.getR;rw[e];by_cases h:u∈lr
  ·simp only[h,if_true];rfl
  ·simp only[h,if_false];rfl
 have h2:∀u,((s.join lr lo s').getO u).ev ρ=((s.ev ρ).join lr lo (s'.ev ρ)).o u:=by
  intro u;rw[Env.join_o];have e:bu (s.join lr lo s').o u=if u∈lo then some (s'.getO u) else bu s.o u:=vq lo;unfold SE.getO;rw[e];by_cases h:u∈lo
  ·simp only[h,if_true];rfl
  ·simp only[h,if_false];rfl
 have e1:(fun u=>((s.join lr lo s').getR u).ev ρ)=((s.ev ρ).join lr lo (s'.ev ρ)).r:=funext h1;have e2:(fun u=>((s.join lr lo s').getO u).ev ρ)=((s.ev ρ).join lr lo (s'.ev ρ)).o:=funext h2;show Env.mk _ _=_;rw[e1,e2]
abbrev bN:=List (PE×Bool)
def bN.ok (ab:bN)(ρ:Env):Prop:=∀x,x∈ab→(x.1.ev ρ).b=x.2
def Ev (e:PE):bN→Option Bool
 |[]=>none
 |x::l=>bif PE.beq x.1 e then some x.2 else Ev e l
theorem Tt {e:PE}{ρ:Env}{b:Bool}:∀{ab:bN},ab.ok ρ→Ev e ab=some b→(e.ev ρ).b=b
 |[],_,h=>by cases h
 |x::l,au,h=>by
  simp only[Ev] at h;cases hb:PE.beq x.1 e<;>simp only[hb,cond_true,cond_false] at h
  ·exact Tt (fun y hy=>au y (ef _ hy)) h
  ·cases h;rw[←PE.beq_eq _ _ hb];exact au x (eC ..)
def tJ (ab:bN):PE→Option Bool
 |.con (.v (.bool b))=>some b
 |.nt x=>(tJ ab x).map (!·)
 |e=>Ev e ab
theorem wz {ab:bN}{ρ:Env}(h:ab.ok ρ):∀{e:PE} {b:Bool},tJ ab e=some b→(e.ev ρ).b=b
 |.con (.v (.bool b)),b',he=>by simp only[tJ,aT] at he;subst he;rfl
 |.nt x,b',he=>by
  simp only[tJ,ax] at he;obtain⟨c,hc,rfl⟩:=he;simp only[PE.ev,D.b_bool,wz h hc]
 |e,b',he=>by
  unfold tJ at he;split at he
  ·cases he;rfl
  ·rename_i x;simp only[ax] at he;obtain⟨c,hc,rfl⟩:=he;simp only[PE.ev,D.b_bool,wz h hc]
  ·exact Tt h he
def rl (ab:bN)(c a b:PE):PE:=match tJ ab c with|some true=>a|some false=>b|none=>.pick c a b
theorem OE {ab:bN}{ρ:Env}(h:ab.ok ρ)(c a b:PE):(rl ab c a b).ev ρ=(PE.pick c a b).ev ρ:=by
 unfold rl;split
 ·rename_i ht;simp[PE.ev,wz h ht]
 ·rename_i ht;simp[PE.ev,wz h ht]
 ·rfl
def KQ:PE→PE
 |.ref x=>x
 |x=>.deref x
theorem adY (x:PE)(ρ:Env):(KQ x).ev ρ=(PE.deref x).ev ρ:=by unfold KQ;split<;>rfl
def Qm:PE→Nat→PE
 |.tup es,i=>es.getD i (.con .none)
 |x,i=>.tget x i
theorem apD (x:PE)(i:Nat)(ρ:Env):(Qm x i).ev ρ=(PE.tget x i).ev ρ:=by
 unfold Qm;split
 ·rename_i es;simp only[PE.ev,D.tget_tup,PE.evs_eq,aI,cl];cases es[i]?<;>rfl
 ·rfl
def CI:PE→Bool
 |.ai ..|.ci ..|.cb ..|.cs ..|.sadd ..|.nt _|.conv ..|.llen _|.bytes _|.slen _|.mlen _|.idx ..|.sidx ..|.sok ..|.slok ..|.lst _|.app ..|.setn ..|.rep ..|.slc ..|.ref _|.has ..|.put ..|.an ..|.imp ..|.tup _|.clo ..=>true
 |.con (.v _)|.con (.list _)|.con (.map _)=>true
 |_=>false
theorem amK {e:PE}(h:CI e=true)(ρ:Env):(e.ev ρ).cells=[e.ev ρ]:=by
 unfold CI at h;split at h<;>first|rfl|cases h
def KG:PE→Nat→PE
 |.mk es,i=>bif es.all CI then es.getD i (.con .none) else .cell (.mk es) i
 |x,i=>.cell x i
theorem Ux {ρ:Env}:∀{es:List PE},es.all CI=true→PE.evc ρ es=PE.evs ρ es
 |[],_=>rfl
 |e::es,h=>by
  simp only[oG,aq] at h;simp only[PE.evc,PE.evs,amK h.1,Ux h.2];rfl
theorem adb (x:PE)(i:Nat)(ρ:Env):(KG x i).ev ρ=(PE.cell x i).ev ρ:=by
 unfold KG;split
 ·rename_i es;cases hc:es.all CI
  ·rfl
  ·simp only[cond_true,PE.ev,Ux hc,D.c_agg,PE.evs_eq,aI,cl];cases es[i]?<;>rfl
 ·rfl
def Bm (s:SE):List (Nat×Bool)→PE
 |[]=>.con (.v (.bool true))
 |g::gs=>.an (bif g.2 then s.getR g.1 else .nt (s.getR g.1)) (Bm s gs)
theorem UX (s:SE)(ρ:Env):∀gs,((Bm s gs).ev ρ).b=holds gs (s.ev ρ)
 |[]=>rfl
 |g::gs=>by
  have ih:=UX s ρ gs;rw[aiA,←ih];have e:((s.ev ρ).r g.1)=(s.getR g.1).ev ρ:=rfl;rw[e];cases hg:g.2
  ·simp only[Bm,hg,cond_false,PE.ev,D.b_bool];cases((s.getR g.1).ev ρ).b<;>rfl
  ·simp only[Bm,hg,cond_true,PE.ev,D.b_bool];cases((s.getR g.1).ev ρ).b<;>rfl
mutual
def PE.sub' (ab:bN)(s:SE):PE→PE
 |.r t=>s.getR t
 |.o j=>s.getO j
 |.con d=>.con d
 |.cell e i=>KG (PE.sub' ab s e) i
 |.sub e a b=>.sub (PE.sub' ab s e) a b
 |.setc e q x=>.setc (PE.sub' ab s e) q (PE.sub' ab s x)
 |.mk es=>.mk (PE.subs' ab s es)
 |.ai op k x y=>.ai op k (PE.sub' ab s x) (PE.sub' ab s y)
 |.ci op x y=>.ci op (PE.sub' ab s x) (PE.sub' ab s y)
 |.cb op x y=>.cb op (PE.sub' ab s x) (PE.sub' ab s y)
 |.cs op x y=>.cs op (PE.sub' ab s x) (PE.sub' ab s y)
 |.sadd x y=>.sadd (PE.sub' ab s x) (PE.sub' ab s y)
 |.nt x=>.nt (PE.sub' ab s x)
 |.conv k x=>.conv k (PE.sub' ab s x)
 |.pick c a b=>rl ab (PE.sub' ab s c) (PE.sub' ab s a) (PE.sub' ab s b)
 |.llen x=>.llen (PE.sub' ab s x)
 |.bytes x=>.bytes (PE.sub' ab s x)
 |.slen x=>.slen (PE.sub' ab s x)
 |.mlen x=>.mlen (PE.sub' ab s x)
 |.nth x y=>.nth (PE.sub' ab s x) (PE.sub' ab s y)
 |.idx x y=>.idx (PE.sub' ab s x) (PE.sub' ab s y)
 |.sidx x y=>.sidx (PE.sub' ab s x) (PE.sub' ab s y)
 |.sok x y=>.sok (PE.sub' ab s x) (PE.sub' ab s y)
 |.setn x y n z=>.setn (PE.sub' ab s x) (PE.sub' ab s y) n (PE.sub' ab s z)
 |.app x y=>.app (PE.sub' ab s x) (PE.sub' ab s y)
 |.lst es=>.lst (PE.subs' ab s es)
 |.rep x y=>.rep (PE.sub' ab s x) (PE.sub' ab s y)
 |.slc x y z=>.slc (PE.sub' ab s x) (PE.sub' ab s y) (PE.sub' ab s z)
 |.slok x y z=>.slok (PE.sub' ab s x) (PE.sub' ab s y) (PE.sub' ab s z)
 |.ref x=>.ref (PE.sub' ab s x)
 |.deref x=>KQ (PE.sub' ab s x)
 |.look x y z=>.look (PE.sub' ab s x) (PE.sub' ab s y) (PE.sub' ab s z)
 |.has x y=>.has (PE.sub' ab s x) (PE.sub' ab s y)
 |.put x y z=>.put (PE.sub' ab s x) (PE.sub' ab s y) (PE.sub' ab s z)
 |.mn x y=>.mn (PE.sub' ab s x) (PE.sub' ab s y)
 |.mx x y=>.mx (PE.sub' ab s x) (PE.sub' ab s y)
 |.tup es=>.tup (PE.subs' ab s es)
 |.tget x i=>Qm (PE.sub' ab s x) i
 |.clo f es=>.clo f (PE.subs' ab s es)
 |.an x y=>.an (PE.sub' ab s x) (PE.sub' ab s y)
 |.imp c x=>.nt (.an (Bm s c) (.nt (PE.sub' ab s x)))
def PE.subs' (ab:bN)(s:SE):List PE→List PE
 |[]=>[]
 |e::es=>PE.sub' ab s e::PE.subs' ab s es
end
mutual
theorem PE.sub_ev {ab:bN}{ρ:Env}(h:ab.ok ρ)(s:SE):∀(e:PE),(PE.sub' ab s e).ev ρ=e.ev (s.ev ρ)
 |.r t=>rfl
 |.o j=>rfl
 |.con d=>rfl
 |.cell e i=>by simp only[PE.sub',adb,PE.ev,PE.sub_ev h s e]
 |.sub e a b=>by simp only[PE.sub',PE.ev,PE.sub_ev h s e]
 |.setc e q x=>by simp only[PE.sub',PE.ev,PE.sub_ev h s e,PE.sub_ev h s x]
 |.mk es=>by simp only[PE.sub',PE.ev,PE.subc_ev h s es]
 |.ai op k x y=>by simp only[PE.sub',PE.ev,PE.sub_ev h s x,PE.sub_ev h s y]
 |.ci op x y=>by simp only[PE.sub',PE.ev,PE.sub_ev h s x,PE.sub_ev h s y]
 |.cb op x y=>by simp only[PE.sub',PE.ev,PE.sub_ev h s x,PE.sub_ev h s y]
 |.cs op x y=>by simp only[PE.sub',PE.ev,PE.sub_ev h s x,PE.sub_ev h s y]
 |.sadd x y=>by simp only[PE.sub',PE.ev,PE.sub_ev h s x,PE.sub_ev h s y]
 |.nt x=>by simp only[PE.sub',PE.ev,PE.sub_ev h s x]
 |.conv k x=>by simp only[PE.sub',PE.ev,PE.sub_ev h s x]
 |.pick c a b=>by simp only[PE.sub',OE h,PE.ev,PE.sub_ev h s c,PE.sub_ev h s a,PE.sub_ev h s b]
 |.llen x=>by simp only[PE.sub',PE.ev,PE.sub_ev h s x]
 |.bytes x=>by simp only[PE.sub',PE.ev,PE.sub_ev h s x]
 |.slen x=>by simp only[PE.sub',PE.ev,PE.sub_ev h s x]
 |.mlen x=>by simp only[PE.sub',PE.ev,PE.sub_ev h s x]
 |.nth x y=>by simp only[PE.sub',PE.ev,PE.sub_ev h s x,PE.sub_ev h s y]
 |.idx x y=>by simp only[PE.sub',PE.ev,PE.sub_ev h s x,PE.sub_ev h s y]
 |.sidx x y=>by simp only[PE.sub',PE.ev,PE.sub_ev h s x,PE.sub_ev h s y]
 |.sok x y=>by simp only[PE.sub',PE.ev,PE.sub_ev h s x,PE.sub_ev h s y]
 |.setn x y n z=>by simp only[PE.sub',PE.ev,PE.sub_ev h s x,PE.sub_ev h s y,PE.sub_ev h s z]
 |.app x y=>by simp only[PE.sub',PE.ev,PE.sub_ev h s x,PE.sub_ev h s y]
 |.lst es=>by simp only[PE.sub',PE.ev,PE.subs_ev h s es]
 |.rep x y=>by simp only[PE.sub',PE.ev,PE.sub_ev h s x,PE.sub_ev h s y]
 |.slc x y z=>by simp only[PE.sub',PE.ev,PE.sub_ev h s x,PE.sub_ev h s y,PE.sub_ev h s z]
 |.slok x y z=>by simp only[PE.sub',PE.ev,PE.sub_ev h s x,PE.sub_ev h s y,PE.sub_ev h s z]
 |.ref x=>by simp only[PE.sub',PE.ev,PE.sub_ev h s x]
 |.deref x=>by simp only[PE.sub',adY,PE.ev,PE.sub_ev h s x]
 |.look x y z=>by simp only[PE.sub',PE.ev,PE.sub_ev h s x,PE.sub_ev h s y,PE.sub_ev h s z]
 |.has x y=>by simp only[PE.sub',PE.ev,PE.sub_ev h s x,PE.sub_ev h s y]
 |.put x y z=>by simp only[PE.sub',PE.ev,PE.sub_ev h s x,PE.sub_ev h s y,PE.sub_ev h s z]
 |.mn x y=>by simp only[PE.sub',PE.ev,PE.sub_ev h s x,PE.sub_ev h s y]
 |.mx x y=>by simp only[PE.sub',PE.ev,PE.sub_ev h s x,PE.sub_ev h s y]
 |.tup es=>by simp only[PE.sub',PE.ev,PE.subs_ev h s es]
 |.tget x i=>by simp only[PE.sub',apD,PE.ev,PE.sub_ev h s x]
 |.clo f es=>by simp only[PE.sub',PE.ev,PE.subs_ev h s es]
 |.an x y=>by simp only[PE.sub',PE.ev,PE.sub_ev h s x,PE.sub_ev h s y]
 |.imp c x=>by
  simp only[PE.sub',PE.ev,D.b_bool,UX,PE.sub_ev h s x];cases holds c (s.ev ρ)<;>cases(x.ev (s.ev ρ)).b<;>rfl
theorem PE.subs_ev {ab:bN}{ρ:Env}(h:ab.ok ρ)(s:SE):∀(es:List PE),PE.evs ρ (PE.subs' ab s es)=PE.evs (s.ev ρ) es
 |[]=>rfl
 |e::es=>by simp only[PE.subs',PE.evs,PE.sub_ev h s e,PE.subs_ev h s es]
theorem PE.subc_ev {ab:bN}{ρ:Env}(h:ab.ok ρ)(s:SE):∀(es:List PE),PE.evc ρ (PE.subs' ab s es)=PE.evc (s.ev ρ) es
 |[]=>rfl
 |e::es=>by simp only[PE.subs',PE.evc,PE.sub_ev h s e,PE.subc_ev h s es]
end
inductive PT where
 |next (s:SE)
 |exit (id:Nat) (s:SE)
 |ret (e:PE)
 |chk (e:PE) (k:PT)
 |ite (c:PE) (a b:PT)
 |call (s:SE) (gs:List (Nat×Bool)) (dst f:Nat) (args:List PE) (k:PT)
 |callc (s:SE) (gs:List (Nat×Bool)) (dst:Nat) (e:PE) (args:List PE) (k:PT)
 |mcall (s:SE) (j f:Nat) (args:List PE) (k:PT)
 |iteS (s:SE) (c:PE) (lr lo:List Nat) (a b k:PT)
 |blockS (s:SE) (id:Nat) (lr lo:List Nat) (a k:PT)
 |brk (s:SE) (c:PC) (k:PT)
def aE (T:cA):PT→Env→(Out→Prop)→Prop
 |.next s,ρ,Q=>Q (.next (s.ev ρ))
 |.exit id s,ρ,Q=>Q (.exit id (s.ev ρ))
 |.ret e,ρ,Q=>Q (.ret (e.ev ρ))
 |.chk e k,ρ,Q=>(e.ev ρ).b=true∧aE T k ρ Q
 |.ite c a b,ρ,Q=>if(c.ev ρ).b=true then aE T a ρ Q else aE T b ρ Q
 |.call s gs dst f args k,ρ,Q=>if holds gs (s.ev ρ)=true then ∃d,ak T f (PE.evs ρ args) d∧aE T k ((s.ev ρ).setR dst d) Q else aE T k (s.ev ρ) Q
 |.callc s gs dst e args k,ρ,Q=>if holds gs (s.ev ρ)=true then ∃f caps d,e.ev ρ=.clo f caps∧ak T f (PE.evs ρ args++caps) d∧aE T k ((s.ev ρ).setR dst d) Q else aE T k (s.ev ρ) Q
 |.mcall s j f args k,ρ,Q=>∃d,ak T f (PE.evs ρ args) d∧aE T k ((s.ev ρ).setO j d) Q
 |.iteS s c lr lo a b k,ρ,Q=>if(c.ev ρ).b=true then aE T a (s.ev ρ) (jP (s.ev ρ) lr lo (fY (fun ρ'=>aE T k ρ' Q) Q)) else aE T b (s.ev ρ) (jP (s.ev ρ) lr lo (fY (fun ρ'=>aE T k ρ' Q) Q))
 |.blockS s id lr lo a k,ρ,Q=>aE T a (s.ev ρ) (kE (s.ev ρ) id lr lo (fY (fun ρ'=>aE T k ρ' Q) Q))
 |.brk s c k,ρ,Q=>aH T c (s.ev ρ) (fY (fun ρ'=>aE T k ρ' Q) Q)
def mQ:PI→Bool
 |.setR ..|.setO ..|.chk _=>true
 |_=>false
def dx:PC→Bool
 |.loop ..=>false
 |.each ..=>false
 |.meach ..=>false
 |.seq a b=>dx a&&dx b
 |.ite _ _ _ a b=>dx a&&dx b
 |.block _ _ _ a=>dx a
 |.is l=>l.all mQ
 |_=>true
abbrev Kn:=bN→SE→PT
abbrev Kx:=bN→Nat→SE→PT
def me:List PI→bN→SE→Kn→PT
 |[],ab,s,k=>k ab s
 |.setR t e::l,ab,s,k=>me l ab (s.setR t (e.sub' ab s)) k
 |.setO t e::l,ab,s,k=>me l ab (s.setO t (e.sub' ab s)) k
 |.chk e::l,ab,s,k=>
  match tJ ab (e.sub' ab s) with
  |some true=>me l ab s k
  |_=>.chk (e.sub' ab s) (me l ((e.sub' ab s,true)::ab) s k)
 |.call gs dst f args::l,ab,s,k=>.call s gs dst f (PE.subs' ab s args) (me l [] .id k)
 |.callc gs dst e args::l,ab,s,k=>.callc s gs dst (e.sub' ab s) (PE.subs' ab s args) (me l [] .id k)
 |.mcall j f args::l,ab,s,k=>.mcall s j f (PE.subs' ab s args) (me l [] .id k)
def SE.merge (s:SE)(ab:bN)(lr lo:List Nat)(c:PE)(a b:SE):SE:=⟨lr.map (fun t=>(t,rl ab c (a.getR t) (b.getR t)))++s.r,lo.map (fun t=>(t,rl ab c (a.getO t) (b.getO t)))++s.o⟩
def od:List PI→bN→SE→Option SE
 |[],_,s=>some s
 |.setR t e::l,ab,s=>od l ab (s.setR t (e.sub' ab s))
 |.setO t e::l,ab,s=>od l ab (s.setO t (e.sub' ab s))
 |_::_,_,_=>none
def plain:PC→bN→SE→Option SE
 |.skip,_,s=>some s
 |.is l,ab,s=>od l ab s
 |.seq a b,ab,s=>(plain a ab s).bind fun s=>plain b ab s
 |.ite c lr lo a b,ab,s=>(plain a ab s).bind fun sa=>(plain b ab s).map fun sb=>s.merge ab lr lo (c.sub' ab s) sa sb
 |_,_,_=>none
def WC:PC→Bool
 |.loop ..=>true
 |_=>false
def sx:PC→bN→SE→Kn→Kx→PT
 |.skip,ab,s,k,_=>k ab s
 |.is l,ab,s,k,_=>me l ab s k
 |.seq a b,ab,s,k,kx=>sx a ab s (fun ab s=>sx b ab s k kx) kx
 |.ite c lr lo a b,ab,s,k,kx=>
  match tJ ab (c.sub' ab s) with
  |some true=>bif dx a then sx a ab s (fun ab s'=>k ab (s.join lr lo s')) kx else .iteS s (c.sub' ab s) lr lo (sx a [] .id (fun _ s=>.next s) (fun _ id s=>.exit id s)) (sx b [] .id (fun _ s=>.next s) (fun _ id s=>.exit id s)) (k [] .id)
  |some false=>bif dx b then sx b ab s (fun ab s'=>k ab (s.join lr lo s')) kx else .iteS s (c.sub' ab s) lr lo (sx a [] .id (fun _ s=>.next s) (fun _ id s=>.exit id s)) (sx b [] .id (fun _ s=>.next s) (fun _ id s=>.exit id s)) (k [] .id)
  |none=>
   match plain a ab s,plain b ab s with
   |some sa,some sb=>k ab (s.merge ab lr lo (c.sub' ab s) sa sb)
   |_,_=>
   bif dx a&&dx b then
    .ite (c.sub' ab s) (sx a ((c.sub' ab s,true)::ab) s (fun ab s'=>k ab (s.join lr lo s')) kx) (sx b ((c.sub' ab s,false)::ab) s (fun ab s'=>k ab (s.join lr lo s')) kx)
   else .iteS s (c.sub' ab s) lr lo (sx a [] .id (fun _ s=>.next s) (fun _ id s=>.exit id s)) (sx b [] .id (fun _ s=>.next s) (fun _ id s=>.exit id s)) (k [] .id)
 |.block id lr lo a,ab,s,k,kx=>
  bif dx a then sx a ab s (fun ab s'=>k ab (s.join lr lo s')) (fun ab bM s'=>bif Nat.beq bM id then k ab (s.join lr lo s') else kx ab bM s')
  else bif WC a then .brk s (.block id lr lo a) (k [] .id)
  else .blockS s id lr lo (sx a [] .id (fun _ s=>.next s) (fun _ id s=>.exit id s)) (k [] .id)
 |.loop lr lo a,_,s,k,_=>.brk s (.loop lr lo a) (k [] .id)
 |.each e ps lo rt a,_,s,k,_=>.brk s (.each e ps lo rt a) (k [] .id)
 |.meach J ps cE lo a,_,s,k,_=>.brk s (.meach J ps cE lo a) (k [] .id)
 |.exit id,ab,s,_,kx=>kx ab id s
 |.ret e,ab,s,_,_=>.ret (e.sub' ab s)
theorem bN.ok_nil (ρ:Env):bN.ok [] ρ:=fun _ h=>nomatch h
theorem bN.ok_cons {ab:bN}{ρ:Env}{e:PE}{b:Bool}(h:ab.ok ρ)(he:(e.ev ρ).b=b):bN.ok ((e,b)::ab) ρ:=fun x hx=>by
 rcases cG.1 hx with e'|hx
 ·rw[e'];exact he
 ·exact h x hx
theorem p9 {T:cA}{Q:Out→Prop}{K:Env→Prop}{k:Kn}:∀{l:List PI} {ab:bN} {s:SE} {ρ:Env},ab.ok ρ→aE T (me l ab s k) ρ Q→
 (∀ρ' ab s,(l.all mQ=true→ρ'=ρ)→ab.ok ρ'→aE T (k ab s) ρ' Q→K (s.ev ρ'))→fZ T l (s.ev ρ) K
 |[],ab,s,ρ,ha,h,hk=>hk ρ ab s (fun _=>rfl) ha h
 |.setR t e::l,ab,s,ρ,ha,h,hk=>by
  simp only[fZ];rw[←PE.sub_ev ha s e,←SE.setR_ev];exact p9 ha h fun ρ' ab s hp=>hk ρ' ab s fun hl=>hp (by simpa [mQ] using hl)
 |.setO t e::l,ab,s,ρ,ha,h,hk=>by
  simp only[fZ];rw[←PE.sub_ev ha s e,←SE.setO_ev];exact p9 ha h fun ρ' ab s hp=>hk ρ' ab s fun hl=>hp (by simpa [mQ] using hl)
 |.chk e::l,ab,s,ρ,ha,h,hk=>by
  simp only[fZ];rw[←PE.sub_ev ha s e];simp only[me] at h;split at h
  ·rename_i ht;exact⟨wz ha ht,p9 ha h fun ρ' ab s hp=>hk ρ' ab s fun hl=>hp (by simpa [mQ] using hl)⟩
  ·exact⟨h.1,p9 (bN.ok_cons ha h.1) h.2 fun ρ' ab s hp=>hk ρ' ab s fun hl=>hp (by simpa [mQ] using hl)⟩
 |.call gs dst f args::l,ab,s,ρ,ha,h,hk=>by
  simp only[fZ];simp only[me,aE,PE.subs_ev ha,PE.sub_ev ha] at h;have bL:∀{ρ0:Env},∀ρ' ab s,(l.all mQ=true→ρ'=ρ0)→ab.ok ρ'→aE T (k ab s) ρ' Q→K (s.ev ρ'):=fun ρ' ab s _=>hk ρ' ab s fun hl=>by simp[mQ] at hl
  split at h
  ·rename_i hg;rw[if_pos hg];obtain⟨d,hd,h⟩:=h;exact⟨d,hd,p9 (s:=.id) (bN.ok_nil _) h bL⟩
  ·rename_i hg;rw[if_neg hg];exact p9 (s:=.id) (bN.ok_nil _) h bL
 |.callc gs dst e args::l,ab,s,ρ,ha,h,hk=>by
  simp only[fZ];simp only[me,aE,PE.subs_ev ha,PE.sub_ev ha] at h;have bL:∀{ρ0:Env},∀ρ' ab s,(l.all mQ=true→ρ'=ρ0)→ab.ok ρ'→aE T (k ab s) ρ' Q→K (s.ev ρ'):=fun ρ' ab s _=>hk ρ' ab s fun hl=>by simp[mQ] at hl
  split at h
  ·rename_i hg;rw[if_pos hg];obtain⟨f,caps,d,he,hd,h⟩:=h;exact⟨f,caps,d,he,hd,p9 (s:=.id) (bN.ok_nil _) h bL⟩
  ·rename_i hg;rw[if_neg hg];exact p9 (s:=.id) (bN.ok_nil _) h bL
 |.mcall j f args::l,ab,s,ρ,ha,h,hk=>by
  simp only[fZ];simp only[me,aE,PE.subs_ev ha,PE.sub_ev ha] at h;have bL:∀{ρ0:Env},∀ρ' ab s,(l.all mQ=true→ρ'=ρ0)→ab.ok ρ'→aE T (k ab s) ρ' Q→K (s.ev ρ'):=fun ρ' ab s _=>hk ρ' ab s fun hl=>by simp[mQ] at hl
  obtain⟨d,hd,h⟩:=h;exact⟨d,hd,p9 (s:=.id) (bN.ok_nil _) h bL⟩
theorem SE.merge_ev {ab:bN}{ρ:Env}(h:ab.ok ρ)(s a b:SE)(lr lo:List Nat)(c:PE):(s.merge ab lr lo c a b).ev ρ=(s.ev ρ).join lr lo (if(c.ev ρ).b=true then a.ev ρ else b.ev ρ):=by
 have h1:∀u,((s.merge ab lr lo c a b).getR u).ev ρ=((s.ev ρ).join lr lo (if(c.ev ρ).b=true then a.ev ρ else b.ev ρ)).r u:=by
  intro u;rw[Env.join_r];have e:bu (s.merge ab lr lo c a b).r u=if u∈lr then some (rl ab c (a.getR u) (b.getR u)) else bu s.r u:=vq lr;have e2:(s.merge ab lr lo c a b).getR u=if u∈lr then rl ab c (a.getR u) (b.getR u) else s.getR u:=by
   unfold SE.getR;rw[e];by_cases h:u∈lr<;>simp[h,SE.getR]
  rw[e2];by_cases hu:u∈lr
  ·simp only[hu,if_true,OE h,PE.ev];cases hc:(c.ev ρ).b<;>simp[SE.ev]
  ·simp only[hu,if_false];rfl
 have h2:∀u,((s.merge ab lr lo c a b).getO u).ev ρ=((s.ev ρ).join lr lo (if(c.ev ρ).b=true then a.ev ρ else b.ev ρ)).o u:=by
  intro u;rw[Env.join_o];have e:bu (s.merge ab lr lo c a b).o u=if u∈lo then some (rl ab c (a.getO u) (b.getO u)) else bu s.o u:=vq lo;have e2:(s.merge ab lr lo c a b).getO u=if u∈lo then rl ab c (a.getO u) (b.getO u) else s.getO u:=by
   unfold SE.getO;rw[e];by_cases h:u∈lo<;>simp[h,SE.getO]
  rw[e2];by_cases hu:u∈lo
  ·simp only[hu,if_true,OE h,PE.ev];cases hc:(c.ev ρ).b<;>simp[SE.ev]
  ·simp only[hu,if_false];rfl
 have e1:(fun u=>((s.merge ab lr lo c a b).getR u).ev ρ)=((s.ev ρ).join lr lo (if(c.ev ρ).b=true then a.ev ρ else b.ev ρ)).r:=funext h1;have e2:(fun u=>((s.merge ab lr lo c a b).getO u).ev ρ)=((s.ev ρ).join lr lo (if(c.ev ρ).b=true then a.ev ρ else b.ev ρ)).o:=funext h2;show Env.mk _ _=_;rw[e1,e2]
theorem OH {T:cA}{ab:bN}{ρ:Env}(ha:ab.ok ρ):∀{l:List PI} {s s':SE},od l ab s=some s'→∀{K:Env→Prop},K (s'.ev ρ)→fZ T l (s.ev ρ) K
 |[],s,s',h,K,hk=>by simp only[od,aT] at h;subst h;exact hk
 |.setR t e::l,s,s',h,K,hk=>by simp only[fZ];rw[←PE.sub_ev ha s e,←SE.setR_ev];exact OH (l:=l) ha (show od l ab _=some s' from h) hk
 |.setO t e::l,s,s',h,K,hk=>by simp only[fZ];rw[←PE.sub_ev ha s e,←SE.setO_ev];exact OH (l:=l) ha (show od l ab _=some s' from h) hk
 |.chk _::_,_,_,h,_,_=>by simp[od] at h
 |.call ..::_,_,_,h,_,_=>by simp[od] at h
 |.callc ..::_,_,_,h,_,_=>by simp[od] at h
 |.mcall ..::_,_,_,h,_,_=>by simp[od] at h
theorem anw {T:cA}{ab:bN}{ρ:Env}(ha:ab.ok ρ):∀(c:PC) {s s':SE},plain c ab s=some s'→∀{Q:Out→Prop},Q (.next (s'.ev ρ))→aH T c (s.ev ρ) Q:=by
 intro c
 induction c with
 |skip=>intro s s' h Q hq;simp only[plain,aT] at h;subst h;exact .skip hq
 |is l=>intro s s' h Q hq;exact .is (OH ha h hq)
 |seq a b aY dc=>
  intro s s' h Q hq;simp only[plain,ar] at h;obtain⟨s1,h1,h2⟩:=h;exact .seq (aY h1 (dc h2 hq))
 |ite c lr lo a b aY dc=>
  intro s s' h Q hq;simp only[plain,ar,ax] at h;obtain⟨sa,h1,sb,h2,rfl⟩:=h;rw[SE.merge_ev ha,PE.sub_ev ha] at hq;refine .ite ?_;split
  ·rename_i hc;rw[if_pos hc] at hq;exact aY h1 hq
  ·rename_i hc;rw[if_neg hc] at hq;exact dc h2 hq
 |_=>intro s s' h;simp[plain] at h
theorem Jb {T:cA}:∀(c:PC) {ab:bN} {s:SE} {k:Kn} {kx:Kx} {ρ:Env} {Q Q':Out→Prop},ab.ok ρ→aE T (sx c ab s k kx) ρ Q→
 (∀ρ' ab s,(dx c=true→ρ'=ρ)→ab.ok ρ'→aE T (k ab s) ρ' Q→Q' (.next (s.ev ρ')))→
 (∀ρ' ab id s,(dx c=true→ρ'=ρ)→ab.ok ρ'→aE T (kx ab id s) ρ' Q→Q' (.exit id (s.ev ρ')))→(dx c=false→∀id ρ',Q (.exit id ρ')→Q' (.exit id ρ'))→(∀d,Q (.ret d)→Q' (.ret d))→aH T c (s.ev ρ) Q':=by
 intro c;have alone:∀(a:PC),(∀{ab:bN} {s:SE} {k:Kn} {kx:Kx} {ρ:Env} {Q Q':Out→Prop},ab.ok ρ→aE T (sx a ab s k kx) ρ Q→
  (∀ρ' ab s,(dx a=true→ρ'=ρ)→ab.ok ρ'→aE T (k ab s) ρ' Q→Q' (.next (s.ev ρ')))→
  (∀ρ' ab id s,(dx a=true→ρ'=ρ)→ab.ok ρ'→aE T (kx ab id s) ρ' Q→Q' (.exit id (s.ev ρ')))→(dx a=false→∀id ρ',Q (.exit id ρ')→Q' (.exit id ρ'))→(∀d,Q (.ret d)→Q' (.ret d))→aH T a (s.ev ρ) Q')→
  ∀{ρ:Env} {Q:Out→Prop},aE T (sx a [] .id (fun _ s=>.next s) (fun _ id s=>.exit id s)) ρ Q→aH T a ρ Q:=by
  intro a ih ρ Q h;exact ih (s:=.id) (bN.ok_nil _) h (fun ρ' ab s _ _ h=>h) (fun ρ' ab id s _ _ h=>h) (fun _ _ _ h=>h) (fun _ h=>h)
 induction c with
 |skip=>intro ab s k kx ρ Q Q' ha h hk _ _ _;exact .skip (hk ρ ab s (fun _=>rfl) ha h)
 |is l=>intro ab s k kx ρ Q Q' ha h hk _ _ _;exact .is (p9 (K:=fun ρ'=>Q' (.next ρ')) ha h hk)
 |seq a b aY dc=>
  intro ab s k kx ρ Q Q' ha h hk hx jm hr;refine .seq (aY ha h (Q':=fY (fun ρ'=>aH T b ρ' Q') Q') (fun ρ' ab s hp uJ h'=>?_) (fun ρ' ab id s hp uJ h'=>?_) (fun hp=>?_) hr)
  ·refine dc uJ h' (fun ρ2 ab s eH=>hk ρ2 ab s fun hl=>?_) (fun ρ2 ab id s eH=>hx ρ2 ab id s fun hl=>?_) (fun eH=>?_) hr
   ·simp only[dx,aq] at hl;rw[eH hl.2,hp hl.1]
   ·simp only[dx,aq] at hl;rw[eH hl.2,hp hl.1]
   ·exact jm (by simp[dx,eH])
  ·exact hx ρ' ab id s (fun hl=>by simp only[dx,aq] at hl;exact hp hl.1) uJ h'
  ·exact jm (by simp[dx,hp])
 |ite c lr lo a b aY dc=>
  intro ab s k kx ρ Q Q' ha h hk hx jm hr;have bK:((c.sub' ab s).ev ρ).b=(c.ev (s.ev ρ)).b:=by rw[PE.sub_ev ha]
  have struct:(dx a&&dx b)=false→aE T (.iteS s (c.sub' ab s) lr lo (sx a [] .id (fun _ s=>.next s) (fun _ id s=>.exit id s)) (sx b [] .id (fun _ s=>.next s) (fun _ id s=>.exit id s)) (k [] .id)) ρ Q→aH T (.ite c lr lo a b) (s.ev ρ) Q':=by
   intro B6 h;have pw:dx (.ite c lr lo a b)=false:=B6;simp only[aE,bK] at h
   have conv:∀x,jP (s.ev ρ) lr lo (fY (fun ρ'=>aE T (k [] .id) ρ' Q) Q) x→jP (s.ev ρ) lr lo Q' x:=by
      intro x cT;cases x with
      |next ρ'=>exact hk _ [] .id (fun hl=>by rw[pw] at hl;cases hl) (bN.ok_nil _) cT
      |exit id ρ'=>exact jm pw id ρ' cT
      |ret d=>exact hr d cT
   refine .ite ?_;split at h
   ·rename_i hc;rw[if_pos hc];exact(alone a aY h).mono conv
   ·rename_i hc;rw[if_neg hc];exact(alone b dc h).mono conv
  have Wr:∀tZ,tZ.ok ρ→dx a=true→aE T (sx a tZ s (fun ab s'=>k ab (s.join lr lo s')) kx) ρ Q→aH T a (s.ev ρ) (jP (s.ev ρ) lr lo Q'):=by
   intro tZ uJ ei h';refine aY uJ h' (fun ρ' ab s' hp mA jI=>?_) (fun ρ' ab id s' hp mA jI=>?_) (fun hp=>by rw[ei] at hp;cases hp) hr
   ·have e:=hp ei;subst e;show Q' (.next _);rw[←SE.join_ev];exact hk ρ' ab _ (fun _=>rfl) mA jI
   ·have e:=hp ei;subst e;exact hx ρ' ab id s' (fun _=>rfl) mA jI
  have aC:∀tZ,tZ.ok ρ→dx b=true→aE T (sx b tZ s (fun ab s'=>k ab (s.join lr lo s')) kx) ρ Q→aH T b (s.ev ρ) (jP (s.ev ρ) lr lo Q'):=by
   intro tZ uJ ei h';refine dc uJ h' (fun ρ' ab s' hp mA jI=>?_) (fun ρ' ab id s' hp mA jI=>?_) (fun hp=>by rw[ei] at hp;cases hp) hr
   ·have e:=hp ei;subst e;show Q' (.next _);rw[←SE.join_ev];exact hk ρ' ab _ (fun _=>rfl) mA jI
   ·have e:=hp ei;subst e;exact hx ρ' ab id s' (fun _=>rfl) mA jI
  simp only[sx] at h;split at h
  ·rename_i ht;cases ei:dx a<;>simp only[ei,cond_true,cond_false] at h
   ·exact struct (by simp[ei]) h
   ·refine .ite ?_;rw[if_pos (by rw[←bK];exact wz ha ht)];exact Wr ab ha ei h
  ·rename_i ht;cases ei:dx b<;>simp only[ei,cond_true,cond_false] at h
   ·exact struct (by simp[ei]) h
   ·refine .ite ?_;rw[if_neg (by rw[←bK,wz ha ht];simp)];exact aC ab ha ei h
  ·split at h
   ·rename_i sa sb hsa jk;have eI:plain (.ite c lr lo a b) ab s=some (s.merge ab lr lo (c.sub' ab s) sa sb):=by simp[plain,hsa,jk]
    exact anw ha _ eI (hk ρ ab _ (fun _=>rfl) ha h)
   cases ei:(dx a&&dx b)<;>simp only[ei,cond_true,cond_false] at h
   ·exact struct ei h
   ·simp only[aq] at ei;simp only[aE] at h;refine .ite ?_;rw[←bK];split at h
    ·rename_i hc;rw[if_pos hc];exact Wr _ (bN.ok_cons ha hc) ei.1 h
    ·rename_i hc;rw[if_neg hc];exact aC _ (bN.ok_cons ha (by simpa using hc)) ei.2 h
 |block id lr lo a aY=>
  intro ab s k kx ρ Q Q' ha h hk hx jm hr;simp only[sx] at h;cases ei:dx a<;>simp only[ei,cond_true,cond_false] at h
  ·have pw:dx (.block id lr lo a)=false:=ei;cases hl:WC a<;>simp only[hl,cond_true,cond_false] at h
   case true=>
        simp only[aE] at h;refine aH.mono h fun x cT=>?_;cases x with
        |next ρ'=>exact hk _ [] .id (fun hl=>by rw[pw] at hl;cases hl) (bN.ok_nil _) cT
        |exit id ρ'=>exact jm pw id ρ' cT
        |ret d=>exact hr d cT
   simp only[aE] at h;refine .block ((alone a aY h).mono fun x cT=>?_);cases x with
   |next ρ'=>exact hk _ [] .id (fun hl=>by rw[pw] at hl;cases hl) (bN.ok_nil _) cT
   |exit bM ρ'=>
    simp only[kE] at cT ⊢;split
    ·rename_i e;rw[if_pos e] at cT;exact hk _ [] .id (fun hl=>by rw[pw] at hl;cases hl) (bN.ok_nil _) cT
    ·rename_i e;rw[if_neg e] at cT;exact jm pw bM ρ' cT
   |ret d=>exact hr d cT
  ·refine .block (aY ha h (fun ρ' ab s' hp mA jI=>?_) (fun ρ' ab bM s' hp mA jI=>?_) (fun hp=>by rw[ei] at hp;cases hp) hr)
   ·have e:=hp ei;subst e;show Q' (.next _);rw[←SE.join_ev];exact hk ρ' ab _ (fun _=>rfl) mA jI
   ·have e:=hp ei;subst e;simp only[kE];by_cases cu:bM=id
    ·subst cu;simp only[jC,cond_true] at jI;rw[if_pos rfl,←SE.join_ev];exact hk ρ' ab _ (fun _=>rfl) mA jI
    ·rw[eQ cu,cond_false] at jI;rw[if_neg cu];exact hx ρ' ab bM s' (fun _=>rfl) mA jI
 |loop lr lo a aY=>
  intro ab s k kx ρ Q Q' ha h hk hx jm hr;simp only[sx,aE] at h;refine aH.mono h fun x cT=>?_;cases x with
  |next ρ'=>exact hk _ [] .id (fun hl=>by cases hl) (bN.ok_nil _) cT
  |exit id ρ'=>exact jm rfl id ρ' cT
  |ret d=>exact hr d cT
 |each e ps lo rt a aY=>
  intro ab s k kx ρ Q Q' ha h hk hx jm hr;simp only[sx,aE] at h;refine aH.mono h fun x cT=>?_;cases x with
  |next ρ'=>exact hk _ [] .id (fun hl=>by cases hl) (bN.ok_nil _) cT
  |exit id ρ'=>exact jm rfl id ρ' cT
  |ret d=>exact hr d cT
 |meach J ps cE lo a aY=>
  intro ab s k kx ρ Q Q' ha h hk hx jm hr;simp only[sx,aE] at h;refine aH.mono h fun x cT=>?_;cases x with
  |next ρ'=>exact hk _ [] .id (fun hl=>by cases hl) (bN.ok_nil _) cT
  |exit id ρ'=>exact jm rfl id ρ' cT
  |ret d=>exact hr d cT
 |exit id=>intro ab s k kx ρ Q Q' ha h _ hx _ _;exact .exit (hx ρ ab id s (fun _=>rfl) ha h)
 |ret e=>
  intro ab s k kx ρ Q Q' ha h _ _ _ hr;simp only[sx,aE] at h;refine .ret (hr _ ?_);rw[PE.sub_ev ha] at h;exact h
def Lk.un (a b:Lk):Lk:=⟨Nat.lor a.r b.r,ic a.o b.o⟩
def bits (l:List Nat):Nat:=l.foldr (fun t m=>Nat.lor (fU t) m) 0
theorem KA {l:List Nat}{t:Nat}(h:t∈l):aO (bits l) t=true:=by
 induction l with
 |nil=>cases h
 |cons x l ih=>
  show aO (Nat.lor (fU x) (bits l)) t=true;rw[fC];rcases cG.1 h with e|h
  ·subst e;rw[oR];rfl
  ·rw[ih h,qe]
theorem Sv:∀{a b:List Nat} {x:Nat},x∈ic a b↔x∈a∨x∈b
 |[],b,x=>by simp[ic]
 |y::a,b,x=>by
  have ih:=Sv (a:=a) (b:=bif eJ b y then b else y::b) (x:=x);show x∈ic a _↔_;rw[ih];cases hb:eJ b y with
  |true=>simp only[cond_true,cG];have:=(nX b y).1 hb;constructor
         ·rintro(h|h);exact .inl (.inr h);exact .inr h
         ·rintro((rfl|h)|h);exact .inr this;exact .inl h;exact .inr h
  |false=>simp only[cond_false,cG];constructor
          ·rintro(h|h|h);exact .inl (.inr h);exact .inl (.inl h);exact .inr h
          ·rintro((h|h)|h);exact .inr (.inl h);exact .inl h;exact .inr (.inr h)
def Lk.Le (a K:Lk):Prop:=(∀t,aO a.r t=true→aO K.r t=true)∧∀j,j∈a.o→j∈K.o
theorem Lk.le_l (a b:Lk):a.Le (a.un b):=⟨fun t h=>by simp only[Lk.un,fC,h,zW],fun j h=>Sv.2 (.inl h)⟩
theorem Lk.le_r (a b:Lk):b.Le (a.un b):=⟨fun t h=>by simp only[Lk.un,fC,h,qe],fun j h=>Sv.2 (.inr h)⟩
theorem Lk.Le.trans {a b c:Lk}(h:a.Le b)(k:b.Le c):a.Le c:=⟨fun t ht=>k.1 t (h.1 t ht),fun j hj=>k.2 j (h.2 j hj)⟩
theorem Alike.le {a K:Lk}{ρ ρ':Env}(h:Alike K ρ ρ')(k:a.Le K):Alike a ρ ρ':=⟨fun t ht=>h.r t (k.1 t ht),fun j hj=>h.o j (k.2 j hj)⟩
theorem Lk.Le.of_un {a b K:Lk}(h:(a.un b).Le K):a.Le K∧b.Le K:=⟨(Lk.le_l a b).trans h,(Lk.le_r a b).trans h⟩
theorem Alike.setR {K:Lk}{ρ ρ':Env}(h:Alike K ρ ρ')(t:Nat)(d:D):Alike K (ρ.setR t d) (ρ'.setR t d):=⟨fun u hu=>by rw[Env.setR_r,Env.setR_r];split;rfl;exact h.r u hu,h.o⟩
theorem Alike.setO {K:Lk}{ρ ρ':Env}(h:Alike K ρ ρ')(t:Nat)(d:D):Alike K (ρ.setO t d) (ρ'.setO t d):=⟨h.r,fun u hu=>by rw[Env.setO_o,Env.setO_o];split;rfl;exact h.o u hu⟩
theorem Alike.join {K:Lk}{ρ ρ' η η':Env}(h:Alike K ρ ρ')(k:Alike K η η')(lr lo:List Nat):Alike K (ρ.join lr lo η) (ρ'.join lr lo η'):=
 ⟨fun u hu=>by rw[Env.join_r,Env.join_r];split;exact k.r u hu;exact h.r u hu,fun u hu=>by rw[Env.join_o,Env.join_o];split;exact k.o u hu;exact h.o u hu⟩
theorem OJ {f g:Nat→D}{u:Nat}(h:g u=f u):∀(ts:List Nat) (xs:List D),putL g ts xs u=putL f ts xs u
 |[],xs=>by rw[H2,H2];exact h
 |t::ts,[]=>by simp only[putL];exact h
 |t::ts,x::xs=>by rw[H0,H0];split;rfl;exact OJ h ts xs
theorem Alike.put {K:Lk}{ρ ρ':Env}(h:Alike K ρ ρ')(lr lo:List Nat)(vr vo:List D):Alike K (ρ.put lr vr lo vo) (ρ'.put lr vr lo vo):=⟨fun u hu=>OJ (h.r u hu) lr vr,fun u hu=>OJ (h.o u hu) lo vo⟩
def PI.lkw:PI→Lk
 |.setR t e=>e.lk.un ⟨fU t,[]⟩
 |.setO j e=>e.lk.un ⟨0,[j]⟩
 |.chk e=>e.lk
 |.call gs dst f aa=>(PI.call gs dst f aa).lk.un ⟨fU dst,[]⟩
 |.callc gs dst e aa=>(PI.callc gs dst e aa).lk.un ⟨fU dst,[]⟩
 |.mcall j f aa=>(PI.mcall j f aa).lk.un ⟨0,[j]⟩
def PC.lk:PC→Lk
 |.skip=>.none
 |.exit _=>.none
 |.is l=>l.foldr (fun p k=>p.lkw.un k) .none
 |.seq a b=>(PC.lk a).un (PC.lk b)
 |.ite c _ _ a b=>c.lk.un ((PC.lk a).un (PC.lk b))
 |.block _ _ _ a=>PC.lk a
 |.loop lr lo a=>(⟨bits lr,lo⟩:Lk).un (PC.lk a)
 |.ret e=>e.lk
 |.each e _ lo rt a=>e.lk.un ((match rt with|some e=>e.lk|none=>.none).un ((⟨0,lo⟩:Lk).un (PC.lk a)))
 |.meach J _ _ lo a=>(⟨0,J::lo⟩:Lk).un (PC.lk a)
structure Off (K:Lk) (b η η':Env):Prop where
 al:Alike K η η'
 r:∀t,aO K.r t=false→η'.r t=b.r t
 o:∀j,j∉K.o→η'.o j=b.o j
def rO (K:Lk)(b:Env):Out→Out→Prop
 |.next η,x=>∃η',x=.next η'∧Off K b η η'
 |.exit i η,x=>∃η',x=.exit i η'∧Off K b η η'
 |.ret d,x=>x=.ret d
theorem Off.uniq {K:Lk}{b η η' η2:Env}(h:Off K b η η')(k:Off K b η η2):η2=η':=by
 have h1:∀t,η2.r t=η'.r t:=fun t=>by
  cases hb:aO K.r t with
  |true=>rw[k.al.r t hb,h.al.r t hb]
  |false=>rw[k.r t hb,h.r t hb]
 have h2:∀t,η2.o t=η'.o t:=fun t=>by
  by_cases hb:t∈K.o
  ·rw[k.al.o t hb,h.al.o t hb]
  ·rw[k.o t hb,h.o t hb]
 cases η2;cases η'
 congr
 ·exact funext h1
 ·exact funext h2
theorem rO.uniq {K:Lk}{b:Env}{x y z:Out}(h:rO K b x y)(k:rO K b x z):z=y:=by
 cases x with
 |next η=>obtain⟨a,rfl,h⟩:=h;obtain⟨c,rfl,k⟩:=k;rw[h.uniq k]
 |exit i η=>obtain⟨a,rfl,h⟩:=h;obtain⟨c,rfl,k⟩:=k;rw[h.uniq k]
 |ret d=>rw[h,k]
theorem Off.setR {K:Lk}{b η η':Env}(h:Off K b η η'){t:Nat}(ht:aO K.r t=true)(d:D):Off K b (η.setR t d) (η'.setR t d):=
 ⟨h.al.setR t d,fun u hu=>by rw[Env.setR_r,if_neg (fun e=>by rw[e,ht] at hu;cases hu)];exact h.r u hu,h.o⟩
theorem Off.setO {K:Lk}{b η η':Env}(h:Off K b η η'){t:Nat}(ht:t∈K.o)(d:D):Off K b (η.setO t d) (η'.setO t d):=
 ⟨h.al.setO t d,h.r,fun u hu=>by rw[Env.setO_o,if_neg (fun e=>hu (by rw[e];exact ht))];exact h.o u hu⟩
theorem Off.join {K:Lk}{b η η' ζ ζ':Env}(h:Off K b η η')(k:Off K b ζ ζ')(lr lo:List Nat):Off K b (η.join lr lo ζ) (η'.join lr lo ζ'):=
 ⟨h.al.join k.al lr lo,fun u hu=>by rw[Env.join_r];split;exact k.r u hu;exact h.r u hu,fun u hu=>by rw[Env.join_o];split;exact k.o u hu;exact h.o u hu⟩
theorem ON {f:Nat→D}{b:D}{u:Nat}(h:f u=b):∀(ts:List Nat) (xs:List D),u∉ts→putL f ts xs u=b
 |[],xs,_=>by rw[H2];exact h
 |t::ts,[],_=>by simp only[putL];exact h
 |t::ts,x::xs,hu=>by rw[H0,if_neg (fun e=>hu (by simp[e]))];exact ON h ts xs (fun e=>hu (by simp[e]))
theorem Off.put {K:Lk}{b η η':Env}(h:Off K b η η'){lr lo:List Nat}(hr:∀t,t∈lr→aO K.r t=true)(ho:∀t,t∈lo→t∈K.o)(vr vo:List D):Off K b (η.put lr vr lo vo) (η'.put lr vr lo vo):=
 ⟨h.al.put lr lo vr vo,fun u hu=>ON (h.r u hu) lr vr (fun e=>by rw[hr u e] at hu;cases hu),fun u hu=>ON (h.o u hu) lo vo (fun e=>hu (ho u e))⟩
theorem PI.run_off {Φ:aJ}{K:Lk}{b ρ ρ' η:Env}{p:PI}(hp:p.lkw.Le K)(h:Off K b ρ ρ')(hr:p.run Φ ρ=some η):∃η',p.run Φ ρ'=some η'∧Off K b η η':=by
 have uT:p.lk.Le K:=by cases p<;>first|exact hp|exact hp.of_un.1
 rw[PI.run_eff,PI.eff_alike p (h.al.le uT)];rw[PI.run_eff] at hr;cases he:p.eff Φ ρ with
 |none=>rw[he] at hr;cases hr
 |some x=>
  rw[he] at hr;simp only[jE,aT] at hr;subst hr;refine⟨_,rfl,?_⟩;have hb:∀{t:Nat} {a:Lk},(a.un ⟨fU t,[]⟩).Le K→aO K.r t=true:=fun h=>h.of_un.2.1 _ (oR _);have ho:∀{t:Nat} {a:Lk},(a.un ⟨0,[t]⟩).Le K→t∈K.o:=fun h=>h.of_un.2.2 _ (by simp);cases p with
  |setR t e=>simp only[PI.eff,aT] at he;subst he;exact h.setR (hb hp) _
  |setO t e=>simp only[PI.eff,aT] at he;subst he;exact h.setO (ho hp) _
  |chk e=>simp only[PI.eff] at he;cases uM:(e.ev ρ).b<;>rw[uM] at he<;>cases he;exact h
  |call gs d f aa=>
   simp only[PI.eff] at he;cases uM:holds gs ρ<;>simp only[uM,cond_true,cond_false,aT,ax] at he
   ·subst he;exact h
   ·obtain⟨y,_,rfl⟩:=he;exact h.setR (hb hp) _
  |callc gs d e aa=>
   simp only[PI.eff] at he;cases uM:holds gs ρ<;>simp only[uM,cond_true,cond_false,aT] at he
   ·subst he;exact h
   ·split at he
    ·simp only[ax] at he;obtain⟨y,_,rfl⟩:=he;exact h.setR (hb hp) _
    ·cases he
  |mcall j f aa=>simp only[PI.eff,ax] at he;obtain⟨y,_,rfl⟩:=he;exact h.setO (ho hp) _
theorem PI.runs_off {Φ:aJ}{K:Lk}{b:Env}:∀{l:List PI} {ρ ρ' η:Env},(l.foldr (fun p k=>p.lkw.un k) Lk.none).Le K→Off K b ρ ρ'→PI.runs Φ l ρ=some η→∃η',PI.runs Φ l ρ'=some η'∧Off K b η η'
 |[],ρ,ρ',η,_,h,hr=>by simp only[PI.runs,aT] at hr ⊢;subst hr;exact⟨_,rfl,h⟩
 |p::l,ρ,ρ',η,hl,h,hr=>by
  simp only[PI.runs,ar] at hr;obtain⟨ρ1,h1,h2⟩:=hr;obtain⟨ρ2,h3,h4⟩:=PI.run_off hl.of_un.1 h h1;obtain⟨η',h5,h6⟩:=PI.runs_off (l:=l) hl.of_un.2 h4 h2;exact⟨η',by simp only[PI.runs,h3,oL,h5],h6⟩
theorem vx {K:Lk}{b η η':Env}(h:Off K b η η'){lo:List Nat}(ho:∀t,t∈lo→t∈K.o):lo.map η'.o=lo.map η.o:=tS fun t ht=>h.al.o t (ho t ht)
theorem Xo {K:Lk}{b η η':Env}(h:Off K b η η'){lr:List Nat}(hr:∀t,t∈lr→aO K.r t=true):lr.map η'.r=lr.map η.r:=tS fun t ht=>h.al.r t (hr t ht)
theorem PC.ev_off {Φ:aJ}{n:Nat}{K:Lk}:∀(c:PC),c.lk.Le K→∀{b ρ ρ':Env} {x:Out},Off K b ρ ρ'→c.ev Φ n ρ=some x→∃x',c.ev Φ n ρ'=some x'∧rO K b x x':=by
 intro c
 induction c with
 |skip=>intro _ b ρ ρ' x h hr;simp only[PC.ev,aT] at hr ⊢;subst hr;exact⟨_,rfl,_,rfl,h⟩
 |exit id=>intro _ b ρ ρ' x h hr;simp only[PC.ev,aT] at hr ⊢;subst hr;exact⟨_,rfl,_,rfl,h⟩
 |ret e=>intro hk B ρ ρ' x h hr;simp only[PC.ev,aT] at hr ⊢;subst hr;exact⟨_,rfl,by rw[PE.ev_alike e (h.al.le hk)];rfl⟩
 |is l=>
  intro hk B ρ ρ' x h hr;simp only[PC.ev,ax] at hr;obtain⟨η,h1,rfl⟩:=hr;obtain⟨η',h2,h3⟩:=PI.runs_off hk h h1;exact⟨.next η',by simp only[PC.ev,h2,jE],η',rfl,h3⟩
 |seq a b aY dc=>
  intro hk B ρ ρ' x h hr;simp only[PC.ev] at hr ⊢;cases ha:a.ev Φ n ρ with
  |none=>rw[ha] at hr;cases hr
  |some y=>
   obtain⟨y',h1,h2⟩:=aY hk.of_un.1 h ha;rw[ha] at hr;rw[h1];cases y with
   |next η=>obtain⟨η',rfl,h3⟩:=h2;exact dc hk.of_un.2 h3 hr
   |exit i η=>obtain⟨η',rfl,h3⟩:=h2;cases hr;exact⟨_,rfl,η',rfl,h3⟩
   |ret d=>cases h2;cases hr;exact⟨_,rfl,rfl⟩
 |ite c lr lo a b aY dc=>
  intro hk B ρ ρ' x h hr;have hc:(c.ev ρ').b=(c.ev ρ).b:=by rw[PE.ev_alike c (h.al.le hk.of_un.1)]
  have key:∀(d:PC),(∀{ρ ρ':Env} {x:Out},Off K B ρ ρ'→d.ev Φ n ρ=some x→∃x',d.ev Φ n ρ'=some x'∧rO K B x x')→(match d.ev Φ n ρ with|some (.next η)=>some (.next (ρ.join lr lo η))|x=>x)=some x→
      ∃x',(match d.ev Φ n ρ' with|some (.next η)=>some (.next (ρ'.join lr lo η))|x=>x)=some x'∧rO K B x x':=by
   intro d ih hr;cases ha:d.ev Φ n ρ with
   |none=>rw[ha] at hr;cases hr
   |some y=>
    obtain⟨y',h1,h2⟩:=ih h ha;rw[ha] at hr;rw[h1];cases y with
    |next η=>obtain⟨η',rfl,h3⟩:=h2;cases hr;exact⟨_,rfl,_,rfl,h.join h3 lr lo⟩
    |exit i η=>obtain⟨η',rfl,h3⟩:=h2;cases hr;exact⟨_,rfl,η',rfl,h3⟩
    |ret d=>cases h2;cases hr;exact⟨_,rfl,rfl⟩
  simp only[PC.ev,hc] at hr ⊢;cases gC:(c.ev ρ).b<;>simp only[gC,cond_true,cond_false] at hr ⊢
  ·exact key b (fun h1 h2=>dc hk.of_un.2.of_un.2 h1 h2) hr
  ·exact key a (fun h1 h2=>aY hk.of_un.2.of_un.1 h1 h2) hr
 |block id lr lo a aY=>
  intro hk B ρ ρ' x h hr;simp only[PC.ev] at hr ⊢;cases ha:a.ev Φ n ρ with
  |none=>rw[ha] at hr;cases hr
  |some y=>
   obtain⟨y',h1,h2⟩:=aY hk h ha;rw[ha] at hr;rw[h1];cases y with
   |next η=>obtain⟨η',rfl,h3⟩:=h2;cases hr;exact⟨_,rfl,_,rfl,h.join h3 lr lo⟩
   |exit i η=>
    obtain⟨η',rfl,h3⟩:=h2;simp only at hr ⊢;cases hb:Nat.beq i id<;>simp only[hb,cond_true,cond_false] at hr ⊢<;>cases hr
    ·exact⟨_,rfl,η',rfl,h3⟩
    ·exact⟨_,rfl,_,rfl,h.join h3 lr lo⟩
   |ret d=>cases h2;cases hr;exact⟨_,rfl,rfl⟩
 |loop lr lo a aY=>
  intro hk B ρ ρ' x h hr;have kj:∀t,t∈lr→aO K.r t=true:=fun t ht=>hk.of_un.1.1 t (KA ht);have iN:∀t,t∈lo→t∈K.o:=fun t ht=>hk.of_un.1.2 t ht;have key:∀(m:Nat) (vr vo:List D),eY (a.ev Φ n) ρ lr lo m vr vo=some x→∃x',eY (a.ev Φ n) ρ' lr lo m vr vo=some x'∧rO K B x x':=by
   intro m
   induction m with
   |zero=>intro vr vo h;simp[eY] at h
   |succ m MU=>
    intro vr vo hr;simp only[eY] at hr ⊢;cases ha:a.ev Φ n (ρ.put lr vr lo vo) with
    |none=>rw[ha] at hr;cases hr
    |some y=>
     obtain⟨y',h1,h2⟩:=aY hk.of_un.2 (h.put kj iN vr vo) ha;rw[ha] at hr;rw[h1];cases y with
     |next η=>obtain⟨η',rfl,h3⟩:=h2;simp only[vx h3 iN,Xo h3 kj];exact MU _ _ hr
     |exit i η=>obtain⟨η',rfl,h3⟩:=h2;cases hr;exact⟨_,rfl,η',rfl,h3⟩
     |ret d=>cases h2;cases hr;exact⟨_,rfl,rfl⟩
  simp only[PC.ev] at hr ⊢;rw[vx h iN,Xo h kj];exact key n _ _ hr
 |each e ps lo rt a aY=>
  intro hk B ρ ρ' x h hr;obtain⟨bQ,cq⟩:=hk.of_un;obtain⟨cq,kL⟩:=cq.of_un;obtain⟨kL,yz⟩:=kL.of_un;have iN:∀t,t∈lo→t∈K.o:=fun t ht=>kL.2 t ht;have key:∀(xs vo:List D),fF (a.ev Φ n) ρ ps lo rt xs vo=some x→∃x',fF (a.ev Φ n) ρ' ps lo rt xs vo=some x'∧rO K B x x':=by
   intro xs
   induction xs with
   |nil=>intro vo hr;simp only[fF,aT] at hr ⊢;subst hr;exact⟨_,rfl,_,rfl,h.put (fun _ h=>by cases h) iN _ _⟩
   |cons y xs gW=>
    intro vo hr;simp only[fF] at hr ⊢;cases ha:a.ev Φ n (ρ.put ps (partsOf ps y) lo vo) with
    |none=>rw[ha] at hr;cases hr
    |some z=>
     have gU:Off K (ρ'.put ps (partsOf ps y) lo vo) (ρ.put ps (partsOf ps y) lo vo) (ρ'.put ps (partsOf ps y) lo vo):=⟨h.al.put ps lo _ _,fun _ _=>rfl,fun _ _=>rfl⟩
     obtain⟨z',h1,h2⟩:=aY yz gU ha;rw[ha] at hr;rw[h1];cases z with
     |next η=>obtain⟨η',rfl,h3⟩:=h2;simp only[vx h3 iN];exact gW _ hr
     |exit i η=>
      obtain⟨η',rfl,h3⟩:=h2;simp only[vx h3 iN] at hr ⊢;have hp:=h.put (lr:=[]) (fun _ h=>by cases h) iN [] (lo.map η.o);cases hb:Nat.beq i cD<;>simp only[hb,cond_true,cond_false] at hr ⊢
      ·cases hr;exact⟨_,rfl,_,rfl,hp⟩
      ·cases rt with
       |none=>cases hr
       |some e2=>cases hr;exact⟨_,rfl,by show Out.ret _=Out.ret _;rw[PE.ev_alike e2 (hp.al.le cq)]⟩
     |ret d=>cases hr
  simp only[PC.ev] at hr ⊢;rw[PE.ev_alike e (h.al.le bQ),vx h iN];exact key _ _ hr
 |meach J ps cE lo a aY=>
  intro hk B ρ ρ' x h hr;obtain⟨kL,yz⟩:=hk.of_un;have iN:∀t,t∈lo→t∈K.o:=fun t ht=>kL.2 t (ef _ ht);have hJ:ρ'.o J=ρ.o J:=h.al.o J (kL.2 J (eC ..));have key:∀(es:D) (xs done vo lj:List D),kr (a.ev Φ n) ρ J es ps cE lo xs done vo=some lj→kr (a.ev Φ n) ρ' J es ps cE lo xs done vo=some lj:=by
   intro es xs
   induction xs with
   |nil=>intro done vo lj h;exact h
   |cons y xs gW=>
    intro done vo lj hr;simp only[kr] at hr ⊢;cases ha:a.ev Φ n ((ρ.put ps (cE.map y.tget) lo vo).setO J (.tup [.list (done++[y]),es])) with
    |none=>rw[ha] at hr;cases hr
    |some z=>
     have gU:Off K ((ρ'.put ps (cE.map y.tget) lo vo).setO J (.tup [.list (done++[y]),es])) ((ρ.put ps (cE.map y.tget) lo vo).setO J (.tup [.list (done++[y]),es])) ((ρ'.put ps (cE.map y.tget) lo vo).setO J (.tup [.list (done++[y]),es])):=
          ⟨(h.al.put ps lo _ _).setO J _,fun _ _=>rfl,fun _ _=>rfl⟩
     obtain⟨z',h1,h2⟩:=aY yz gU ha;rw[ha] at hr;rw[h1];cases z with
     |next η=>obtain⟨η',rfl,h3⟩:=h2;simp only[vx h3 iN];exact gW _ _ _ hr
     |exit i η=>cases hr
     |ret d=>cases hr
  simp only[PC.ev,vL] at hr;obtain⟨vo,⟨h1,h2⟩,rfl⟩:=hr;refine⟨.next (ρ'.put [] [] lo vo),?_,_,rfl,h.put (fun _ h=>by cases h) iN _ _⟩;simp only[PC.ev,vL];refine⟨vo,⟨by rw[hJ];exact h1,fun ys hy=>?_⟩,rfl⟩;rw[hJ] at hy ⊢;rw[vx h iN];exact key _ _ _ _ _ (h2 ys hy)
def mz:List Nat→PC→Bool
 |l,.exit id=>eJ l id
 |l,.seq a b=>mz l a&&mz l b
 |l,.ite _ _ _ a b=>mz l a&&mz l b
 |l,.block id _ _ a=>mz (id::l) a
 |l,.loop _ _ a=>mz l a
 |l,.each _ _ _ _ a=>mz (cD::l) a
 |_,_=>true
theorem ae1 {Φ:aJ}{n:Nat}:∀(c:PC) {l:List Nat},mz l c=true→∀{ρ:Env} {i:Nat} {η:Env},c.ev Φ n ρ=some (.exit i η)→i∈l:=by
 intro c
 induction c with
 |skip=>intro l _ ρ i η h;simp[PC.ev] at h
 |exit id=>intro l hl ρ i η h;simp only[PC.ev,aT] at h;injection h with h1 h2;subst h1;exact(nX _ _).1 hl
 |ret e=>intro l _ ρ i η h;simp[PC.ev] at h
 |is _=>intro l _ ρ i η h;simp[PC.ev] at h
 |seq a b aY dc=>
  intro l hl ρ i η h;simp only[mz,aq] at hl;simp only[PC.ev] at h;split at h
  ·exact dc hl.2 h
  ·exact aY hl.1 h
 |ite c lr lo a b aY dc=>
  intro l hl ρ i η h;simp only[mz,aq] at hl;simp only[PC.ev] at h;cases hc:(c.ev ρ).b<;>simp only[hc,cond_true,cond_false] at h
  ·split at h
   ·cases h
   ·exact dc hl.2 h
  ·split at h
   ·cases h
   ·exact aY hl.1 h
 |block id lr lo a aY=>
  intro l hl ρ i η h;simp only[PC.ev] at h;split at h
  ·cases h
  ·rename_i bM ρ2 ha;cases hb:Nat.beq bM id<;>simp only[hb,cond_true,cond_false] at h<;>cases h;rcases cG.1 (aY hl ha) with e|e
   ·subst e;rw[jC] at hb;cases hb
   ·exact e
  ·rename_i h1 h2;exact absurd h (h2 _ _)
 |loop lr lo a aY=>
  intro l hl ρ i η h;have key:∀(m:Nat) (vr vo:List D),eY (a.ev Φ n) ρ lr lo m vr vo=some (.exit i η)→i∈l:=by
   intro m
   induction m with
   |zero=>intro vr vo h;simp[eY] at h
   |succ m MU=>
    intro vr vo h;simp only[eY] at h;split at h
    ·exact MU _ _ h
    ·exact aY hl h
  exact key _ _ _ h
 |each e ps lo rt a aY=>
  intro l hl ρ i η h;have key:∀(xs vo:List D),fF (a.ev Φ n) ρ ps lo rt xs vo=some (.exit i η)→i∈l:=by
   intro xs
   induction xs with
   |nil=>intro vo h;simp[fF] at h
   |cons x xs gW=>
    intro vo h;simp only[fF] at h;split at h
    ·exact gW _ h
    ·rename_i bM ρ2 ha;cases hb:Nat.beq bM cD<;>simp only[hb,cond_true,cond_false] at h
     ·injection h with h;injection h with h1 h2;subst h1
      rcases cG.1 (aY hl ha) with e|e
      ·subst e;rw[jC] at hb;cases hb
      ·exact e
     ·cases rt<;>simp at h
    ·cases h
  exact key _ _ h
 |meach J ps cE lo a _=>
  intro l _ ρ i η h;simp only[PC.ev,vL] at h;obtain⟨vo,_,h⟩:=h;cases h
def Wz (t:Nat):PE→Bool
 |.r u=>Nat.beq u t
 |_=>false
def WA (t:Nat):PE→Bool
 |.o u=>Nat.beq u t
 |_=>false
def fk (mK:Nat→PE→Bool)(p:Nat→Bool):List Nat→List (Nat×PE)→List (Nat×PE)
 |_,[]=>[]
 |seen,x::l=>bif p x.1&& !eJ seen x.1 then(bif mK x.1 x.2 then fk mK p (x.1::seen) l else x::fk mK p (x.1::seen) l) else fk mK p seen l
theorem F6 {mK:Nat→PE→Bool}{p:Nat→Bool}:∀{l:List (Nat×PE)} {seen:List Nat} {t:Nat},eJ seen t=true→bu (fk mK p seen l) t=none
 |[],_,_,_=>rfl
 |x::l,seen,t,h=>by
  have h':eJ (x.1::seen) t=true:=by rw[nX] at h ⊢;exact ef _ h
  simp only[fk];cases hb:(p x.1&& !eJ seen x.1) with
  |false=>exact F6 h
  |true=>
   simp only[cond_true];cases mK x.1 x.2 with
   |true=>exact F6 h'
   |false=>
    simp only[cond_false,bu];have:Nat.beq x.1 t=false:=by
      cases e:Nat.beq x.1 t with
      |false=>rfl
      |true=>rw[cX e,h] at hb;simp at hb
    rw[this];exact F6 h'
theorem Bf {mK:Nat→PE→Bool}{p:Nat→Bool}{dflt:Nat→PE}(cu:∀t e,mK t e=true→e=dflt t):∀{l:List (Nat×PE)} {seen:List Nat} {t:Nat},p t=true→eJ seen t=false→
 (match bu (fk mK p seen l) t with|some e=>e|none=>dflt t)=(match bu l t with|some e=>e|none=>dflt t)
 |[],_,_,_,_=>rfl
 |x::l,seen,t,hp,hs=>by
  simp only[fk,bu];cases e:Nat.beq x.1 t with
  |true=>
   have e':=cX e;rw[e',hp,hs];simp only[Bool.not_false,Bool.and_self,cond_true];cases hi:mK t x.2 with
   |true=>simp only[cond_true];rw[F6 (by rw[nX];exact eC ..)];exact(cu _ _ hi).symm
   |false=>simp only[cond_false,bu,e,cond_true]
  |false=>
   simp only[cond_false];cases hb:(p x.1&& !eJ seen x.1) with
   |false=>exact Bf cu hp hs
   |true=>
    have jM:eJ (x.1::seen) t=false:=by
      cases hm:eJ (x.1::seen) t with
      |false=>rfl
      |true=>
       rcases cG.1 ((nX _ _).1 hm) with h|h
       ·rw[h,jC] at e;cases e
       ·rw[(nX _ _).2 h] at hs;cases hs
    simp only[cond_true];cases mK x.1 x.2 with
    |true=>exact Bf cu hp jM
    |false=>simp only[cond_false,bu,e];exact Bf cu hp jM
def SE.cut (s:SE)(k:Lk):SE:=⟨fk Wz (aO k.r) [] s.r,fk WA (eJ k.o) [] s.o⟩
def Nn (l:List (Nat×PE)):Lk:=l.foldr (fun x k=>x.2.lk.un k) .none
def SE.lks (s:SE):Lk:=(Nn s.r).un (Nn s.o)
theorem No:∀{l:List (Nat×PE)} {t:Nat} {e:PE},bu l t=some e→e.lk.Le (Nn l)
 |[],_,_,h=>by cases h
 |x::l,t,e,h=>by
  simp only[bu] at h;cases hb:Nat.beq x.1 t<;>simp only[hb,cond_true,cond_false] at h
  ·exact(No h).trans (Lk.le_r _ _)
  ·cases h;exact Lk.le_l _ _
theorem SE.cut_al {s:SE}{L:Lk}{ρ1 ρ2:Env}(h:Alike (L.un (s.cut L).lks) ρ1 ρ2):Alike L ((s.cut L).ev ρ1) (s.ev ρ2):=by
 have hL:=h.le (Lk.le_l _ _);have hs:=h.le (Lk.le_r _ _);constructor
 ·intro t ht;show(s.getR t).ev ρ2=((s.cut L).getR t).ev ρ1;have e:(s.cut L).getR t=s.getR t:=Bf (dflt:=.r) (fun t e he=>by unfold Wz at he;split at he;rw[cX he];cases he) ht rfl;rw[←e];cases hl:bu (s.cut L).r t with
  |none=>have:(s.cut L).getR t=.r t:=by unfold SE.getR;rw[hl]
         rw[this];exact hL.r t ht
  |some x=>have:(s.cut L).getR t=x:=by unfold SE.getR;rw[hl]
           rw[this];exact PE.ev_alike x (hs.le ((No hl).trans (Lk.le_l _ _)))
 ·intro t ht;show(s.getO t).ev ρ2=((s.cut L).getO t).ev ρ1;have e:(s.cut L).getO t=s.getO t:=Bf (dflt:=.o) (fun t e he=>by unfold WA at he;split at he;rw[cX he];cases he) ((nX _ _).2 ht) rfl;rw[←e];cases hl:bu (s.cut L).o t with
  |none=>have:(s.cut L).getO t=.o t:=by unfold SE.getO;rw[hl]
         rw[this];exact hL.o t ht
  |some x=>have:(s.cut L).getO t=x:=by unfold SE.getO;rw[hl]
           rw[this];exact PE.ev_alike x (hs.le ((No hl).trans (Lk.le_r _ _)))
structure LC where
 next:Lk
 ov:List (Nat×Lk)
def LC.all (c:LC):Lk:=c.ov.foldr (fun x k=>x.2.un k) .none
def JO (c:LC)(Q1 Q2:Out→Prop):Prop:=
 (∀ρ1 ρ2,Alike c.next ρ1 ρ2→Q1 (.next ρ1)→Q2 (.next ρ2))∧(∀id k ρ1 ρ2,bu c.ov id=some k→Alike k ρ1 ρ2→Q1 (.exit id ρ1)→Q2 (.exit id ρ2))∧∀d,Q1 (.ret d)→Q2 (.ret d)
def fc:LC→PT→Option (PT×Lk)
 |c,.next s=>some (.next (s.cut c.next),c.next.un (s.cut c.next).lks)
 |c,.exit id s=>(bu c.ov id).map fun k=>(.exit id (s.cut k),k.un (s.cut k).lks)
 |_,.ret e=>some (.ret e,e.lk)
 |c,.chk e k=>(fc c k).map fun r=>(.chk e r.1,e.lk.un r.2)
 |c,.ite e a b=>(fc c a).bind fun x=>(fc c b).map fun y=>(.ite e x.1 y.1,e.lk.un (x.2.un y.2))
 |c,.call s gs dst f args k=>(fc c k).map fun r=>(.call (s.cut (r.2.un (kJ gs))) gs dst f args r.1,(PE.lks args).un ((r.2.un (kJ gs)).un (s.cut (r.2.un (kJ gs))).lks))
 |c,.callc s gs dst e args k=>(fc c k).map fun r=>(.callc (s.cut (r.2.un (kJ gs))) gs dst e args r.1,(e.lk.un (PE.lks args)).un ((r.2.un (kJ gs)).un (s.cut (r.2.un (kJ gs))).lks))
 |c,.mcall s j f args k=>(fc c k).map fun r=>(.mcall (s.cut r.2) j f args r.1,(PE.lks args).un (r.2.un (s.cut r.2).lks))
 |c,.iteS s e lr lo a b k=>(fc c k).bind fun r=>(fc ⟨r.2,c.ov⟩ a).bind fun x=>(fc ⟨r.2,c.ov⟩ b).map fun y=>
    (.iteS (s.cut (r.2.un (x.2.un y.2))) e lr lo x.1 y.1 r.1,e.lk.un ((r.2.un (x.2.un y.2)).un (s.cut (r.2.un (x.2.un y.2))).lks))
 |c,.blockS s id lr lo a k=>(fc c k).bind fun r=>(fc ⟨r.2,(id,r.2)::c.ov⟩ a).map fun x=>(.blockS (s.cut (r.2.un x.2)) id lr lo x.1 r.1,(r.2.un x.2).un (s.cut (r.2.un x.2)).lks)
 |c,.brk s p k=>(fc c k).bind fun r=>bif mz (c.ov.map (·.1)) p then some (.brk (s.cut (p.lk.un (r.2.un c.all))) p r.1,(p.lk.un (r.2.un c.all)).un (s.cut (p.lk.un (r.2.un c.all))).lks) else none
theorem LC.all_le:∀{l:List (Nat×Lk)} {id:Nat} {k:Lk},bu l id=some k→k.Le (l.foldr (fun x k=>x.2.un k) .none)
 |[],_,_,h=>by cases h
 |x::l,t,e,h=>by
  simp only[bu] at h;cases hb:Nat.beq x.1 t<;>simp only[hb,cond_true,cond_false] at h
  ·exact(LC.all_le h).trans (Lk.le_r _ _)
  ·cases h;exact Lk.le_l _ _
theorem WX:∀{l:List (Nat×Lk)} {id:Nat},id∈l.map (·.1)→∃k,bu l id=some k
 |[],_,h=>by cases h
 |x::l,id,h=>by
  simp only[bu];cases hb:Nat.beq x.1 id with
  |true=>exact⟨_,rfl⟩
  |false=>
   simp only[cond_false];rcases cG.1 h with e|h
   ·rw[e,jC] at hb;cases hb
   ·exact WX h
theorem anC {T:cA}:∀(t:PT) {c:LC} {t':PT} {L:Lk},fc c t=some (t',L)→∀{Q1 Q2:Out→Prop} {ρ1 ρ2:Env},JO c Q1 Q2→Alike L ρ1 ρ2→aE T t' ρ1 Q1→aE T t ρ2 Q2:=by
 intro t
 induction t with
 |next s=>
  intro c t' L hp Q1 Q2 ρ1 ρ2 hQ hA h;simp only[fc,aT,mm] at hp;obtain⟨rfl,rfl⟩:=hp;exact hQ.1 _ _ (SE.cut_al hA) h
 |exit id s=>
  intro c t' L hp Q1 Q2 ρ1 ρ2 hQ hA h;simp only[fc,ax,mm] at hp;obtain⟨k,hk,rfl,rfl⟩:=hp;exact hQ.2.1 _ k _ _ hk (SE.cut_al hA) h
 |ret e=>
  intro c t' L hp Q1 Q2 ρ1 ρ2 hQ hA h;simp only[fc,aT,mm] at hp;obtain⟨rfl,rfl⟩:=hp;show Q2 (.ret (e.ev ρ2));rw[PE.ev_alike e hA];exact hQ.2.2 _ h
 |chk e k ih=>
  intro c t' L hp Q1 Q2 ρ1 ρ2 hQ hA h;simp only[fc,ax,mm] at hp;obtain⟨r,hr,rfl,rfl⟩:=hp;exact⟨by rw[PE.ev_alike e (hA.le (Lk.le_l _ _))];exact h.1,ih hr hQ (hA.le (Lk.le_r _ _)) h.2⟩
 |ite e a b aY dc=>
  intro c t' L hp Q1 Q2 ρ1 ρ2 hQ hA h;simp only[fc,ar,ax,mm] at hp;obtain⟨x,hx,y,hy,rfl,rfl⟩:=hp;have h2:=hA.le (Lk.le_r _ _);simp only[aE] at h ⊢;rw[PE.ev_alike e (hA.le (Lk.le_l _ _))];split
  ·rename_i hc;rw[if_pos hc] at h;exact aY hx hQ (h2.le (Lk.le_l _ _)) h
  ·rename_i hc;rw[if_neg hc] at h;exact dc hy hQ (h2.le (Lk.le_r _ _)) h
 |call s gs dst f args k ih=>
  intro c t' L hp Q1 Q2 ρ1 ρ2 hQ hA h;simp only[fc,ax,mm] at hp;obtain⟨r,hr,rfl,rfl⟩:=hp;have hS:=SE.cut_al (hA.le (Lk.le_r _ _));simp only[aE] at h ⊢;rw[PE.evs_alike args (hA.le (Lk.le_l _ _)),yD (hS.le (Lk.le_r _ _))];split
  ·rename_i hc;rw[if_pos hc] at h;obtain⟨d,hd,h⟩:=h;exact⟨d,hd,ih hr hQ ((hS.le (Lk.le_l _ _)).setR dst d) h⟩
  ·rename_i hc;rw[if_neg hc] at h;exact ih hr hQ (hS.le (Lk.le_l _ _)) h
 |callc s gs dst e args k ih=>
  intro c t' L hp Q1 Q2 ρ1 ρ2 hQ hA h;simp only[fc,ax,mm] at hp;obtain⟨r,hr,rfl,rfl⟩:=hp;have hS:=SE.cut_al (hA.le (Lk.le_r _ _));have hE:=hA.le (Lk.le_l _ _);simp only[aE] at h ⊢;rw[PE.ev_alike e (hE.le (Lk.le_l _ _)),PE.evs_alike args (hE.le (Lk.le_r _ _)),yD (hS.le (Lk.le_r _ _))];split
  ·rename_i hc;rw[if_pos hc] at h;obtain⟨f,caps,d,he,hd,h⟩:=h;exact⟨f,caps,d,he,hd,ih hr hQ ((hS.le (Lk.le_l _ _)).setR dst d) h⟩
  ·rename_i hc;rw[if_neg hc] at h;exact ih hr hQ (hS.le (Lk.le_l _ _)) h
 |mcall s j f args k ih=>
  intro c t' L hp Q1 Q2 ρ1 ρ2 hQ hA h;simp only[fc,ax,mm] at hp;obtain⟨r,hr,rfl,rfl⟩:=hp;have hS:=SE.cut_al (hA.le (Lk.le_r _ _));simp only[aE] at h ⊢;rw[PE.evs_alike args (hA.le (Lk.le_l _ _))];obtain⟨d,hd,h⟩:=h;exact⟨d,hd,ih hr hQ (hS.setO j d) h⟩
 |iteS s e lr lo a b k aY dc jn=>
  intro c t' L hp Q1 Q2 ρ1 ρ2 hQ hA h;simp only[fc,ar,ax,mm] at hp;obtain⟨r,hr,x,hx,y,hy,rfl,rfl⟩:=hp;have hS:=SE.cut_al (hA.le (Lk.le_r _ _));have Gm:=hS.le (Lk.le_l _ _);have Bp:=hS.le ((Lk.le_l _ _).trans (Lk.le_r _ _));have hSy:=hS.le ((Lk.le_r _ _).trans (Lk.le_r _ _))
  have rel:JO ⟨r.2,c.ov⟩ (jP ((s.cut (r.2.un (x.2.un y.2))).ev ρ1) lr lo (fY (fun ρ'=>aE T r.1 ρ' Q1) Q1)) (jP (s.ev ρ2) lr lo (fY (fun ρ'=>aE T k ρ' Q2) Q2)):=
   ⟨fun η1 η2 ha hq=>jn hr hQ (Gm.join ha lr lo) hq,fun id k' η1 η2 hk ha hq=>hQ.2.1 id k' _ _ hk ha hq,fun d hq=>hQ.2.2 d hq⟩
  simp only[aE] at h ⊢;rw[PE.ev_alike e (hA.le (Lk.le_l _ _))];split
  ·rename_i hc;rw[if_pos hc] at h;exact aY hx rel Bp h
  ·rename_i hc;rw[if_neg hc] at h;exact dc hy rel hSy h
 |blockS s id lr lo a k aY jn=>
  intro c t' L hp Q1 Q2 ρ1 ρ2 hQ hA h;simp only[fc,ar,ax,mm] at hp;obtain⟨r,hr,x,hx,rfl,rfl⟩:=hp;have hS:=SE.cut_al hA;have Gm:=hS.le (Lk.le_l _ _);refine aY hx (Q1:=kE ((s.cut (r.2.un x.2)).ev ρ1) id lr lo (fY (fun ρ'=>aE T r.1 ρ' Q1) Q1)) ⟨fun η1 η2 ha hq=>jn hr hQ (Gm.join ha lr lo) hq,fun bM k' η1 η2 hk ha hq=>?_,fun d hq=>hQ.2.2 d hq⟩ (hS.le (Lk.le_r _ _)) h;simp only[kE] at hq ⊢;simp only[bu] at hk;by_cases e:bM=id
  ·subst e;simp only[jC,cond_true,aT] at hk;subst hk;rw[if_pos rfl] at hq ⊢;exact jn hr hQ (Gm.join ha lr lo) hq
  ·rw[if_neg e] at hq ⊢;rw[eQ (fun h=>e h.symm),cond_false] at hk;exact hQ.2.1 bM k' _ _ hk ha hq
 |brk s p k jn=>
  intro c t' L hp Q1 Q2 ρ1 ρ2 hQ hA h;simp only[fc,ar] at hp;obtain⟨r,hr,hp⟩:=hp;cases hx:mz (c.ov.map (·.1)) p<;>simp only[hx,cond_true,cond_false,aT,mm] at hp
  ·cases hp
  obtain⟨rfl,rfl⟩:=hp;have hS:=SE.cut_al hA;have gU:Off (p.lk.un (r.2.un c.all)) (s.ev ρ2) ((s.cut (p.lk.un (r.2.un c.all))).ev ρ1) (s.ev ρ2):=⟨hS,fun _ _=>rfl,fun _ _=>rfl⟩
  obtain⟨x,hq,n0,hn⟩:=h;have step:=fun n (hle:n0≤n)=>PC.ev_off p (Lk.le_l _ _) gU (hn n hle);obtain⟨x',h1,h2⟩:=step n0 (aU _);refine⟨x',?_,n0,fun n hle=>?_⟩
  ·cases x with
   |next η=>obtain⟨η',rfl,h3⟩:=h2;exact jn hr hQ (h3.al.le ((Lk.le_l _ _).trans (Lk.le_r _ _))) hq
   |exit i η=>
    obtain⟨η',rfl,h3⟩:=h2;obtain⟨k',bL⟩:=WX (ae1 p hx (hn n0 (aU _)));exact hQ.2.1 i k' _ _ bL (h3.al.le ((LC.all_le bL).trans ((Lk.le_r _ _).trans (Lk.le_r _ _)))) hq
   |ret d=>cases h2;exact hQ.2.2 d hq
  ·obtain⟨x2,h3,h4⟩:=step n hle;rw[h3,h2.uniq h4]
def CO (c:LC)(t:PT):PT:=match fc c t with|some r=>r.1|none=>t
theorem HZ {T:cA}{c:LC}{t:PT}{Q:Out→Prop}{ρ:Env}(hQ:JO c Q Q)(h:aE T (CO c t) ρ Q):aE T t ρ Q:=by
 unfold CO at h;split at h
 ·rename_i r hr;exact anC t hr hQ ⟨fun _ _=>rfl,fun _ _=>rfl⟩ h
 ·exact h
def abe (c:PC):PT:=sx c [] .id (fun _ s=>.next s) (fun _ id s=>.exit id s)
theorem abf {T:cA}{c:PC}{ρ:Env}{Q:Out→Prop}(h:aE T (abe c) ρ Q):aH T c ρ Q:=
 Jb (s:=.id) c (bN.ok_nil _) h (fun ρ' ab s _ _ h=>h) (fun ρ' ab id s _ _ h=>h) (fun _ _ _ h=>h) (fun _ h=>h)
def tree (c:PC):PT:=CO ⟨.none,[]⟩ (abe c)
theorem Jr {T:cA}{c:PC}{ρ:Env}{d:D}(h:aE T (tree c) ρ fun x=>x=.ret d):aH T c ρ fun x=>x=.ret d:=
 abf (HZ ⟨fun _ _ _ h=>(by cases h),fun _ _ _ _ _ _ h=>(by cases h),fun _ h=>h⟩ h)
def SE.keep (s:SE)(lr lo:List Nat):SE:=⟨lr.map fun t=>(t,s.getR t),lo.map fun t=>(t,s.getO t)⟩
theorem SE.keep_r (s:SE)(lr lo:List Nat)(ρ:Env):lr.map ((s.keep lr lo).ev ρ).r=lr.map (s.ev ρ).r:=by
 apply tS;intro t ht;show((s.keep lr lo).getR t).ev ρ=(s.getR t).ev ρ;have:=vq (f:=fun t=>s.getR t) (l:=[]) (u:=t) lr;rw[rL,if_pos ht] at this;have e:(s.keep lr lo).getR t=s.getR t:=by unfold SE.getR SE.keep;simp only[];rw[this];rfl
 rw[e]
theorem SE.keep_o (s:SE)(lr lo:List Nat)(ρ:Env):lo.map ((s.keep lr lo).ev ρ).o=lo.map (s.ev ρ).o:=by
 apply tS;intro t ht;show((s.keep lr lo).getO t).ev ρ=(s.getO t).ev ρ;have:=vq (f:=fun t=>s.getO t) (l:=[]) (u:=t) lo;rw[rL,if_pos ht] at this;have e:(s.keep lr lo).getO t=s.getO t:=by unfold SE.getO SE.keep;simp only[];rw[this];rfl
 rw[e]
def aaH (id:Nat)(bp bo lr lo:List Nat)(a:PC):PT:=
 sx a [] .id (fun _ s=>.next (s.keep lr lo)) (fun _ bM s=>bif Nat.beq bM id then .exit id (s.keep bp bo) else .exit bM s)
def ew (ρ:Env)(id:Nat)(bp bo lr lo:List Nat)(K:List D→List D→Prop)(Q:Out→Prop):Out→Prop
 |.next ρ'=>K (lr.map ρ'.r) (lo.map ρ'.o)
 |.exit bM ρ'=>if bM=id then Q (.next (ρ.put bp (bp.map ρ'.r) bo (bo.map ρ'.o))) else Q (.exit bM ρ')
 |.ret d=>Q (.ret d)
def round (id:Nat)(bp bo lr lo:List Nat)(a:PC):PT:=CO ⟨⟨bits lr,lo⟩,[(id,⟨bits bp,bo⟩)]⟩ (aaH id bp bo lr lo a)
theorem Xn {k:Lk}{lr:List Nat}{ρ1 ρ2:Env}(h:Alike k ρ1 ρ2)(hk:∀t,t∈lr→aO k.r t=true):lr.map ρ2.r=lr.map ρ1.r:=tS fun t ht=>h.r t (hk t ht)
theorem Hn {k:Lk}{lo:List Nat}{ρ1 ρ2:Env}(h:Alike k ρ1 ρ2)(hk:∀t,t∈lo→t∈k.o):lo.map ρ2.o=lo.map ρ1.o:=tS fun t ht=>h.o t (hk t ht)
theorem aoJ {T:cA}{id:Nat}{bp bo lr lo:List Nat}{a:PC}{ρ ρ0:Env}{K:List D→List D→Prop}{Q:Out→Prop}(h:aE T (round id bp bo lr lo a) ρ (ew ρ0 id bp bo lr lo K Q)):aE T (aaH id bp bo lr lo a) ρ (ew ρ0 id bp bo lr lo K Q):=by
 refine HZ ⟨fun ρ1 ρ2 ha hq=>?_,fun bM k ρ1 ρ2 hk ha hq=>?_,fun d hq=>hq⟩ h
 ·simp only[ew] at hq ⊢;rw[Xn ha fun t ht=>KA ht,Hn ha fun t ht=>ht];exact hq
 ·simp only[bu] at hk;cases hb:Nat.beq id bM<;>simp only[hb,cond_true,cond_false] at hk
  ·cases hk
  ·cases hk;have:=cX hb;subst this;simp only[ew,if_true] at hq ⊢;rw[Xn ha fun t ht=>KA ht,Hn ha fun t ht=>ht];exact hq
theorem aH.forLoop {T:cA}{id:Nat}{bp bo lr lo:List Nat}{a:PC}{ρ:Env}{Q:Out→Prop}{α:Type}(inv:α→List D→List D→Prop)(sV:α→Nat)(s0:α)(h0:inv s0 (lr.map ρ.r) (lo.map ρ.o))
 (step:∀s vr vo,inv s vr vo→aE T (round id bp bo lr lo a) (ρ.put lr vr lo vo) (ew ρ id bp bo lr lo (fun vr vo=>∃s',sV s'<sV s∧inv s' vr vo) Q)):aH T (.block id bp bo (.loop lr lo a)) ρ Q:=by
 refine .block (.loop inv sV s0 h0 fun s vr vo hi=>?_);have h:=aoJ (step s vr vo hi);refine Jb (s:=.id) a (bN.ok_nil _) h (fun ρ' ab s' _ _ h=>?_) (fun ρ' ab bM s' _ _ h=>?_) (fun _ bM ρ' h=>?_) (fun d h=>h)
 ·simp only[aE,ew] at h;rw[SE.keep_r,SE.keep_o] at h;exact h
 ·simp only[fY,kE];by_cases cu:bM=id
  ·subst cu;simp only[jC,cond_true,aE,ew,if_true] at h;rw[SE.keep_r,SE.keep_o] at h;rw[if_pos rfl];exact h
  ·rw[eQ cu,cond_false] at h;simp only[aE,ew] at h;rw[if_neg cu] at h ⊢;exact h
 ·simp only[fY,kE];simp only[ew] at h;split
  ·rename_i e;rw[if_pos e] at h;exact h
  ·rename_i e;rw[if_neg e] at h;exact h
def aaI (lo:List Nat)(a:PC):PT:=sx a [] .id (fun _ s=>.next (s.keep [] lo)) (fun _ id s=>.exit id (s.keep [] lo))
def oA (lo:List Nat)(a:PC):PT:=CO ⟨⟨0,lo⟩,[(cD,⟨0,lo⟩)]⟩ (aaI lo a)
theorem aaJ {T:cA}{lo:List Nat}{a:PC}{ρ:Env}{Q:Out→Prop}(hn:∀ρ1 ρ2,lo.map ρ2.o=lo.map ρ1.o→Q (.next ρ1)→Q (.next ρ2))(hx:∀ρ1 ρ2,lo.map ρ2.o=lo.map ρ1.o→Q (.exit cD ρ1)→Q (.exit cD ρ2))(h:aE T (oA lo a) ρ Q):aE T (aaI lo a) ρ Q:=by
 refine HZ ⟨fun ρ1 ρ2 ha hq=>hn ρ1 ρ2 (Hn ha fun t ht=>ht) hq,fun bM k ρ1 ρ2 hk ha hq=>?_,fun d hq=>hq⟩ h;simp only[bu] at hk;cases hb:Nat.beq cD bM<;>simp only[hb,cond_true,cond_false] at hk
 ·cases hk
 ·cases hk;have:=cX hb;subst this;exact hx ρ1 ρ2 (Hn ha fun t ht=>ht) hq
theorem aH.eachR {T:cA}{e:PE}{ps lo:List Nat}{rt:Option PE}{a:PC}{ρ:Env}{Q:Out→Prop}(xs:List D)(he:(e.ev ρ).l=xs)(inv:Nat→List D→Prop)(h0:inv 0 (lo.map ρ.o))
 (step:∀k x vo,xs[k]?=some x→inv k vo→aE T (oA lo a) (ρ.put ps (partsOf ps x) lo vo) (rZ ρ lo rt (inv (k+1)) Q)) (done:∀vo,inv xs.length vo→Q (.next (ρ.put [] [] lo vo))):aH T (.each e ps lo rt a) ρ Q:=by
 refine .each xs he inv h0 (fun k x vo hx hi=>?_) done;have h:=aaJ (fun ρ1 ρ2 e hq=>by simp only[rZ] at hq ⊢;rw[e];exact hq) (fun ρ1 ρ2 e hq=>by simp only[rZ,if_true] at hq ⊢;rw[e];exact hq) (step k x vo hx hi);refine Jb (s:=.id) a (bN.ok_nil _) h (fun ρ' ab s' _ _ h=>?_) (fun ρ' ab bM s' _ _ h=>?_) (fun _ bM ρ' h=>h) (fun d h=>h)
 ·simp only[aE,rZ] at h;rw[SE.keep_o] at h;exact h
 ·simp only[aE,rZ] at h;rw[SE.keep_o] at h;exact h
theorem aH.meachR {T:cA}{J:Nat}{ps cE lo:List Nat}{a:PC}{ρ:Env}{Q:Out→Prop}(es:List (D×D))(he:ρ.o J=.tup [.list [],.map es])(inv:List D→List D→Prop)(h0:inv [] (lo.map ρ.o))
 (step:∀done x rest vo,(done++x::rest).Perm (gr (.map es))→inv done vo→aE T (oA lo a) ((ρ.put ps (cE.map x.tget) lo vo).setO J (.tup [.list (done++[x]),.map es])) (fun y=>∃ρ',y=.next ρ'∧inv (done++[x]) (lo.map ρ'.o)))
 (last:∃vo,(∀done,done.Perm (gr (.map es))→∀lj,inv done lj→lj=vo)∧Q (.next (ρ.put [] [] lo vo))):aH T (.meach J ps cE lo a) ρ Q:=by
 refine .meach es he inv h0 (fun done x rest vo hp hi=>?_) last;have h:=aaJ (fun ρ1 ρ2 e ⟨ρ',e1,hq⟩=>by cases e1;exact⟨_,rfl,by rw[e];exact hq⟩) (fun ρ1 ρ2 e ⟨ρ',e1,hq⟩=>by cases e1) (step done x rest vo hp hi);refine Jb (s:=.id) a (bN.ok_nil _) h (fun ρ' ab s' _ _ h=>?_) (fun ρ' ab bM s' _ _ h=>?_) (fun _ bM ρ' h=>?_) (fun d h=>?_)
 ·simp only[aE] at h;obtain⟨ρ2,e,h⟩:=h;injection e with e;subst e;rw[SE.keep_o] at h;exact⟨_,rfl,h⟩
 ·simp only[aE] at h;obtain⟨ρ2,e,h⟩:=h;cases e
 ·obtain⟨ρ2,e,_⟩:=h;cases e
 ·obtain⟨ρ2,e,_⟩:=h;cases e
theorem wQ {T:cA}:∀(t:PT) {ρ:Env} {Q Q':Out→Prop},(∀x,Q x→Q' x)→aE T t ρ Q→aE T t ρ Q':=by
 intro t
 induction t with
 |next s=>intro ρ Q Q' h hx;exact h _ hx
 |exit id s=>intro ρ Q Q' h hx;exact h _ hx
 |ret e=>intro ρ Q Q' h hx;exact h _ hx
 |chk e k ih=>intro ρ Q Q' h hx;exact⟨hx.1,ih h hx.2⟩
 |ite c a b aY dc=>
  intro ρ Q Q' h hx;simp only[aE] at hx ⊢;split
  ·rename_i hc;rw[if_pos hc] at hx;exact aY h hx
  ·rename_i hc;rw[if_neg hc] at hx;exact dc h hx
 |call s gs dst f args k ih=>
  intro ρ Q Q' h hx;simp only[aE] at hx ⊢;split
  ·rename_i hc;rw[if_pos hc] at hx;obtain⟨d,hd,hx⟩:=hx;exact⟨d,hd,ih h hx⟩
  ·rename_i hc;rw[if_neg hc] at hx;exact ih h hx
 |callc s gs dst e args k ih=>
  intro ρ Q Q' h hx;simp only[aE] at hx ⊢;split
  ·rename_i hc;rw[if_pos hc] at hx;obtain⟨f,c,d,he,hd,hx⟩:=hx;exact⟨f,c,d,he,hd,ih h hx⟩
  ·rename_i hc;rw[if_neg hc] at hx;exact ih h hx
 |mcall s j f args k ih=>intro ρ Q Q' h hx;obtain⟨d,hd,hx⟩:=hx;exact⟨d,hd,ih h hx⟩
 |iteS s c lr lo a b k aY dc jn=>
  intro ρ Q Q' h hx
  have hq:∀x,jP (s.ev ρ) lr lo (fY (fun ρ'=>aE T k ρ' Q) Q) x→jP (s.ev ρ) lr lo (fY (fun ρ'=>aE T k ρ' Q') Q') x:=by
   intro x hx;cases x with
   |next ρ'=>exact jn h hx
   |exit id ρ'=>exact h _ hx
   |ret d=>exact h _ hx
  simp only[aE] at hx ⊢;split
  ·rename_i hc;rw[if_pos hc] at hx;exact aY hq hx
  ·rename_i hc;rw[if_neg hc] at hx;exact dc hq hx
 |blockS s id lr lo a k aY jn=>
  intro ρ Q Q' h hx;refine aY (fun x hx=>?_) hx;cases x with
  |next ρ'=>exact jn h hx
  |exit bM ρ'=>
   simp only[kE] at hx ⊢;split
   ·rename_i e;rw[if_pos e] at hx;exact jn h hx
   ·rename_i e;rw[if_neg e] at hx;exact h _ hx
  |ret d=>exact h _ hx
 |brk s c k ih=>
  intro ρ Q Q' h hx;refine aH.mono hx fun x hx=>?_;cases x with
  |next ρ'=>exact ih h hx
  |exit id ρ'=>exact h _ hx
  |ret d=>exact h _ hx
theorem aH.forRounds {T:cA}{id:Nat}{bp bo lr lo:List Nat}{a:PC}{ρ:Env}{Q:Out→Prop}(N:Nat)(str eK:Nat→List D)(h0:lr.map ρ.r=str 0∧lo.map ρ.o=eK 0)
 (step:∀k,k<N→aE T (round id bp bo lr lo a) (ρ.put lr (str k) lo (eK k)) (ew ρ id bp bo lr lo (fun vr vo=>vr=str (k+1)∧vo=eK (k+1)) Q))
 (last:aE T (round id bp bo lr lo a) (ρ.put lr (str N) lo (eK N)) (ew ρ id bp bo lr lo (fun _ _=>False) Q)):aH T (.block id bp bo (.loop lr lo a)) ρ Q:=by
 refine .forLoop (α:=Nat) (fun k vr vo=>k≤N∧vr=str k∧vo=eK k) (fun k=>N-k) 0 ⟨np _,h0.1,h0.2⟩ ?_;rintro k vr vo ⟨hk,rfl,rfl⟩;have mono:∀{K K':List D→List D→Prop},(∀a b,K a b→K' a b)→∀x,ew ρ id bp bo lr lo K Q x→ew ρ id bp bo lr lo K' Q x:=by
  intro K K' h x hx;cases x with
  |next ρ'=>exact h _ _ hx
  |exit bM ρ'=>exact hx
  |ret d=>exact hx
 by_cases af:k<N
 ·exact wQ _ (mono fun a b ⟨h1,h2⟩=>⟨k+1,by omega,by omega,h1,h2⟩) (step k af)
 ·obtain rfl:k=N:=by omega
  exact wQ _ (mono fun a b h=>h.elim) last
theorem P7 {ρ:Env}{id:Nat}{bp bo lr lo:List Nat}{K K':List D→List D→Prop}{Q:Out→Prop}(h:∀a b,K a b→K' a b):∀x,ew ρ id bp bo lr lo K Q x→ew ρ id bp bo lr lo K' Q x:=by
 intro x hx;cases x with
 |next ρ'=>exact h _ _ hx
 |exit bM ρ'=>exact hx
 |ret d=>exact hx
theorem aH.scan {T:cA}{id:Nat}{bp bo lr lo:List Nat}{a:PC}{ρ:Env}{Q:Out→Prop}(N:Nat)(ok:Nat→Prop)(str eK:Nat→List D)(h0:lr.map ρ.r=str 0∧lo.map ρ.o=eK 0)
 (step:∀k,k<N→(∀j,j<k→ok j)→ok k→aE T (round id bp bo lr lo a) (ρ.put lr (str k) lo (eK k)) (ew ρ id bp bo lr lo (fun vr vo=>vr=str (k+1)∧vo=eK (k+1)) Q))
 (bad:∀k,k<N→(∀j,j<k→ok j)→¬ok k→aE T (round id bp bo lr lo a) (ρ.put lr (str k) lo (eK k)) (ew ρ id bp bo lr lo (fun _ _=>False) Q))
 (last:(∀j,j<N→ok j)→aE T (round id bp bo lr lo a) (ρ.put lr (str N) lo (eK N)) (ew ρ id bp bo lr lo (fun _ _=>False) Q)):aH T (.block id bp bo (.loop lr lo a)) ρ Q:=by
 refine .forLoop (α:=Nat) (fun k vr vo=>k≤N∧(∀j,j<k→ok j)∧vr=str k∧vo=eK k) (fun k=>N-k) 0 ⟨np _,fun j hj=>by omega,h0.1,h0.2⟩ ?_;rintro k vr vo ⟨hk,hj,rfl,rfl⟩;by_cases af:k<N
 ·by_cases au:ok k
  ·refine wQ _ (P7 fun a b ⟨h1,h2⟩=>⟨k+1,by omega,by omega,fun j nP=>?_,h1,h2⟩) (step k af hj au);by_cases e:j=k
   ·subst e;exact au
   ·exact hj j (by omega)
  ·exact wQ _ (P7 fun a b h=>h.elim) (bad k af hj au)
 ·obtain rfl:k=N:=by omega
  exact wQ _ (P7 fun a b h=>h.elim) (last hj)
def aD (n:Nat)(e:PE):PE:=.mk ((List.range n).map fun i=>.cell e i)
def iw (n:Nat)(d:D):D:=.agg ((List.range n).flatMap fun i=>(d.c i).cells)
theorem aeY (ρ:Env)(n:Nat)(e:PE):(aD n e).ev ρ=iw n (e.ev ρ):=by
 have key:∀l:List Nat,PE.evc ρ (l.map fun i=>.cell e i)=l.flatMap fun i=>((e.ev ρ).c i).cells:=by
  intro l
  induction l with
  |nil=>rfl
  |cons i l ih=>simp only[eB,PE.evc,PE.ev,z8,ih]
 show D.agg _=_;rw[key];rfl
end Cx
namespace Cx
open Go Go.RowKit
def aZ (n:Int):Prop:=-9223372036854775808≤n∧n≤9223372036854775807
def ints (l:List Int):D:=.list (l.map .int)
theorem bG {n:Int}(h:-9223372036854775808≤n∧n≤9223372036854775807):IntKind.i64.wrap n=n:=by
 simp only[IntKind.wrap,IntKind.signed,IntKind.bits];simp;split<;>omega
theorem DTy.int_inv {k:IntKind}{d:D}(h:DTy (.int k) d):∃n,d=.v (.int k n)∧k.min≤n∧n≤k.max:=by
 cases h with
 |int k n h1 h2=>exact⟨n,rfl,h1,h2⟩
 |other t d h=>exact h.elim
theorem DTy.i64_inv {d:D}(h:DTy (.int .i64) d):∃n,d=.int n∧aZ n:=by
 obtain⟨n,rfl,h1,h2⟩:=h.int_inv;exact⟨n,rfl,by simpa [IntKind.min,IntKind.max,IntKind.signed,IntKind.bits] using h1,by simpa [IntKind.min,IntKind.max,IntKind.signed,IntKind.bits] using h2⟩
theorem DTy.bool_inv {d:D}(h:DTy .bool d):∃b,d=.bool b:=by
 cases h with
 |bool b=>exact⟨b,rfl⟩
 |other t d h=>exact h.elim
theorem DTy.slice_inv {e:Ty}{d:D}(h:DTy (.slice e) d):∃xs,d=.list xs∧xs.length≤maxLen∧∀x,x∈xs→DTy e.unf x:=by
 cases h with
 |slice e xs hm h=>exact⟨xs,rfl,hm,h⟩
 |other t d h=>exact h.elim
theorem DTy.agg_inv {ts:List Ty}{d:D}(h:DTy (.agg ts) d):∃ds,d=.agg ds∧DTys ts ds:=by
 cases h with
 |agg ts ds h=>exact⟨ds,rfl,h⟩
 |other t d h=>exact h.elim
theorem DTys.cons_inv {t:Ty}{ts:List Ty}{ds:List D}(h:DTys (t::ts) ds):∃d ds',ds=d::ds'∧DTy t d∧DTys ts ds':=by
 cases h with
 |cons h hs=>exact⟨_,_,rfl,h,hs⟩
theorem DTys.nil_inv {ds:List D}(h:DTys [] ds):ds=[]:=by cases h;rfl
theorem jq {α:Type}{enc:α→D}{P:α→Prop}{xs:List D}(h:∀x,x∈xs→∃a,x=enc a∧P a):∃l:List α,xs=l.map enc∧∀a,a∈l→P a:=by
 induction xs with
 |nil=>exact⟨[],rfl,fun _ h=>nomatch h⟩
 |cons x xs ih=>
  obtain⟨l,hl,hp⟩:=ih fun y hy=>h y (ef _ hy);obtain⟨a,ha,pa⟩:=h x (eC ..)
  exact⟨a::l,by rw[hl,ha];rfl,fun b hb=>by
   rcases cG.1 hb with e|hb
   ·rw[e];exact pa
   ·exact hp b hb⟩
theorem DTy.ints_inv {d:D}(h:DTy (.slice (.int .i64)) d):∃l:List Int,d=ints l∧l.length≤maxLen∧∀x,x∈l→aZ x:=by
 obtain⟨xs,rfl,hm,hx⟩:=h.slice_inv;obtain⟨l,rfl,hl⟩:=jq (enc:=D.int) (P:=aZ) fun x hh=>(hx x hh).i64_inv;exact⟨l,rfl,by simpa using hm,hl⟩
theorem CA:maxLen=9223372036854775807:=rfl
section
variable (ρ:Env) (T:cA)
@[simp] theorem awr (t:Nat):PE.ev ρ (.r t)=ρ.r t:=_root_.id rfl
@[simp] theorem awo (t:Nat):PE.ev ρ (.o t)=ρ.o t:=_root_.id rfl
@[simp] theorem av9 (d:D):PE.ev ρ (.con d)=d:=_root_.id rfl
@[simp] theorem av6 (e:PE)(i:Nat):PE.ev ρ (.cell e i)=(PE.ev ρ e).c i:=_root_.id rfl
@[simp] theorem awz (e:PE)(a n:Nat):PE.ev ρ (.sub e a n)=.agg (((PE.ev ρ e).cells.drop a).take n):=_root_.id rfl
@[simp] theorem awu (e x:PE)(n:Nat):PE.ev ρ (.setc e n x)=.agg (cr (PE.ev ρ e).cells n (PE.ev ρ x).cells):=_root_.id rfl
@[simp] theorem awh (es:List PE):PE.ev ρ (.mk es)=.agg (PE.evc ρ es):=_root_.id rfl
@[simp] theorem av1 (op:BinOp)(k:IntKind)(x y:PE):PE.ev ρ (.ai op k x y)=.v (.int k (cj op k (PE.ev ρ x).i (PE.ev ρ y).i)):=_root_.id rfl
@[simp] theorem av7 (op:BinOp)(x y:PE):PE.ev ρ (.ci op x y)=.v (.bool (gz op (PE.ev ρ x).i (PE.ev ρ y).i)):=_root_.id rfl
@[simp] theorem av5 (op:BinOp)(x y:PE):PE.ev ρ (.cb op x y)=.v (.bool (uu op (PE.ev ρ x).b (PE.ev ρ y).b)):=_root_.id rfl
@[simp] theorem awb (op:BinOp)(x y:PE):PE.ev ρ (.cs op x y)=.v (.bool (uv op (PE.ev ρ x).s (PE.ev ρ y).s)):=_root_.id rfl
@[simp] theorem awm (x:PE):PE.ev ρ (.nt x)=.v (.bool (!(PE.ev ρ x).b)):=_root_.id rfl
@[simp] theorem awa (k:IntKind)(x:PE):PE.ev ρ (.conv k x)=.v (.int k (k.wrap (PE.ev ρ x).i)):=_root_.id rfl
@[simp] theorem awp (c a b:PE):PE.ev ρ (.pick c a b)=if(PE.ev ρ c).b=true then PE.ev ρ a else PE.ev ρ b:=by
  simp only[PE.ev];cases(PE.ev ρ c).b<;>rfl
@[simp] theorem awi (n:Nat)(e:PE):PE.ev ρ (aD n e)=iw n (PE.ev ρ e):=aeY ρ n e
@[simp] theorem av4 (x:PE):PE.ev ρ (.bytes x)=.list ((PE.ev ρ x).s.data.toList.map fun b=>.v (.int .u8 b.toNat)):=_root_.id rfl
@[simp] theorem awe (x:PE):PE.ev ρ (.llen x)=.v (.int .i64 (PE.ev ρ x).l.length):=_root_.id rfl
@[simp] theorem awx (x:PE):PE.ev ρ (.slen x)=.v (.int .i64 (PE.ev ρ x).s.size):=_root_.id rfl
@[simp] theorem awj (x:PE):PE.ev ρ (.mlen x)=.v (.int .i64 (PE.ev ρ x).m.length):=_root_.id rfl
@[simp] theorem awn (x i:PE):PE.ev ρ (.nth x i)=(PE.ev ρ x).l.getD (PE.ev ρ i).i.toNat .none:=_root_.id rfl
@[simp] theorem awd (x i:PE):PE.ev ρ (.idx x i)=.v (.bool (decide (0≤(PE.ev ρ i).i∧(PE.ev ρ i).i<(PE.ev ρ x).l.length))):=_root_.id rfl
@[simp] theorem awv (x i y:PE)(n:Nat):PE.ev ρ (.setn x i n y)=.list ((PE.ev ρ x).l.set (PE.ev ρ i).i.toNat (tE ((PE.ev ρ x).l.getD (PE.ev ρ i).i.toNat .none) n (PE.ev ρ y))):=_root_.id rfl
@[simp] theorem av3 (x y:PE):PE.ev ρ (.app x y)=.list ((PE.ev ρ x).l++(PE.ev ρ y).l):=_root_.id rfl
@[simp] theorem awg (es:List PE):PE.ev ρ (.lst es)=.list (PE.evs ρ es):=_root_.id rfl
@[simp] theorem awt (x y:PE):PE.ev ρ (.rep x y)=.list (List.replicate (PE.ev ρ x).i.toNat (PE.ev ρ y)):=_root_.id rfl
@[simp] theorem aww (x a b:PE):PE.ev ρ (.slc x a b)=.list (((PE.ev ρ x).l.take (PE.ev ρ b).i.toNat).drop (PE.ev ρ a).i.toNat):=_root_.id rfl
@[simp] theorem awy (x a b:PE):PE.ev ρ (.slok x a b)=.v (.bool (decide (0≤(PE.ev ρ a).i∧(PE.ev ρ a).i≤(PE.ev ρ b).i∧(PE.ev ρ b).i≤(PE.ev ρ x).l.length))):=_root_.id rfl
@[simp] theorem aws (x:PE):PE.ev ρ (.ref x)=.ref (PE.ev ρ x):=_root_.id rfl
@[simp] theorem awc (x:PE):PE.ev ρ (.deref x)=(PE.ev ρ x).deref:=_root_.id rfl
@[simp] theorem awf (m k z:PE):PE.ev ρ (.look m k z)=(gq (PE.ev ρ k) (PE.ev ρ m).m).getD (PE.ev ρ z):=_root_.id rfl
@[simp] theorem awq (m k v:PE):PE.ev ρ (.put m k v)=.map (eu (PE.ev ρ k) (PE.ev ρ v) (PE.ev ρ m).m):=_root_.id rfl
@[simp] theorem awk (x y:PE):PE.ev ρ (.mn x y)=if(PE.ev ρ y).i<(PE.ev ρ x).i then PE.ev ρ y else PE.ev ρ x:=by
  simp only[PE.ev];by_cases h:(PE.ev ρ y).i<(PE.ev ρ x).i<;>simp[h]
@[simp] theorem awl (x y:PE):PE.ev ρ (.mx x y)=if(PE.ev ρ y).i>(PE.ev ρ x).i then PE.ev ρ y else PE.ev ρ x:=by
  simp only[PE.ev];by_cases h:(PE.ev ρ y).i>(PE.ev ρ x).i<;>simp[h]
@[simp] theorem awB (es:List PE):PE.ev ρ (.tup es)=.tup (PE.evs ρ es):=_root_.id rfl
@[simp] theorem awA (x:PE)(i:Nat):PE.ev ρ (.tget x i)=(PE.ev ρ x).tget i:=_root_.id rfl
@[simp] theorem av8 (f:Nat)(es:List PE):PE.ev ρ (.clo f es)=.clo f (PE.evs ρ es):=_root_.id rfl
@[simp] theorem av2 (x y:PE):PE.ev ρ (.an x y)=.v (.bool ((PE.ev ρ x).b&&(PE.ev ρ y).b)):=_root_.id rfl
@[simp] theorem awF:PE.evs ρ []=[]:=_root_.id rfl
@[simp] theorem awE (e:PE)(es:List PE):PE.evs ρ (e::es)=PE.ev ρ e::PE.evs ρ es:=_root_.id rfl
@[simp] theorem awD:PE.evc ρ []=[]:=_root_.id rfl
@[simp] theorem awC (e:PE)(es:List PE):PE.evc ρ (e::es)=(PE.ev ρ e).cells++PE.evc ρ es:=_root_.id rfl
@[simp] theorem adS (x:Bool):(D.bool x).b=x:=_root_.id rfl
@[simp] theorem avV (k:IntKind)(n:Int):(D.v (.int k n)).i=n:=_root_.id rfl
@[simp] theorem adZ (n:Int):(D.int n).i=n:=_root_.id rfl
@[simp] theorem avR (x:List D):(D.list x).l=x:=_root_.id rfl
@[simp] theorem avP (l:List Int):(ints l).l=l.map .int:=_root_.id rfl
@[simp] theorem avS (x:List (D×D)):(D.map x).m=x:=_root_.id rfl
@[simp] theorem avG (x:List D)(i:Nat):(D.agg x).c i=x.getD i .none:=_root_.id rfl
@[simp] theorem avH (x:List D):(D.agg x).cells=x:=_root_.id rfl
@[simp] theorem avQ (x:List D):(D.list x).cells=[.list x]:=_root_.id rfl
@[simp] theorem avO (x:List Int):(ints x).cells=[ints x]:=_root_.id rfl
@[simp] theorem avL (n:Int):(D.int n).cells=[.int n]:=_root_.id rfl
@[simp] theorem avI (n:Bool):(D.bool n).cells=[.bool n]:=_root_.id rfl
@[simp] theorem avU (x:List D)(i:Nat):(D.tup x).tget i=x.getD i .none:=_root_.id rfl
@[simp] theorem avT (x:D):(D.ref x).deref=x:=_root_.id rfl
@[simp] theorem ayB (s:SE)(t:Nat):(s.ev ρ).r t=PE.ev ρ (s.getR t):=_root_.id rfl
@[simp] theorem ayA (s:SE)(t:Nat):(s.ev ρ).o t=PE.ev ρ (s.getO t):=_root_.id rfl
@[simp] theorem awP (o:List (Nat×PE))(u:Nat):SE.getR ⟨[],o⟩ u=.r u:=_root_.id rfl
@[simp] theorem awO (t:Nat)(e:PE)(r o:List (Nat×PE))(u:Nat):SE.getR ⟨(t,e)::r,o⟩ u=if t=u then e else SE.getR ⟨r,o⟩ u:=by
  simp only[SE.getR,bu];by_cases h:t=u
  ·subst h;simp
  ·simp[eQ h,h]
@[simp] theorem awN (r:List (Nat×PE))(u:Nat):SE.getO ⟨r,[]⟩ u=.o u:=_root_.id rfl
@[simp] theorem awM (t:Nat)(e:PE)(r o:List (Nat×PE))(u:Nat):SE.getO ⟨r,(t,e)::o⟩ u=if t=u then e else SE.getO ⟨r,o⟩ u:=by
  simp only[SE.getO,bu];by_cases h:t=u
  ·subst h;simp
  ·simp[eQ h,h]
@[simp] theorem setR_r (t u:Nat)(d:D):(ρ.setR t d).r u=if u=t then d else ρ.r u:=Env.setR_r ρ t u d
@[simp] theorem ayH (t u:Nat)(d:D):(ρ.setR t d).o u=ρ.o u:=_root_.id rfl
@[simp] theorem setO_o (t u:Nat)(d:D):(ρ.setO t d).o u=if u=t then d else ρ.o u:=Env.setO_o ρ t u d
@[simp] theorem ayG (t u:Nat)(d:D):(ρ.setO t d).r u=ρ.r u:=_root_.id rfl
@[simp] theorem ayt (lr lo:List Nat)(vr vo:List D)(u:Nat):(ρ.put lr vr lo vo).r u=putL ρ.r lr vr u:=_root_.id rfl
@[simp] theorem ays (lr lo:List Nat)(vr vo:List D)(u:Nat):(ρ.put lr vr lo vo).o u=putL ρ.o lo vo u:=_root_.id rfl
@[simp] theorem join_r (ρ':Env)(lr lo:List Nat)(u:Nat):(ρ.join lr lo ρ').r u=if u∈lr then ρ'.r u else ρ.r u:=Env.join_r ρ ρ' lr lo u
@[simp] theorem join_o (ρ':Env)(lr lo:List Nat)(u:Nat):(ρ.join lr lo ρ').o u=if u∈lo then ρ'.o u else ρ.o u:=Env.join_o ρ ρ' lr lo u
@[simp] theorem ayq (f:Nat→D)(i:Nat)(is:List Nat)(x:D)(xs:List D)(u:Nat):putL f (i::is) (x::xs) u=if u=i then x else putL f is xs u:=H0 f i is x xs u
@[simp] theorem ayr (f:Nat→D)(xs:List D)(u:Nat):putL f [] xs u=f u:=H2 f xs u
@[simp] theorem avY (ds:List D)(u:Nat):(jG ds).r u=ds.getD u .none:=_root_.id rfl
@[simp] theorem axl:holds [] ρ=true:=_root_.id rfl
@[simp] theorem axk (g:Nat×Bool)(gs:List (Nat×Bool)):holds (g::gs) ρ=((ρ.r g.1).b==g.2&&holds gs ρ):=_root_.id rfl
variable (Q:Out→Prop)
@[simp] theorem azp (s:SE):aE T (.next s) ρ Q=Q (.next (s.ev ρ)):=_root_.id rfl
@[simp] theorem azl (id:Nat)(s:SE):aE T (.exit id s) ρ Q=Q (.exit id (s.ev ρ)):=_root_.id rfl
@[simp] theorem azq (e:PE):aE T (.ret e) ρ Q=Q (.ret (e.ev ρ)):=_root_.id rfl
@[simp] theorem azk (e:PE)(k:PT):aE T (.chk e k) ρ Q=((e.ev ρ).b=true∧aE T k ρ Q):=_root_.id rfl
@[simp] theorem azm (c:PE)(a b:PT):aE T (.ite c a b) ρ Q=if(c.ev ρ).b=true then aE T a ρ Q else aE T b ρ Q:=_root_.id rfl
@[simp] theorem azi (s:SE)(gs:List (Nat×Bool))(dst f:Nat)(args:List PE)(k:PT):aE T (.call s gs dst f args k) ρ Q=if holds gs (s.ev ρ)=true then ∃d,ak T f (PE.evs ρ args) d∧aE T k ((s.ev ρ).setR dst d) Q else aE T k (s.ev ρ) Q:=_root_.id rfl
@[simp] theorem azo (s:SE)(j f:Nat)(args:List PE)(k:PT):aE T (.mcall s j f args k) ρ Q=∃d,ak T f (PE.evs ρ args) d∧aE T k ((s.ev ρ).setO j d) Q:=_root_.id rfl
@[simp] theorem azn (s:SE)(c:PE)(lr lo:List Nat)(a b k:PT):aE T (.iteS s c lr lo a b k) ρ Q=if(c.ev ρ).b=true then aE T a (s.ev ρ) (jP (s.ev ρ) lr lo (fY (fun ρ'=>aE T k ρ' Q) Q)) else aE T b (s.ev ρ) (jP (s.ev ρ) lr lo (fY (fun ρ'=>aE T k ρ' Q) Q)):=_root_.id rfl
@[simp] theorem azg (s:SE)(id:Nat)(lr lo:List Nat)(a k:PT):aE T (.blockS s id lr lo a k) ρ Q=aE T a (s.ev ρ) (kE (s.ev ρ) id lr lo (fY (fun ρ'=>aE T k ρ' Q) Q)):=_root_.id rfl
@[simp] theorem azh (s:SE)(c:PC)(k:PT):aE T (.brk s c k) ρ Q=aH T c (s.ev ρ) (fY (fun ρ'=>aE T k ρ' Q) Q):=_root_.id rfl
variable (K:Env→Prop) (id:Nat) (lr lo bp bo:List Nat) (K2:List D→List D→Prop)
@[simp] theorem ayE (ρ':Env):fY K Q (.next ρ')=K ρ':=_root_.id rfl
@[simp] theorem ayD (i:Nat)(ρ':Env):fY K Q (.exit i ρ')=Q (.exit i ρ'):=_root_.id rfl
@[simp] theorem ayF (d:D):fY K Q (.ret d)=Q (.ret d):=_root_.id rfl
@[simp] theorem axD (ρ':Env):jP ρ lr lo Q (.next ρ')=Q (.next (ρ.join lr lo ρ')):=_root_.id rfl
@[simp] theorem axE (d:D):jP ρ lr lo Q (.ret d)=Q (.ret d):=_root_.id rfl
@[simp] theorem avn (ρ':Env):kE ρ id lr lo Q (.next ρ')=Q (.next (ρ.join lr lo ρ')):=_root_.id rfl
@[simp] theorem avm (i:Nat)(ρ':Env):kE ρ id lr lo Q (.exit i ρ')=if i=id then Q (.next (ρ.join lr lo ρ')) else Q (.exit i ρ'):=_root_.id rfl
@[simp] theorem avo (d:D):kE ρ id lr lo Q (.ret d)=Q (.ret d):=_root_.id rfl
@[simp] theorem ayx (ρ':Env):ew ρ id bp bo lr lo K2 Q (.next ρ')=K2 (lr.map ρ'.r) (lo.map ρ'.o):=_root_.id rfl
@[simp] theorem ayw (i:Nat)(ρ':Env):ew ρ id bp bo lr lo K2 Q (.exit i ρ')=if i=id then Q (.next (ρ.put bp (bp.map ρ'.r) bo (bo.map ρ'.o))) else Q (.exit i ρ'):=_root_.id rfl
@[simp] theorem ayy (d:D):ew ρ id bp bo lr lo K2 Q (.ret d)=Q (.ret d):=_root_.id rfl
@[simp] theorem azj (s:SE)(gs:List (Nat×Bool))(dst:Nat)(e:PE)(args:List PE)(k:PT):aE T (.callc s gs dst e args k) ρ Q=if holds gs (s.ev ρ)=true then ∃f caps d,e.ev ρ=.clo f caps∧ak T f (PE.evs ρ args++caps) d∧aE T k ((s.ev ρ).setR dst d) Q else aE T k (s.ev ρ) Q:=_root_.id rfl
@[simp] theorem avW (rt:Option PE)(K3:List D→Prop)(i:Nat)(ρ':Env):rZ ρ lo rt K3 Q (.exit i ρ')=if i=cD then ∃e,rt=some e∧Q (.ret (e.ev (ρ.put [] [] lo (lo.map ρ'.o)))) else Q (.exit i (ρ.put [] [] lo (lo.map ρ'.o))):=_root_.id rfl
@[simp] theorem avZ (J:Nat)(ds:List D)(u:Nat):(xU J ds).r u=(D.none::ds).getD u .none:=_root_.id rfl
theorem aeV (J:Nat)(ds:List D)(u:Nat):(xU J ds).o u=if u=J then .list [] else .none:=by
 show(bif Nat.beq u J then D.list [] else .none)=_;by_cases h:u=J
 ·subst h;simp
 ·simp[eQ h,h]
@[simp] theorem ayo (p:Nat)(x:D):partsOf [p] x=[x.tget 0]:=_root_.id rfl
end
section
variable (k:IntKind) (a b:Int)
@[simp] theorem avf:cj .add k a b=k.wrap (a+b):=_root_.id rfl
@[simp] theorem avj:cj .sub k a b=k.wrap (a-b):=_root_.id rfl
@[simp] theorem avg:cj .mul k a b=k.wrap (a*b):=_root_.id rfl
@[simp] theorem avh:cj .quo k a b=k.wrap (a.tdiv b):=_root_.id rfl
@[simp] theorem avi:cj .rem k a b=a.tmod b:=_root_.id rfl
@[simp] theorem avy:gz .eql a b=(a==b):=_root_.id rfl
@[simp] theorem avD:gz .neq a b=(a !=b):=_root_.id rfl
@[simp] theorem avC:gz .lss a b=decide (a<b):=_root_.id rfl
@[simp] theorem avB:gz .leq a b=decide (a≤b):=_root_.id rfl
@[simp] theorem avA:gz .gtr a b=decide (a>b):=_root_.id rfl
@[simp] theorem avz:gz .geq a b=decide (a≥b):=_root_.id rfl
variable (x y:Bool)
@[simp] theorem avr:uu .eql x y=(x==y):=_root_.id rfl
@[simp] theorem avs:uu .neq x y=(!(x==y)):=_root_.id rfl
end
theorem ak.of_tree {tab:Nat→Option PC}{ext:Nat→Option (aJ→List D→Option D)}{f:Nat}{pc:PC}{t:PT}{ds:List D}{d:D}(hx:ext f=none)(ht:tab f=some pc)(he:tree pc=t)(h:aE (cH tab ext) t (jG ds) (fun x=>x=.ret d)):ak (cH tab ext) f ds d:=
 .of_pc hx ht (Jr (he▸h))
@[simp] theorem avN (n:Int):D.v (.int .i64 n)=D.int n:=_root_.id rfl
@[simp] theorem avK (b:Bool):D.v (.bool b)=D.bool b:=_root_.id rfl
@[simp] theorem avM (a b:Int):(D.int a=D.int b)=(a=b):=by
  apply propext;constructor
  ·intro h;injection h with h;injection h
  ·intro h;rw[h]
@[simp] theorem avJ (a b:Bool):(D.bool a=D.bool b)=(a=b):=by
  apply propext;constructor
  ·intro h;injection h with h;injection h
  ·intro h;rw[h]
section
variable (c:Prop) [Decidable c] (x y:D)
@[simp] theorem axB:(if c then x else y).b=if c then x.b else y.b:=by split<;>rfl
@[simp] theorem axC:(if c then x else y).i=if c then x.i else y.i:=by split<;>rfl
end
@[simp] theorem azr:IntKind.i64.wrap 1=1:=bG (by omega)
@[simp] theorem azs:IntKind.i64.wrap 0=0:=bG (by omega)
end Cx
namespace Cx
open Go
inductive Tm where
 |mk (op n:Int) (args:List Tm)
instance:Inhabited Tm:=⟨.mk 0 0 []⟩
namespace Tm
def op:Tm→Int|.mk o _ _=>o
def n:Tm→Int|.mk _ n _=>n
def args:Tm→List Tm|.mk _ _ aa=>aa
end Tm
mutual
def du:Tm→D
 |.mk o n aa=>.agg [.int o,.int n,.list (FY aa)]
def FY:List Tm→List D
 |[]=>[]
 |t::ts=>du t::FY ts
end
theorem KZ:∀l:List Tm,FY l=l.map du
 |[]=>rfl
 |t::l=>by rw[FY,KZ l];rfl
theorem A6 (t:Tm):du t=.agg [.int t.op,.int t.n,.list (t.args.map du)]:=by
 cases t with
 |mk o n aa=>rw[du,KZ];rfl
inductive Tm.OK:Tm→Prop where
 |mk (o n:Int) (aa:List Tm) (h1:aZ o) (h2:aZ n) (h3:aa.length≤maxLen) (h:∀a,a∈aa→Tm.OK a):Tm.OK (.mk o n aa)
theorem DTy.trm_inv {d:D}(h:DTy .trmA d):∃t:Tm,d=du t∧t.OK:=by
 suffices hs:∀(m:Nat) (d:D),sizeOf d≤m→DTy .trmA d→∃t:Tm,d=du t∧t.OK from hs _ d (aU _) h
 intro m
 induction m with
 |zero=>
  intro d hm h;cases d<;>simp at hm
 |succ m ih=>
  intro d hm h;obtain⟨ds,rfl,hs⟩:=DTy.agg_inv h;obtain⟨d1,ds,rfl,h1,hs⟩:=hs.cons_inv;obtain⟨d2,ds,rfl,h2,hs⟩:=hs.cons_inv;obtain⟨d3,ds,rfl,h3,hs⟩:=hs.cons_inv;obtain rfl:=hs.nil_inv;obtain⟨o,rfl,b1⟩:=h1.i64_inv;obtain⟨n,rfl,b2⟩:=h2.i64_inv;obtain⟨xs,rfl,hl,hx⟩:=h3.slice_inv
  obtain⟨l,rfl,au⟩:=jq (enc:=du) (P:=Tm.OK) fun x hh=>ih x (by
   have:=List.sizeOf_lt_of_mem hh;simp at hm;omega) (hx x hh)
  exact⟨.mk o n l,by rw[du,KZ],.mk o n l b1 b2 (by simpa using hl) au⟩
theorem DTy.trms_inv {d:D}(h:DTy (.slice .trm) d):∃l:List Tm,d=.list (l.map du)∧l.length≤maxLen∧∀t,t∈l→t.OK:=by
 obtain⟨xs,rfl,hl,hx⟩:=h.slice_inv;obtain⟨l,rfl,au⟩:=jq (enc:=du) (P:=Tm.OK) fun x hh=>DTy.trm_inv (hx x hh);exact⟨l,rfl,by simpa using hl,au⟩
end Cx
namespace Cx
open Go
def Qj (g:Nat)(zs:List Int):Nat→Option (Ty×D):=fun k=>bif Nat.beq k g then some (.agg (zs.map fun _=>.int .i64),.agg (zs.map fun z=>.v (.int .i64 z))) else none
theorem aps {C:Ctx}{g:Nat}{zs:List Int}{name:String}{W:World}(hC:C.glob=Qj g zs)(hg:C.P.globalNamed name=some g)(hz:zs.all (fun z=>decide (IntKind.i64.min≤z)&&decide (z≤IntKind.i64.max))=true)
 (h:Lib.TabIs C.P W name .i64 zs):CtxOK C (lV W):=by
 refine⟨fun k x hx=>?_⟩;rw[hC] at hx;unfold Qj at hx;cases hk:Nat.beq k g<;>simp only[hk,cond_true,cond_false] at hx
 ·cases hx
 cases hx;obtain rfl:=aw hk
 have lT:Rep C.cap (lV W) (.agg (zs.map fun _=>.int .i64)) (.agg (zs.map fun z=>Value.int .i64 z).toArray) (.agg (zs.map fun z=>.v (.int .i64 z))):=by
  refine .agg _ _ _ (by simp) (by simp) (fun i t ht=>?_) (fun i t ht=>?_)
  ·rw[cl,ax] at ht;obtain⟨z,vh,rfl⟩:=ht;rw[aI,aI,cl,cl,vh];have:=df.1 hz z (jB vh);simp only[aq,decide_eq_true_eq] at this;exact .int _ _ this.1 this.2
  ·rw[cl,ax] at ht;obtain⟨z,_,rfl⟩:=ht;rfl
 refine .ref _ k 0 _ _ lT fun j u hu=>?_;simp only[Value.cells,Ef,cl,ax] at hu;obtain⟨z,vh,rfl⟩:=hu;have af:=(ed.1 vh).1;have:=h.cell hg j af;show W.cell? ⟨k,0+j,none⟩=_;rw[jD,this,aI,vh];rfl
end Cx
namespace Cx
open Go Go.RowKit
def loops:PC→List PC
 |.seq a b=>loops a++loops b
 |.ite _ _ _ a b=>loops a++loops b
 |.block id lr lo (.loop Nu Np a)=>loops a++[.block id lr lo (.loop Nu Np a)]
 |.block _ _ _ a=>loops a
 |.loop _ _ a=>loops a
 |.each e ps lo rt a=>loops a++[.each e ps lo rt a]
 |.meach J ps cE lo a=>loops a++[.meach J ps cE lo a]
 |_=>[]
def KB:PC→PC
 |.block _ _ _ (.loop _ _ a)=>a
 |.each _ _ _ _ a=>a
 |.meach _ _ _ _ a=>a
 |_=>.skip
def Hk (c:PC)(k:Nat):PC:=(loops c).getD k .skip
def rnd:PC→PT
 |.block id lr lo (.loop Nu Np a)=>round id lr lo Nu Np a
 |.each _ _ lo _ a=>oA lo a
 |.meach _ _ _ lo a=>oA lo a
 |_=>.next .id
inductive Shp where
 |lp (id:Nat) (bp bo lr lo:List Nat)
 |ea (lo:List Nat)
 |no
def zD:PC→Shp
 |.block id bp bo (.loop lr lo _)=>.lp id bp bo lr lo
 |.each _ _ lo _ _=>.ea lo
 |.meach _ _ _ lo _=>.ea lo
 |_=>.no
def told (c:PC):PT×List (Shp×PT):=(tree c,(loops c).map fun l=>(zD l,rnd l))
theorem Jg {o:Option PC}{t:PT}{l:List (Shp×PT)}(h:o.map told=some (t,l)):o=some (o.getD .skip)∧tree (o.getD .skip)=t∧∀k x,l[k]?=some x→(zD (Hk (o.getD .skip) k),rnd (Hk (o.getD .skip) k))=x:=by
 cases o with
 |none=>cases h
 |some c=>
  have h1:told c=(t,l):=by injection h
  unfold told at h1;injection h1 with h1 h2
  refine⟨rfl,h1,fun k x hx=>?_⟩;subst h2;simp only[cl,ax] at hx;obtain⟨y,hy,rfl⟩:=hx;have:Hk ((some c:Option PC).getD .skip) k=y:=by
   show(loops c).getD k .skip=y;rw[aI,hy];rfl
  rw[this]
theorem aof {c:PC}{id:Nat}{bp bo lr lo:List Nat}{t:PT}(h:(zD c,rnd c)=(.lp id bp bo lr lo,t)):round id bp bo lr lo (KB c)=t:=by
 injection h with h1 h2
 subst h2;unfold zD at h1;split at h1
 ·cases h1;rfl
 all_goals cases h1
theorem aeG {c:PC}{lo:List Nat}{t:PT}(h:(zD c,rnd c)=(.ea lo,t)):oA lo (KB c)=t:=by
 injection h with h1 h2
 subst h2;unfold zD at h1;split at h1
 ·cases h1
 ·cases h1;rfl
 ·cases h1;rfl
 ·cases h1
def cu {α:Type}(x:α):α:=Classical.choose (⟨x,rfl⟩:∃y,y=x)
theorem BJ {α:Type}(x:α):cu x=x:=Classical.choose_spec (⟨x,rfl⟩:∃y,y=x)
def bj (o:Option PC):Nat→PC:=fun k=>KB (Hk (o.getD .skip) k)
abbrev ae (o:Option PC):PC:=cu (o.getD .skip)
abbrev br (o:Option PC):Nat→PC:=cu (bj o)
section
variable {o:Option PC} {F:(Nat→PC)→PT×List (Shp×PT)}
theorem apH (h:o.map told=some (F (bj o))):o=some (ae o):=by unfold ae;rw[BJ];exact(Jg (t:=(F (bj o)).1) (l:=(F (bj o)).2) h).1
theorem bO (h:o.map told=some (F (bj o))):tree (ae o)=(F (br o)).1:=by unfold ae br;rw[BJ,BJ];exact(Jg (t:=(F (bj o)).1) (l:=(F (bj o)).2) h).2.1
theorem bn (h:o.map told=some (F (bj o)))(k:Nat){id:Nat}{bp bo lr lo:List Nat}{t:(Nat→PC)→PT}(hk:∀b,(F b).2[k]?=some (.lp id bp bo lr lo,t b)):round id bp bo lr lo (br o k)=t (br o):=by
 unfold br;rw[BJ];exact aof ((Jg (t:=(F (bj o)).1) (l:=(F (bj o)).2) h).2.2 k _ (hk _))
theorem Qo (h:o.map told=some (F (bj o)))(k:Nat){lo:List Nat}{t:(Nat→PC)→PT}(hk:∀b,(F b).2[k]?=some (.ea lo,t b)):oA lo (br o k)=t (br o):=by
 unfold br;rw[BJ];exact aeG ((Jg (t:=(F (bj o)).1) (l:=(F (bj o)).2) h).2.2 k _ (hk _))
end
theorem aA {α:Type}{R:Nat→α→Prop}{f:Nat}{x:α}{l:List (Nat×α)}(h:R f x)(k:D6 R l):D6 R ((f,x)::l):=⟨h,k⟩
theorem W8 {α:Type}:∀{l:List (Nat×α)},(l.map (·.1)).Nodup→∀{k f:Nat} {x:α},l[k]?=some (f,x)→bu l f=some x
 |[],_,k,f,x,h=>by simp at h
 |y::l,hn,0,f,x,h=>by
  simp only[JD,aT] at h;subst h;simp[bu]
 |y::l,hn,k+1,f,x,h=>by
  simp only[SW] at h;rw[eB,nj] at hn;have hm:f∈l.map (·.1):=cZ.2 ⟨(f,x),jB h,rfl⟩;have hb:Nat.beq y.1 f=false:=by
   cases e:Nat.beq y.1 f with
   |false=>rfl
   |true=>rw[cX e] at hn;exact absurd hm hn.1
  simp only[bu,hb,cond_false];exact W8 hn.2 h
abbrev pT:PE:=.con (.bool true)
abbrev pF:PE:=.con (.bool false)
abbrev pN:PE:=.con .none
abbrev pL:PE:=.con (.list [])
abbrev pi (n:Int):PE:=.con (.int n)
abbrev aG (a b:PE):PE:=.ai .add .i64 a b
abbrev bH (a b:PE):PE:=.ai .sub .i64 a b
abbrev peq (a b:PE):PE:=.ci .eql a b
abbrev aP (a b:PE):PE:=.ci .neq a b
abbrev ah (a b:PE):PE:=.ci .lss a b
abbrev bB (a b:PE):PE:=.ci .leq a b
abbrev bh (a b:PE):PE:=.ci .gtr a b
abbrev cg (a b:PE):PE:=.ci .geq a b
abbrev pc (a:PE)(i:Nat):PE:=.cell a i
abbrev pn (a b:PE):PE:=.nth a b
abbrev ao (a b:PE):PE:=.idx a b
abbrev z2:PE:=.con (.agg [(.int 0),(.int 0)])
abbrev z3:PE:=.con (.agg [(.int 0),(.int 0),(.int 0)])
abbrev z4:PE:=.con (.agg [(.int 0),(.int 0),(.int 0),(.int 0)])
abbrev z5:PE:=.con (.agg [(.int 0),(.int 0),(.int 0),(.int 0),(.int 0)])
abbrev z6:PE:=.con (.agg [(.int 0),(.int 0),(.int 0),(.int 0),(.int 0),(.int 0)])
abbrev z9:PE:=.con (.agg [(.int 0),(.int 0),(.int 0),(.int 0),(.int 0),(.int 0),(.int 0),(.int 0),(.int 0)])
abbrev Jw:PE:=.con (.agg [(.int 0),(.int 0),(.int 0),(.int 0),(.int 0),(.int 0),(.int 0),(.int 0),(.int 0),(.int 0),(.int 0),(.int 0),(.int 0),(.int 0),(.int 0)])
abbrev r0:PE:=.r 0
abbrev r1:PE:=.r 1
abbrev r2:PE:=.r 2
abbrev r3:PE:=.r 3
abbrev r4:PE:=.r 4
abbrev r5:PE:=.r 5
abbrev r6:PE:=.r 6
abbrev r7:PE:=.r 7
abbrev r8:PE:=.r 8
abbrev r9:PE:=.r 9
abbrev bC:PE:=.r 10
abbrev bz:PE:=.r 11
abbrev bU:PE:=.r 12
abbrev cK:PE:=.r 13
abbrev bD:PE:=.r 14
abbrev bF:PE:=.r 15
abbrev bx:PE:=.r 16
abbrev dt:PE:=.r 17
abbrev dI:PE:=.r 18
abbrev dR:PE:=.r 19
abbrev bR:PE:=.r 20
abbrev fu:PE:=.r 21
abbrev rz:PE:=.r 22
abbrev dJ:PE:=.r 23
abbrev jt:PE:=.r 24
abbrev jV:PE:=.r 25
abbrev ib:PE:=.r 26
abbrev de:PE:=.r 27
abbrev oq:PE:=.r 28
abbrev mU:PE:=.r 29
abbrev rA:PE:=.r 30
abbrev jW:PE:=.r 31
abbrev O6:PE:=.r 32
abbrev pU:PE:=.r 33
abbrev Z2:PE:=.r 34
abbrev vU:PE:=.r 35
abbrev iV:PE:=.r 36
abbrev mV:PE:=.r 37
abbrev ky:PE:=.r 38
abbrev rB:PE:=.r 39
abbrev rC:PE:=.r 40
abbrev pV:PE:=.r 41
abbrev O7:PE:=.r 42
abbrev tn:PE:=.r 43
abbrev vV:PE:=.r 44
abbrev pW:PE:=.r 45
abbrev CW:PE:=.r 46
abbrev O8:PE:=.r 47
abbrev kz:PE:=.r 48
abbrev pX:PE:=.r 49
abbrev kA:PE:=.r 50
abbrev l8:PE:=.r 51
abbrev ot:PE:=.r 52
abbrev Z3:PE:=.r 53
abbrev pY:PE:=.r 54
abbrev CX:PE:=.r 55
abbrev ou:PE:=.r 56
abbrev zl:PE:=.r 57
abbrev Z4:PE:=.r 58
abbrev Z5:PE:=.r 59
abbrev vW:PE:=.r 60
abbrev If:PE:=.r 61
abbrev mW:PE:=.r 62
abbrev Ig:PE:=.r 63
abbrev jX:PE:=.r 64
abbrev vX:PE:=.r 65
abbrev O9:PE:=.r 66
abbrev vY:PE:=.r 67
abbrev Ih:PE:=.r 68
abbrev zm:PE:=.r 69
abbrev Pa:PE:=.r 70
abbrev Ii:PE:=.r 72
abbrev CY:PE:=.r 73
abbrev zn:PE:=.r 74
abbrev Pb:PE:=.r 75
abbrev rD:PE:=.r 76
abbrev Pc:PE:=.r 77
abbrev Ij:PE:=.r 78
abbrev rE:PE:=.r 80
abbrev vZ:PE:=.r 81
abbrev ju:PE:=.r 82
abbrev r83:PE:=.r 83
abbrev Ik:PE:=.r 84
abbrev zo:PE:=.r 85
abbrev Z6:PE:=.r 87
abbrev Il:PE:=.r 88
abbrev r89:PE:=.r 89
abbrev Z7:PE:=.r 90
abbrev Io:PE:=.r 92
abbrev Pd:PE:=.r 93
abbrev Z8:PE:=.r 94
abbrev r95:PE:=.r 95
abbrev r96:PE:=.r 96
abbrev r97:PE:=.r 97
abbrev r98:PE:=.r 98
abbrev Pe:PE:=.r 99
abbrev ZX:PE:=.r 103
abbrev anH:PE:=.r 104
abbrev O3:PE:=.r 106
abbrev O4:PE:=.r 108
abbrev anI:PE:=.r 109
abbrev O5:PE:=.r 112
abbrev anJ:PE:=.r 117
abbrev anK:PE:=.r 121
abbrev ZY:PE:=.r 127
abbrev o0:PE:=.o 0
abbrev o1:PE:=.o 1
abbrev o2:PE:=.o 2
abbrev o3:PE:=.o 3
abbrev o4:PE:=.o 4
abbrev o5:PE:=.o 5
abbrev o6:PE:=.o 6
abbrev o7:PE:=.o 7
abbrev o8:PE:=.o 8
abbrev o9:PE:=.o 9
abbrev bX:PE:=.o 10
abbrev l7:PE:=.o 11
abbrev NG:PE:=.o 12
abbrev y1:PE:=.o 13
abbrev ia:PE:=.o 14
abbrev Hz:PE:=.o 45
end Cx
