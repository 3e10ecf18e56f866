/-
  Shared texts of this claim.
-/
import Derived.Test.YtehiffddpebpkaaGreatDoorKAI
import Derived.Lib.LaidTab
set_option linter.unusedSimpArgs false
set_option linter.unusedVariables false
namespace Cx
open Go Go.RowKit
structure SE where
 r:List (Nat×PE)
 o:List (Nat×PE)
def SE.getR (s:SE)(t:Nat):PE:=match aa s.r t with|some e=>e|none=>.r t
def SE.getO (s:SE)(t:Nat):PE:=match aa s.o t with|some e=>e|none=>.o t
def SE.setR (s:SE)(t:Nat)(e:PE):SE:=⟨(t,e)::s.r,s.o⟩
def SE.setO (s:SE)(t:Nat)(e:PE):SE:=⟨s.r,(t,e)::s.o⟩
def SE.id:SE:=⟨[],[]⟩
def SE.ev (s:SE)(ρ:Env):Env:=⟨fun t=>(s.getR t).ev ρ,fun t=>(s.getO t).ev ρ⟩
def SE.join (s:SE)(lr lo:List Nat)(s':SE):SE:=⟨lr.map (fun t=>(t,s'.getR t))++s.r,lo.map (fun t=>(t,s'.getO t))++s.o⟩
theorem SE.setR_ev (s:SE)(t:Nat)(e:PE)(ρ:Env):(s.setR t e).ev ρ=(s.ev ρ).setR t (e.ev ρ):=by
 have h:(fun u=>((s.setR t e).getR u).ev ρ)=upd (fun u=>(s.getR u).ev ρ) t (e.ev ρ):=by
  funext u
  simp only[SE.getR,SE.setR,aa,aN]
  by_cases h:t=u
  ·subst h;simp
  ·have h':¬u=t:=fun e=>h e.symm
   simp[bU h,h']
 simp only[SE.ev,Env.setR];rw[h];rfl
theorem SE.setO_ev (s:SE)(t:Nat)(e:PE)(ρ:Env):(s.setO t e).ev ρ=(s.ev ρ).setO t (e.ev ρ):=by
 have h:(fun u=>((s.setO t e).getO u).ev ρ)=upd (fun u=>(s.getO u).ev ρ) t (e.ev ρ):=by
  funext u
  simp only[SE.getO,SE.setO,aa,aN]
  by_cases h:t=u
  ·subst h;simp
  ·have h':¬u=t:=fun e=>h e.symm
   simp[bU h,h']
 simp only[SE.ev,Env.setO];rw[h];rfl
theorem kp {f:Nat→PE}{l:List (Nat×PE)}{u:Nat}:∀(lr:List Nat),aa (lr.map (fun t=>(t,f t))++l) u=if u∈lr then some (f u) else aa l u
 |[]=>by simp
 |t::lr=>by
  simp only[List.map_cons,List.cons_append,aa,kp lr,List.mem_cons]
  by_cases h:t=u
  ·subst h;simp
  ·have h':¬u=t:=fun e=>h e.symm
   simp[bU h,h']
theorem SE.join_ev (s s':SE)(lr lo:List Nat)(ρ:Env):(s.join lr lo s').ev ρ=(s.ev ρ).join lr lo (s'.ev ρ):=by
 have h1:∀u,((s.join lr lo s').getR u).ev ρ=((s.ev ρ).join lr lo (s'.ev ρ)).r u:=by
  intro u
  rw[Env.join_r]
  have e:aa (s.join lr lo s').r u=if u∈lr then some (s'.getR u) else aa s.r u:=kp lr
  unfold SE.getR
  rw[e]
  by_cases h:u∈lr
  ·simp only[h,if_true];rfl
  ·simp only[h,if_false];rfl
 have h2:∀u,((s.join lr lo s').getO u).ev ρ=((s.ev ρ).join lr lo (s'.ev ρ)).o u:=by
  intro u
  rw[Env.join_o]
  have e:aa (s.join lr lo s').o u=if u∈lo then some (s'.getO u) else aa s.o u:=kp lo
  unfold SE.getO
  rw[e]
  by_cases h:u∈lo
  ·simp only[h,if_true];rfl
  ·simp only[h,if_false];rfl
 have e1:(fun u=>((s.join lr lo s').getR u).ev ρ)=((s.ev ρ).join lr lo (s'.ev ρ)).r:=funext h1
 have e2:(fun u=>((s.join lr lo s').getO u).ev ρ)=((s.ev ρ).join lr lo (s'.ev ρ)).o:=funext h2
 show Env.mk _ _=_
 rw[e1,e2]
abbrev Asm:=List (PE×Bool)
def Asm.ok (asm:Asm)(ρ:Env):Prop:=∀x,x∈asm→(x.1.ev ρ).b=x.2
def MV (e:PE):Asm→Option Bool
 |[]=>none
 |x::l=>bif PE.beq x.1 e then some x.2 else MV e l
theorem PF {e:PE}{ρ:Env}{b:Bool}:∀{asm:Asm},asm.ok ρ→MV e asm=some b→(e.ev ρ).b=b
 |[],_,h=>by cases h
 |x::l,hok,h=>by
  simp only[MV] at h
  cases hb:PE.beq x.1 e<;>simp only[hb,cond_true,cond_false] at h
  ·exact PF (fun y hy=>hok y (List.mem_cons_of_mem _ hy)) h
  ·cases h;rw[←PE.beq_eq _ _ hb];exact hok x (List.mem_cons_self ..)
def Ko (asm:Asm):PE→Option Bool
 |.con (.v (.bool b))=>some b
 |.nt x=>(Ko asm x).map (!·)
 |e=>MV e asm
theorem rM {asm:Asm}{ρ:Env}(h:asm.ok ρ):∀{e:PE} {b:Bool},Ko asm e=some b→(e.ev ρ).b=b
 |.con (.v (.bool b)),b',he=>by simp only[Ko,Option.some.injEq] at he;subst he;rfl
 |.nt x,b',he=>by
  simp only[Ko,Option.map_eq_some_iff] at he
  obtain⟨c,hc,rfl⟩:=he
  simp only[PE.ev,D.b_bool,rM h hc]
 |e,b',he=>by
  unfold Ko at he
  split at he
  ·cases he;rfl
  ·rename_i x
   simp only[Option.map_eq_some_iff] at he
   obtain⟨c,hc,rfl⟩:=he
   simp only[PE.ev,D.b_bool,rM h hc]
  ·exact PF h he
def FF (asm:Asm)(c a b:PE):PE:=match Ko asm c with|some true=>a|some false=>b|none=>.pick c a b
theorem P4 {asm:Asm}{ρ:Env}(h:asm.ok ρ)(c a b:PE):(FF asm c a b).ev ρ=(PE.pick c a b).ev ρ:=by
 unfold FF
 split
 ·rename_i ht;simp[PE.ev,rM h ht]
 ·rename_i ht;simp[PE.ev,rM h ht]
 ·rfl
def XP:PE→PE
 |.ref x=>x
 |x=>.deref x
theorem aa2 (x:PE)(ρ:Env):(XP x).ev ρ=(PE.deref x).ev ρ:=by unfold XP;split<;>rfl
def ab1:PE→Nat→PE
 |.tup es,i=>es.getD i (.con .none)
 |x,i=>.tget x i
theorem ac3 (x:PE)(i:Nat)(ρ:Env):(ab1 x i).ev ρ=(PE.tget x i).ev ρ:=by
 unfold ab1
 split
 ·rename_i es
  simp only[PE.ev,D.tget_tup,PE.evs_eq,List.getD_eq_getElem?_getD,List.getElem?_map]
  cases es[i]?<;>rfl
 ·rfl
def Vg:PE→Bool
 |.ai ..|.ci ..|.cb ..|.cs ..|.sadd ..|.nt _|.conv ..|.llen _|.bytes _|.slen _|.mlen _|.idx ..|.sidx ..|.sok ..|.slok ..|.lst _|.app ..|.setn ..|.rep ..|.slc ..|.ref _|.has ..|.put ..|.an ..|.imp ..|.tup _|.clo ..=>true
 |.con (.v _)|.con (.list _)|.con (.map _)=>true
 |_=>false
theorem ace {e:PE}(h:Vg e=true)(ρ:Env):(e.ev ρ).cells=[e.ev ρ]:=by
 unfold Vg at h
 split at h<;>first|rfl|cases h
def acw:PE→Nat→PE
 |.mk es,i=>bif es.all Vg then es.getD i (.con .none) else .cell (.mk es) i
 |x,i=>.cell x i
theorem ZQ {ρ:Env}:∀{es:List PE},es.all Vg=true→PE.evc ρ es=PE.evs ρ es
 |[],_=>rfl
 |e::es,h=>by
  simp only[List.all_cons,Bool.and_eq_true] at h
  simp only[PE.evc,PE.evs,ace h.1,ZQ h.2];rfl
theorem ac0 (x:PE)(i:Nat)(ρ:Env):(acw x i).ev ρ=(PE.cell x i).ev ρ:=by
 unfold acw
 split
 ·rename_i es
  cases hc:es.all Vg
  ·rfl
  ·simp only[cond_true,PE.ev,ZQ hc,D.c_agg,PE.evs_eq,List.getD_eq_getElem?_getD,List.getElem?_map]
   cases es[i]?<;>rfl
 ·rfl
def gsE (s:SE):List (Nat×Bool)→PE
 |[]=>.con (.v (.bool true))
 |g::gs=>.an (bif g.2 then s.getR g.1 else .nt (s.getR g.1)) (gsE s gs)
theorem abr (s:SE)(ρ:Env):∀gs,((gsE s gs).ev ρ).b=holds gs (s.ev ρ)
 |[]=>rfl
 |g::gs=>by
  have ih:=abr s ρ gs
  rw[XI,←ih]
  have e:((s.ev ρ).r g.1)=(s.getR g.1).ev ρ:=rfl
  rw[e]
  cases hg:g.2
  ·simp only[gsE,hg,cond_false,PE.ev,D.b_bool];cases((s.getR g.1).ev ρ).b<;>rfl
  ·simp only[gsE,hg,cond_true,PE.ev,D.b_bool];cases((s.getR g.1).ev ρ).b<;>rfl
mutual
def PE.sub' (asm:Asm)(s:SE):PE→PE
 |.r t=>s.getR t
 |.o j=>s.getO j
 |.con d=>.con d
 |.cell e i=>acw (PE.sub' asm s e) i
 |.sub e a b=>.sub (PE.sub' asm s e) a b
 |.setc e q x=>.setc (PE.sub' asm s e) q (PE.sub' asm s x)
 |.mk es=>.mk (PE.subs' asm s es)
 |.ai op k x y=>.ai op k (PE.sub' asm s x) (PE.sub' asm s y)
 |.ci op x y=>.ci op (PE.sub' asm s x) (PE.sub' asm s y)
 |.cb op x y=>.cb op (PE.sub' asm s x) (PE.sub' asm s y)
 |.cs op x y=>.cs op (PE.sub' asm s x) (PE.sub' asm s y)
 |.sadd x y=>.sadd (PE.sub' asm s x) (PE.sub' asm s y)
 |.nt x=>.nt (PE.sub' asm s x)
 |.conv k x=>.conv k (PE.sub' asm s x)
 |.pick c a b=>FF asm (PE.sub' asm s c) (PE.sub' asm s a) (PE.sub' asm s b)
 |.llen x=>.llen (PE.sub' asm s x)
 |.bytes x=>.bytes (PE.sub' asm s x)
 |.slen x=>.slen (PE.sub' asm s x)
 |.mlen x=>.mlen (PE.sub' asm s x)
 |.nth x y=>.nth (PE.sub' asm s x) (PE.sub' asm s y)
 |.idx x y=>.idx (PE.sub' asm s x) (PE.sub' asm s y)
 |.sidx x y=>.sidx (PE.sub' asm s x) (PE.sub' asm s y)
 |.sok x y=>.sok (PE.sub' asm s x) (PE.sub' asm s y)
 |.setn x y n z=>.setn (PE.sub' asm s x) (PE.sub' asm s y) n (PE.sub' asm s z)
 |.app x y=>.app (PE.sub' asm s x) (PE.sub' asm s y)
 |.lst es=>.lst (PE.subs' asm s es)
 |.rep x y=>.rep (PE.sub' asm s x) (PE.sub' asm s y)
 |.slc x y z=>.slc (PE.sub' asm s x) (PE.sub' asm s y) (PE.sub' asm s z)
 |.slok x y z=>.slok (PE.sub' asm s x) (PE.sub' asm s y) (PE.sub' asm s z)
 |.ref x=>.ref (PE.sub' asm s x)
 |.deref x=>XP (PE.sub' asm s x)
 |.look x y z=>.look (PE.sub' asm s x) (PE.sub' asm s y) (PE.sub' asm s z)
 |.has x y=>.has (PE.sub' asm s x) (PE.sub' asm s y)
 |.put x y z=>.put (PE.sub' asm s x) (PE.sub' asm s y) (PE.sub' asm s z)
 |.mn x y=>.mn (PE.sub' asm s x) (PE.sub' asm s y)
 |.mx x y=>.mx (PE.sub' asm s x) (PE.sub' asm s y)
 |.tup es=>.tup (PE.subs' asm s es)
 |.tget x i=>ab1 (PE.sub' asm s x) i
 |.clo f es=>.clo f (PE.subs' asm s es)
 |.an x y=>.an (PE.sub' asm s x) (PE.sub' asm s y)
 |.imp c x=>.nt (.an (gsE s c) (.nt (PE.sub' asm s x)))
def PE.subs' (asm:Asm)(s:SE):List PE→List PE
 |[]=>[]
 |e::es=>PE.sub' asm s e::PE.subs' asm s es
end
mutual
theorem PE.sub_ev {asm:Asm}{ρ:Env}(h:asm.ok ρ)(s:SE):∀(e:PE),(PE.sub' asm s e).ev ρ=e.ev (s.ev ρ)
 |.r t=>rfl
 |.o j=>rfl
 |.con d=>rfl
 |.cell e i=>by simp only[PE.sub',ac0,PE.ev,PE.sub_ev h s e]
 |.sub e a b=>by simp only[PE.sub',PE.ev,PE.sub_ev h s e]
 |.setc e q x=>by simp only[PE.sub',PE.ev,PE.sub_ev h s e,PE.sub_ev h s x]
 |.mk es=>by simp only[PE.sub',PE.ev,PE.subc_ev h s es]
 |.ai op k x y=>by simp only[PE.sub',PE.ev,PE.sub_ev h s x,PE.sub_ev h s y]
 |.ci op x y=>by simp only[PE.sub',PE.ev,PE.sub_ev h s x,PE.sub_ev h s y]
 |.cb op x y=>by simp only[PE.sub',PE.ev,PE.sub_ev h s x,PE.sub_ev h s y]
 |.cs op x y=>by simp only[PE.sub',PE.ev,PE.sub_ev h s x,PE.sub_ev h s y]
 |.sadd x y=>by simp only[PE.sub',PE.ev,PE.sub_ev h s x,PE.sub_ev h s y]
 |.nt x=>by simp only[PE.sub',PE.ev,PE.sub_ev h s x]
 |.conv k x=>by simp only[PE.sub',PE.ev,PE.sub_ev h s x]
 |.pick c a b=>by simp only[PE.sub',P4 h,PE.ev,PE.sub_ev h s c,PE.sub_ev h s a,PE.sub_ev h s b]
 |.llen x=>by simp only[PE.sub',PE.ev,PE.sub_ev h s x]
 |.bytes x=>by simp only[PE.sub',PE.ev,PE.sub_ev h s x]
 |.slen x=>by simp only[PE.sub',PE.ev,PE.sub_ev h s x]
 |.mlen x=>by simp only[PE.sub',PE.ev,PE.sub_ev h s x]
 |.nth x y=>by simp only[PE.sub',PE.ev,PE.sub_ev h s x,PE.sub_ev h s y]
 |.idx x y=>by simp only[PE.sub',PE.ev,PE.sub_ev h s x,PE.sub_ev h s y]
 |.sidx x y=>by simp only[PE.sub',PE.ev,PE.sub_ev h s x,PE.sub_ev h s y]
 |.sok x y=>by simp only[PE.sub',PE.ev,PE.sub_ev h s x,PE.sub_ev h s y]
 |.setn x y n z=>by simp only[PE.sub',PE.ev,PE.sub_ev h s x,PE.sub_ev h s y,PE.sub_ev h s z]
 |.app x y=>by simp only[PE.sub',PE.ev,PE.sub_ev h s x,PE.sub_ev h s y]
 |.lst es=>by simp only[PE.sub',PE.ev,PE.subs_ev h s es]
 |.rep x y=>by simp only[PE.sub',PE.ev,PE.sub_ev h s x,PE.sub_ev h s y]
 |.slc x y z=>by simp only[PE.sub',PE.ev,PE.sub_ev h s x,PE.sub_ev h s y,PE.sub_ev h s z]
 |.slok x y z=>by simp only[PE.sub',PE.ev,PE.sub_ev h s x,PE.sub_ev h s y,PE.sub_ev h s z]
 |.ref x=>by simp only[PE.sub',PE.ev,PE.sub_ev h s x]
 |.deref x=>by simp only[PE.sub',aa2,PE.ev,PE.sub_ev h s x]
 |.look x y z=>by simp only[PE.sub',PE.ev,PE.sub_ev h s x,PE.sub_ev h s y,PE.sub_ev h s z]
 |.has x y=>by simp only[PE.sub',PE.ev,PE.sub_ev h s x,PE.sub_ev h s y]
 |.put x y z=>by simp only[PE.sub',PE.ev,PE.sub_ev h s x,PE.sub_ev h s y,PE.sub_ev h s z]
 |.mn x y=>by simp only[PE.sub',PE.ev,PE.sub_ev h s x,PE.sub_ev h s y]
 |.mx x y=>by simp only[PE.sub',PE.ev,PE.sub_ev h s x,PE.sub_ev h s y]
 |.tup es=>by simp only[PE.sub',PE.ev,PE.subs_ev h s es]
 |.tget x i=>by simp only[PE.sub',ac3,PE.ev,PE.sub_ev h s x]
 |.clo f es=>by simp only[PE.sub',PE.ev,PE.subs_ev h s es]
 |.an x y=>by simp only[PE.sub',PE.ev,PE.sub_ev h s x,PE.sub_ev h s y]
 |.imp c x=>by
  simp only[PE.sub',PE.ev,D.b_bool,abr,PE.sub_ev h s x]
  cases holds c (s.ev ρ)<;>cases(x.ev (s.ev ρ)).b<;>rfl
theorem PE.subs_ev {asm:Asm}{ρ:Env}(h:asm.ok ρ)(s:SE):∀(es:List PE),PE.evs ρ (PE.subs' asm s es)=PE.evs (s.ev ρ) es
 |[]=>rfl
 |e::es=>by simp only[PE.subs',PE.evs,PE.sub_ev h s e,PE.subs_ev h s es]
theorem PE.subc_ev {asm:Asm}{ρ:Env}(h:asm.ok ρ)(s:SE):∀(es:List PE),PE.evc ρ (PE.subs' asm s es)=PE.evc (s.ev ρ) es
 |[]=>rfl
 |e::es=>by simp only[PE.subs',PE.evc,PE.sub_ev h s e,PE.subc_ev h s es]
end
inductive PT where
 |next (s:SE)
 |exit (id:Nat) (s:SE)
 |ret (e:PE)
 |chk (e:PE) (k:PT)
 |ite (c:PE) (a b:PT)
 |call (s:SE) (gs:List (Nat×Bool)) (dst f:Nat) (args:List PE) (k:PT)
 |callc (s:SE) (gs:List (Nat×Bool)) (dst:Nat) (e:PE) (args:List PE) (k:PT)
 |mcall (s:SE) (j f:Nat) (args:List PE) (k:PT)
 |iteS (s:SE) (c:PE) (lr lo:List Nat) (a b k:PT)
 |blockS (s:SE) (id:Nat) (lr lo:List Nat) (a k:PT)
 |brk (s:SE) (c:PC) (k:PT)
def aD (T:bn):PT→Env→(Out→Prop)→Prop
 |.next s,ρ,Q=>Q (.next (s.ev ρ))
 |.exit id s,ρ,Q=>Q (.exit id (s.ev ρ))
 |.ret e,ρ,Q=>Q (.ret (e.ev ρ))
 |.chk e k,ρ,Q=>(e.ev ρ).b=true∧aD T k ρ Q
 |.ite c a b,ρ,Q=>if(c.ev ρ).b=true then aD T a ρ Q else aD T b ρ Q
 |.call s gs dst f args k,ρ,Q=>if holds gs (s.ev ρ)=true then ∃d,Runs T f (PE.evs ρ args) d∧aD T k ((s.ev ρ).setR dst d) Q else aD T k (s.ev ρ) Q
 |.callc s gs dst e args k,ρ,Q=>if holds gs (s.ev ρ)=true then ∃f caps d,e.ev ρ=.clo f caps∧Runs T f (PE.evs ρ args++caps) d∧aD T k ((s.ev ρ).setR dst d) Q else aD T k (s.ev ρ) Q
 |.mcall s j f args k,ρ,Q=>∃d,Runs T f (PE.evs ρ args) d∧aD T k ((s.ev ρ).setO j d) Q
 |.iteS s c lr lo a b k,ρ,Q=>if(c.ev ρ).b=true then aD T a (s.ev ρ) (qw (s.ev ρ) lr lo (td (fun ρ'=>aD T k ρ' Q) Q)) else aD T b (s.ev ρ) (qw (s.ev ρ) lr lo (td (fun ρ'=>aD T k ρ' Q) Q))
 |.blockS s id lr lo a k,ρ,Q=>aD T a (s.ev ρ) (lf (s.ev ρ) id lr lo (td (fun ρ'=>aD T k ρ' Q) Q))
 |.brk s c k,ρ,Q=>EvP T c (s.ev ρ) (td (fun ρ'=>aD T k ρ' Q) Q)
def yj:PI→Bool
 |.setR ..|.setO ..|.chk _=>true
 |_=>false
def da:PC→Bool
 |.loop ..=>false
 |.each ..=>false
 |.meach ..=>false
 |.seq a b=>da a&&da b
 |.ite _ _ _ a b=>da a&&da b
 |.block _ _ _ a=>da a
 |.is l=>l.all yj
 |_=>true
abbrev Kn:=Asm→SE→PT
abbrev Kx:=Asm→Nat→SE→PT
def sxI:List PI→Asm→SE→Kn→PT
 |[],asm,s,k=>k asm s
 |.setR t e::l,asm,s,k=>sxI l asm (s.setR t (e.sub' asm s)) k
 |.setO t e::l,asm,s,k=>sxI l asm (s.setO t (e.sub' asm s)) k
 |.chk e::l,asm,s,k=>
  match Ko asm (e.sub' asm s) with
  |some true=>sxI l asm s k
  |_=>.chk (e.sub' asm s) (sxI l ((e.sub' asm s,true)::asm) s k)
 |.call gs dst f args::l,asm,s,k=>.call s gs dst f (PE.subs' asm s args) (sxI l [] .id k)
 |.callc gs dst e args::l,asm,s,k=>.callc s gs dst (e.sub' asm s) (PE.subs' asm s args) (sxI l [] .id k)
 |.mcall j f args::l,asm,s,k=>.mcall s j f (PE.subs' asm s args) (sxI l [] .id k)
def SE.merge (s:SE)(asm:Asm)(lr lo:List Nat)(c:PE)(a b:SE):SE:=⟨lr.map (fun t=>(t,FF asm c (a.getR t) (b.getR t)))++s.r,lo.map (fun t=>(t,FF asm c (a.getO t) (b.getO t)))++s.o⟩
def rD:List PI→Asm→SE→Option SE
 |[],_,s=>some s
 |.setR t e::l,asm,s=>rD l asm (s.setR t (e.sub' asm s))
 |.setO t e::l,asm,s=>rD l asm (s.setO t (e.sub' asm s))
 |_::_,_,_=>none
def plain:PC→Asm→SE→Option SE
 |.skip,_,s=>some s
 |.is l,asm,s=>rD l asm s
 |.seq a b,asm,s=>(plain a asm s).bind fun s=>plain b asm s
 |.ite c lr lo a b,asm,s=>(plain a asm s).bind fun sa=>(plain b asm s).map fun sb=>s.merge asm lr lo (c.sub' asm s) sa sb
 |_,_,_=>none
def ac7:PC→Bool
 |.loop ..=>true
 |_=>false
def sx:PC→Asm→SE→Kn→Kx→PT
 |.skip,asm,s,k,_=>k asm s
 |.is l,asm,s,k,_=>sxI l asm s k
 |.seq a b,asm,s,k,kx=>sx a asm s (fun asm s=>sx b asm s k kx) kx
 |.ite c lr lo a b,asm,s,k,kx=>
  match Ko asm (c.sub' asm s) with
  |some true=>bif da a then sx a asm s (fun asm s'=>k asm (s.join lr lo s')) kx else .iteS s (c.sub' asm s) lr lo (sx a [] .id (fun _ s=>.next s) (fun _ id s=>.exit id s)) (sx b [] .id (fun _ s=>.next s) (fun _ id s=>.exit id s)) (k [] .id)
  |some false=>bif da b then sx b asm s (fun asm s'=>k asm (s.join lr lo s')) kx else .iteS s (c.sub' asm s) lr lo (sx a [] .id (fun _ s=>.next s) (fun _ id s=>.exit id s)) (sx b [] .id (fun _ s=>.next s) (fun _ id s=>.exit id s)) (k [] .id)
  |none=>
   match plain a asm s,plain b asm s with
   |some sa,some sb=>k asm (s.merge asm lr lo (c.sub' asm s) sa sb)
   |_,_=>
   bif da a&&da b then
    .ite (c.sub' asm s) (sx a ((c.sub' asm s,true)::asm) s (fun asm s'=>k asm (s.join lr lo s')) kx) (sx b ((c.sub' asm s,false)::asm) s (fun asm s'=>k asm (s.join lr lo s')) kx)
   else .iteS s (c.sub' asm s) lr lo (sx a [] .id (fun _ s=>.next s) (fun _ id s=>.exit id s)) (sx b [] .id (fun _ s=>.next s) (fun _ id s=>.exit id s)) (k [] .id)
 |.block id lr lo a,asm,s,k,kx=>
  bif da a then sx a asm s (fun asm s'=>k asm (s.join lr lo s')) (fun asm id' s'=>bif Nat.beq id' id then k asm (s.join lr lo s') else kx asm id' s')
  else bif ac7 a then .brk s (.block id lr lo a) (k [] .id)
  else .blockS s id lr lo (sx a [] .id (fun _ s=>.next s) (fun _ id s=>.exit id s)) (k [] .id)
 |.loop lr lo a,_,s,k,_=>.brk s (.loop lr lo a) (k [] .id)
 |.each e ps lo rt a,_,s,k,_=>.brk s (.each e ps lo rt a) (k [] .id)
 |.meach J ps sel lo a,_,s,k,_=>.brk s (.meach J ps sel lo a) (k [] .id)
 |.exit id,asm,s,_,kx=>kx asm id s
 |.ret e,asm,s,_,_=>.ret (e.sub' asm s)
theorem Asm.ok_nil (ρ:Env):Asm.ok [] ρ:=fun _ h=>nomatch h
theorem Asm.ok_cons {asm:Asm}{ρ:Env}{e:PE}{b:Bool}(h:asm.ok ρ)(he:(e.ev ρ).b=b):Asm.ok ((e,b)::asm) ρ:=fun x hx=>by
 rcases List.mem_cons.1 hx with e'|hx
 ·rw[e'];exact he
 ·exact h x hx
theorem uU {T:bn}{Q:Out→Prop}{K:Env→Prop}{k:Kn}:∀{l:List PI} {asm:Asm} {s:SE} {ρ:Env},asm.ok ρ→aD T (sxI l asm s k) ρ Q→
 (∀ρ' asm s,(l.all yj=true→ρ'=ρ)→asm.ok ρ'→aD T (k asm s) ρ' Q→K (s.ev ρ'))→wpI T l (s.ev ρ) K
 |[],asm,s,ρ,ha,h,hk=>hk ρ asm s (fun _=>rfl) ha h
 |.setR t e::l,asm,s,ρ,ha,h,hk=>by
  simp only[wpI]
  rw[←PE.sub_ev ha s e,←SE.setR_ev]
  exact uU ha h fun ρ' asm s hp=>hk ρ' asm s fun hl=>hp (by simpa [yj] using hl)
 |.setO t e::l,asm,s,ρ,ha,h,hk=>by
  simp only[wpI]
  rw[←PE.sub_ev ha s e,←SE.setO_ev]
  exact uU ha h fun ρ' asm s hp=>hk ρ' asm s fun hl=>hp (by simpa [yj] using hl)
 |.chk e::l,asm,s,ρ,ha,h,hk=>by
  simp only[wpI]
  rw[←PE.sub_ev ha s e]
  simp only[sxI] at h
  split at h
  ·rename_i ht
   exact⟨rM ha ht,uU ha h fun ρ' asm s hp=>hk ρ' asm s fun hl=>hp (by simpa [yj] using hl)⟩
  ·exact⟨h.1,uU (Asm.ok_cons ha h.1) h.2 fun ρ' asm s hp=>hk ρ' asm s fun hl=>hp (by simpa [yj] using hl)⟩
 |.call gs dst f args::l,asm,s,ρ,ha,h,hk=>by
  simp only[wpI]
  simp only[sxI,aD,PE.subs_ev ha,PE.sub_ev ha] at h
  have hk':∀{ρ0:Env},∀ρ' asm s,(l.all yj=true→ρ'=ρ0)→asm.ok ρ'→aD T (k asm s) ρ' Q→K (s.ev ρ'):=fun ρ' asm s _=>hk ρ' asm s fun hl=>by simp[yj] at hl
  split at h
  ·rename_i hg
   rw[if_pos hg]
   obtain⟨d,hd,h⟩:=h
   exact⟨d,hd,uU (s:=.id) (Asm.ok_nil _) h hk'⟩
  ·rename_i hg
   rw[if_neg hg]
   exact uU (s:=.id) (Asm.ok_nil _) h hk'
 |.callc gs dst e args::l,asm,s,ρ,ha,h,hk=>by
  simp only[wpI]
  simp only[sxI,aD,PE.subs_ev ha,PE.sub_ev ha] at h
  have hk':∀{ρ0:Env},∀ρ' asm s,(l.all yj=true→ρ'=ρ0)→asm.ok ρ'→aD T (k asm s) ρ' Q→K (s.ev ρ'):=fun ρ' asm s _=>hk ρ' asm s fun hl=>by simp[yj] at hl
  split at h
  ·rename_i hg
   rw[if_pos hg]
   obtain⟨f,caps,d,he,hd,h⟩:=h
   exact⟨f,caps,d,he,hd,uU (s:=.id) (Asm.ok_nil _) h hk'⟩
  ·rename_i hg
   rw[if_neg hg]
   exact uU (s:=.id) (Asm.ok_nil _) h hk'
 |.mcall j f args::l,asm,s,ρ,ha,h,hk=>by
  simp only[wpI]
  simp only[sxI,aD,PE.subs_ev ha,PE.sub_ev ha] at h
  have hk':∀{ρ0:Env},∀ρ' asm s,(l.all yj=true→ρ'=ρ0)→asm.ok ρ'→aD T (k asm s) ρ' Q→K (s.ev ρ'):=fun ρ' asm s _=>hk ρ' asm s fun hl=>by simp[yj] at hl
  obtain⟨d,hd,h⟩:=h
  exact⟨d,hd,uU (s:=.id) (Asm.ok_nil _) h hk'⟩
theorem SE.merge_ev {asm:Asm}{ρ:Env}(h:asm.ok ρ)(s a b:SE)(lr lo:List Nat)(c:PE):(s.merge asm lr lo c a b).ev ρ=(s.ev ρ).join lr lo (if(c.ev ρ).b=true then a.ev ρ else b.ev ρ):=by
 have h1:∀u,((s.merge asm lr lo c a b).getR u).ev ρ=((s.ev ρ).join lr lo (if(c.ev ρ).b=true then a.ev ρ else b.ev ρ)).r u:=by
  intro u
  rw[Env.join_r]
  have e:aa (s.merge asm lr lo c a b).r u=if u∈lr then some (FF asm c (a.getR u) (b.getR u)) else aa s.r u:=kp lr
  have e2:(s.merge asm lr lo c a b).getR u=if u∈lr then FF asm c (a.getR u) (b.getR u) else s.getR u:=by
   unfold SE.getR;rw[e];by_cases h:u∈lr<;>simp[h,SE.getR]
  rw[e2]
  by_cases hu:u∈lr
  ·simp only[hu,if_true,P4 h,PE.ev]
   cases hc:(c.ev ρ).b<;>simp[SE.ev]
  ·simp only[hu,if_false];rfl
 have h2:∀u,((s.merge asm lr lo c a b).getO u).ev ρ=((s.ev ρ).join lr lo (if(c.ev ρ).b=true then a.ev ρ else b.ev ρ)).o u:=by
  intro u
  rw[Env.join_o]
  have e:aa (s.merge asm lr lo c a b).o u=if u∈lo then some (FF asm c (a.getO u) (b.getO u)) else aa s.o u:=kp lo
  have e2:(s.merge asm lr lo c a b).getO u=if u∈lo then FF asm c (a.getO u) (b.getO u) else s.getO u:=by
   unfold SE.getO;rw[e];by_cases h:u∈lo<;>simp[h,SE.getO]
  rw[e2]
  by_cases hu:u∈lo
  ·simp only[hu,if_true,P4 h,PE.ev]
   cases hc:(c.ev ρ).b<;>simp[SE.ev]
  ·simp only[hu,if_false];rfl
 have e1:(fun u=>((s.merge asm lr lo c a b).getR u).ev ρ)=((s.ev ρ).join lr lo (if(c.ev ρ).b=true then a.ev ρ else b.ev ρ)).r:=funext h1
 have e2:(fun u=>((s.merge asm lr lo c a b).getO u).ev ρ)=((s.ev ρ).join lr lo (if(c.ev ρ).b=true then a.ev ρ else b.ev ρ)).o:=funext h2
 show Env.mk _ _=_
 rw[e1,e2]
theorem Ik {T:bn}{asm:Asm}{ρ:Env}(ha:asm.ok ρ):∀{l:List PI} {s s':SE},rD l asm s=some s'→∀{K:Env→Prop},K (s'.ev ρ)→wpI T l (s.ev ρ) K
 |[],s,s',h,K,hk=>by simp only[rD,Option.some.injEq] at h;subst h;exact hk
 |.setR t e::l,s,s',h,K,hk=>by simp only[wpI];rw[←PE.sub_ev ha s e,←SE.setR_ev];exact Ik (l:=l) ha (show rD l asm _=some s' from h) hk
 |.setO t e::l,s,s',h,K,hk=>by simp only[wpI];rw[←PE.sub_ev ha s e,←SE.setO_ev];exact Ik (l:=l) ha (show rD l asm _=some s' from h) hk
 |.chk _::_,_,_,h,_,_=>by simp[rD] at h
 |.call ..::_,_,_,h,_,_=>by simp[rD] at h
 |.callc ..::_,_,_,h,_,_=>by simp[rD] at h
 |.mcall ..::_,_,_,h,_,_=>by simp[rD] at h
theorem abw {T:bn}{asm:Asm}{ρ:Env}(ha:asm.ok ρ):∀(c:PC) {s s':SE},plain c asm s=some s'→∀{Q:Out→Prop},Q (.next (s'.ev ρ))→EvP T c (s.ev ρ) Q:=by
 intro c
 induction c with
 |skip=>intro s s' h Q hq;simp only[plain,Option.some.injEq] at h;subst h;exact .skip hq
 |is l=>intro s s' h Q hq;exact .is (Ik ha h hq)
 |seq a b iha ihb=>
  intro s s' h Q hq
  simp only[plain,Option.bind_eq_some_iff] at h
  obtain⟨s1,h1,h2⟩:=h
  exact .seq (iha h1 (ihb h2 hq))
 |ite c lr lo a b iha ihb=>
  intro s s' h Q hq
  simp only[plain,Option.bind_eq_some_iff,Option.map_eq_some_iff] at h
  obtain⟨sa,h1,sb,h2,rfl⟩:=h
  rw[SE.merge_ev ha,PE.sub_ev ha] at hq
  refine .ite ?_
  split
  ·rename_i hc;rw[if_pos hc] at hq;exact iha h1 hq
  ·rename_i hc;rw[if_neg hc] at hq;exact ihb h2 hq
 |_=>intro s s' h;simp[plain] at h
theorem Zp {T:bn}:∀(c:PC) {asm:Asm} {s:SE} {k:Kn} {kx:Kx} {ρ:Env} {Q Q':Out→Prop},asm.ok ρ→aD T (sx c asm s k kx) ρ Q→
 (∀ρ' asm s,(da c=true→ρ'=ρ)→asm.ok ρ'→aD T (k asm s) ρ' Q→Q' (.next (s.ev ρ')))→
 (∀ρ' asm id s,(da c=true→ρ'=ρ)→asm.ok ρ'→aD T (kx asm id s) ρ' Q→Q' (.exit id (s.ev ρ')))→(da c=false→∀id ρ',Q (.exit id ρ')→Q' (.exit id ρ'))→(∀d,Q (.ret d)→Q' (.ret d))→EvP T c (s.ev ρ) Q':=by
 intro c
 have alone:∀(a:PC),(∀{asm:Asm} {s:SE} {k:Kn} {kx:Kx} {ρ:Env} {Q Q':Out→Prop},asm.ok ρ→aD T (sx a asm s k kx) ρ Q→
  (∀ρ' asm s,(da a=true→ρ'=ρ)→asm.ok ρ'→aD T (k asm s) ρ' Q→Q' (.next (s.ev ρ')))→
  (∀ρ' asm id s,(da a=true→ρ'=ρ)→asm.ok ρ'→aD T (kx asm id s) ρ' Q→Q' (.exit id (s.ev ρ')))→(da a=false→∀id ρ',Q (.exit id ρ')→Q' (.exit id ρ'))→(∀d,Q (.ret d)→Q' (.ret d))→EvP T a (s.ev ρ) Q')→
  ∀{ρ:Env} {Q:Out→Prop},aD T (sx a [] .id (fun _ s=>.next s) (fun _ id s=>.exit id s)) ρ Q→EvP T a ρ Q:=by
  intro a ih ρ Q h
  exact ih (s:=.id) (Asm.ok_nil _) h (fun ρ' asm s _ _ h=>h) (fun ρ' asm id s _ _ h=>h) (fun _ _ _ h=>h) (fun _ h=>h)
 induction c with
 |skip=>intro asm s k kx ρ Q Q' ha h hk _ _ _;exact .skip (hk ρ asm s (fun _=>rfl) ha h)
 |is l=>intro asm s k kx ρ Q Q' ha h hk _ _ _;exact .is (uU (K:=fun ρ'=>Q' (.next ρ')) ha h hk)
 |seq a b iha ihb=>
  intro asm s k kx ρ Q Q' ha h hk hx hxx hr
  refine .seq (iha ha h (Q':=td (fun ρ'=>EvP T b ρ' Q') Q') (fun ρ' asm s hp ha' h'=>?_) (fun ρ' asm id s hp ha' h'=>?_) (fun hp=>?_) hr)
  ·refine ihb ha' h' (fun ρ2 asm s hp2=>hk ρ2 asm s fun hl=>?_) (fun ρ2 asm id s hp2=>hx ρ2 asm id s fun hl=>?_) (fun hp2=>?_) hr
   ·simp only[da,Bool.and_eq_true] at hl;rw[hp2 hl.2,hp hl.1]
   ·simp only[da,Bool.and_eq_true] at hl;rw[hp2 hl.2,hp hl.1]
   ·exact hxx (by simp[da,hp2])
  ·exact hx ρ' asm id s (fun hl=>by simp only[da,Bool.and_eq_true] at hl;exact hp hl.1) ha' h'
  ·exact hxx (by simp[da,hp])
 |ite c lr lo a b iha ihb=>
  intro asm s k kx ρ Q Q' ha h hk hx hxx hr
  have hev:((c.sub' asm s).ev ρ).b=(c.ev (s.ev ρ)).b:=by rw[PE.sub_ev ha]
  have struct:(da a&&da b)=false→aD T (.iteS s (c.sub' asm s) lr lo (sx a [] .id (fun _ s=>.next s) (fun _ id s=>.exit id s)) (sx b [] .id (fun _ s=>.next s) (fun _ id s=>.exit id s)) (k [] .id)) ρ Q→EvP T (.ite c lr lo a b) (s.ev ρ) Q':=by
   intro hpure h
   have hnp:da (.ite c lr lo a b)=false:=hpure
   simp only[aD,hev] at h
   have conv:∀x,qw (s.ev ρ) lr lo (td (fun ρ'=>aD T (k [] .id) ρ' Q) Q) x→qw (s.ev ρ) lr lo Q' x:=by
      intro x hx'
      cases x with
      |next ρ'=>exact hk _ [] .id (fun hl=>by rw[hnp] at hl;cases hl) (Asm.ok_nil _) hx'
      |exit id ρ'=>exact hxx hnp id ρ' hx'
      |ret d=>exact hr d hx'
   refine .ite ?_
   split at h
   ·rename_i hc;rw[if_pos hc];exact(alone a iha h).mono conv
   ·rename_i hc;rw[if_neg hc];exact(alone b ihb h).mono conv
  have inA:∀asm',asm'.ok ρ→da a=true→aD T (sx a asm' s (fun asm s'=>k asm (s.join lr lo s')) kx) ρ Q→EvP T a (s.ev ρ) (qw (s.ev ρ) lr lo Q'):=by
   intro asm' ha' hpa h'
   refine iha ha' h' (fun ρ' asm s' hp ha'' h''=>?_) (fun ρ' asm id s' hp ha'' h''=>?_) (fun hp=>by rw[hpa] at hp;cases hp) hr
   ·have e:=hp hpa
    subst e
    show Q' (.next _)
    rw[←SE.join_ev]
    exact hk ρ' asm _ (fun _=>rfl) ha'' h''
   ·have e:=hp hpa
    subst e
    exact hx ρ' asm id s' (fun _=>rfl) ha'' h''
  have inB:∀asm',asm'.ok ρ→da b=true→aD T (sx b asm' s (fun asm s'=>k asm (s.join lr lo s')) kx) ρ Q→EvP T b (s.ev ρ) (qw (s.ev ρ) lr lo Q'):=by
   intro asm' ha' hpa h'
   refine ihb ha' h' (fun ρ' asm s' hp ha'' h''=>?_) (fun ρ' asm id s' hp ha'' h''=>?_) (fun hp=>by rw[hpa] at hp;cases hp) hr
   ·have e:=hp hpa
    subst e
    show Q' (.next _)
    rw[←SE.join_ev]
    exact hk ρ' asm _ (fun _=>rfl) ha'' h''
   ·have e:=hp hpa
    subst e
    exact hx ρ' asm id s' (fun _=>rfl) ha'' h''
  simp only[sx] at h
  split at h
  ·rename_i ht
   cases hpa:da a<;>simp only[hpa,cond_true,cond_false] at h
   ·exact struct (by simp[hpa]) h
   ·refine .ite ?_
    rw[if_pos (by rw[←hev];exact rM ha ht)]
    exact inA asm ha hpa h
  ·rename_i ht
   cases hpa:da b<;>simp only[hpa,cond_true,cond_false] at h
   ·exact struct (by simp[hpa]) h
   ·refine .ite ?_
    rw[if_neg (by rw[←hev,rM ha ht];simp)]
    exact inB asm ha hpa h
  ·split at h
   ·rename_i sa sb hsa hsb
    have hpl:plain (.ite c lr lo a b) asm s=some (s.merge asm lr lo (c.sub' asm s) sa sb):=by simp[plain,hsa,hsb]
    exact abw ha _ hpl (hk ρ asm _ (fun _=>rfl) ha h)
   cases hpa:(da a&&da b)<;>simp only[hpa,cond_true,cond_false] at h
   ·exact struct hpa h
   ·simp only[Bool.and_eq_true] at hpa
    simp only[aD] at h
    refine .ite ?_
    rw[←hev]
    split at h
    ·rename_i hc;rw[if_pos hc];exact inA _ (Asm.ok_cons ha hc) hpa.1 h
    ·rename_i hc;rw[if_neg hc];exact inB _ (Asm.ok_cons ha (by simpa using hc)) hpa.2 h
 |block id lr lo a iha=>
  intro asm s k kx ρ Q Q' ha h hk hx hxx hr
  simp only[sx] at h
  cases hpa:da a<;>simp only[hpa,cond_true,cond_false] at h
  ·have hnp:da (.block id lr lo a)=false:=hpa
   cases hl:ac7 a<;>simp only[hl,cond_true,cond_false] at h
   case true=>
        simp only[aD] at h
        refine EvP.mono h fun x hx'=>?_
        cases x with
        |next ρ'=>exact hk _ [] .id (fun hl=>by rw[hnp] at hl;cases hl) (Asm.ok_nil _) hx'
        |exit id ρ'=>exact hxx hnp id ρ' hx'
        |ret d=>exact hr d hx'
   simp only[aD] at h
   refine .block ((alone a iha h).mono fun x hx'=>?_)
   cases x with
   |next ρ'=>exact hk _ [] .id (fun hl=>by rw[hnp] at hl;cases hl) (Asm.ok_nil _) hx'
   |exit id' ρ'=>
    simp only[lf] at hx' ⊢
    split
    ·rename_i e;rw[if_pos e] at hx';exact hk _ [] .id (fun hl=>by rw[hnp] at hl;cases hl) (Asm.ok_nil _) hx'
    ·rename_i e;rw[if_neg e] at hx';exact hxx hnp id' ρ' hx'
   |ret d=>exact hr d hx'
  ·refine .block (iha ha h (fun ρ' asm s' hp ha'' h''=>?_) (fun ρ' asm id' s' hp ha'' h''=>?_) (fun hp=>by rw[hpa] at hp;cases hp) hr)
   ·have e:=hp hpa
    subst e
    show Q' (.next _)
    rw[←SE.join_ev]
    exact hk ρ' asm _ (fun _=>rfl) ha'' h''
   ·have e:=hp hpa
    subst e
    simp only[lf]
    by_cases hid:id'=id
    ·subst hid
     simp only[Nat.beq_refl,cond_true] at h''
     rw[if_pos rfl,←SE.join_ev]
     exact hk ρ' asm _ (fun _=>rfl) ha'' h''
    ·rw[bU hid,cond_false] at h''
     rw[if_neg hid]
     exact hx ρ' asm id' s' (fun _=>rfl) ha'' h''
 |loop lr lo a iha=>
  intro asm s k kx ρ Q Q' ha h hk hx hxx hr
  simp only[sx,aD] at h
  refine EvP.mono h fun x hx'=>?_
  cases x with
  |next ρ'=>exact hk _ [] .id (fun hl=>by cases hl) (Asm.ok_nil _) hx'
  |exit id ρ'=>exact hxx rfl id ρ' hx'
  |ret d=>exact hr d hx'
 |each e ps lo rt a iha=>
  intro asm s k kx ρ Q Q' ha h hk hx hxx hr
  simp only[sx,aD] at h
  refine EvP.mono h fun x hx'=>?_
  cases x with
  |next ρ'=>exact hk _ [] .id (fun hl=>by cases hl) (Asm.ok_nil _) hx'
  |exit id ρ'=>exact hxx rfl id ρ' hx'
  |ret d=>exact hr d hx'
 |meach J ps sel lo a iha=>
  intro asm s k kx ρ Q Q' ha h hk hx hxx hr
  simp only[sx,aD] at h
  refine EvP.mono h fun x hx'=>?_
  cases x with
  |next ρ'=>exact hk _ [] .id (fun hl=>by cases hl) (Asm.ok_nil _) hx'
  |exit id ρ'=>exact hxx rfl id ρ' hx'
  |ret d=>exact hr d hx'
 |exit id=>intro asm s k kx ρ Q Q' ha h _ hx _ _;exact .exit (hx ρ asm id s (fun _=>rfl) ha h)
 |ret e=>
  intro asm s k kx ρ Q Q' ha h _ _ _ hr
  simp only[sx,aD] at h
  refine .ret (hr _ ?_)
  rw[PE.sub_ev ha] at h;exact h
def Lk.un (a b:Lk):Lk:=⟨Nat.lor a.r b.r,fy a.o b.o⟩
def bits (l:List Nat):Nat:=l.foldr (fun t m=>Nat.lor (jH t) m) 0
theorem Pm {l:List Nat}{t:Nat}(h:t∈l):az (bits l) t=true:=by
 induction l with
 |nil=>cases h
 |cons x l ih=>
  show az (Nat.lor (jH x) (bits l)) t=true
  rw[bj]
  rcases List.mem_cons.1 h with e|h
  ·subst e;rw[fY];rfl
  ·rw[ih h,Bool.or_true]
theorem unionL_mem:∀{a b:List Nat} {x:Nat},x∈fy a b↔x∈a∨x∈b
 |[],b,x=>by simp[fy]
 |y::a,b,x=>by
  have ih:=unionL_mem (a:=a) (b:=bif oB b y then b else y::b) (x:=x)
  show x∈fy a _↔_
  rw[ih]
  cases hb:oB b y with
  |true=>simp only[cond_true,List.mem_cons];have:=(lg b y).1 hb;constructor
         ·rintro(h|h);exact .inl (.inr h);exact .inr h
         ·rintro((rfl|h)|h);exact .inr this;exact .inl h;exact .inr h
  |false=>simp only[cond_false,List.mem_cons];constructor
          ·rintro(h|h|h);exact .inl (.inr h);exact .inl (.inl h);exact .inr h
          ·rintro((h|h)|h);exact .inr (.inl h);exact .inl h;exact .inr (.inr h)
def Lk.Le (a K:Lk):Prop:=(∀t,az a.r t=true→az K.r t=true)∧∀j,j∈a.o→j∈K.o
theorem Lk.le_l (a b:Lk):a.Le (a.un b):=⟨fun t h=>by simp only[Lk.un,bj,h,Bool.true_or],fun j h=>unionL_mem.2 (.inl h)⟩
theorem Lk.le_r (a b:Lk):b.Le (a.un b):=⟨fun t h=>by simp only[Lk.un,bj,h,Bool.or_true],fun j h=>unionL_mem.2 (.inr h)⟩
theorem Lk.Le.trans {a b c:Lk}(h:a.Le b)(k:b.Le c):a.Le c:=⟨fun t ht=>k.1 t (h.1 t ht),fun j hj=>k.2 j (h.2 j hj)⟩
theorem Alike.le {a K:Lk}{ρ ρ':Env}(h:Alike K ρ ρ')(k:a.Le K):Alike a ρ ρ':=⟨fun t ht=>h.r t (k.1 t ht),fun j hj=>h.o j (k.2 j hj)⟩
theorem Lk.Le.of_un {a b K:Lk}(h:(a.un b).Le K):a.Le K∧b.Le K:=⟨(Lk.le_l a b).trans h,(Lk.le_r a b).trans h⟩
theorem Alike.setR {K:Lk}{ρ ρ':Env}(h:Alike K ρ ρ')(t:Nat)(d:D):Alike K (ρ.setR t d) (ρ'.setR t d):=⟨fun u hu=>by rw[Env.setR_r,Env.setR_r];split;rfl;exact h.r u hu,h.o⟩
theorem Alike.setO {K:Lk}{ρ ρ':Env}(h:Alike K ρ ρ')(t:Nat)(d:D):Alike K (ρ.setO t d) (ρ'.setO t d):=⟨h.r,fun u hu=>by rw[Env.setO_o,Env.setO_o];split;rfl;exact h.o u hu⟩
theorem Alike.join {K:Lk}{ρ ρ' η η':Env}(h:Alike K ρ ρ')(k:Alike K η η')(lr lo:List Nat):Alike K (ρ.join lr lo η) (ρ'.join lr lo η'):=
 ⟨fun u hu=>by rw[Env.join_r,Env.join_r];split;exact k.r u hu;exact h.r u hu,fun u hu=>by rw[Env.join_o,Env.join_o];split;exact k.o u hu;exact h.o u hu⟩
theorem Eg {f g:Nat→D}{u:Nat}(h:g u=f u):∀(ts:List Nat) (xs:List D),putL g ts xs u=putL f ts xs u
 |[],xs=>by rw[EI,EI];exact h
 |t::ts,[]=>by simp only[putL];exact h
 |t::ts,x::xs=>by rw[A5,A5];split;rfl;exact Eg h ts xs
theorem Alike.put {K:Lk}{ρ ρ':Env}(h:Alike K ρ ρ')(lr lo:List Nat)(vr vo:List D):Alike K (ρ.put lr vr lo vo) (ρ'.put lr vr lo vo):=⟨fun u hu=>Eg (h.r u hu) lr vr,fun u hu=>Eg (h.o u hu) lo vo⟩
def PI.lkw:PI→Lk
 |.setR t e=>e.lk.un ⟨jH t,[]⟩
 |.setO j e=>e.lk.un ⟨0,[j]⟩
 |.chk e=>e.lk
 |.call gs dst f as=>(PI.call gs dst f as).lk.un ⟨jH dst,[]⟩
 |.callc gs dst e as=>(PI.callc gs dst e as).lk.un ⟨jH dst,[]⟩
 |.mcall j f as=>(PI.mcall j f as).lk.un ⟨0,[j]⟩
def PC.lk:PC→Lk
 |.skip=>.none
 |.exit _=>.none
 |.is l=>l.foldr (fun p k=>p.lkw.un k) .none
 |.seq a b=>(PC.lk a).un (PC.lk b)
 |.ite c _ _ a b=>c.lk.un ((PC.lk a).un (PC.lk b))
 |.block _ _ _ a=>PC.lk a
 |.loop lr lo a=>(⟨bits lr,lo⟩:Lk).un (PC.lk a)
 |.ret e=>e.lk
 |.each e _ lo rt a=>e.lk.un ((match rt with|some e=>e.lk|none=>.none).un ((⟨0,lo⟩:Lk).un (PC.lk a)))
 |.meach J _ _ lo a=>(⟨0,J::lo⟩:Lk).un (PC.lk a)
structure Off (K:Lk) (b η η':Env):Prop where
 al:Alike K η η'
 r:∀t,az K.r t=false→η'.r t=b.r t
 o:∀j,j∉K.o→η'.o j=b.o j
def OffO (K:Lk)(b:Env):Out→Out→Prop
 |.next η,x=>∃η',x=.next η'∧Off K b η η'
 |.exit i η,x=>∃η',x=.exit i η'∧Off K b η η'
 |.ret d,x=>x=.ret d
theorem Off.uniq {K:Lk}{b η η' η2:Env}(h:Off K b η η')(k:Off K b η η2):η2=η':=by
 have h1:∀t,η2.r t=η'.r t:=fun t=>by
  cases hb:az K.r t with
  |true=>rw[k.al.r t hb,h.al.r t hb]
  |false=>rw[k.r t hb,h.r t hb]
 have h2:∀t,η2.o t=η'.o t:=fun t=>by
  by_cases hb:t∈K.o
  ·rw[k.al.o t hb,h.al.o t hb]
  ·rw[k.o t hb,h.o t hb]
 cases η2;cases η'
 congr
 ·exact funext h1
 ·exact funext h2
theorem OffO.uniq {K:Lk}{b:Env}{x y z:Out}(h:OffO K b x y)(k:OffO K b x z):z=y:=by
 cases x with
 |next η=>obtain⟨a,rfl,h⟩:=h;obtain⟨c,rfl,k⟩:=k;rw[h.uniq k]
 |exit i η=>obtain⟨a,rfl,h⟩:=h;obtain⟨c,rfl,k⟩:=k;rw[h.uniq k]
 |ret d=>rw[h,k]
theorem Off.setR {K:Lk}{b η η':Env}(h:Off K b η η'){t:Nat}(ht:az K.r t=true)(d:D):Off K b (η.setR t d) (η'.setR t d):=
 ⟨h.al.setR t d,fun u hu=>by rw[Env.setR_r,if_neg (fun e=>by rw[e,ht] at hu;cases hu)];exact h.r u hu,h.o⟩
theorem Off.setO {K:Lk}{b η η':Env}(h:Off K b η η'){t:Nat}(ht:t∈K.o)(d:D):Off K b (η.setO t d) (η'.setO t d):=
 ⟨h.al.setO t d,h.r,fun u hu=>by rw[Env.setO_o,if_neg (fun e=>hu (by rw[e];exact ht))];exact h.o u hu⟩
theorem Off.join {K:Lk}{b η η' ζ ζ':Env}(h:Off K b η η')(k:Off K b ζ ζ')(lr lo:List Nat):Off K b (η.join lr lo ζ) (η'.join lr lo ζ'):=
 ⟨h.al.join k.al lr lo,fun u hu=>by rw[Env.join_r];split;exact k.r u hu;exact h.r u hu,fun u hu=>by rw[Env.join_o];split;exact k.o u hu;exact h.o u hu⟩
theorem NR {f:Nat→D}{b:D}{u:Nat}(h:f u=b):∀(ts:List Nat) (xs:List D),u∉ts→putL f ts xs u=b
 |[],xs,_=>by rw[EI];exact h
 |t::ts,[],_=>by simp only[putL];exact h
 |t::ts,x::xs,hu=>by rw[A5,if_neg (fun e=>hu (by simp[e]))];exact NR h ts xs (fun e=>hu (by simp[e]))
theorem Off.put {K:Lk}{b η η':Env}(h:Off K b η η'){lr lo:List Nat}(hr:∀t,t∈lr→az K.r t=true)(ho:∀t,t∈lo→t∈K.o)(vr vo:List D):Off K b (η.put lr vr lo vo) (η'.put lr vr lo vo):=
 ⟨h.al.put lr lo vr vo,fun u hu=>NR (h.r u hu) lr vr (fun e=>by rw[hr u e] at hu;cases hu),fun u hu=>NR (h.o u hu) lo vo (fun e=>hu (ho u e))⟩
theorem PI.run_off {Φ:aK}{K:Lk}{b ρ ρ' η:Env}{p:PI}(hp:p.lkw.Le K)(h:Off K b ρ ρ')(hr:p.run Φ ρ=some η):∃η',p.run Φ ρ'=some η'∧Off K b η η':=by
 have hlk:p.lk.Le K:=by cases p<;>first|exact hp|exact hp.of_un.1
 rw[PI.run_eff,PI.eff_alike p (h.al.le hlk)]
 rw[PI.run_eff] at hr
 cases he:p.eff Φ ρ with
 |none=>rw[he] at hr;cases hr
 |some x=>
  rw[he] at hr
  simp only[Option.map_some,Option.some.injEq] at hr
  subst hr
  refine⟨_,rfl,?_⟩
  have hb:∀{t:Nat} {a:Lk},(a.un ⟨jH t,[]⟩).Le K→az K.r t=true:=fun h=>h.of_un.2.1 _ (fY _)
  have ho:∀{t:Nat} {a:Lk},(a.un ⟨0,[t]⟩).Le K→t∈K.o:=fun h=>h.of_un.2.2 _ (by simp)
  cases p with
  |setR t e=>simp only[PI.eff,Option.some.injEq] at he;subst he;exact h.setR (hb hp) _
  |setO t e=>simp only[PI.eff,Option.some.injEq] at he;subst he;exact h.setO (ho hp) _
  |chk e=>simp only[PI.eff] at he;cases hbb:(e.ev ρ).b<;>rw[hbb] at he<;>cases he;exact h
  |call gs d f as=>
   simp only[PI.eff] at he
   cases hbb:holds gs ρ<;>simp only[hbb,cond_true,cond_false,Option.some.injEq,Option.map_eq_some_iff] at he
   ·subst he;exact h
   ·obtain⟨y,_,rfl⟩:=he;exact h.setR (hb hp) _
  |callc gs d e as=>
   simp only[PI.eff] at he
   cases hbb:holds gs ρ<;>simp only[hbb,cond_true,cond_false,Option.some.injEq] at he
   ·subst he;exact h
   ·split at he
    ·simp only[Option.map_eq_some_iff] at he;obtain⟨y,_,rfl⟩:=he;exact h.setR (hb hp) _
    ·cases he
  |mcall j f as=>simp only[PI.eff,Option.map_eq_some_iff] at he;obtain⟨y,_,rfl⟩:=he;exact h.setO (ho hp) _
theorem PI.runs_off {Φ:aK}{K:Lk}{b:Env}:∀{l:List PI} {ρ ρ' η:Env},(l.foldr (fun p k=>p.lkw.un k) Lk.none).Le K→Off K b ρ ρ'→PI.runs Φ l ρ=some η→∃η',PI.runs Φ l ρ'=some η'∧Off K b η η'
 |[],ρ,ρ',η,_,h,hr=>by simp only[PI.runs,Option.some.injEq] at hr ⊢;subst hr;exact⟨_,rfl,h⟩
 |p::l,ρ,ρ',η,hl,h,hr=>by
  simp only[PI.runs,Option.bind_eq_some_iff] at hr
  obtain⟨ρ1,h1,h2⟩:=hr
  obtain⟨ρ2,h3,h4⟩:=PI.run_off hl.of_un.1 h h1
  obtain⟨η',h5,h6⟩:=PI.runs_off (l:=l) hl.of_un.2 h4 h2
  exact⟨η',by simp only[PI.runs,h3,Option.bind_some,h5],h6⟩
theorem wy {K:Lk}{b η η':Env}(h:Off K b η η'){lo:List Nat}(ho:∀t,t∈lo→t∈K.o):lo.map η'.o=lo.map η.o:=List.map_congr_left fun t ht=>h.al.o t (ho t ht)
theorem Wc {K:Lk}{b η η':Env}(h:Off K b η η'){lr:List Nat}(hr:∀t,t∈lr→az K.r t=true):lr.map η'.r=lr.map η.r:=List.map_congr_left fun t ht=>h.al.r t (hr t ht)
theorem PC.ev_off {Φ:aK}{n:Nat}{K:Lk}:∀(c:PC),c.lk.Le K→∀{b ρ ρ':Env} {x:Out},Off K b ρ ρ'→c.ev Φ n ρ=some x→∃x',c.ev Φ n ρ'=some x'∧OffO K b x x':=by
 intro c
 induction c with
 |skip=>intro _ b ρ ρ' x h hr;simp only[PC.ev,Option.some.injEq] at hr ⊢;subst hr;exact⟨_,rfl,_,rfl,h⟩
 |exit id=>intro _ b ρ ρ' x h hr;simp only[PC.ev,Option.some.injEq] at hr ⊢;subst hr;exact⟨_,rfl,_,rfl,h⟩
 |ret e=>intro hk B ρ ρ' x h hr;simp only[PC.ev,Option.some.injEq] at hr ⊢;subst hr;exact⟨_,rfl,by rw[PE.ev_alike e (h.al.le hk)];rfl⟩
 |is l=>
  intro hk B ρ ρ' x h hr
  simp only[PC.ev,Option.map_eq_some_iff] at hr
  obtain⟨η,h1,rfl⟩:=hr
  obtain⟨η',h2,h3⟩:=PI.runs_off hk h h1
  exact⟨.next η',by simp only[PC.ev,h2,Option.map_some],η',rfl,h3⟩
 |seq a b iha ihb=>
  intro hk B ρ ρ' x h hr
  simp only[PC.ev] at hr ⊢
  cases ha:a.ev Φ n ρ with
  |none=>rw[ha] at hr;cases hr
  |some y=>
   obtain⟨y',h1,h2⟩:=iha hk.of_un.1 h ha
   rw[ha] at hr
   rw[h1]
   cases y with
   |next η=>obtain⟨η',rfl,h3⟩:=h2;exact ihb hk.of_un.2 h3 hr
   |exit i η=>obtain⟨η',rfl,h3⟩:=h2;cases hr;exact⟨_,rfl,η',rfl,h3⟩
   |ret d=>cases h2;cases hr;exact⟨_,rfl,rfl⟩
 |ite c lr lo a b iha ihb=>
  intro hk B ρ ρ' x h hr
  have hc:(c.ev ρ').b=(c.ev ρ).b:=by rw[PE.ev_alike c (h.al.le hk.of_un.1)]
  have key:∀(d:PC),(∀{ρ ρ':Env} {x:Out},Off K B ρ ρ'→d.ev Φ n ρ=some x→∃x',d.ev Φ n ρ'=some x'∧OffO K B x x')→(match d.ev Φ n ρ with|some (.next η)=>some (.next (ρ.join lr lo η))|x=>x)=some x→
      ∃x',(match d.ev Φ n ρ' with|some (.next η)=>some (.next (ρ'.join lr lo η))|x=>x)=some x'∧OffO K B x x':=by
   intro d ih hr
   cases ha:d.ev Φ n ρ with
   |none=>rw[ha] at hr;cases hr
   |some y=>
    obtain⟨y',h1,h2⟩:=ih h ha
    rw[ha] at hr
    rw[h1]
    cases y with
    |next η=>obtain⟨η',rfl,h3⟩:=h2;cases hr;exact⟨_,rfl,_,rfl,h.join h3 lr lo⟩
    |exit i η=>obtain⟨η',rfl,h3⟩:=h2;cases hr;exact⟨_,rfl,η',rfl,h3⟩
    |ret d=>cases h2;cases hr;exact⟨_,rfl,rfl⟩
  simp only[PC.ev,hc] at hr ⊢
  cases hcc:(c.ev ρ).b<;>simp only[hcc,cond_true,cond_false] at hr ⊢
  ·exact key b (fun h1 h2=>ihb hk.of_un.2.of_un.2 h1 h2) hr
  ·exact key a (fun h1 h2=>iha hk.of_un.2.of_un.1 h1 h2) hr
 |block id lr lo a iha=>
  intro hk B ρ ρ' x h hr
  simp only[PC.ev] at hr ⊢
  cases ha:a.ev Φ n ρ with
  |none=>rw[ha] at hr;cases hr
  |some y=>
   obtain⟨y',h1,h2⟩:=iha hk h ha
   rw[ha] at hr
   rw[h1]
   cases y with
   |next η=>obtain⟨η',rfl,h3⟩:=h2;cases hr;exact⟨_,rfl,_,rfl,h.join h3 lr lo⟩
   |exit i η=>
    obtain⟨η',rfl,h3⟩:=h2
    simp only at hr ⊢
    cases hb:Nat.beq i id<;>simp only[hb,cond_true,cond_false] at hr ⊢<;>cases hr
    ·exact⟨_,rfl,η',rfl,h3⟩
    ·exact⟨_,rfl,_,rfl,h.join h3 lr lo⟩
   |ret d=>cases h2;cases hr;exact⟨_,rfl,rfl⟩
 |loop lr lo a iha=>
  intro hk B ρ ρ' x h hr
  have hr1:∀t,t∈lr→az K.r t=true:=fun t ht=>hk.of_un.1.1 t (Pm ht)
  have ho1:∀t,t∈lo→t∈K.o:=fun t ht=>hk.of_un.1.2 t ht
  have key:∀(m:Nat) (vr vo:List D),jy (a.ev Φ n) ρ lr lo m vr vo=some x→∃x',jy (a.ev Φ n) ρ' lr lo m vr vo=some x'∧OffO K B x x':=by
   intro m
   induction m with
   |zero=>intro vr vo h;simp[jy] at h
   |succ m ihm=>
    intro vr vo hr
    simp only[jy] at hr ⊢
    cases ha:a.ev Φ n (ρ.put lr vr lo vo) with
    |none=>rw[ha] at hr;cases hr
    |some y=>
     obtain⟨y',h1,h2⟩:=iha hk.of_un.2 (h.put hr1 ho1 vr vo) ha
     rw[ha] at hr
     rw[h1]
     cases y with
     |next η=>obtain⟨η',rfl,h3⟩:=h2;simp only[wy h3 ho1,Wc h3 hr1];exact ihm _ _ hr
     |exit i η=>obtain⟨η',rfl,h3⟩:=h2;cases hr;exact⟨_,rfl,η',rfl,h3⟩
     |ret d=>cases h2;cases hr;exact⟨_,rfl,rfl⟩
  simp only[PC.ev] at hr ⊢
  rw[wy h ho1,Wc h hr1]
  exact key n _ _ hr
 |each e ps lo rt a iha=>
  intro hk B ρ ρ' x h hr
  obtain⟨hk1,hk2⟩:=hk.of_un
  obtain⟨hk2,hk3⟩:=hk2.of_un
  obtain⟨hk3,hk4⟩:=hk3.of_un
  have ho1:∀t,t∈lo→t∈K.o:=fun t ht=>hk3.2 t ht
  have key:∀(xs vo:List D),kQ (a.ev Φ n) ρ ps lo rt xs vo=some x→∃x',kQ (a.ev Φ n) ρ' ps lo rt xs vo=some x'∧OffO K B x x':=by
   intro xs
   induction xs with
   |nil=>intro vo hr;simp only[kQ,Option.some.injEq] at hr ⊢;subst hr;exact⟨_,rfl,_,rfl,h.put (fun _ h=>by cases h) ho1 _ _⟩
   |cons y xs ihx=>
    intro vo hr
    simp only[kQ] at hr ⊢
    cases ha:a.ev Φ n (ρ.put ps (partsOf ps y) lo vo) with
    |none=>rw[ha] at hr;cases hr
    |some z=>
     have hoff:Off K (ρ'.put ps (partsOf ps y) lo vo) (ρ.put ps (partsOf ps y) lo vo) (ρ'.put ps (partsOf ps y) lo vo):=⟨h.al.put ps lo _ _,fun _ _=>rfl,fun _ _=>rfl⟩
     obtain⟨z',h1,h2⟩:=iha hk4 hoff ha
     rw[ha] at hr
     rw[h1]
     cases z with
     |next η=>obtain⟨η',rfl,h3⟩:=h2;simp only[wy h3 ho1];exact ihx _ hr
     |exit i η=>
      obtain⟨η',rfl,h3⟩:=h2
      simp only[wy h3 ho1] at hr ⊢
      have hp:=h.put (lr:=[]) (fun _ h=>by cases h) ho1 [] (lo.map η.o)
      cases hb:Nat.beq i bq<;>simp only[hb,cond_true,cond_false] at hr ⊢
      ·cases hr;exact⟨_,rfl,_,rfl,hp⟩
      ·cases rt with
       |none=>cases hr
       |some e2=>cases hr;exact⟨_,rfl,by show Out.ret _=Out.ret _;rw[PE.ev_alike e2 (hp.al.le hk2)]⟩
     |ret d=>cases hr
  simp only[PC.ev] at hr ⊢
  rw[PE.ev_alike e (h.al.le hk1),wy h ho1]
  exact key _ _ hr
 |meach J ps sel lo a iha=>
  intro hk B ρ ρ' x h hr
  obtain⟨hk3,hk4⟩:=hk.of_un
  have ho1:∀t,t∈lo→t∈K.o:=fun t ht=>hk3.2 t (List.mem_cons_of_mem _ ht)
  have hJ:ρ'.o J=ρ.o J:=h.al.o J (hk3.2 J (List.mem_cons_self ..))
  have key:∀(es:D) (xs done vo vo':List D),xJ (a.ev Φ n) ρ J es ps sel lo xs done vo=some vo'→xJ (a.ev Φ n) ρ' J es ps sel lo xs done vo=some vo':=by
   intro es xs
   induction xs with
   |nil=>intro done vo vo' h;exact h
   |cons y xs ihx=>
    intro done vo vo' hr
    simp only[xJ] at hr ⊢
    cases ha:a.ev Φ n ((ρ.put ps (sel.map y.tget) lo vo).setO J (.tup [.list (done++[y]),es])) with
    |none=>rw[ha] at hr;cases hr
    |some z=>
     have hoff:Off K ((ρ'.put ps (sel.map y.tget) lo vo).setO J (.tup [.list (done++[y]),es])) ((ρ.put ps (sel.map y.tget) lo vo).setO J (.tup [.list (done++[y]),es])) ((ρ'.put ps (sel.map y.tget) lo vo).setO J (.tup [.list (done++[y]),es])):=
          ⟨(h.al.put ps lo _ _).setO J _,fun _ _=>rfl,fun _ _=>rfl⟩
     obtain⟨z',h1,h2⟩:=iha hk4 hoff ha
     rw[ha] at hr
     rw[h1]
     cases z with
     |next η=>obtain⟨η',rfl,h3⟩:=h2;simp only[wy h3 ho1];exact ihx _ _ _ hr
     |exit i η=>cases hr
     |ret d=>cases hr
  simp only[PC.ev,permR_some] at hr
  obtain⟨vo,⟨h1,h2⟩,rfl⟩:=hr
  refine⟨.next (ρ'.put [] [] lo vo),?_,_,rfl,h.put (fun _ h=>by cases h) ho1 _ _⟩
  simp only[PC.ev,permR_some]
  refine⟨vo,⟨by rw[hJ];exact h1,fun ys hy=>?_⟩,rfl⟩
  rw[hJ] at hy ⊢
  rw[wy h ho1]
  exact key _ _ _ _ _ (h2 ys hy)
def LU:List Nat→PC→Bool
 |l,.exit id=>oB l id
 |l,.seq a b=>LU l a&&LU l b
 |l,.ite _ _ _ a b=>LU l a&&LU l b
 |l,.block id _ _ a=>LU (id::l) a
 |l,.loop _ _ a=>LU l a
 |l,.each _ _ _ _ a=>LU (bq::l) a
 |_,_=>true
theorem ady {Φ:aK}{n:Nat}:∀(c:PC) {l:List Nat},LU l c=true→∀{ρ:Env} {i:Nat} {η:Env},c.ev Φ n ρ=some (.exit i η)→i∈l:=by
 intro c
 induction c with
 |skip=>intro l _ ρ i η h;simp[PC.ev] at h
 |exit id=>intro l hl ρ i η h;simp only[PC.ev,Option.some.injEq] at h;injection h with h1 h2;subst h1;exact(lg _ _).1 hl
 |ret e=>intro l _ ρ i η h;simp[PC.ev] at h
 |is _=>intro l _ ρ i η h;simp[PC.ev] at h
 |seq a b iha ihb=>
  intro l hl ρ i η h
  simp only[LU,Bool.and_eq_true] at hl
  simp only[PC.ev] at h
  split at h
  ·exact ihb hl.2 h
  ·exact iha hl.1 h
 |ite c lr lo a b iha ihb=>
  intro l hl ρ i η h
  simp only[LU,Bool.and_eq_true] at hl
  simp only[PC.ev] at h
  cases hc:(c.ev ρ).b<;>simp only[hc,cond_true,cond_false] at h
  ·split at h
   ·cases h
   ·exact ihb hl.2 h
  ·split at h
   ·cases h
   ·exact iha hl.1 h
 |block id lr lo a iha=>
  intro l hl ρ i η h
  simp only[PC.ev] at h
  split at h
  ·cases h
  ·rename_i id' ρ2 ha
   cases hb:Nat.beq id' id<;>simp only[hb,cond_true,cond_false] at h<;>cases h
   rcases List.mem_cons.1 (iha hl ha) with e|e
   ·subst e;rw[Nat.beq_refl] at hb;cases hb
   ·exact e
  ·rename_i h1 h2
   exact absurd h (h2 _ _)
 |loop lr lo a iha=>
  intro l hl ρ i η h
  have key:∀(m:Nat) (vr vo:List D),jy (a.ev Φ n) ρ lr lo m vr vo=some (.exit i η)→i∈l:=by
   intro m
   induction m with
   |zero=>intro vr vo h;simp[jy] at h
   |succ m ihm=>
    intro vr vo h
    simp only[jy] at h
    split at h
    ·exact ihm _ _ h
    ·exact iha hl h
  exact key _ _ _ h
 |each e ps lo rt a iha=>
  intro l hl ρ i η h
  have key:∀(xs vo:List D),kQ (a.ev Φ n) ρ ps lo rt xs vo=some (.exit i η)→i∈l:=by
   intro xs
   induction xs with
   |nil=>intro vo h;simp[kQ] at h
   |cons x xs ihx=>
    intro vo h
    simp only[kQ] at h
    split at h
    ·exact ihx _ h
    ·rename_i id' ρ2 ha
     cases hb:Nat.beq id' bq<;>simp only[hb,cond_true,cond_false] at h
     ·injection h with h;injection h with h1 h2;subst h1
      rcases List.mem_cons.1 (iha hl ha) with e|e
      ·subst e;rw[Nat.beq_refl] at hb;cases hb
      ·exact e
     ·cases rt<;>simp at h
    ·cases h
  exact key _ _ h
 |meach J ps sel lo a _=>
  intro l _ ρ i η h
  simp only[PC.ev,permR_some] at h
  obtain⟨vo,_,h⟩:=h
  cases h
def ahU (t:Nat):PE→Bool
 |.r u=>Nat.beq u t
 |_=>false
def ad3 (t:Nat):PE→Bool
 |.o u=>Nat.beq u t
 |_=>false
def fk (idB:Nat→PE→Bool)(p:Nat→Bool):List Nat→List (Nat×PE)→List (Nat×PE)
 |_,[]=>[]
 |seen,x::l=>bif p x.1&& !oB seen x.1 then(bif idB x.1 x.2 then fk idB p (x.1::seen) l else x::fk idB p (x.1::seen) l) else fk idB p seen l
theorem MW {idB:Nat→PE→Bool}{p:Nat→Bool}:∀{l:List (Nat×PE)} {seen:List Nat} {t:Nat},oB seen t=true→aa (fk idB p seen l) t=none
 |[],_,_,_=>rfl
 |x::l,seen,t,h=>by
  have h':oB (x.1::seen) t=true:=by rw[lg] at h ⊢;exact List.mem_cons_of_mem _ h
  simp only[fk]
  cases hb:(p x.1&& !oB seen x.1) with
  |false=>exact MW h
  |true=>
   simp only[cond_true]
   cases idB x.1 x.2 with
   |true=>exact MW h'
   |false=>
    simp only[cond_false,aa]
    have:Nat.beq x.1 t=false:=by
      cases e:Nat.beq x.1 t with
      |false=>rfl
      |true=>rw[fC e,h] at hb;simp at hb
    rw[this];exact MW h'
theorem GF {idB:Nat→PE→Bool}{p:Nat→Bool}{dflt:Nat→PE}(hid:∀t e,idB t e=true→e=dflt t):∀{l:List (Nat×PE)} {seen:List Nat} {t:Nat},p t=true→oB seen t=false→
 (match aa (fk idB p seen l) t with|some e=>e|none=>dflt t)=(match aa l t with|some e=>e|none=>dflt t)
 |[],_,_,_,_=>rfl
 |x::l,seen,t,hp,hs=>by
  simp only[fk,aa]
  cases e:Nat.beq x.1 t with
  |true=>
   have e':=fC e
   rw[e',hp,hs]
   simp only[Bool.not_false,Bool.and_self,cond_true]
   cases hi:idB t x.2 with
   |true=>simp only[cond_true];rw[MW (by rw[lg];exact List.mem_cons_self ..)];exact(hid _ _ hi).symm
   |false=>simp only[cond_false,aa,e,cond_true]
  |false=>
   simp only[cond_false]
   cases hb:(p x.1&& !oB seen x.1) with
   |false=>exact GF hid hp hs
   |true=>
    have hs':oB (x.1::seen) t=false:=by
      cases hm:oB (x.1::seen) t with
      |false=>rfl
      |true=>
       rcases List.mem_cons.1 ((lg _ _).1 hm) with h|h
       ·rw[h,Nat.beq_refl] at e;cases e
       ·rw[(lg _ _).2 h] at hs;cases hs
    simp only[cond_true]
    cases idB x.1 x.2 with
    |true=>exact GF hid hp hs'
    |false=>simp only[cond_false,aa,e];exact GF hid hp hs'
def SE.cut (s:SE)(k:Lk):SE:=⟨fk ahU (az k.r) [] s.r,fk ad3 (oB k.o) [] s.o⟩
def lkL (l:List (Nat×PE)):Lk:=l.foldr (fun x k=>x.2.lk.un k) .none
def SE.lks (s:SE):Lk:=(lkL s.r).un (lkL s.o)
theorem X4:∀{l:List (Nat×PE)} {t:Nat} {e:PE},aa l t=some e→e.lk.Le (lkL l)
 |[],_,_,h=>by cases h
 |x::l,t,e,h=>by
  simp only[aa] at h
  cases hb:Nat.beq x.1 t<;>simp only[hb,cond_true,cond_false] at h
  ·exact(X4 h).trans (Lk.le_r _ _)
  ·cases h;exact Lk.le_l _ _
theorem SE.cut_al {s:SE}{L:Lk}{ρ1 ρ2:Env}(h:Alike (L.un (s.cut L).lks) ρ1 ρ2):Alike L ((s.cut L).ev ρ1) (s.ev ρ2):=by
 have hL:=h.le (Lk.le_l _ _)
 have hs:=h.le (Lk.le_r _ _)
 constructor
 ·intro t ht
  show(s.getR t).ev ρ2=((s.cut L).getR t).ev ρ1
  have e:(s.cut L).getR t=s.getR t:=GF (dflt:=.r) (fun t e he=>by unfold ahU at he;split at he;rw[fC he];cases he) ht rfl
  rw[←e]
  cases hl:aa (s.cut L).r t with
  |none=>have:(s.cut L).getR t=.r t:=by unfold SE.getR;rw[hl]
         rw[this];exact hL.r t ht
  |some x=>have:(s.cut L).getR t=x:=by unfold SE.getR;rw[hl]
           rw[this];exact PE.ev_alike x (hs.le ((X4 hl).trans (Lk.le_l _ _)))
 ·intro t ht
  show(s.getO t).ev ρ2=((s.cut L).getO t).ev ρ1
  have e:(s.cut L).getO t=s.getO t:=GF (dflt:=.o) (fun t e he=>by unfold ad3 at he;split at he;rw[fC he];cases he) ((lg _ _).2 ht) rfl
  rw[←e]
  cases hl:aa (s.cut L).o t with
  |none=>have:(s.cut L).getO t=.o t:=by unfold SE.getO;rw[hl]
         rw[this];exact hL.o t ht
  |some x=>have:(s.cut L).getO t=x:=by unfold SE.getO;rw[hl]
           rw[this];exact PE.ev_alike x (hs.le ((X4 hl).trans (Lk.le_r _ _)))
structure LC where
 next:Lk
 ov:List (Nat×Lk)
def LC.all (c:LC):Lk:=c.ov.foldr (fun x k=>x.2.un k) .none
def afe (c:LC)(Q1 Q2:Out→Prop):Prop:=
 (∀ρ1 ρ2,Alike c.next ρ1 ρ2→Q1 (.next ρ1)→Q2 (.next ρ2))∧(∀id k ρ1 ρ2,aa c.ov id=some k→Alike k ρ1 ρ2→Q1 (.exit id ρ1)→Q2 (.exit id ρ2))∧∀d,Q1 (.ret d)→Q2 (.ret d)
def fL:LC→PT→Option (PT×Lk)
 |c,.next s=>some (.next (s.cut c.next),c.next.un (s.cut c.next).lks)
 |c,.exit id s=>(aa c.ov id).map fun k=>(.exit id (s.cut k),k.un (s.cut k).lks)
 |_,.ret e=>some (.ret e,e.lk)
 |c,.chk e k=>(fL c k).map fun r=>(.chk e r.1,e.lk.un r.2)
 |c,.ite e a b=>(fL c a).bind fun x=>(fL c b).map fun y=>(.ite e x.1 y.1,e.lk.un (x.2.un y.2))
 |c,.call s gs dst f args k=>(fL c k).map fun r=>(.call (s.cut (r.2.un (GR gs))) gs dst f args r.1,(PE.lks args).un ((r.2.un (GR gs)).un (s.cut (r.2.un (GR gs))).lks))
 |c,.callc s gs dst e args k=>(fL c k).map fun r=>(.callc (s.cut (r.2.un (GR gs))) gs dst e args r.1,(e.lk.un (PE.lks args)).un ((r.2.un (GR gs)).un (s.cut (r.2.un (GR gs))).lks))
 |c,.mcall s j f args k=>(fL c k).map fun r=>(.mcall (s.cut r.2) j f args r.1,(PE.lks args).un (r.2.un (s.cut r.2).lks))
 |c,.iteS s e lr lo a b k=>(fL c k).bind fun r=>(fL ⟨r.2,c.ov⟩ a).bind fun x=>(fL ⟨r.2,c.ov⟩ b).map fun y=>
    (.iteS (s.cut (r.2.un (x.2.un y.2))) e lr lo x.1 y.1 r.1,e.lk.un ((r.2.un (x.2.un y.2)).un (s.cut (r.2.un (x.2.un y.2))).lks))
 |c,.blockS s id lr lo a k=>(fL c k).bind fun r=>(fL ⟨r.2,(id,r.2)::c.ov⟩ a).map fun x=>(.blockS (s.cut (r.2.un x.2)) id lr lo x.1 r.1,(r.2.un x.2).un (s.cut (r.2.un x.2)).lks)
 |c,.brk s p k=>(fL c k).bind fun r=>bif LU (c.ov.map (·.1)) p then some (.brk (s.cut (p.lk.un (r.2.un c.all))) p r.1,(p.lk.un (r.2.un c.all)).un (s.cut (p.lk.un (r.2.un c.all))).lks) else none
theorem LC.all_le:∀{l:List (Nat×Lk)} {id:Nat} {k:Lk},aa l id=some k→k.Le (l.foldr (fun x k=>x.2.un k) .none)
 |[],_,_,h=>by cases h
 |x::l,t,e,h=>by
  simp only[aa] at h
  cases hb:Nat.beq x.1 t<;>simp only[hb,cond_true,cond_false] at h
  ·exact(LC.all_le h).trans (Lk.le_r _ _)
  ·cases h;exact Lk.le_l _ _
theorem R3:∀{l:List (Nat×Lk)} {id:Nat},id∈l.map (·.1)→∃k,aa l id=some k
 |[],_,h=>by cases h
 |x::l,id,h=>by
  simp only[aa]
  cases hb:Nat.beq x.1 id with
  |true=>exact⟨_,rfl⟩
  |false=>
   simp only[cond_false]
   rcases List.mem_cons.1 h with e|h
   ·rw[e,Nat.beq_refl] at hb;cases hb
   ·exact R3 h
theorem ada {T:bn}:∀(t:PT) {c:LC} {t':PT} {L:Lk},fL c t=some (t',L)→∀{Q1 Q2:Out→Prop} {ρ1 ρ2:Env},afe c Q1 Q2→Alike L ρ1 ρ2→aD T t' ρ1 Q1→aD T t ρ2 Q2:=by
 intro t
 induction t with
 |next s=>
  intro c t' L hp Q1 Q2 ρ1 ρ2 hQ hA h
  simp only[fL,Option.some.injEq,Prod.mk.injEq] at hp
  obtain⟨rfl,rfl⟩:=hp
  exact hQ.1 _ _ (SE.cut_al hA) h
 |exit id s=>
  intro c t' L hp Q1 Q2 ρ1 ρ2 hQ hA h
  simp only[fL,Option.map_eq_some_iff,Prod.mk.injEq] at hp
  obtain⟨k,hk,rfl,rfl⟩:=hp
  exact hQ.2.1 _ k _ _ hk (SE.cut_al hA) h
 |ret e=>
  intro c t' L hp Q1 Q2 ρ1 ρ2 hQ hA h
  simp only[fL,Option.some.injEq,Prod.mk.injEq] at hp
  obtain⟨rfl,rfl⟩:=hp
  show Q2 (.ret (e.ev ρ2))
  rw[PE.ev_alike e hA];exact hQ.2.2 _ h
 |chk e k ih=>
  intro c t' L hp Q1 Q2 ρ1 ρ2 hQ hA h
  simp only[fL,Option.map_eq_some_iff,Prod.mk.injEq] at hp
  obtain⟨r,hr,rfl,rfl⟩:=hp
  exact⟨by rw[PE.ev_alike e (hA.le (Lk.le_l _ _))];exact h.1,ih hr hQ (hA.le (Lk.le_r _ _)) h.2⟩
 |ite e a b iha ihb=>
  intro c t' L hp Q1 Q2 ρ1 ρ2 hQ hA h
  simp only[fL,Option.bind_eq_some_iff,Option.map_eq_some_iff,Prod.mk.injEq] at hp
  obtain⟨x,hx,y,hy,rfl,rfl⟩:=hp
  have h2:=hA.le (Lk.le_r _ _)
  simp only[aD] at h ⊢
  rw[PE.ev_alike e (hA.le (Lk.le_l _ _))]
  split
  ·rename_i hc;rw[if_pos hc] at h;exact iha hx hQ (h2.le (Lk.le_l _ _)) h
  ·rename_i hc;rw[if_neg hc] at h;exact ihb hy hQ (h2.le (Lk.le_r _ _)) h
 |call s gs dst f args k ih=>
  intro c t' L hp Q1 Q2 ρ1 ρ2 hQ hA h
  simp only[fL,Option.map_eq_some_iff,Prod.mk.injEq] at hp
  obtain⟨r,hr,rfl,rfl⟩:=hp
  have hS:=SE.cut_al (hA.le (Lk.le_r _ _))
  simp only[aD] at h ⊢
  rw[PE.evs_alike args (hA.le (Lk.le_l _ _)),kY (hS.le (Lk.le_r _ _))]
  split
  ·rename_i hc;rw[if_pos hc] at h;obtain⟨d,hd,h⟩:=h;exact⟨d,hd,ih hr hQ ((hS.le (Lk.le_l _ _)).setR dst d) h⟩
  ·rename_i hc;rw[if_neg hc] at h;exact ih hr hQ (hS.le (Lk.le_l _ _)) h
 |callc s gs dst e args k ih=>
  intro c t' L hp Q1 Q2 ρ1 ρ2 hQ hA h
  simp only[fL,Option.map_eq_some_iff,Prod.mk.injEq] at hp
  obtain⟨r,hr,rfl,rfl⟩:=hp
  have hS:=SE.cut_al (hA.le (Lk.le_r _ _))
  have hE:=hA.le (Lk.le_l _ _)
  simp only[aD] at h ⊢
  rw[PE.ev_alike e (hE.le (Lk.le_l _ _)),PE.evs_alike args (hE.le (Lk.le_r _ _)),kY (hS.le (Lk.le_r _ _))]
  split
  ·rename_i hc;rw[if_pos hc] at h;obtain⟨f,caps,d,he,hd,h⟩:=h;exact⟨f,caps,d,he,hd,ih hr hQ ((hS.le (Lk.le_l _ _)).setR dst d) h⟩
  ·rename_i hc;rw[if_neg hc] at h;exact ih hr hQ (hS.le (Lk.le_l _ _)) h
 |mcall s j f args k ih=>
  intro c t' L hp Q1 Q2 ρ1 ρ2 hQ hA h
  simp only[fL,Option.map_eq_some_iff,Prod.mk.injEq] at hp
  obtain⟨r,hr,rfl,rfl⟩:=hp
  have hS:=SE.cut_al (hA.le (Lk.le_r _ _))
  simp only[aD] at h ⊢
  rw[PE.evs_alike args (hA.le (Lk.le_l _ _))]
  obtain⟨d,hd,h⟩:=h
  exact⟨d,hd,ih hr hQ (hS.setO j d) h⟩
 |iteS s e lr lo a b k iha ihb ihk=>
  intro c t' L hp Q1 Q2 ρ1 ρ2 hQ hA h
  simp only[fL,Option.bind_eq_some_iff,Option.map_eq_some_iff,Prod.mk.injEq] at hp
  obtain⟨r,hr,x,hx,y,hy,rfl,rfl⟩:=hp
  have hS:=SE.cut_al (hA.le (Lk.le_r _ _))
  have hSk:=hS.le (Lk.le_l _ _)
  have hSx:=hS.le ((Lk.le_l _ _).trans (Lk.le_r _ _))
  have hSy:=hS.le ((Lk.le_r _ _).trans (Lk.le_r _ _))
  have rel:afe ⟨r.2,c.ov⟩ (qw ((s.cut (r.2.un (x.2.un y.2))).ev ρ1) lr lo (td (fun ρ'=>aD T r.1 ρ' Q1) Q1)) (qw (s.ev ρ2) lr lo (td (fun ρ'=>aD T k ρ' Q2) Q2)):=
   ⟨fun η1 η2 ha hq=>ihk hr hQ (hSk.join ha lr lo) hq,fun id k' η1 η2 hk ha hq=>hQ.2.1 id k' _ _ hk ha hq,fun d hq=>hQ.2.2 d hq⟩
  simp only[aD] at h ⊢
  rw[PE.ev_alike e (hA.le (Lk.le_l _ _))]
  split
  ·rename_i hc;rw[if_pos hc] at h;exact iha hx rel hSx h
  ·rename_i hc;rw[if_neg hc] at h;exact ihb hy rel hSy h
 |blockS s id lr lo a k iha ihk=>
  intro c t' L hp Q1 Q2 ρ1 ρ2 hQ hA h
  simp only[fL,Option.bind_eq_some_iff,Option.map_eq_some_iff,Prod.mk.injEq] at hp
  obtain⟨r,hr,x,hx,rfl,rfl⟩:=hp
  have hS:=SE.cut_al hA
  have hSk:=hS.le (Lk.le_l _ _)
  refine iha hx (Q1:=lf ((s.cut (r.2.un x.2)).ev ρ1) id lr lo (td (fun ρ'=>aD T r.1 ρ' Q1) Q1)) ⟨fun η1 η2 ha hq=>ihk hr hQ (hSk.join ha lr lo) hq,fun id' k' η1 η2 hk ha hq=>?_,fun d hq=>hQ.2.2 d hq⟩ (hS.le (Lk.le_r _ _)) h
  simp only[lf] at hq ⊢
  simp only[aa] at hk
  by_cases e:id'=id
  ·subst e
   simp only[Nat.beq_refl,cond_true,Option.some.injEq] at hk
   subst hk
   rw[if_pos rfl] at hq ⊢
   exact ihk hr hQ (hSk.join ha lr lo) hq
  ·rw[if_neg e] at hq ⊢
   rw[bU (fun h=>e h.symm),cond_false] at hk
   exact hQ.2.1 id' k' _ _ hk ha hq
 |brk s p k ihk=>
  intro c t' L hp Q1 Q2 ρ1 ρ2 hQ hA h
  simp only[fL,Option.bind_eq_some_iff] at hp
  obtain⟨r,hr,hp⟩:=hp
  cases hx:LU (c.ov.map (·.1)) p<;>simp only[hx,cond_true,cond_false,Option.some.injEq,Prod.mk.injEq] at hp
  ·cases hp
  obtain⟨rfl,rfl⟩:=hp
  have hS:=SE.cut_al hA
  have hoff:Off (p.lk.un (r.2.un c.all)) (s.ev ρ2) ((s.cut (p.lk.un (r.2.un c.all))).ev ρ1) (s.ev ρ2):=⟨hS,fun _ _=>rfl,fun _ _=>rfl⟩
  obtain⟨x,hq,n0,hn⟩:=h
  have step:=fun n (hle:n0≤n)=>PC.ev_off p (Lk.le_l _ _) hoff (hn n hle)
  obtain⟨x',h1,h2⟩:=step n0 (Nat.le_refl _)
  refine⟨x',?_,n0,fun n hle=>?_⟩
  ·cases x with
   |next η=>obtain⟨η',rfl,h3⟩:=h2;exact ihk hr hQ (h3.al.le ((Lk.le_l _ _).trans (Lk.le_r _ _))) hq
   |exit i η=>
    obtain⟨η',rfl,h3⟩:=h2
    obtain⟨k',hk'⟩:=R3 (ady p hx (hn n0 (Nat.le_refl _)))
    exact hQ.2.1 i k' _ _ hk' (h3.al.le ((LC.all_le hk').trans ((Lk.le_r _ _).trans (Lk.le_r _ _)))) hq
   |ret d=>cases h2;exact hQ.2.2 d hq
  ·obtain⟨x2,h3,h4⟩:=step n hle
   rw[h3,h2.uniq h4]
def PJ (c:LC)(t:PT):PT:=match fL c t with|some r=>r.1|none=>t
theorem AV {T:bn}{c:LC}{t:PT}{Q:Out→Prop}{ρ:Env}(hQ:afe c Q Q)(h:aD T (PJ c t) ρ Q):aD T t ρ Q:=by
 unfold PJ at h
 split at h
 ·rename_i r hr;exact ada t hr hQ ⟨fun _ _=>rfl,fun _ _=>rfl⟩ h
 ·exact h
def aez (c:PC):PT:=sx c [] .id (fun _ s=>.next s) (fun _ id s=>.exit id s)
theorem Xc {T:bn}{c:PC}{ρ:Env}{Q:Out→Prop}(h:aD T (aez c) ρ Q):EvP T c ρ Q:=
 Zp (s:=.id) c (Asm.ok_nil _) h (fun ρ' asm s _ _ h=>h) (fun ρ' asm id s _ _ h=>h) (fun _ _ _ h=>h) (fun _ h=>h)
def tree (c:PC):PT:=PJ ⟨.none,[]⟩ (aez c)
theorem MT {T:bn}{c:PC}{ρ:Env}{d:D}(h:aD T (tree c) ρ fun x=>x=.ret d):EvP T c ρ fun x=>x=.ret d:=
 Xc (AV ⟨fun _ _ _ h=>(by cases h),fun _ _ _ _ _ _ h=>(by cases h),fun _ h=>h⟩ h)
def SE.keep (s:SE)(lr lo:List Nat):SE:=⟨lr.map fun t=>(t,s.getR t),lo.map fun t=>(t,s.getO t)⟩
theorem SE.keep_r (s:SE)(lr lo:List Nat)(ρ:Env):lr.map ((s.keep lr lo).ev ρ).r=lr.map (s.ev ρ).r:=by
 apply List.map_congr_left
 intro t ht
 show((s.keep lr lo).getR t).ev ρ=(s.getR t).ev ρ
 have:=kp (f:=fun t=>s.getR t) (l:=[]) (u:=t) lr
 rw[List.append_nil,if_pos ht] at this
 have e:(s.keep lr lo).getR t=s.getR t:=by unfold SE.getR SE.keep;simp only[];rw[this];rfl
 rw[e]
theorem SE.keep_o (s:SE)(lr lo:List Nat)(ρ:Env):lo.map ((s.keep lr lo).ev ρ).o=lo.map (s.ev ρ).o:=by
 apply List.map_congr_left
 intro t ht
 show((s.keep lr lo).getO t).ev ρ=(s.getO t).ev ρ
 have:=kp (f:=fun t=>s.getO t) (l:=[]) (u:=t) lo
 rw[List.append_nil,if_pos ht] at this
 have e:(s.keep lr lo).getO t=s.getO t:=by unfold SE.getO SE.keep;simp only[];rw[this];rfl
 rw[e]
def abq (id:Nat)(lrb lob lr lo:List Nat)(a:PC):PT:=
 sx a [] .id (fun _ s=>.next (s.keep lr lo)) (fun _ id' s=>bif Nat.beq id' id then .exit id (s.keep lrb lob) else .exit id' s)
def bW (ρ:Env)(id:Nat)(lrb lob lr lo:List Nat)(K:List D→List D→Prop)(Q:Out→Prop):Out→Prop
 |.next ρ'=>K (lr.map ρ'.r) (lo.map ρ'.o)
 |.exit id' ρ'=>if id'=id then Q (.next (ρ.put lrb (lrb.map ρ'.r) lob (lob.map ρ'.o))) else Q (.exit id' ρ')
 |.ret d=>Q (.ret d)
def round (id:Nat)(lrb lob lr lo:List Nat)(a:PC):PT:=PJ ⟨⟨bits lr,lo⟩,[(id,⟨bits lrb,lob⟩)]⟩ (abq id lrb lob lr lo a)
theorem acE {k:Lk}{lr:List Nat}{ρ1 ρ2:Env}(h:Alike k ρ1 ρ2)(hk:∀t,t∈lr→az k.r t=true):lr.map ρ2.r=lr.map ρ1.r:=List.map_congr_left fun t ht=>h.r t (hk t ht)
theorem MY {k:Lk}{lo:List Nat}{ρ1 ρ2:Env}(h:Alike k ρ1 ρ2)(hk:∀t,t∈lo→t∈k.o):lo.map ρ2.o=lo.map ρ1.o:=List.map_congr_left fun t ht=>h.o t (hk t ht)
theorem acP {T:bn}{id:Nat}{lrb lob lr lo:List Nat}{a:PC}{ρ ρ0:Env}{K:List D→List D→Prop}{Q:Out→Prop}(h:aD T (round id lrb lob lr lo a) ρ (bW ρ0 id lrb lob lr lo K Q)):aD T (abq id lrb lob lr lo a) ρ (bW ρ0 id lrb lob lr lo K Q):=by
 refine AV ⟨fun ρ1 ρ2 ha hq=>?_,fun id' k ρ1 ρ2 hk ha hq=>?_,fun d hq=>hq⟩ h
 ·simp only[bW] at hq ⊢
  rw[acE ha fun t ht=>Pm ht,MY ha fun t ht=>ht];exact hq
 ·simp only[aa] at hk
  cases hb:Nat.beq id id'<;>simp only[hb,cond_true,cond_false] at hk
  ·cases hk
  ·cases hk
   have:=fC hb
   subst this
   simp only[bW,if_true] at hq ⊢
   rw[acE ha fun t ht=>Pm ht,MY ha fun t ht=>ht];exact hq
theorem EvP.forLoop {T:bn}{id:Nat}{lrb lob lr lo:List Nat}{a:PC}{ρ:Env}{Q:Out→Prop}{α:Type}(inv:α→List D→List D→Prop)(meas:α→Nat)(s0:α)(h0:inv s0 (lr.map ρ.r) (lo.map ρ.o))
 (step:∀s vr vo,inv s vr vo→aD T (round id lrb lob lr lo a) (ρ.put lr vr lo vo) (bW ρ id lrb lob lr lo (fun vr vo=>∃s',meas s'<meas s∧inv s' vr vo) Q)):EvP T (.block id lrb lob (.loop lr lo a)) ρ Q:=by
 refine .block (.loop inv meas s0 h0 fun s vr vo hi=>?_)
 have h:=acP (step s vr vo hi)
 refine Zp (s:=.id) a (Asm.ok_nil _) h (fun ρ' asm s' _ _ h=>?_) (fun ρ' asm id' s' _ _ h=>?_) (fun _ id' ρ' h=>?_) (fun d h=>h)
 ·simp only[aD,bW] at h
  rw[SE.keep_r,SE.keep_o] at h
  exact h
 ·simp only[td,lf]
  by_cases hid:id'=id
  ·subst hid
   simp only[Nat.beq_refl,cond_true,aD,bW,if_true] at h
   rw[SE.keep_r,SE.keep_o] at h
   rw[if_pos rfl];exact h
  ·rw[bU hid,cond_false] at h
   simp only[aD,bW] at h
   rw[if_neg hid] at h ⊢;exact h
 ·simp only[td,lf]
  simp only[bW] at h
  split
  ·rename_i e;rw[if_pos e] at h;exact h
  ·rename_i e;rw[if_neg e] at h;exact h
def ZJ (lo:List Nat)(a:PC):PT:=sx a [] .id (fun _ s=>.next (s.keep [] lo)) (fun _ id s=>.exit id (s.keep [] lo))
def sN (lo:List Nat)(a:PC):PT:=PJ ⟨⟨0,lo⟩,[(bq,⟨0,lo⟩)]⟩ (ZJ lo a)
theorem S5 {T:bn}{lo:List Nat}{a:PC}{ρ:Env}{Q:Out→Prop}(hn:∀ρ1 ρ2,lo.map ρ2.o=lo.map ρ1.o→Q (.next ρ1)→Q (.next ρ2))(hx:∀ρ1 ρ2,lo.map ρ2.o=lo.map ρ1.o→Q (.exit bq ρ1)→Q (.exit bq ρ2))(h:aD T (sN lo a) ρ Q):aD T (ZJ lo a) ρ Q:=by
 refine AV ⟨fun ρ1 ρ2 ha hq=>hn ρ1 ρ2 (MY ha fun t ht=>ht) hq,fun id' k ρ1 ρ2 hk ha hq=>?_,fun d hq=>hq⟩ h
 simp only[aa] at hk
 cases hb:Nat.beq bq id'<;>simp only[hb,cond_true,cond_false] at hk
 ·cases hk
 ·cases hk
  have:=fC hb
  subst this
  exact hx ρ1 ρ2 (MY ha fun t ht=>ht) hq
theorem EvP.eachR {T:bn}{e:PE}{ps lo:List Nat}{rt:Option PE}{a:PC}{ρ:Env}{Q:Out→Prop}(xs:List D)(he:(e.ev ρ).l=xs)(inv:Nat→List D→Prop)(h0:inv 0 (lo.map ρ.o))
 (step:∀k x vo,xs[k]?=some x→inv k vo→aD T (sN lo a) (ρ.put ps (partsOf ps x) lo vo) (Kq ρ lo rt (inv (k+1)) Q)) (done:∀vo,inv xs.length vo→Q (.next (ρ.put [] [] lo vo))):EvP T (.each e ps lo rt a) ρ Q:=by
 refine .each xs he inv h0 (fun k x vo hx hi=>?_) done
 have h:=S5 (fun ρ1 ρ2 e hq=>by simp only[Kq] at hq ⊢;rw[e];exact hq) (fun ρ1 ρ2 e hq=>by simp only[Kq,if_true] at hq ⊢;rw[e];exact hq) (step k x vo hx hi)
 refine Zp (s:=.id) a (Asm.ok_nil _) h (fun ρ' asm s' _ _ h=>?_) (fun ρ' asm id' s' _ _ h=>?_) (fun _ id' ρ' h=>h) (fun d h=>h)
 ·simp only[aD,Kq] at h
  rw[SE.keep_o] at h
  exact h
 ·simp only[aD,Kq] at h
  rw[SE.keep_o] at h
  exact h
theorem EvP.meachR {T:bn}{J:Nat}{ps sel lo:List Nat}{a:PC}{ρ:Env}{Q:Out→Prop}(es:List (D×D))(he:ρ.o J=.tup [.list [],.map es])(inv:List D→List D→Prop)(h0:inv [] (lo.map ρ.o))
 (step:∀done x rest vo,(done++x::rest).Perm (bX (.map es))→inv done vo→aD T (sN lo a) ((ρ.put ps (sel.map x.tget) lo vo).setO J (.tup [.list (done++[x]),.map es])) (fun y=>∃ρ',y=.next ρ'∧inv (done++[x]) (lo.map ρ'.o)))
 (last:∃vo,(∀done,done.Perm (bX (.map es))→∀vo',inv done vo'→vo'=vo)∧Q (.next (ρ.put [] [] lo vo))):EvP T (.meach J ps sel lo a) ρ Q:=by
 refine .meach es he inv h0 (fun done x rest vo hp hi=>?_) last
 have h:=S5 (fun ρ1 ρ2 e ⟨ρ',e1,hq⟩=>by cases e1;exact⟨_,rfl,by rw[e];exact hq⟩) (fun ρ1 ρ2 e ⟨ρ',e1,hq⟩=>by cases e1) (step done x rest vo hp hi)
 refine Zp (s:=.id) a (Asm.ok_nil _) h (fun ρ' asm s' _ _ h=>?_) (fun ρ' asm id' s' _ _ h=>?_) (fun _ id' ρ' h=>?_) (fun d h=>?_)
 ·simp only[aD] at h
  obtain⟨ρ2,e,h⟩:=h
  injection e with e;subst e
  rw[SE.keep_o] at h
  exact⟨_,rfl,h⟩
 ·simp only[aD] at h
  obtain⟨ρ2,e,h⟩:=h
  cases e
 ·obtain⟨ρ2,e,_⟩:=h;cases e
 ·obtain⟨ρ2,e,_⟩:=h;cases e
theorem rv {T:bn}:∀(t:PT) {ρ:Env} {Q Q':Out→Prop},(∀x,Q x→Q' x)→aD T t ρ Q→aD T t ρ Q':=by
 intro t
 induction t with
 |next s=>intro ρ Q Q' h hx;exact h _ hx
 |exit id s=>intro ρ Q Q' h hx;exact h _ hx
 |ret e=>intro ρ Q Q' h hx;exact h _ hx
 |chk e k ih=>intro ρ Q Q' h hx;exact⟨hx.1,ih h hx.2⟩
 |ite c a b iha ihb=>
  intro ρ Q Q' h hx
  simp only[aD] at hx ⊢
  split
  ·rename_i hc;rw[if_pos hc] at hx;exact iha h hx
  ·rename_i hc;rw[if_neg hc] at hx;exact ihb h hx
 |call s gs dst f args k ih=>
  intro ρ Q Q' h hx
  simp only[aD] at hx ⊢
  split
  ·rename_i hc;rw[if_pos hc] at hx;obtain⟨d,hd,hx⟩:=hx;exact⟨d,hd,ih h hx⟩
  ·rename_i hc;rw[if_neg hc] at hx;exact ih h hx
 |callc s gs dst e args k ih=>
  intro ρ Q Q' h hx
  simp only[aD] at hx ⊢
  split
  ·rename_i hc;rw[if_pos hc] at hx;obtain⟨f,c,d,he,hd,hx⟩:=hx;exact⟨f,c,d,he,hd,ih h hx⟩
  ·rename_i hc;rw[if_neg hc] at hx;exact ih h hx
 |mcall s j f args k ih=>intro ρ Q Q' h hx;obtain⟨d,hd,hx⟩:=hx;exact⟨d,hd,ih h hx⟩
 |iteS s c lr lo a b k iha ihb ihk=>
  intro ρ Q Q' h hx
  have hq:∀x,qw (s.ev ρ) lr lo (td (fun ρ'=>aD T k ρ' Q) Q) x→qw (s.ev ρ) lr lo (td (fun ρ'=>aD T k ρ' Q') Q') x:=by
   intro x hx
   cases x with
   |next ρ'=>exact ihk h hx
   |exit id ρ'=>exact h _ hx
   |ret d=>exact h _ hx
  simp only[aD] at hx ⊢
  split
  ·rename_i hc;rw[if_pos hc] at hx;exact iha hq hx
  ·rename_i hc;rw[if_neg hc] at hx;exact ihb hq hx
 |blockS s id lr lo a k iha ihk=>
  intro ρ Q Q' h hx
  refine iha (fun x hx=>?_) hx
  cases x with
  |next ρ'=>exact ihk h hx
  |exit id' ρ'=>
   simp only[lf] at hx ⊢
   split
   ·rename_i e;rw[if_pos e] at hx;exact ihk h hx
   ·rename_i e;rw[if_neg e] at hx;exact h _ hx
  |ret d=>exact h _ hx
 |brk s c k ih=>
  intro ρ Q Q' h hx
  refine EvP.mono hx fun x hx=>?_
  cases x with
  |next ρ'=>exact ih h hx
  |exit id ρ'=>exact h _ hx
  |ret d=>exact h _ hx
theorem EvP.forRounds {T:bn}{id:Nat}{lrb lob lr lo:List Nat}{a:PC}{ρ:Env}{Q:Out→Prop}(N:Nat)(str sto:Nat→List D)(h0:lr.map ρ.r=str 0∧lo.map ρ.o=sto 0)
 (step:∀k,k<N→aD T (round id lrb lob lr lo a) (ρ.put lr (str k) lo (sto k)) (bW ρ id lrb lob lr lo (fun vr vo=>vr=str (k+1)∧vo=sto (k+1)) Q))
 (last:aD T (round id lrb lob lr lo a) (ρ.put lr (str N) lo (sto N)) (bW ρ id lrb lob lr lo (fun _ _=>False) Q)):EvP T (.block id lrb lob (.loop lr lo a)) ρ Q:=by
 refine .forLoop (α:=Nat) (fun k vr vo=>k≤N∧vr=str k∧vo=sto k) (fun k=>N-k) 0 ⟨Nat.zero_le _,h0.1,h0.2⟩ ?_
 rintro k vr vo ⟨hk,rfl,rfl⟩
 have mono:∀{K K':List D→List D→Prop},(∀a b,K a b→K' a b)→∀x,bW ρ id lrb lob lr lo K Q x→bW ρ id lrb lob lr lo K' Q x:=by
  intro K K' h x hx
  cases x with
  |next ρ'=>exact h _ _ hx
  |exit id' ρ'=>exact hx
  |ret d=>exact hx
 by_cases hlt:k<N
 ·exact rv _ (mono fun a b ⟨h1,h2⟩=>⟨k+1,by omega,by omega,h1,h2⟩) (step k hlt)
 ·obtain rfl:k=N:=by omega
  exact rv _ (mono fun a b h=>h.elim) last
theorem zg {ρ:Env}{id:Nat}{lrb lob lr lo:List Nat}{K K':List D→List D→Prop}{Q:Out→Prop}(h:∀a b,K a b→K' a b):∀x,bW ρ id lrb lob lr lo K Q x→bW ρ id lrb lob lr lo K' Q x:=by
 intro x hx
 cases x with
 |next ρ'=>exact h _ _ hx
 |exit id' ρ'=>exact hx
 |ret d=>exact hx
theorem EvP.scan {T:bn}{id:Nat}{lrb lob lr lo:List Nat}{a:PC}{ρ:Env}{Q:Out→Prop}(N:Nat)(ok:Nat→Prop)(str sto:Nat→List D)(h0:lr.map ρ.r=str 0∧lo.map ρ.o=sto 0)
 (step:∀k,k<N→(∀j,j<k→ok j)→ok k→aD T (round id lrb lob lr lo a) (ρ.put lr (str k) lo (sto k)) (bW ρ id lrb lob lr lo (fun vr vo=>vr=str (k+1)∧vo=sto (k+1)) Q))
 (bad:∀k,k<N→(∀j,j<k→ok j)→¬ok k→aD T (round id lrb lob lr lo a) (ρ.put lr (str k) lo (sto k)) (bW ρ id lrb lob lr lo (fun _ _=>False) Q))
 (last:(∀j,j<N→ok j)→aD T (round id lrb lob lr lo a) (ρ.put lr (str N) lo (sto N)) (bW ρ id lrb lob lr lo (fun _ _=>False) Q)):EvP T (.block id lrb lob (.loop lr lo a)) ρ Q:=by
 refine .forLoop (α:=Nat) (fun k vr vo=>k≤N∧(∀j,j<k→ok j)∧vr=str k∧vo=sto k) (fun k=>N-k) 0 ⟨Nat.zero_le _,fun j hj=>by omega,h0.1,h0.2⟩ ?_
 rintro k vr vo ⟨hk,hj,rfl,rfl⟩
 by_cases hlt:k<N
 ·by_cases hok:ok k
  ·refine rv _ (zg fun a b ⟨h1,h2⟩=>⟨k+1,by omega,by omega,fun j hjk=>?_,h1,h2⟩) (step k hlt hj hok)
   by_cases e:j=k
   ·subst e;exact hok
   ·exact hj j (by omega)
  ·exact rv _ (zg fun a b h=>h.elim) (bad k hlt hj hok)
 ·obtain rfl:k=N:=by omega
  exact rv _ (zg fun a b h=>h.elim) (last hj)
def mkA (n:Nat)(e:PE):PE:=.mk ((List.range n).map fun i=>.cell e i)
def vL (n:Nat)(d:D):D:=.agg ((List.range n).flatMap fun i=>(d.c i).cells)
theorem ae6 (ρ:Env)(n:Nat)(e:PE):(mkA n e).ev ρ=vL n (e.ev ρ):=by
 have key:∀l:List Nat,PE.evc ρ (l.map fun i=>.cell e i)=l.flatMap fun i=>((e.ev ρ).c i).cells:=by
  intro l
  induction l with
  |nil=>rfl
  |cons i l ih=>simp only[List.map_cons,PE.evc,PE.ev,List.flatMap_cons,ih]
 show D.agg _=_
 rw[key];rfl
end Cx
namespace Cx
open Go Go.RowKit
def I64 (n:Int):Prop:=-9223372036854775808≤n∧n≤9223372036854775807
def ints (l:List Int):D:=.list (l.map .int)
theorem ay {n:Int}(h:-9223372036854775808≤n∧n≤9223372036854775807):IntKind.i64.wrap n=n:=by
 simp only[IntKind.wrap,IntKind.signed,IntKind.bits];simp;split<;>omega
theorem DTy.int_inv {k:IntKind}{d:D}(h:DTy (.int k) d):∃n,d=.v (.int k n)∧k.min≤n∧n≤k.max:=by
 cases h with
 |int k n h1 h2=>exact⟨n,rfl,h1,h2⟩
 |other t d h=>exact h.elim
theorem DTy.i64_inv {d:D}(h:DTy (.int .i64) d):∃n,d=.int n∧I64 n:=by
 obtain⟨n,rfl,h1,h2⟩:=h.int_inv
 exact⟨n,rfl,by simpa [IntKind.min,IntKind.max,IntKind.signed,IntKind.bits] using h1,by simpa [IntKind.min,IntKind.max,IntKind.signed,IntKind.bits] using h2⟩
theorem DTy.bool_inv {d:D}(h:DTy .bool d):∃b,d=.bool b:=by
 cases h with
 |bool b=>exact⟨b,rfl⟩
 |other t d h=>exact h.elim
theorem DTy.slice_inv {e:Ty}{d:D}(h:DTy (.slice e) d):∃xs,d=.list xs∧xs.length≤maxLen∧∀x,x∈xs→DTy e.unf x:=by
 cases h with
 |slice e xs hm h=>exact⟨xs,rfl,hm,h⟩
 |other t d h=>exact h.elim
theorem DTy.agg_inv {ts:List Ty}{d:D}(h:DTy (.agg ts) d):∃ds,d=.agg ds∧DTys ts ds:=by
 cases h with
 |agg ts ds h=>exact⟨ds,rfl,h⟩
 |other t d h=>exact h.elim
theorem DTys.cons_inv {t:Ty}{ts:List Ty}{ds:List D}(h:DTys (t::ts) ds):∃d ds',ds=d::ds'∧DTy t d∧DTys ts ds':=by
 cases h with
 |cons h hs=>exact⟨_,_,rfl,h,hs⟩
theorem DTys.nil_inv {ds:List D}(h:DTys [] ds):ds=[]:=by cases h;rfl
theorem cq {α:Type}{enc:α→D}{P:α→Prop}{xs:List D}(h:∀x,x∈xs→∃a,x=enc a∧P a):∃l:List α,xs=l.map enc∧∀a,a∈l→P a:=by
 induction xs with
 |nil=>exact⟨[],rfl,fun _ h=>nomatch h⟩
 |cons x xs ih=>
  obtain⟨l,hl,hp⟩:=ih fun y hy=>h y (List.mem_cons_of_mem _ hy)
  obtain⟨a,ha,pa⟩:=h x (List.mem_cons_self ..)
  exact⟨a::l,by rw[hl,ha];rfl,fun b hb=>by
   rcases List.mem_cons.1 hb with e|hb
   ·rw[e];exact pa
   ·exact hp b hb⟩
theorem DTy.ints_inv {d:D}(h:DTy (.slice (.int .i64)) d):∃l:List Int,d=ints l∧l.length≤maxLen∧∀x,x∈l→I64 x:=by
 obtain⟨xs,rfl,hm,hx⟩:=h.slice_inv
 obtain⟨l,rfl,hl⟩:=cq (enc:=D.int) (P:=I64) fun x hh=>(hx x hh).i64_inv
 exact⟨l,rfl,by simpa using hm,hl⟩
section
variable (ρ:Env) (T:bn)
@[simp] theorem alm (t:Nat):PE.ev ρ (.r t)=ρ.r t:=_root_.id rfl
@[simp] theorem alf (t:Nat):PE.ev ρ (.o t)=ρ.o t:=_root_.id rfl
@[simp] theorem aj4 (d:D):PE.ev ρ (.con d)=d:=_root_.id rfl
@[simp] theorem aiw (e:PE)(i:Nat):PE.ev ρ (.cell e i)=(PE.ev ρ e).c i:=_root_.id rfl
@[simp] theorem akz (e:PE)(a n:Nat):PE.ev ρ (.sub e a n)=.agg (((PE.ev ρ e).cells.drop a).take n):=_root_.id rfl
@[simp] theorem ajP (e x:PE)(n:Nat):PE.ev ρ (.setc e n x)=.agg (aT (PE.ev ρ e).cells n (PE.ev ρ x).cells):=_root_.id rfl
@[simp] theorem alb (es:List PE):PE.ev ρ (.mk es)=.agg (PE.evc ρ es):=_root_.id rfl
@[simp] theorem ak3 (op:BinOp)(k:IntKind)(x y:PE):PE.ev ρ (.ai op k x y)=.v (.int k (arI op k (PE.ev ρ x).i (PE.ev ρ y).i)):=_root_.id rfl
@[simp] theorem ak1 (op:BinOp)(x y:PE):PE.ev ρ (.ci op x y)=.v (.bool (cmI op (PE.ev ρ x).i (PE.ev ρ y).i)):=_root_.id rfl
@[simp] theorem ala (op:BinOp)(x y:PE):PE.ev ρ (.cb op x y)=.v (.bool (cmB op (PE.ev ρ x).b (PE.ev ρ y).b)):=_root_.id rfl
@[simp] theorem akX (op:BinOp)(x y:PE):PE.ev ρ (.cs op x y)=.v (.bool (cmS op (PE.ev ρ x).s (PE.ev ρ y).s)):=_root_.id rfl
@[simp] theorem ak0 (x:PE):PE.ev ρ (.nt x)=.v (.bool (!(PE.ev ρ x).b)):=_root_.id rfl
@[simp] theorem aji (k:IntKind)(x:PE):PE.ev ρ (.conv k x)=.v (.int k (k.wrap (PE.ev ρ x).i)):=_root_.id rfl
@[simp] theorem ajf (c a b:PE):PE.ev ρ (.pick c a b)=if(PE.ev ρ c).b=true then PE.ev ρ a else PE.ev ρ b:=by
  simp only[PE.ev];cases(PE.ev ρ c).b<;>rfl
@[simp] theorem aiK (n:Nat)(e:PE):PE.ev ρ (mkA n e)=vL n (PE.ev ρ e):=ae6 ρ n e
@[simp] theorem ahZ (x:PE):PE.ev ρ (.bytes x)=.list ((PE.ev ρ x).s.data.toList.map fun b=>.v (.int .u8 b.toNat)):=_root_.id rfl
@[simp] theorem ajN (x:PE):PE.ev ρ (.llen x)=.v (.int .i64 (PE.ev ρ x).l.length):=_root_.id rfl
@[simp] theorem ajr (x:PE):PE.ev ρ (.slen x)=.v (.int .i64 (PE.ev ρ x).s.size):=_root_.id rfl
@[simp] theorem aiB (x:PE):PE.ev ρ (.mlen x)=.v (.int .i64 (PE.ev ρ x).m.length):=_root_.id rfl
@[simp] theorem akS (x i:PE):PE.ev ρ (.nth x i)=(PE.ev ρ x).l.getD (PE.ev ρ i).i.toNat .none:=_root_.id rfl
@[simp] theorem akR (x i:PE):PE.ev ρ (.idx x i)=.v (.bool (decide (0≤(PE.ev ρ i).i∧(PE.ev ρ i).i<(PE.ev ρ x).l.length))):=_root_.id rfl
@[simp] theorem ail (x i y:PE)(n:Nat):PE.ev ρ (.setn x i n y)=.list ((PE.ev ρ x).l.set (PE.ev ρ i).i.toNat (tl ((PE.ev ρ x).l.getD (PE.ev ρ i).i.toNat .none) n (PE.ev ρ y))):=_root_.id rfl
@[simp] theorem akA (x y:PE):PE.ev ρ (.app x y)=.list ((PE.ev ρ x).l++(PE.ev ρ y).l):=_root_.id rfl
@[simp] theorem ake (es:List PE):PE.ev ρ (.lst es)=.list (PE.evs ρ es):=_root_.id rfl
@[simp] theorem akK (x y:PE):PE.ev ρ (.rep x y)=.list (List.replicate (PE.ev ρ x).i.toNat (PE.ev ρ y)):=_root_.id rfl
@[simp] theorem akB (x a b:PE):PE.ev ρ (.slc x a b)=.list (((PE.ev ρ x).l.take (PE.ev ρ b).i.toNat).drop (PE.ev ρ a).i.toNat):=_root_.id rfl
@[simp] theorem ajh (x a b:PE):PE.ev ρ (.slok x a b)=.v (.bool (decide (0≤(PE.ev ρ a).i∧(PE.ev ρ a).i≤(PE.ev ρ b).i∧(PE.ev ρ b).i≤(PE.ev ρ x).l.length))):=_root_.id rfl
@[simp] theorem aky (x:PE):PE.ev ρ (.ref x)=.ref (PE.ev ρ x):=_root_.id rfl
@[simp] theorem ahq (x:PE):PE.ev ρ (.deref x)=(PE.ev ρ x).deref:=_root_.id rfl
@[simp] theorem aiL (m k z:PE):PE.ev ρ (.look m k z)=(ew (PE.ev ρ k) (PE.ev ρ m).m).getD (PE.ev ρ z):=_root_.id rfl
@[simp] theorem akU (m k v:PE):PE.ev ρ (.put m k v)=.map (fI (PE.ev ρ k) (PE.ev ρ v) (PE.ev ρ m).m):=_root_.id rfl
@[simp] theorem ald (x y:PE):PE.ev ρ (.mn x y)=if(PE.ev ρ y).i<(PE.ev ρ x).i then PE.ev ρ y else PE.ev ρ x:=by
  simp only[PE.ev];by_cases h:(PE.ev ρ y).i<(PE.ev ρ x).i<;>simp[h]
@[simp] theorem alc (x y:PE):PE.ev ρ (.mx x y)=if(PE.ev ρ y).i>(PE.ev ρ x).i then PE.ev ρ y else PE.ev ρ x:=by
  simp only[PE.ev];by_cases h:(PE.ev ρ y).i>(PE.ev ρ x).i<;>simp[h]
@[simp] theorem aj3 (es:List PE):PE.ev ρ (.tup es)=.tup (PE.evs ρ es):=_root_.id rfl
@[simp] theorem aiS (x:PE)(i:Nat):PE.ev ρ (.tget x i)=(PE.ev ρ x).tget i:=_root_.id rfl
@[simp] theorem akd (f:Nat)(es:List PE):PE.ev ρ (.clo f es)=.clo f (PE.evs ρ es):=_root_.id rfl
@[simp] theorem ak8 (x y:PE):PE.ev ρ (.an x y)=.v (.bool ((PE.ev ρ x).b&&(PE.ev ρ y).b)):=_root_.id rfl
@[simp] theorem ai4:PE.evs ρ []=[]:=_root_.id rfl
@[simp] theorem ahn (e:PE)(es:List PE):PE.evs ρ (e::es)=PE.ev ρ e::PE.evs ρ es:=_root_.id rfl
@[simp] theorem ais:PE.evc ρ []=[]:=_root_.id rfl
@[simp] theorem agE (e:PE)(es:List PE):PE.evc ρ (e::es)=(PE.ev ρ e).cells++PE.evc ρ es:=_root_.id rfl
@[simp] theorem ajD (x:Bool):(D.bool x).b=x:=_root_.id rfl
@[simp] theorem akF (k:IntKind)(n:Int):(D.v (.int k n)).i=n:=_root_.id rfl
@[simp] theorem afD (n:Int):(D.int n).i=n:=_root_.id rfl
@[simp] theorem ajk (x:List D):(D.list x).l=x:=_root_.id rfl
@[simp] theorem aiC (l:List Int):(ints l).l=l.map .int:=_root_.id rfl
@[simp] theorem aj9 (x:List (D×D)):(D.map x).m=x:=_root_.id rfl
@[simp] theorem akP (x:List D)(i:Nat):(D.agg x).c i=x.getD i .none:=_root_.id rfl
@[simp] theorem afn (x:List D):(D.agg x).cells=x:=_root_.id rfl
@[simp] theorem ad9 (x:List D):(D.list x).cells=[.list x]:=_root_.id rfl
@[simp] theorem ad2 (x:List Int):(ints x).cells=[ints x]:=_root_.id rfl
@[simp] theorem afq (n:Int):(D.int n).cells=[.int n]:=_root_.id rfl
@[simp] theorem aec (n:Bool):(D.bool n).cells=[.bool n]:=_root_.id rfl
@[simp] theorem ag4 (x:Value):(D.v x).cells=[.v x]:=_root_.id rfl
@[simp] theorem ags (x:List D)(i:Nat):(D.tup x).tget i=x.getD i .none:=_root_.id rfl
@[simp] theorem afh (x:D):(D.ref x).deref=x:=_root_.id rfl
@[simp] theorem ale (s:SE)(t:Nat):(s.ev ρ).r t=PE.ev ρ (s.getR t):=_root_.id rfl
@[simp] theorem alg (s:SE)(t:Nat):(s.ev ρ).o t=PE.ev ρ (s.getO t):=_root_.id rfl
@[simp] theorem agI (o:List (Nat×PE))(u:Nat):SE.getR ⟨[],o⟩ u=.r u:=_root_.id rfl
@[simp] theorem agl (t:Nat)(e:PE)(r o:List (Nat×PE))(u:Nat):SE.getR ⟨(t,e)::r,o⟩ u=if t=u then e else SE.getR ⟨r,o⟩ u:=by
  simp only[SE.getR,aa]
  by_cases h:t=u
  ·subst h;simp
  ·simp[bU h,h]
@[simp] theorem ahO (r:List (Nat×PE))(u:Nat):SE.getO ⟨r,[]⟩ u=.o u:=_root_.id rfl
@[simp] theorem agf (t:Nat)(e:PE)(r o:List (Nat×PE))(u:Nat):SE.getO ⟨r,(t,e)::o⟩ u=if t=u then e else SE.getO ⟨r,o⟩ u:=by
  simp only[SE.getO,aa]
  by_cases h:t=u
  ·subst h;simp
  ·simp[bU h,h]
@[simp] theorem setR_r (t u:Nat)(d:D):(ρ.setR t d).r u=if u=t then d else ρ.r u:=Env.setR_r ρ t u d
@[simp] theorem akx (t u:Nat)(d:D):(ρ.setR t d).o u=ρ.o u:=_root_.id rfl
@[simp] theorem setO_o (t u:Nat)(d:D):(ρ.setO t d).o u=if u=t then d else ρ.o u:=Env.setO_o ρ t u d
@[simp] theorem akM (t u:Nat)(d:D):(ρ.setO t d).r u=ρ.r u:=_root_.id rfl
@[simp] theorem akY (lr lo:List Nat)(vr vo:List D)(u:Nat):(ρ.put lr vr lo vo).r u=putL ρ.r lr vr u:=_root_.id rfl
@[simp] theorem akV (lr lo:List Nat)(vr vo:List D)(u:Nat):(ρ.put lr vr lo vo).o u=putL ρ.o lo vo u:=_root_.id rfl
@[simp] theorem join_r (ρ':Env)(lr lo:List Nat)(u:Nat):(ρ.join lr lo ρ').r u=if u∈lr then ρ'.r u else ρ.r u:=Env.join_r ρ ρ' lr lo u
@[simp] theorem join_o (ρ':Env)(lr lo:List Nat)(u:Nat):(ρ.join lr lo ρ').o u=if u∈lo then ρ'.o u else ρ.o u:=Env.join_o ρ ρ' lr lo u
@[simp] theorem afK (f:Nat→D)(i:Nat)(is:List Nat)(x:D)(xs:List D)(u:Nat):putL f (i::is) (x::xs) u=if u=i then x else putL f is xs u:=A5 f i is x xs u
@[simp] theorem afS (f:Nat→D)(xs:List D)(u:Nat):putL f [] xs u=f u:=EI f xs u
@[simp] theorem aiY (ds:List D)(u:Nat):(DK ds).r u=ds.getD u .none:=_root_.id rfl
@[simp] theorem afs:holds [] ρ=true:=_root_.id rfl
@[simp] theorem aeJ (g:Nat×Bool)(gs:List (Nat×Bool)):holds (g::gs) ρ=((ρ.r g.1).b==g.2&&holds gs ρ):=_root_.id rfl
variable (Q:Out→Prop)
@[simp] theorem aio (s:SE):aD T (.next s) ρ Q=Q (.next (s.ev ρ)):=_root_.id rfl
@[simp] theorem aii (id:Nat)(s:SE):aD T (.exit id s) ρ Q=Q (.exit id (s.ev ρ)):=_root_.id rfl
@[simp] theorem ajo (e:PE):aD T (.ret e) ρ Q=Q (.ret (e.ev ρ)):=_root_.id rfl
@[simp] theorem akc (e:PE)(k:PT):aD T (.chk e k) ρ Q=((e.ev ρ).b=true∧aD T k ρ Q):=_root_.id rfl
@[simp] theorem aj1 (c:PE)(a b:PT):aD T (.ite c a b) ρ Q=if(c.ev ρ).b=true then aD T a ρ Q else aD T b ρ Q:=_root_.id rfl
@[simp] theorem aiM (s:SE)(gs:List (Nat×Bool))(dst f:Nat)(args:List PE)(k:PT):aD T (.call s gs dst f args k) ρ Q=if holds gs (s.ev ρ)=true then ∃d,Runs T f (PE.evs ρ args) d∧aD T k ((s.ev ρ).setR dst d) Q else aD T k (s.ev ρ) Q:=_root_.id rfl
@[simp] theorem ajU (s:SE)(c:PE)(lr lo:List Nat)(a b k:PT):aD T (.iteS s c lr lo a b k) ρ Q=if(c.ev ρ).b=true then aD T a (s.ev ρ) (qw (s.ev ρ) lr lo (td (fun ρ'=>aD T k ρ' Q) Q)) else aD T b (s.ev ρ) (qw (s.ev ρ) lr lo (td (fun ρ'=>aD T k ρ' Q) Q)):=_root_.id rfl
@[simp] theorem agj (s:SE)(id:Nat)(lr lo:List Nat)(a k:PT):aD T (.blockS s id lr lo a k) ρ Q=aD T a (s.ev ρ) (lf (s.ev ρ) id lr lo (td (fun ρ'=>aD T k ρ' Q) Q)):=_root_.id rfl
@[simp] theorem aj8 (s:SE)(c:PC)(k:PT):aD T (.brk s c k) ρ Q=EvP T c (s.ev ρ) (td (fun ρ'=>aD T k ρ' Q) Q):=_root_.id rfl
variable (K:Env→Prop) (id:Nat) (lr lo lrb lob:List Nat) (K2:List D→List D→Prop)
@[simp] theorem agh (ρ':Env):td K Q (.next ρ')=K ρ':=_root_.id rfl
@[simp] theorem agv (i:Nat)(ρ':Env):td K Q (.exit i ρ')=Q (.exit i ρ'):=_root_.id rfl
@[simp] theorem agL (d:D):td K Q (.ret d)=Q (.ret d):=_root_.id rfl
@[simp] theorem ae9 (ρ':Env):qw ρ lr lo Q (.next ρ')=Q (.next (ρ.join lr lo ρ')):=_root_.id rfl
@[simp] theorem agb (d:D):qw ρ lr lo Q (.ret d)=Q (.ret d):=_root_.id rfl
@[simp] theorem aed (ρ':Env):lf ρ id lr lo Q (.next ρ')=Q (.next (ρ.join lr lo ρ')):=_root_.id rfl
@[simp] theorem aeT (i:Nat)(ρ':Env):lf ρ id lr lo Q (.exit i ρ')=if i=id then Q (.next (ρ.join lr lo ρ')) else Q (.exit i ρ'):=_root_.id rfl
@[simp] theorem aeW (d:D):lf ρ id lr lo Q (.ret d)=Q (.ret d):=_root_.id rfl
@[simp] theorem aev (ρ':Env):bW ρ id lrb lob lr lo K2 Q (.next ρ')=K2 (lr.map ρ'.r) (lo.map ρ'.o):=_root_.id rfl
@[simp] theorem aeM (i:Nat)(ρ':Env):bW ρ id lrb lob lr lo K2 Q (.exit i ρ')=if i=id then Q (.next (ρ.put lrb (lrb.map ρ'.r) lob (lob.map ρ'.o))) else Q (.exit i ρ'):=_root_.id rfl
@[simp] theorem ae8 (d:D):bW ρ id lrb lob lr lo K2 Q (.ret d)=Q (.ret d):=_root_.id rfl
@[simp] theorem agX (s:SE)(gs:List (Nat×Bool))(dst:Nat)(e:PE)(args:List PE)(k:PT):aD T (.callc s gs dst e args k) ρ Q=if holds gs (s.ev ρ)=true then ∃f caps d,e.ev ρ=.clo f caps∧Runs T f (PE.evs ρ args++caps) d∧aD T k ((s.ev ρ).setR dst d) Q else aD T k (s.ev ρ) Q:=_root_.id rfl
@[simp] theorem ae5 (rt:Option PE)(K3:List D→Prop)(i:Nat)(ρ':Env):Kq ρ lo rt K3 Q (.exit i ρ')=if i=bq then ∃e,rt=some e∧Q (.ret (e.ev (ρ.put [] [] lo (lo.map ρ'.o)))) else Q (.exit i (ρ.put [] [] lo (lo.map ρ'.o))):=_root_.id rfl
@[simp] theorem akN (J:Nat)(ds:List D)(u:Nat):(Z2 J ds).r u=(D.none::ds).getD u .none:=_root_.id rfl
theorem afM (J:Nat)(ds:List D)(u:Nat):(Z2 J ds).o u=if u=J then .list [] else .none:=by
 show(bif Nat.beq u J then D.list [] else .none)=_
 by_cases h:u=J
 ·subst h;simp
 ·simp[bU h,h]
@[simp] theorem adm (p:Nat)(x:D):partsOf [p] x=[x.tget 0]:=_root_.id rfl
end
section
variable (k:IntKind) (a b:Int)
@[simp] theorem akp:arI .add k a b=k.wrap (a+b):=_root_.id rfl
@[simp] theorem akm:arI .sub k a b=k.wrap (a-b):=_root_.id rfl
@[simp] theorem akT:arI .mul k a b=k.wrap (a*b):=_root_.id rfl
@[simp] theorem akg:arI .quo k a b=k.wrap (a.tdiv b):=_root_.id rfl
@[simp] theorem ako:arI .rem k a b=a.tmod b:=_root_.id rfl
@[simp] theorem aku:cmI .eql a b=(a==b):=_root_.id rfl
@[simp] theorem aks:cmI .neq a b=(a !=b):=_root_.id rfl
@[simp] theorem akb:cmI .lss a b=decide (a<b):=_root_.id rfl
@[simp] theorem akr:cmI .leq a b=decide (a≤b):=_root_.id rfl
@[simp] theorem akQ:cmI .gtr a b=decide (a>b):=_root_.id rfl
@[simp] theorem akH:cmI .geq a b=decide (a≥b):=_root_.id rfl
variable (x y:Bool)
@[simp] theorem akO:cmB .eql x y=(x==y):=_root_.id rfl
@[simp] theorem akw:cmB .neq x y=(!(x==y)):=_root_.id rfl
end
theorem Runs.of_tree {tab:Nat→Option PC}{ext:Nat→Option (aK→List D→Option D)}{f:Nat}{pc:PC}{t:PT}{ds:List D}{d:D}(hx:ext f=none)(ht:tab f=some pc)(he:tree pc=t)(h:aD (Tab tab ext) t (DK ds) (fun x=>x=.ret d)):Runs (Tab tab ext) f ds d:=
 .of_pc hx ht (MT (he▸h))
@[simp] theorem ajH (n:Int):D.v (.int .i64 n)=D.int n:=_root_.id rfl
@[simp] theorem agw (b:Bool):D.v (.bool b)=D.bool b:=_root_.id rfl
@[simp] theorem ahK (a b:Int):(D.int a=D.int b)=(a=b):=by
  apply propext;constructor
  ·intro h;injection h with h;injection h
  ·intro h;rw[h]
@[simp] theorem afY (a b:Bool):(D.bool a=D.bool b)=(a=b):=by
  apply propext;constructor
  ·intro h;injection h with h;injection h
  ·intro h;rw[h]
section
variable (c:Prop) [Decidable c] (x y:D)
@[simp] theorem ak2:(if c then x else y).b=if c then x.b else y.b:=by split<;>rfl
@[simp] theorem ak4:(if c then x else y).i=if c then x.i else y.i:=by split<;>rfl
end
@[simp] theorem aet:IntKind.i64.wrap 0=0:=ay (by omega)
end Cx
namespace Cx
open Go
inductive Tm where
 |mk (op n:Int) (args:List Tm)
instance:Inhabited Tm:=⟨.mk 0 0 []⟩
namespace Tm
def op:Tm→Int|.mk o _ _=>o
def n:Tm→Int|.mk _ n _=>n
def args:Tm→List Tm|.mk _ _ as=>as
end Tm
mutual
def jd:Tm→D
 |.mk o n as=>.agg [.int o,.int n,.list (Zw as)]
def Zw:List Tm→List D
 |[]=>[]
 |t::ts=>jd t::Zw ts
end
theorem NX:∀l:List Tm,Zw l=l.map jd
 |[]=>rfl
 |t::l=>by rw[Zw,NX l];rfl
theorem FB (t:Tm):jd t=.agg [.int t.op,.int t.n,.list (t.args.map jd)]:=by
 cases t with
 |mk o n as=>rw[jd,NX];rfl
inductive Tm.OK:Tm→Prop where
 |mk (o n:Int) (as:List Tm) (h1:I64 o) (h2:I64 n) (h3:as.length≤maxLen) (h:∀a,a∈as→Tm.OK a):Tm.OK (.mk o n as)
theorem DTy.trm_inv {d:D}(h:DTy .trmA d):∃t:Tm,d=jd t∧t.OK:=by
 suffices hs:∀(m:Nat) (d:D),sizeOf d≤m→DTy .trmA d→∃t:Tm,d=jd t∧t.OK from hs _ d (Nat.le_refl _) h
 intro m
 induction m with
 |zero=>
  intro d hm h
  cases d<;>simp at hm
 |succ m ih=>
  intro d hm h
  obtain⟨ds,rfl,hs⟩:=DTy.agg_inv h
  obtain⟨d1,ds,rfl,h1,hs⟩:=hs.cons_inv
  obtain⟨d2,ds,rfl,h2,hs⟩:=hs.cons_inv
  obtain⟨d3,ds,rfl,h3,hs⟩:=hs.cons_inv
  obtain rfl:=hs.nil_inv
  obtain⟨o,rfl,b1⟩:=h1.i64_inv
  obtain⟨n,rfl,b2⟩:=h2.i64_inv
  obtain⟨xs,rfl,hl,hx⟩:=h3.slice_inv
  obtain⟨l,rfl,hok⟩:=cq (enc:=jd) (P:=Tm.OK) fun x hh=>ih x (by
   have:=List.sizeOf_lt_of_mem hh
   simp at hm;omega) (hx x hh)
  exact⟨.mk o n l,by rw[jd,NX],.mk o n l b1 b2 (by simpa using hl) hok⟩
theorem DTy.trms_inv {d:D}(h:DTy (.slice .trm) d):∃l:List Tm,d=.list (l.map jd)∧l.length≤maxLen∧∀t,t∈l→t.OK:=by
 obtain⟨xs,rfl,hl,hx⟩:=h.slice_inv
 obtain⟨l,rfl,hok⟩:=cq (enc:=jd) (P:=Tm.OK) fun x hh=>DTy.trm_inv (hx x hh)
 exact⟨l,rfl,by simpa using hl,hok⟩
end Cx
namespace Cx
open Go
def TC (g:Nat)(zs:List Int):Nat→Option (Ty×D):=fun k=>bif Nat.beq k g then some (.agg (zs.map fun _=>.int .i64),.agg (zs.map fun z=>.v (.int .i64 z))) else none
theorem YH {C:Ctx}{g:Nat}{zs:List Int}{name:String}{W:World}(hC:C.glob=TC g zs)(hg:C.P.globalNamed name=some g)(hz:zs.all (fun z=>decide (IntKind.i64.min≤z)&&decide (z≤IntKind.i64.max))=true)
 (h:Lib.TabIs C.P W name .i64 zs):CtxOK C (I1 W):=by
 refine⟨fun k x hx=>?_⟩
 rw[hC] at hx
 unfold TC at hx
 cases hk:Nat.beq k g<;>simp only[hk,cond_true,cond_false] at hx
 ·cases hx
 cases hx
 obtain rfl:=Nat.eq_of_beq_eq_true hk
 have hrow:Rep C.cap (I1 W) (.agg (zs.map fun _=>.int .i64)) (.agg (zs.map fun z=>Value.int .i64 z).toArray) (.agg (zs.map fun z=>.v (.int .i64 z))):=by
  refine .agg _ _ _ (by simp) (by simp) (fun i t ht=>?_) (fun i t ht=>?_)
  ·rw[List.getElem?_map,Option.map_eq_some_iff] at ht
   obtain⟨z,hz1,rfl⟩:=ht
   rw[List.getD_eq_getElem?_getD,List.getD_eq_getElem?_getD,List.getElem?_map,List.getElem?_map,hz1]
   have:=List.all_eq_true.1 hz z (List.mem_of_getElem? hz1)
   simp only[Bool.and_eq_true,decide_eq_true_eq] at this
   exact .int _ _ this.1 this.2
  ·rw[List.getElem?_map,Option.map_eq_some_iff] at ht
   obtain⟨z,_,rfl⟩:=ht;rfl
 refine .ref _ k 0 _ _ hrow fun j u hu=>?_
 simp only[Value.cells,List.getElem?_toArray,List.getElem?_map,Option.map_eq_some_iff] at hu
 obtain⟨z,hz1,rfl⟩:=hu
 have hlt:=(List.getElem?_eq_some_iff.1 hz1).1
 have:=h.cell hg j hlt
 show W.cell? ⟨k,0+j,none⟩=_
 rw[Nat.zero_add,this,List.getD_eq_getElem?_getD,hz1];rfl
end Cx
namespace Cx
open Go Go.RowKit
def loops:PC→List PC
 |.seq a b=>loops a++loops b
 |.ite _ _ _ a b=>loops a++loops b
 |.block id lr lo (.loop lr' lo' a)=>loops a++[.block id lr lo (.loop lr' lo' a)]
 |.block _ _ _ a=>loops a
 |.loop _ _ a=>loops a
 |.each e ps lo rt a=>loops a++[.each e ps lo rt a]
 |.meach J ps sel lo a=>loops a++[.meach J ps sel lo a]
 |_=>[]
def X2:PC→PC
 |.block _ _ _ (.loop _ _ a)=>a
 |.each _ _ _ _ a=>a
 |.meach _ _ _ _ a=>a
 |_=>.skip
def UZ (c:PC)(k:Nat):PC:=(loops c).getD k .skip
def rnd:PC→PT
 |.block id lr lo (.loop lr' lo' a)=>round id lr lo lr' lo' a
 |.each _ _ lo _ a=>sN lo a
 |.meach _ _ _ lo a=>sN lo a
 |_=>.next .id
inductive Shp where
 |lp (id:Nat) (lrb lob lr lo:List Nat)
 |ea (lo:List Nat)
 |no
def shp:PC→Shp
 |.block id lrb lob (.loop lr lo _)=>.lp id lrb lob lr lo
 |.each _ _ lo _ _=>.ea lo
 |.meach _ _ _ lo _=>.ea lo
 |_=>.no
def told (c:PC):PT×List (Shp×PT):=(tree c,(loops c).map fun l=>(shp l,rnd l))
theorem MS {o:Option PC}{t:PT}{l:List (Shp×PT)}(h:o.map told=some (t,l)):o=some (o.getD .skip)∧tree (o.getD .skip)=t∧∀k x,l[k]?=some x→(shp (UZ (o.getD .skip) k),rnd (UZ (o.getD .skip) k))=x:=by
 cases o with
 |none=>cases h
 |some c=>
  have h1:told c=(t,l):=by injection h
  unfold told at h1
  injection h1 with h1 h2
  refine⟨rfl,h1,fun k x hx=>?_⟩
  subst h2
  simp only[List.getElem?_map,Option.map_eq_some_iff] at hx
  obtain⟨y,hy,rfl⟩:=hx
  have:UZ ((some c:Option PC).getD .skip) k=y:=by
   show(loops c).getD k .skip=y
   rw[List.getD_eq_getElem?_getD,hy];rfl
  rw[this]
theorem agx {c:PC}{id:Nat}{lrb lob lr lo:List Nat}{t:PT}(h:(shp c,rnd c)=(.lp id lrb lob lr lo,t)):round id lrb lob lr lo (X2 c)=t:=by
 injection h with h1 h2
 subst h2
 unfold shp at h1
 split at h1
 ·cases h1;rfl
 all_goals cases h1
theorem aho {c:PC}{lo:List Nat}{t:PT}(h:(shp c,rnd c)=(.ea lo,t)):sN lo (X2 c)=t:=by
 injection h with h1 h2
 subst h2
 unfold shp at h1
 split at h1
 ·cases h1
 ·cases h1;rfl
 ·cases h1;rfl
 ·cases h1
noncomputable def hid {α:Type}(x:α):α:=Classical.choose (⟨x,rfl⟩:∃y,y=x)
theorem IX {α:Type}(x:α):hid x=x:=Classical.choose_spec (⟨x,rfl⟩:∃y,y=x)
noncomputable def aA (o:Option PC):Nat→PC:=fun k=>X2 (UZ (o.getD .skip) k)
noncomputable abbrev hpc (o:Option PC):PC:=hid (o.getD .skip)
noncomputable abbrev hbd (o:Option PC):Nat→PC:=hid (aA o)
section
variable {o:Option PC} {F:(Nat→PC)→PT×List (Shp×PT)}
theorem ah (h:o.map told=some (F (aA o))):o=some (hpc o):=by unfold hpc;rw[IX];exact(MS (t:=(F (aA o)).1) (l:=(F (aA o)).2) h).1
theorem aj (h:o.map told=some (F (aA o))):tree (hpc o)=(F (hbd o)).1:=by unfold hpc hbd;rw[IX,IX];exact(MS (t:=(F (aA o)).1) (l:=(F (aA o)).2) h).2.1
theorem aw (h:o.map told=some (F (aA o)))(k:Nat){id:Nat}{lrb lob lr lo:List Nat}{t:(Nat→PC)→PT}(hk:∀b,(F b).2[k]?=some (.lp id lrb lob lr lo,t b)):round id lrb lob lr lo (hbd o k)=t (hbd o):=by
 unfold hbd;rw[IX];exact agx ((MS (t:=(F (aA o)).1) (l:=(F (aA o)).2) h).2.2 k _ (hk _))
theorem TP (h:o.map told=some (F (aA o)))(k:Nat){lo:List Nat}{t:(Nat→PC)→PT}(hk:∀b,(F b).2[k]?=some (.ea lo,t b)):sN lo (hbd o k)=t (hbd o):=by
 unfold hbd;rw[IX];exact aho ((MS (t:=(F (aA o)).1) (l:=(F (aA o)).2) h).2.2 k _ (hk _))
theorem acv (h:o.isSome=true):o=some (hpc o):=by unfold hpc;rw[IX];cases o with|none=>cases h|some c=>rfl
end
theorem ab {α:Type}{R:Nat→α→Prop}{f:Nat}{x:α}{l:List (Nat×α)}(h:R f x)(k:adY R l):adY R ((f,x)::l):=⟨h,k⟩
theorem ak {α:Type}:∀{l:List (Nat×α)},(l.map (·.1)).Nodup→∀{k f:Nat} {x:α},l[k]?=some (f,x)→aa l f=some x
 |[],_,k,f,x,h=>by simp at h
 |y::l,hn,0,f,x,h=>by
  simp only[List.getElem?_cons_zero,Option.some.injEq] at h
  subst h
  simp[aa]
 |y::l,hn,k+1,f,x,h=>by
  simp only[List.getElem?_cons_succ] at h
  rw[List.map_cons,List.nodup_cons] at hn
  have hm:f∈l.map (·.1):=List.mem_map.2 ⟨(f,x),List.mem_of_getElem? h,rfl⟩
  have hb:Nat.beq y.1 f=false:=by
   cases e:Nat.beq y.1 f with
   |false=>rfl
   |true=>rw[fC e] at hn;exact absurd hm hn.1
  simp only[aa,hb,cond_false]
  exact ak hn.2 h
abbrev pT:PE:=.con (.bool true)
abbrev pF:PE:=.con (.bool false)
abbrev pN:PE:=.con .none
abbrev pL:PE:=.con (.list [])
abbrev pi (n:Int):PE:=.con (.int n)
abbrev aF (a b:PE):PE:=.ai .add .i64 a b
abbrev aO (a b:PE):PE:=.ai .sub .i64 a b
abbrev peq (a b:PE):PE:=.ci .eql a b
abbrev pne (a b:PE):PE:=.ci .neq a b
abbrev plt (a b:PE):PE:=.ci .lss a b
abbrev ple (a b:PE):PE:=.ci .leq a b
abbrev pgt (a b:PE):PE:=.ci .gtr a b
abbrev pge (a b:PE):PE:=.ci .geq a b
abbrev pc (a:PE)(i:Nat):PE:=.cell a i
abbrev pn (a b:PE):PE:=.nth a b
abbrev pix (a b:PE):PE:=.idx a b
abbrev z2:PE:=.con (.agg [(.int 0),(.int 0)])
abbrev z3:PE:=.con (.agg [(.int 0),(.int 0),(.int 0)])
abbrev z4:PE:=.con (.agg [(.int 0),(.int 0),(.int 0),(.int 0)])
abbrev z5:PE:=.con (.agg [(.int 0),(.int 0),(.int 0),(.int 0),(.int 0)])
abbrev z6:PE:=.con (.agg [(.int 0),(.int 0),(.int 0),(.int 0),(.int 0),(.int 0)])
abbrev z9:PE:=.con (.agg [(.int 0),(.int 0),(.int 0),(.int 0),(.int 0),(.int 0),(.int 0),(.int 0),(.int 0)])
abbrev z15:PE:=.con (.agg [(.int 0),(.int 0),(.int 0),(.int 0),(.int 0),(.int 0),(.int 0),(.int 0),(.int 0),(.int 0),(.int 0),(.int 0),(.int 0),(.int 0),(.int 0)])
abbrev r0:PE:=.r 0
abbrev r1:PE:=.r 1
abbrev r2:PE:=.r 2
abbrev r3:PE:=.r 3
abbrev r4:PE:=.r 4
abbrev r5:PE:=.r 5
abbrev r6:PE:=.r 6
abbrev r7:PE:=.r 7
abbrev r8:PE:=.r 8
abbrev r9:PE:=.r 9
abbrev r10:PE:=.r 10
abbrev r11:PE:=.r 11
abbrev r12:PE:=.r 12
abbrev r13:PE:=.r 13
abbrev r14:PE:=.r 14
abbrev r15:PE:=.r 15
abbrev r16:PE:=.r 16
abbrev r17:PE:=.r 17
abbrev r18:PE:=.r 18
abbrev r19:PE:=.r 19
abbrev r20:PE:=.r 20
abbrev r21:PE:=.r 21
abbrev r22:PE:=.r 22
abbrev r23:PE:=.r 23
abbrev r24:PE:=.r 24
abbrev r25:PE:=.r 25
abbrev r26:PE:=.r 26
abbrev r27:PE:=.r 27
abbrev r28:PE:=.r 28
abbrev r29:PE:=.r 29
abbrev r30:PE:=.r 30
abbrev r31:PE:=.r 31
abbrev r32:PE:=.r 32
abbrev r33:PE:=.r 33
abbrev r34:PE:=.r 34
abbrev r35:PE:=.r 35
abbrev r36:PE:=.r 36
abbrev r37:PE:=.r 37
abbrev r38:PE:=.r 38
abbrev r39:PE:=.r 39
abbrev r40:PE:=.r 40
abbrev r41:PE:=.r 41
abbrev r42:PE:=.r 42
abbrev r43:PE:=.r 43
abbrev r44:PE:=.r 44
abbrev r45:PE:=.r 45
abbrev r46:PE:=.r 46
abbrev r47:PE:=.r 47
abbrev r48:PE:=.r 48
abbrev r49:PE:=.r 49
abbrev r50:PE:=.r 50
abbrev r51:PE:=.r 51
abbrev r52:PE:=.r 52
abbrev r53:PE:=.r 53
abbrev r54:PE:=.r 54
abbrev r55:PE:=.r 55
abbrev r56:PE:=.r 56
abbrev r57:PE:=.r 57
abbrev r58:PE:=.r 58
abbrev r59:PE:=.r 59
abbrev r60:PE:=.r 60
abbrev r61:PE:=.r 61
abbrev r62:PE:=.r 62
abbrev r63:PE:=.r 63
abbrev r64:PE:=.r 64
abbrev r65:PE:=.r 65
abbrev r66:PE:=.r 66
abbrev r67:PE:=.r 67
abbrev r68:PE:=.r 68
abbrev r69:PE:=.r 69
abbrev r70:PE:=.r 70
abbrev r72:PE:=.r 72
abbrev r73:PE:=.r 73
abbrev r74:PE:=.r 74
abbrev r75:PE:=.r 75
abbrev r76:PE:=.r 76
abbrev r78:PE:=.r 78
abbrev r80:PE:=.r 80
abbrev r81:PE:=.r 81
abbrev r82:PE:=.r 82
abbrev r85:PE:=.r 85
abbrev r86:PE:=.r 86
abbrev r87:PE:=.r 87
abbrev r88:PE:=.r 88
abbrev r89:PE:=.r 89
abbrev r91:PE:=.r 91
abbrev r92:PE:=.r 92
abbrev r93:PE:=.r 93
abbrev r94:PE:=.r 94
abbrev r96:PE:=.r 96
abbrev r99:PE:=.r 99
abbrev afi:PE:=.r 103
abbrev akI:PE:=.r 104
abbrev afN:PE:=.r 106
abbrev ae0:PE:=.r 108
abbrev aeU:PE:=.r 112
abbrev akh:PE:=.r 115
abbrev ahS:PE:=.r 120
abbrev ahe:PE:=.r 121
abbrev ag6:PE:=.r 123
abbrev agN:PE:=.r 127
abbrev akD:PE:=.r 129
abbrev o0:PE:=.o 0
abbrev o1:PE:=.o 1
abbrev o2:PE:=.o 2
abbrev o3:PE:=.o 3
abbrev o4:PE:=.o 4
abbrev o5:PE:=.o 5
abbrev o6:PE:=.o 6
abbrev o7:PE:=.o 7
abbrev o8:PE:=.o 8
abbrev o9:PE:=.o 9
abbrev o10:PE:=.o 10
abbrev o12:PE:=.o 12
abbrev o13:PE:=.o 13
abbrev o14:PE:=.o 14
abbrev o16:PE:=.o 16
abbrev o17:PE:=.o 17
abbrev o45:PE:=.o 45
end Cx
