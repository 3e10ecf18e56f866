/-
  Shared texts of this claim.
-/
import Derived.Test.YtehiffddpebpkaaGreatDoorKAI
import Derived.Lib.LaidTab
set_option linter.unusedSimpArgs false
set_option linter.unusedVariables false
namespace Cx
open Go Go.RowKit
structure SE where
 r:List (Nat×PE)
 o:List (Nat×PE)
def SE.getR (s:SE)(t:Nat):PE:=match aa s.r t with|some e=>e|none=>.r t
def SE.getO (s:SE)(t:Nat):PE:=match aa s.o t with|some e=>e|none=>.o t
def SE.setR (s:SE)(t:Nat)(e:PE):SE:=⟨(t,e)::s.r,s.o⟩
def SE.setO (s:SE)(t:Nat)(e:PE):SE:=⟨s.r,(t,e)::s.o⟩
def SE.id:SE:=⟨[],[]⟩
def SE.ev (s:SE)(ρ:Env):Env:=⟨fun t=>(s.getR t).ev ρ,fun t=>(s.getO t).ev ρ⟩
def SE.join (s:SE)(lr lo:List Nat)(s':SE):SE:=⟨lr.map (fun t=>(t,s'.getR t))++s.r,lo.map (fun t=>(t,s'.getO t))++s.o⟩
theorem SE.setR_ev (s:SE)(t:Nat)(e:PE)(ρ:Env):(s.setR t e).ev ρ=(s.ev ρ).setR t (e.ev ρ):=by
 have h:(fun u=>((s.setR t e).getR u).ev ρ)=upd (fun u=>(s.getR u).ev ρ) t (e.ev ρ):=by
  funext u
  simp only[SE.getR,SE.setR,aa,aP]
  by_cases h:t=u
  ·subst h;simp
  ·have h':¬u=t:=fun e=>h e.symm
   simp[bZ h,h']
 simp only[SE.ev,Env.setR];rw[h];rfl
theorem SE.setO_ev (s:SE)(t:Nat)(e:PE)(ρ:Env):(s.setO t e).ev ρ=(s.ev ρ).setO t (e.ev ρ):=by
 have h:(fun u=>((s.setO t e).getO u).ev ρ)=upd (fun u=>(s.getO u).ev ρ) t (e.ev ρ):=by
  funext u
  simp only[SE.getO,SE.setO,aa,aP]
  by_cases h:t=u
  ·subst h;simp
  ·have h':¬u=t:=fun e=>h e.symm
   simp[bZ h,h']
 simp only[SE.ev,Env.setO];rw[h];rfl
theorem kR {f:Nat→PE}{l:List (Nat×PE)}{u:Nat}:∀(lr:List Nat),aa (lr.map (fun t=>(t,f t))++l) u=if u∈lr then some (f u) else aa l u
 |[]=>by simp
 |t::lr=>by
  simp only[List.map_cons,List.cons_append,aa,kR lr,List.mem_cons]
  by_cases h:t=u
  ·subst h;simp
  ·have h':¬u=t:=fun e=>h e.symm
   simp[bZ h,h']
theorem SE.join_ev (s s':SE)(lr lo:List Nat)(ρ:Env):(s.join lr lo s').ev ρ=(s.ev ρ).join lr lo (s'.ev ρ):=by
 have h1:∀u,((s.join lr lo s').getR u).ev ρ=((s.ev ρ).join lr lo (s'.ev ρ)).r u:=by
  intro u
  rw[Env.join_r]
  have e:aa (s.join lr lo s').r u=if u∈lr then some (s'.getR u) else aa s.r u:=kR lr
  unfold SE.getR
  rw[e]
  by_cases h:u∈lr
  ·simp only[h,if_true];rfl
  ·simp only[h,if_false];rfl
 have h2:∀u,((s.join lr lo s').getO u).ev ρ=((s.ev ρ).join lr lo (s'.ev ρ)).o u:=by
  intro u
  rw[Env.join_o]
  have e:aa (s.join lr lo s').o u=if u∈lo then some (s'.getO u) else aa s.o u:=kR lo
  unfold SE.getO
  rw[e]
  by_cases h:u∈lo
  ·simp only[h,if_true];rfl
  ·simp only[h,if_false];rfl
 have e1:(fun u=>((s.join lr lo s').getR u).ev ρ)=((s.ev ρ).join lr lo (s'.ev ρ)).r:=funext h1
 have e2:(fun u=>((s.join lr lo s').getO u).ev ρ)=((s.ev ρ).join lr lo (s'.ev ρ)).o:=funext h2
 show Env.mk _ _=_
 rw[e1,e2]
abbrev Asm:=List (PE×Bool)
def Asm.ok (asm:Asm)(ρ:Env):Prop:=∀x,x∈asm→(x.1.ev ρ).b=x.2
def Nj (e:PE):Asm→Option Bool
 |[]=>none
 |x::l=>bif PE.beq x.1 e then some x.2 else Nj e l
theorem Qs {e:PE}{ρ:Env}{b:Bool}:∀{asm:Asm},asm.ok ρ→Nj e asm=some b→(e.ev ρ).b=b
 |[],_,h=>by cases h
 |x::l,hok,h=>by
  simp only[Nj] at h
  cases hb:PE.beq x.1 e<;>simp only[hb,cond_true,cond_false] at h
  ·exact Qs (fun y hy=>hok y (List.mem_cons_of_mem _ hy)) h
  ·cases h;rw[←PE.beq_eq _ _ hb];exact hok x (List.mem_cons_self ..)
def Lb (asm:Asm):PE→Option Bool
 |.con (.v (.bool b))=>some b
 |.nt x=>(Lb asm x).map (!·)
 |e=>Nj e asm
theorem sW {asm:Asm}{ρ:Env}(h:asm.ok ρ):∀{e:PE} {b:Bool},Lb asm e=some b→(e.ev ρ).b=b
 |.con (.v (.bool b)),b',he=>by simp only[Lb,Option.some.injEq] at he;subst he;rfl
 |.nt x,b',he=>by
  simp only[Lb,Option.map_eq_some_iff] at he
  obtain⟨c,hc,rfl⟩:=he
  simp only[PE.ev,D.b_bool,sW h hc]
 |e,b',he=>by
  unfold Lb at he
  split at he
  ·cases he;rfl
  ·rename_i x
   simp only[Option.map_eq_some_iff] at he
   obtain⟨c,hc,rfl⟩:=he
   simp only[PE.ev,D.b_bool,sW h hc]
  ·exact Qs h he
def E1 (asm:Asm)(c a b:PE):PE:=match Lb asm c with|some true=>a|some false=>b|none=>.pick c a b
theorem Qo {asm:Asm}{ρ:Env}(h:asm.ok ρ)(c a b:PE):(E1 asm c a b).ev ρ=(PE.pick c a b).ev ρ:=by
 unfold E1
 split
 ·rename_i ht;simp[PE.ev,sW h ht]
 ·rename_i ht;simp[PE.ev,sW h ht]
 ·rfl
def YP:PE→PE
 |.ref x=>x
 |x=>.deref x
theorem abg (x:PE)(ρ:Env):(YP x).ev ρ=(PE.deref x).ev ρ:=by unfold YP;split<;>rfl
def adt:PE→Nat→PE
 |.tup es,i=>es.getD i (.con .none)
 |x,i=>.tget x i
theorem adj (x:PE)(i:Nat)(ρ:Env):(adt x i).ev ρ=(PE.tget x i).ev ρ:=by
 unfold adt
 split
 ·rename_i es
  simp only[PE.ev,D.tget_tup,PE.evs_eq,List.getD_eq_getElem?_getD,List.getElem?_map]
  cases es[i]?<;>rfl
 ·rfl
def WM:PE→Bool
 |.ai ..|.ci ..|.cb ..|.cs ..|.sadd ..|.nt _|.conv ..|.llen _|.bytes _|.slen _|.mlen _|.idx ..|.sidx ..|.sok ..|.slok ..|.lst _|.app ..|.setn ..|.rep ..|.slc ..|.ref _|.has ..|.put ..|.an ..|.imp ..|.tup _|.clo ..=>true
 |.con (.v _)|.con (.list _)|.con (.map _)=>true
 |_=>false
theorem acd {e:PE}(h:WM e=true)(ρ:Env):(e.ev ρ).cells=[e.ev ρ]:=by
 unfold WM at h
 split at h<;>first|rfl|cases h
def acC:PE→Nat→PE
 |.mk es,i=>bif es.all WM then es.getD i (.con .none) else .cell (.mk es) i
 |x,i=>.cell x i
theorem aaa {ρ:Env}:∀{es:List PE},es.all WM=true→PE.evc ρ es=PE.evs ρ es
 |[],_=>rfl
 |e::es,h=>by
  simp only[List.all_cons,Bool.and_eq_true] at h
  simp only[PE.evc,PE.evs,acd h.1,aaa h.2];rfl
theorem adf (x:PE)(i:Nat)(ρ:Env):(acC x i).ev ρ=(PE.cell x i).ev ρ:=by
 unfold acC
 split
 ·rename_i es
  cases hc:es.all WM
  ·rfl
  ·simp only[cond_true,PE.ev,aaa hc,D.c_agg,PE.evs_eq,List.getD_eq_getElem?_getD,List.getElem?_map]
   cases es[i]?<;>rfl
 ·rfl
def gsE (s:SE):List (Nat×Bool)→PE
 |[]=>.con (.v (.bool true))
 |g::gs=>.an (bif g.2 then s.getR g.1 else .nt (s.getR g.1)) (gsE s gs)
theorem acW (s:SE)(ρ:Env):∀gs,((gsE s gs).ev ρ).b=holds gs (s.ev ρ)
 |[]=>rfl
 |g::gs=>by
  have ih:=acW s ρ gs
  rw[Zj,←ih]
  have e:((s.ev ρ).r g.1)=(s.getR g.1).ev ρ:=rfl
  rw[e]
  cases hg:g.2
  ·simp only[gsE,hg,cond_false,PE.ev,D.b_bool];cases((s.getR g.1).ev ρ).b<;>rfl
  ·simp only[gsE,hg,cond_true,PE.ev,D.b_bool];cases((s.getR g.1).ev ρ).b<;>rfl
mutual
def PE.sub' (asm:Asm)(s:SE):PE→PE
 |.r t=>s.getR t
 |.o j=>s.getO j
 |.con d=>.con d
 |.cell e i=>acC (PE.sub' asm s e) i
 |.sub e a b=>.sub (PE.sub' asm s e) a b
 |.setc e q x=>.setc (PE.sub' asm s e) q (PE.sub' asm s x)
 |.mk es=>.mk (PE.subs' asm s es)
 |.ai op k x y=>.ai op k (PE.sub' asm s x) (PE.sub' asm s y)
 |.ci op x y=>.ci op (PE.sub' asm s x) (PE.sub' asm s y)
 |.cb op x y=>.cb op (PE.sub' asm s x) (PE.sub' asm s y)
 |.cs op x y=>.cs op (PE.sub' asm s x) (PE.sub' asm s y)
 |.sadd x y=>.sadd (PE.sub' asm s x) (PE.sub' asm s y)
 |.nt x=>.nt (PE.sub' asm s x)
 |.conv k x=>.conv k (PE.sub' asm s x)
 |.pick c a b=>E1 asm (PE.sub' asm s c) (PE.sub' asm s a) (PE.sub' asm s b)
 |.llen x=>.llen (PE.sub' asm s x)
 |.bytes x=>.bytes (PE.sub' asm s x)
 |.slen x=>.slen (PE.sub' asm s x)
 |.mlen x=>.mlen (PE.sub' asm s x)
 |.nth x y=>.nth (PE.sub' asm s x) (PE.sub' asm s y)
 |.idx x y=>.idx (PE.sub' asm s x) (PE.sub' asm s y)
 |.sidx x y=>.sidx (PE.sub' asm s x) (PE.sub' asm s y)
 |.sok x y=>.sok (PE.sub' asm s x) (PE.sub' asm s y)
 |.setn x y n z=>.setn (PE.sub' asm s x) (PE.sub' asm s y) n (PE.sub' asm s z)
 |.app x y=>.app (PE.sub' asm s x) (PE.sub' asm s y)
 |.lst es=>.lst (PE.subs' asm s es)
 |.rep x y=>.rep (PE.sub' asm s x) (PE.sub' asm s y)
 |.slc x y z=>.slc (PE.sub' asm s x) (PE.sub' asm s y) (PE.sub' asm s z)
 |.slok x y z=>.slok (PE.sub' asm s x) (PE.sub' asm s y) (PE.sub' asm s z)
 |.ref x=>.ref (PE.sub' asm s x)
 |.deref x=>YP (PE.sub' asm s x)
 |.look x y z=>.look (PE.sub' asm s x) (PE.sub' asm s y) (PE.sub' asm s z)
 |.has x y=>.has (PE.sub' asm s x) (PE.sub' asm s y)
 |.put x y z=>.put (PE.sub' asm s x) (PE.sub' asm s y) (PE.sub' asm s z)
 |.mn x y=>.mn (PE.sub' asm s x) (PE.sub' asm s y)
 |.mx x y=>.mx (PE.sub' asm s x) (PE.sub' asm s y)
 |.tup es=>.tup (PE.subs' asm s es)
 |.tget x i=>adt (PE.sub' asm s x) i
 |.clo f es=>.clo f (PE.subs' asm s es)
 |.an x y=>.an (PE.sub' asm s x) (PE.sub' asm s y)
 |.imp c x=>.nt (.an (gsE s c) (.nt (PE.sub' asm s x)))
def PE.subs' (asm:Asm)(s:SE):List PE→List PE
 |[]=>[]
 |e::es=>PE.sub' asm s e::PE.subs' asm s es
end
mutual
theorem PE.sub_ev {asm:Asm}{ρ:Env}(h:asm.ok ρ)(s:SE):∀(e:PE),(PE.sub' asm s e).ev ρ=e.ev (s.ev ρ)
 |.r t=>rfl
 |.o j=>rfl
 |.con d=>rfl
 |.cell e i=>by simp only[PE.sub',adf,PE.ev,PE.sub_ev h s e]
 |.sub e a b=>by simp only[PE.sub',PE.ev,PE.sub_ev h s e]
 |.setc e q x=>by simp only[PE.sub',PE.ev,PE.sub_ev h s e,PE.sub_ev h s x]
 |.mk es=>by simp only[PE.sub',PE.ev,PE.subc_ev h s es]
 |.ai op k x y=>by simp only[PE.sub',PE.ev,PE.sub_ev h s x,PE.sub_ev h s y]
 |.ci op x y=>by simp only[PE.sub',PE.ev,PE.sub_ev h s x,PE.sub_ev h s y]
 |.cb op x y=>by simp only[PE.sub',PE.ev,PE.sub_ev h s x,PE.sub_ev h s y]
 |.cs op x y=>by simp only[PE.sub',PE.ev,PE.sub_ev h s x,PE.sub_ev h s y]
 |.sadd x y=>by simp only[PE.sub',PE.ev,PE.sub_ev h s x,PE.sub_ev h s y]
 |.nt x=>by simp only[PE.sub',PE.ev,PE.sub_ev h s x]
 |.conv k x=>by simp only[PE.sub',PE.ev,PE.sub_ev h s x]
 |.pick c a b=>by simp only[PE.sub',Qo h,PE.ev,PE.sub_ev h s c,PE.sub_ev h s a,PE.sub_ev h s b]
 |.llen x=>by simp only[PE.sub',PE.ev,PE.sub_ev h s x]
 |.bytes x=>by simp only[PE.sub',PE.ev,PE.sub_ev h s x]
 |.slen x=>by simp only[PE.sub',PE.ev,PE.sub_ev h s x]
 |.mlen x=>by simp only[PE.sub',PE.ev,PE.sub_ev h s x]
 |.nth x y=>by simp only[PE.sub',PE.ev,PE.sub_ev h s x,PE.sub_ev h s y]
 |.idx x y=>by simp only[PE.sub',PE.ev,PE.sub_ev h s x,PE.sub_ev h s y]
 |.sidx x y=>by simp only[PE.sub',PE.ev,PE.sub_ev h s x,PE.sub_ev h s y]
 |.sok x y=>by simp only[PE.sub',PE.ev,PE.sub_ev h s x,PE.sub_ev h s y]
 |.setn x y n z=>by simp only[PE.sub',PE.ev,PE.sub_ev h s x,PE.sub_ev h s y,PE.sub_ev h s z]
 |.app x y=>by simp only[PE.sub',PE.ev,PE.sub_ev h s x,PE.sub_ev h s y]
 |.lst es=>by simp only[PE.sub',PE.ev,PE.subs_ev h s es]
 |.rep x y=>by simp only[PE.sub',PE.ev,PE.sub_ev h s x,PE.sub_ev h s y]
 |.slc x y z=>by simp only[PE.sub',PE.ev,PE.sub_ev h s x,PE.sub_ev h s y,PE.sub_ev h s z]
 |.slok x y z=>by simp only[PE.sub',PE.ev,PE.sub_ev h s x,PE.sub_ev h s y,PE.sub_ev h s z]
 |.ref x=>by simp only[PE.sub',PE.ev,PE.sub_ev h s x]
 |.deref x=>by simp only[PE.sub',abg,PE.ev,PE.sub_ev h s x]
 |.look x y z=>by simp only[PE.sub',PE.ev,PE.sub_ev h s x,PE.sub_ev h s y,PE.sub_ev h s z]
 |.has x y=>by simp only[PE.sub',PE.ev,PE.sub_ev h s x,PE.sub_ev h s y]
 |.put x y z=>by simp only[PE.sub',PE.ev,PE.sub_ev h s x,PE.sub_ev h s y,PE.sub_ev h s z]
 |.mn x y=>by simp only[PE.sub',PE.ev,PE.sub_ev h s x,PE.sub_ev h s y]
 |.mx x y=>by simp only[PE.sub',PE.ev,PE.sub_ev h s x,PE.sub_ev h s y]
 |.tup es=>by simp only[PE.sub',PE.ev,PE.subs_ev h s es]
 |.tget x i=>by simp only[PE.sub',adj,PE.ev,PE.sub_ev h s x]
 |.clo f es=>by simp only[PE.sub',PE.ev,PE.subs_ev h s es]
 |.an x y=>by simp only[PE.sub',PE.ev,PE.sub_ev h s x,PE.sub_ev h s y]
 |.imp c x=>by
  simp only[PE.sub',PE.ev,D.b_bool,acW,PE.sub_ev h s x]
  cases holds c (s.ev ρ)<;>cases(x.ev (s.ev ρ)).b<;>rfl
theorem PE.subs_ev {asm:Asm}{ρ:Env}(h:asm.ok ρ)(s:SE):∀(es:List PE),PE.evs ρ (PE.subs' asm s es)=PE.evs (s.ev ρ) es
 |[]=>rfl
 |e::es=>by simp only[PE.subs',PE.evs,PE.sub_ev h s e,PE.subs_ev h s es]
theorem PE.subc_ev {asm:Asm}{ρ:Env}(h:asm.ok ρ)(s:SE):∀(es:List PE),PE.evc ρ (PE.subs' asm s es)=PE.evc (s.ev ρ) es
 |[]=>rfl
 |e::es=>by simp only[PE.subs',PE.evc,PE.sub_ev h s e,PE.subc_ev h s es]
end
inductive PT where
 |next (s:SE)
 |exit (id:Nat) (s:SE)
 |ret (e:PE)
 |chk (e:PE) (k:PT)
 |ite (c:PE) (a b:PT)
 |call (s:SE) (gs:List (Nat×Bool)) (dst f:Nat) (args:List PE) (k:PT)
 |callc (s:SE) (gs:List (Nat×Bool)) (dst:Nat) (e:PE) (args:List PE) (k:PT)
 |mcall (s:SE) (j f:Nat) (args:List PE) (k:PT)
 |iteS (s:SE) (c:PE) (lr lo:List Nat) (a b k:PT)
 |blockS (s:SE) (id:Nat) (lr lo:List Nat) (a k:PT)
 |brk (s:SE) (c:PC) (k:PT)
def aE (T:bn):PT→Env→(Out→Prop)→Prop
 |.next s,ρ,Q=>Q (.next (s.ev ρ))
 |.exit id s,ρ,Q=>Q (.exit id (s.ev ρ))
 |.ret e,ρ,Q=>Q (.ret (e.ev ρ))
 |.chk e k,ρ,Q=>(e.ev ρ).b=true∧aE T k ρ Q
 |.ite c a b,ρ,Q=>if(c.ev ρ).b=true then aE T a ρ Q else aE T b ρ Q
 |.call s gs dst f args k,ρ,Q=>if holds gs (s.ev ρ)=true then ∃d,Runs T f (PE.evs ρ args) d∧aE T k ((s.ev ρ).setR dst d) Q else aE T k (s.ev ρ) Q
 |.callc s gs dst e args k,ρ,Q=>if holds gs (s.ev ρ)=true then ∃f caps d,e.ev ρ=.clo f caps∧Runs T f (PE.evs ρ args++caps) d∧aE T k ((s.ev ρ).setR dst d) Q else aE T k (s.ev ρ) Q
 |.mcall s j f args k,ρ,Q=>∃d,Runs T f (PE.evs ρ args) d∧aE T k ((s.ev ρ).setO j d) Q
 |.iteS s c lr lo a b k,ρ,Q=>if(c.ev ρ).b=true then aE T a (s.ev ρ) (qT (s.ev ρ) lr lo (tF (fun ρ'=>aE T k ρ' Q) Q)) else aE T b (s.ev ρ) (qT (s.ev ρ) lr lo (tF (fun ρ'=>aE T k ρ' Q) Q))
 |.blockS s id lr lo a k,ρ,Q=>aE T a (s.ev ρ) (lH (s.ev ρ) id lr lo (tF (fun ρ'=>aE T k ρ' Q) Q))
 |.brk s c k,ρ,Q=>EvP T c (s.ev ρ) (tF (fun ρ'=>aE T k ρ' Q) Q)
def yu:PI→Bool
 |.setR ..|.setO ..|.chk _=>true
 |_=>false
def cY:PC→Bool
 |.loop ..=>false
 |.each ..=>false
 |.meach ..=>false
 |.seq a b=>cY a&&cY b
 |.ite _ _ _ a b=>cY a&&cY b
 |.block _ _ _ a=>cY a
 |.is l=>l.all yu
 |_=>true
abbrev Kn:=Asm→SE→PT
abbrev Kx:=Asm→Nat→SE→PT
def sxI:List PI→Asm→SE→Kn→PT
 |[],asm,s,k=>k asm s
 |.setR t e::l,asm,s,k=>sxI l asm (s.setR t (e.sub' asm s)) k
 |.setO t e::l,asm,s,k=>sxI l asm (s.setO t (e.sub' asm s)) k
 |.chk e::l,asm,s,k=>
  match Lb asm (e.sub' asm s) with
  |some true=>sxI l asm s k
  |_=>.chk (e.sub' asm s) (sxI l ((e.sub' asm s,true)::asm) s k)
 |.call gs dst f args::l,asm,s,k=>.call s gs dst f (PE.subs' asm s args) (sxI l [] .id k)
 |.callc gs dst e args::l,asm,s,k=>.callc s gs dst (e.sub' asm s) (PE.subs' asm s args) (sxI l [] .id k)
 |.mcall j f args::l,asm,s,k=>.mcall s j f (PE.subs' asm s args) (sxI l [] .id k)
def SE.merge (s:SE)(asm:Asm)(lr lo:List Nat)(c:PE)(a b:SE):SE:=⟨lr.map (fun t=>(t,E1 asm c (a.getR t) (b.getR t)))++s.r,lo.map (fun t=>(t,E1 asm c (a.getO t) (b.getO t)))++s.o⟩
def sK:List PI→Asm→SE→Option SE
 |[],_,s=>some s
 |.setR t e::l,asm,s=>sK l asm (s.setR t (e.sub' asm s))
 |.setO t e::l,asm,s=>sK l asm (s.setO t (e.sub' asm s))
 |_::_,_,_=>none
def plain:PC→Asm→SE→Option SE
 |.skip,_,s=>some s
 |.is l,asm,s=>sK l asm s
 |.seq a b,asm,s=>(plain a asm s).bind fun s=>plain b asm s
 |.ite c lr lo a b,asm,s=>(plain a asm s).bind fun sa=>(plain b asm s).map fun sb=>s.merge asm lr lo (c.sub' asm s) sa sb
 |_,_,_=>none
def abN:PC→Bool
 |.loop ..=>true
 |_=>false
def sx:PC→Asm→SE→Kn→Kx→PT
 |.skip,asm,s,k,_=>k asm s
 |.is l,asm,s,k,_=>sxI l asm s k
 |.seq a b,asm,s,k,kx=>sx a asm s (fun asm s=>sx b asm s k kx) kx
 |.ite c lr lo a b,asm,s,k,kx=>
  match Lb asm (c.sub' asm s) with
  |some true=>bif cY a then sx a asm s (fun asm s'=>k asm (s.join lr lo s')) kx else .iteS s (c.sub' asm s) lr lo (sx a [] .id (fun _ s=>.next s) (fun _ id s=>.exit id s)) (sx b [] .id (fun _ s=>.next s) (fun _ id s=>.exit id s)) (k [] .id)
  |some false=>bif cY b then sx b asm s (fun asm s'=>k asm (s.join lr lo s')) kx else .iteS s (c.sub' asm s) lr lo (sx a [] .id (fun _ s=>.next s) (fun _ id s=>.exit id s)) (sx b [] .id (fun _ s=>.next s) (fun _ id s=>.exit id s)) (k [] .id)
  |none=>
   match plain a asm s,plain b asm s with
   |some sa,some sb=>k asm (s.merge asm lr lo (c.sub' asm s) sa sb)
   |_,_=>
   bif cY a&&cY b then
    .ite (c.sub' asm s) (sx a ((c.sub' asm s,true)::asm) s (fun asm s'=>k asm (s.join lr lo s')) kx) (sx b ((c.sub' asm s,false)::asm) s (fun asm s'=>k asm (s.join lr lo s')) kx)
   else .iteS s (c.sub' asm s) lr lo (sx a [] .id (fun _ s=>.next s) (fun _ id s=>.exit id s)) (sx b [] .id (fun _ s=>.next s) (fun _ id s=>.exit id s)) (k [] .id)
 |.block id lr lo a,asm,s,k,kx=>
  bif cY a then sx a asm s (fun asm s'=>k asm (s.join lr lo s')) (fun asm id' s'=>bif Nat.beq id' id then k asm (s.join lr lo s') else kx asm id' s')
  else bif abN a then .brk s (.block id lr lo a) (k [] .id)
  else .blockS s id lr lo (sx a [] .id (fun _ s=>.next s) (fun _ id s=>.exit id s)) (k [] .id)
 |.loop lr lo a,_,s,k,_=>.brk s (.loop lr lo a) (k [] .id)
 |.each e ps lo rt a,_,s,k,_=>.brk s (.each e ps lo rt a) (k [] .id)
 |.meach J ps sel lo a,_,s,k,_=>.brk s (.meach J ps sel lo a) (k [] .id)
 |.exit id,asm,s,_,kx=>kx asm id s
 |.ret e,asm,s,_,_=>.ret (e.sub' asm s)
theorem Asm.ok_nil (ρ:Env):Asm.ok [] ρ:=fun _ h=>nomatch h
theorem Asm.ok_cons {asm:Asm}{ρ:Env}{e:PE}{b:Bool}(h:asm.ok ρ)(he:(e.ev ρ).b=b):Asm.ok ((e,b)::asm) ρ:=fun x hx=>by
 rcases List.mem_cons.1 hx with e'|hx
 ·rw[e'];exact he
 ·exact h x hx
theorem vC {T:bn}{Q:Out→Prop}{K:Env→Prop}{k:Kn}:∀{l:List PI} {asm:Asm} {s:SE} {ρ:Env},asm.ok ρ→aE T (sxI l asm s k) ρ Q→
 (∀ρ' asm s,(l.all yu=true→ρ'=ρ)→asm.ok ρ'→aE T (k asm s) ρ' Q→K (s.ev ρ'))→wpI T l (s.ev ρ) K
 |[],asm,s,ρ,ha,h,hk=>hk ρ asm s (fun _=>rfl) ha h
 |.setR t e::l,asm,s,ρ,ha,h,hk=>by
  simp only[wpI]
  rw[←PE.sub_ev ha s e,←SE.setR_ev]
  exact vC ha h fun ρ' asm s hp=>hk ρ' asm s fun hl=>hp (by simpa [yu] using hl)
 |.setO t e::l,asm,s,ρ,ha,h,hk=>by
  simp only[wpI]
  rw[←PE.sub_ev ha s e,←SE.setO_ev]
  exact vC ha h fun ρ' asm s hp=>hk ρ' asm s fun hl=>hp (by simpa [yu] using hl)
 |.chk e::l,asm,s,ρ,ha,h,hk=>by
  simp only[wpI]
  rw[←PE.sub_ev ha s e]
  simp only[sxI] at h
  split at h
  ·rename_i ht
   exact⟨sW ha ht,vC ha h fun ρ' asm s hp=>hk ρ' asm s fun hl=>hp (by simpa [yu] using hl)⟩
  ·exact⟨h.1,vC (Asm.ok_cons ha h.1) h.2 fun ρ' asm s hp=>hk ρ' asm s fun hl=>hp (by simpa [yu] using hl)⟩
 |.call gs dst f args::l,asm,s,ρ,ha,h,hk=>by
  simp only[wpI]
  simp only[sxI,aE,PE.subs_ev ha,PE.sub_ev ha] at h
  have hk':∀{ρ0:Env},∀ρ' asm s,(l.all yu=true→ρ'=ρ0)→asm.ok ρ'→aE T (k asm s) ρ' Q→K (s.ev ρ'):=fun ρ' asm s _=>hk ρ' asm s fun hl=>by simp[yu] at hl
  split at h
  ·rename_i hg
   rw[if_pos hg]
   obtain⟨d,hd,h⟩:=h
   exact⟨d,hd,vC (s:=.id) (Asm.ok_nil _) h hk'⟩
  ·rename_i hg
   rw[if_neg hg]
   exact vC (s:=.id) (Asm.ok_nil _) h hk'
 |.callc gs dst e args::l,asm,s,ρ,ha,h,hk=>by
  simp only[wpI]
  simp only[sxI,aE,PE.subs_ev ha,PE.sub_ev ha] at h
  have hk':∀{ρ0:Env},∀ρ' asm s,(l.all yu=true→ρ'=ρ0)→asm.ok ρ'→aE T (k asm s) ρ' Q→K (s.ev ρ'):=fun ρ' asm s _=>hk ρ' asm s fun hl=>by simp[yu] at hl
  split at h
  ·rename_i hg
   rw[if_pos hg]
   obtain⟨f,caps,d,he,hd,h⟩:=h
   exact⟨f,caps,d,he,hd,vC (s:=.id) (Asm.ok_nil _) h hk'⟩
  ·rename_i hg
   rw[if_neg hg]
   exact vC (s:=.id) (Asm.ok_nil _) h hk'
 |.mcall j f args::l,asm,s,ρ,ha,h,hk=>by
  simp only[wpI]
  simp only[sxI,aE,PE.subs_ev ha,PE.sub_ev ha] at h
  have hk':∀{ρ0:Env},∀ρ' asm s,(l.all yu=true→ρ'=ρ0)→asm.ok ρ'→aE T (k asm s) ρ' Q→K (s.ev ρ'):=fun ρ' asm s _=>hk ρ' asm s fun hl=>by simp[yu] at hl
  obtain⟨d,hd,h⟩:=h
  exact⟨d,hd,vC (s:=.id) (Asm.ok_nil _) h hk'⟩
theorem SE.merge_ev {asm:Asm}{ρ:Env}(h:asm.ok ρ)(s a b:SE)(lr lo:List Nat)(c:PE):(s.merge asm lr lo c a b).ev ρ=(s.ev ρ).join lr lo (if(c.ev ρ).b=true then a.ev ρ else b.ev ρ):=by
 have h1:∀u,((s.merge asm lr lo c a b).getR u).ev ρ=((s.ev ρ).join lr lo (if(c.ev ρ).b=true then a.ev ρ else b.ev ρ)).r u:=by
  intro u
  rw[Env.join_r]
  have e:aa (s.merge asm lr lo c a b).r u=if u∈lr then some (E1 asm c (a.getR u) (b.getR u)) else aa s.r u:=kR lr
  have e2:(s.merge asm lr lo c a b).getR u=if u∈lr then E1 asm c (a.getR u) (b.getR u) else s.getR u:=by
   unfold SE.getR;rw[e];by_cases h:u∈lr<;>simp[h,SE.getR]
  rw[e2]
  by_cases hu:u∈lr
  ·simp only[hu,if_true,Qo h,PE.ev]
   cases hc:(c.ev ρ).b<;>simp[SE.ev]
  ·simp only[hu,if_false];rfl
 have h2:∀u,((s.merge asm lr lo c a b).getO u).ev ρ=((s.ev ρ).join lr lo (if(c.ev ρ).b=true then a.ev ρ else b.ev ρ)).o u:=by
  intro u
  rw[Env.join_o]
  have e:aa (s.merge asm lr lo c a b).o u=if u∈lo then some (E1 asm c (a.getO u) (b.getO u)) else aa s.o u:=kR lo
  have e2:(s.merge asm lr lo c a b).getO u=if u∈lo then E1 asm c (a.getO u) (b.getO u) else s.getO u:=by
   unfold SE.getO;rw[e];by_cases h:u∈lo<;>simp[h,SE.getO]
  rw[e2]
  by_cases hu:u∈lo
  ·simp only[hu,if_true,Qo h,PE.ev]
   cases hc:(c.ev ρ).b<;>simp[SE.ev]
  ·simp only[hu,if_false];rfl
 have e1:(fun u=>((s.merge asm lr lo c a b).getR u).ev ρ)=((s.ev ρ).join lr lo (if(c.ev ρ).b=true then a.ev ρ else b.ev ρ)).r:=funext h1
 have e2:(fun u=>((s.merge asm lr lo c a b).getO u).ev ρ)=((s.ev ρ).join lr lo (if(c.ev ρ).b=true then a.ev ρ else b.ev ρ)).o:=funext h2
 show Env.mk _ _=_
 rw[e1,e2]
theorem JZ {T:bn}{asm:Asm}{ρ:Env}(ha:asm.ok ρ):∀{l:List PI} {s s':SE},sK l asm s=some s'→∀{K:Env→Prop},K (s'.ev ρ)→wpI T l (s.ev ρ) K
 |[],s,s',h,K,hk=>by simp only[sK,Option.some.injEq] at h;subst h;exact hk
 |.setR t e::l,s,s',h,K,hk=>by simp only[wpI];rw[←PE.sub_ev ha s e,←SE.setR_ev];exact JZ (l:=l) ha (show sK l asm _=some s' from h) hk
 |.setO t e::l,s,s',h,K,hk=>by simp only[wpI];rw[←PE.sub_ev ha s e,←SE.setO_ev];exact JZ (l:=l) ha (show sK l asm _=some s' from h) hk
 |.chk _::_,_,_,h,_,_=>by simp[sK] at h
 |.call ..::_,_,_,h,_,_=>by simp[sK] at h
 |.callc ..::_,_,_,h,_,_=>by simp[sK] at h
 |.mcall ..::_,_,_,h,_,_=>by simp[sK] at h
theorem adB {T:bn}{asm:Asm}{ρ:Env}(ha:asm.ok ρ):∀(c:PC) {s s':SE},plain c asm s=some s'→∀{Q:Out→Prop},Q (.next (s'.ev ρ))→EvP T c (s.ev ρ) Q:=by
 intro c
 induction c with
 |skip=>intro s s' h Q hq;simp only[plain,Option.some.injEq] at h;subst h;exact .skip hq
 |is l=>intro s s' h Q hq;exact .is (JZ ha h hq)
 |seq a b iha ihb=>
  intro s s' h Q hq
  simp only[plain,Option.bind_eq_some_iff] at h
  obtain⟨s1,h1,h2⟩:=h
  exact .seq (iha h1 (ihb h2 hq))
 |ite c lr lo a b iha ihb=>
  intro s s' h Q hq
  simp only[plain,Option.bind_eq_some_iff,Option.map_eq_some_iff] at h
  obtain⟨sa,h1,sb,h2,rfl⟩:=h
  rw[SE.merge_ev ha,PE.sub_ev ha] at hq
  refine .ite ?_
  split
  ·rename_i hc;rw[if_pos hc] at hq;exact iha h1 hq
  ·rename_i hc;rw[if_neg hc] at hq;exact ihb h2 hq
 |_=>intro s s' h;simp[plain] at h
theorem Z8 {T:bn}:∀(c:PC) {asm:Asm} {s:SE} {k:Kn} {kx:Kx} {ρ:Env} {Q Q':Out→Prop},asm.ok ρ→aE T (sx c asm s k kx) ρ Q→
 (∀ρ' asm s,(cY c=true→ρ'=ρ)→asm.ok ρ'→aE T (k asm s) ρ' Q→Q' (.next (s.ev ρ')))→
 (∀ρ' asm id s,(cY c=true→ρ'=ρ)→asm.ok ρ'→aE T (kx asm id s) ρ' Q→Q' (.exit id (s.ev ρ')))→(cY c=false→∀id ρ',Q (.exit id ρ')→Q' (.exit id ρ'))→(∀d,Q (.ret d)→Q' (.ret d))→EvP T c (s.ev ρ) Q':=by
 intro c
 have alone:∀(a:PC),(∀{asm:Asm} {s:SE} {k:Kn} {kx:Kx} {ρ:Env} {Q Q':Out→Prop},asm.ok ρ→aE T (sx a asm s k kx) ρ Q→
  (∀ρ' asm s,(cY a=true→ρ'=ρ)→asm.ok ρ'→aE T (k asm s) ρ' Q→Q' (.next (s.ev ρ')))→
  (∀ρ' asm id s,(cY a=true→ρ'=ρ)→asm.ok ρ'→aE T (kx asm id s) ρ' Q→Q' (.exit id (s.ev ρ')))→(cY a=false→∀id ρ',Q (.exit id ρ')→Q' (.exit id ρ'))→(∀d,Q (.ret d)→Q' (.ret d))→EvP T a (s.ev ρ) Q')→
  ∀{ρ:Env} {Q:Out→Prop},aE T (sx a [] .id (fun _ s=>.next s) (fun _ id s=>.exit id s)) ρ Q→EvP T a ρ Q:=by
  intro a ih ρ Q h
  exact ih (s:=.id) (Asm.ok_nil _) h (fun ρ' asm s _ _ h=>h) (fun ρ' asm id s _ _ h=>h) (fun _ _ _ h=>h) (fun _ h=>h)
 induction c with
 |skip=>intro asm s k kx ρ Q Q' ha h hk _ _ _;exact .skip (hk ρ asm s (fun _=>rfl) ha h)
 |is l=>intro asm s k kx ρ Q Q' ha h hk _ _ _;exact .is (vC (K:=fun ρ'=>Q' (.next ρ')) ha h hk)
 |seq a b iha ihb=>
  intro asm s k kx ρ Q Q' ha h hk hx hxx hr
  refine .seq (iha ha h (Q':=tF (fun ρ'=>EvP T b ρ' Q') Q') (fun ρ' asm s hp ha' h'=>?_) (fun ρ' asm id s hp ha' h'=>?_) (fun hp=>?_) hr)
  ·refine ihb ha' h' (fun ρ2 asm s hp2=>hk ρ2 asm s fun hl=>?_) (fun ρ2 asm id s hp2=>hx ρ2 asm id s fun hl=>?_) (fun hp2=>?_) hr
   ·simp only[cY,Bool.and_eq_true] at hl;rw[hp2 hl.2,hp hl.1]
   ·simp only[cY,Bool.and_eq_true] at hl;rw[hp2 hl.2,hp hl.1]
   ·exact hxx (by simp[cY,hp2])
  ·exact hx ρ' asm id s (fun hl=>by simp only[cY,Bool.and_eq_true] at hl;exact hp hl.1) ha' h'
  ·exact hxx (by simp[cY,hp])
 |ite c lr lo a b iha ihb=>
  intro asm s k kx ρ Q Q' ha h hk hx hxx hr
  have hev:((c.sub' asm s).ev ρ).b=(c.ev (s.ev ρ)).b:=by rw[PE.sub_ev ha]
  have struct:(cY a&&cY b)=false→aE T (.iteS s (c.sub' asm s) lr lo (sx a [] .id (fun _ s=>.next s) (fun _ id s=>.exit id s)) (sx b [] .id (fun _ s=>.next s) (fun _ id s=>.exit id s)) (k [] .id)) ρ Q→EvP T (.ite c lr lo a b) (s.ev ρ) Q':=by
   intro hpure h
   have hnp:cY (.ite c lr lo a b)=false:=hpure
   simp only[aE,hev] at h
   have conv:∀x,qT (s.ev ρ) lr lo (tF (fun ρ'=>aE T (k [] .id) ρ' Q) Q) x→qT (s.ev ρ) lr lo Q' x:=by
      intro x hx'
      cases x with
      |next ρ'=>exact hk _ [] .id (fun hl=>by rw[hnp] at hl;cases hl) (Asm.ok_nil _) hx'
      |exit id ρ'=>exact hxx hnp id ρ' hx'
      |ret d=>exact hr d hx'
   refine .ite ?_
   split at h
   ·rename_i hc;rw[if_pos hc];exact(alone a iha h).mono conv
   ·rename_i hc;rw[if_neg hc];exact(alone b ihb h).mono conv
  have inA:∀asm',asm'.ok ρ→cY a=true→aE T (sx a asm' s (fun asm s'=>k asm (s.join lr lo s')) kx) ρ Q→EvP T a (s.ev ρ) (qT (s.ev ρ) lr lo Q'):=by
   intro asm' ha' hpa h'
   refine iha ha' h' (fun ρ' asm s' hp ha'' h''=>?_) (fun ρ' asm id s' hp ha'' h''=>?_) (fun hp=>by rw[hpa] at hp;cases hp) hr
   ·have e:=hp hpa
    subst e
    show Q' (.next _)
    rw[←SE.join_ev]
    exact hk ρ' asm _ (fun _=>rfl) ha'' h''
   ·have e:=hp hpa
    subst e
    exact hx ρ' asm id s' (fun _=>rfl) ha'' h''
  have inB:∀asm',asm'.ok ρ→cY b=true→aE T (sx b asm' s (fun asm s'=>k asm (s.join lr lo s')) kx) ρ Q→EvP T b (s.ev ρ) (qT (s.ev ρ) lr lo Q'):=by
   intro asm' ha' hpa h'
   refine ihb ha' h' (fun ρ' asm s' hp ha'' h''=>?_) (fun ρ' asm id s' hp ha'' h''=>?_) (fun hp=>by rw[hpa] at hp;cases hp) hr
   ·have e:=hp hpa
    subst e
    show Q' (.next _)
    rw[←SE.join_ev]
    exact hk ρ' asm _ (fun _=>rfl) ha'' h''
   ·have e:=hp hpa
    subst e
    exact hx ρ' asm id s' (fun _=>rfl) ha'' h''
  simp only[sx] at h
  split at h
  ·rename_i ht
   cases hpa:cY a<;>simp only[hpa,cond_true,cond_false] at h
   ·exact struct (by simp[hpa]) h
   ·refine .ite ?_
    rw[if_pos (by rw[←hev];exact sW ha ht)]
    exact inA asm ha hpa h
  ·rename_i ht
   cases hpa:cY b<;>simp only[hpa,cond_true,cond_false] at h
   ·exact struct (by simp[hpa]) h
   ·refine .ite ?_
    rw[if_neg (by rw[←hev,sW ha ht];simp)]
    exact inB asm ha hpa h
  ·split at h
   ·rename_i sa sb hsa hsb
    have hpl:plain (.ite c lr lo a b) asm s=some (s.merge asm lr lo (c.sub' asm s) sa sb):=by simp[plain,hsa,hsb]
    exact adB ha _ hpl (hk ρ asm _ (fun _=>rfl) ha h)
   cases hpa:(cY a&&cY b)<;>simp only[hpa,cond_true,cond_false] at h
   ·exact struct hpa h
   ·simp only[Bool.and_eq_true] at hpa
    simp only[aE] at h
    refine .ite ?_
    rw[←hev]
    split at h
    ·rename_i hc;rw[if_pos hc];exact inA _ (Asm.ok_cons ha hc) hpa.1 h
    ·rename_i hc;rw[if_neg hc];exact inB _ (Asm.ok_cons ha (by simpa using hc)) hpa.2 h
 |block id lr lo a iha=>
  intro asm s k kx ρ Q Q' ha h hk hx hxx hr
  simp only[sx] at h
  cases hpa:cY a<;>simp only[hpa,cond_true,cond_false] at h
  ·have hnp:cY (.block id lr lo a)=false:=hpa
   cases hl:abN a<;>simp only[hl,cond_true,cond_false] at h
   case true=>
        simp only[aE] at h
        refine EvP.mono h fun x hx'=>?_
        cases x with
        |next ρ'=>exact hk _ [] .id (fun hl=>by rw[hnp] at hl;cases hl) (Asm.ok_nil _) hx'
        |exit id ρ'=>exact hxx hnp id ρ' hx'
        |ret d=>exact hr d hx'
   simp only[aE] at h
   refine .block ((alone a iha h).mono fun x hx'=>?_)
   cases x with
   |next ρ'=>exact hk _ [] .id (fun hl=>by rw[hnp] at hl;cases hl) (Asm.ok_nil _) hx'
   |exit id' ρ'=>
    simp only[lH] at hx' ⊢
    split
    ·rename_i e;rw[if_pos e] at hx';exact hk _ [] .id (fun hl=>by rw[hnp] at hl;cases hl) (Asm.ok_nil _) hx'
    ·rename_i e;rw[if_neg e] at hx';exact hxx hnp id' ρ' hx'
   |ret d=>exact hr d hx'
  ·refine .block (iha ha h (fun ρ' asm s' hp ha'' h''=>?_) (fun ρ' asm id' s' hp ha'' h''=>?_) (fun hp=>by rw[hpa] at hp;cases hp) hr)
   ·have e:=hp hpa
    subst e
    show Q' (.next _)
    rw[←SE.join_ev]
    exact hk ρ' asm _ (fun _=>rfl) ha'' h''
   ·have e:=hp hpa
    subst e
    simp only[lH]
    by_cases hid:id'=id
    ·subst hid
     simp only[Nat.beq_refl,cond_true] at h''
     rw[if_pos rfl,←SE.join_ev]
     exact hk ρ' asm _ (fun _=>rfl) ha'' h''
    ·rw[bZ hid,cond_false] at h''
     rw[if_neg hid]
     exact hx ρ' asm id' s' (fun _=>rfl) ha'' h''
 |loop lr lo a iha=>
  intro asm s k kx ρ Q Q' ha h hk hx hxx hr
  simp only[sx,aE] at h
  refine EvP.mono h fun x hx'=>?_
  cases x with
  |next ρ'=>exact hk _ [] .id (fun hl=>by cases hl) (Asm.ok_nil _) hx'
  |exit id ρ'=>exact hxx rfl id ρ' hx'
  |ret d=>exact hr d hx'
 |each e ps lo rt a iha=>
  intro asm s k kx ρ Q Q' ha h hk hx hxx hr
  simp only[sx,aE] at h
  refine EvP.mono h fun x hx'=>?_
  cases x with
  |next ρ'=>exact hk _ [] .id (fun hl=>by cases hl) (Asm.ok_nil _) hx'
  |exit id ρ'=>exact hxx rfl id ρ' hx'
  |ret d=>exact hr d hx'
 |meach J ps sel lo a iha=>
  intro asm s k kx ρ Q Q' ha h hk hx hxx hr
  simp only[sx,aE] at h
  refine EvP.mono h fun x hx'=>?_
  cases x with
  |next ρ'=>exact hk _ [] .id (fun hl=>by cases hl) (Asm.ok_nil _) hx'
  |exit id ρ'=>exact hxx rfl id ρ' hx'
  |ret d=>exact hr d hx'
 |exit id=>intro asm s k kx ρ Q Q' ha h _ hx _ _;exact .exit (hx ρ asm id s (fun _=>rfl) ha h)
 |ret e=>
  intro asm s k kx ρ Q Q' ha h _ _ _ hr
  simp only[sx,aE] at h
  refine .ret (hr _ ?_)
  rw[PE.sub_ev ha] at h;exact h
def Lk.un (a b:Lk):Lk:=⟨Nat.lor a.r b.r,fl a.o b.o⟩
def bits (l:List Nat):Nat:=l.foldr (fun t m=>Nat.lor (jF t) m) 0
theorem Ou {l:List Nat}{t:Nat}(h:t∈l):ay (bits l) t=true:=by
 induction l with
 |nil=>cases h
 |cons x l ih=>
  show ay (Nat.lor (jF x) (bits l)) t=true
  rw[bk]
  rcases List.mem_cons.1 h with e|h
  ·subst e;rw[fY];rfl
  ·rw[ih h,Bool.or_true]
theorem unionL_mem:∀{a b:List Nat} {x:Nat},x∈fl a b↔x∈a∨x∈b
 |[],b,x=>by simp[fl]
 |y::a,b,x=>by
  have ih:=unionL_mem (a:=a) (b:=bif oR b y then b else y::b) (x:=x)
  show x∈fl a _↔_
  rw[ih]
  cases hb:oR b y with
  |true=>simp only[cond_true,List.mem_cons];have:=(lI b y).1 hb;constructor
         ·rintro(h|h);exact .inl (.inr h);exact .inr h
         ·rintro((rfl|h)|h);exact .inr this;exact .inl h;exact .inr h
  |false=>simp only[cond_false,List.mem_cons];constructor
          ·rintro(h|h|h);exact .inl (.inr h);exact .inl (.inl h);exact .inr h
          ·rintro((h|h)|h);exact .inr (.inl h);exact .inl h;exact .inr (.inr h)
def Lk.Le (a K:Lk):Prop:=(∀t,ay a.r t=true→ay K.r t=true)∧∀j,j∈a.o→j∈K.o
theorem Lk.le_l (a b:Lk):a.Le (a.un b):=⟨fun t h=>by simp only[Lk.un,bk,h,Bool.true_or],fun j h=>unionL_mem.2 (.inl h)⟩
theorem Lk.le_r (a b:Lk):b.Le (a.un b):=⟨fun t h=>by simp only[Lk.un,bk,h,Bool.or_true],fun j h=>unionL_mem.2 (.inr h)⟩
theorem Lk.Le.trans {a b c:Lk}(h:a.Le b)(k:b.Le c):a.Le c:=⟨fun t ht=>k.1 t (h.1 t ht),fun j hj=>k.2 j (h.2 j hj)⟩
theorem Alike.le {a K:Lk}{ρ ρ':Env}(h:Alike K ρ ρ')(k:a.Le K):Alike a ρ ρ':=⟨fun t ht=>h.r t (k.1 t ht),fun j hj=>h.o j (k.2 j hj)⟩
theorem Lk.Le.of_un {a b K:Lk}(h:(a.un b).Le K):a.Le K∧b.Le K:=⟨(Lk.le_l a b).trans h,(Lk.le_r a b).trans h⟩
theorem Alike.setR {K:Lk}{ρ ρ':Env}(h:Alike K ρ ρ')(t:Nat)(d:D):Alike K (ρ.setR t d) (ρ'.setR t d):=⟨fun u hu=>by rw[Env.setR_r,Env.setR_r];split;rfl;exact h.r u hu,h.o⟩
theorem Alike.setO {K:Lk}{ρ ρ':Env}(h:Alike K ρ ρ')(t:Nat)(d:D):Alike K (ρ.setO t d) (ρ'.setO t d):=⟨h.r,fun u hu=>by rw[Env.setO_o,Env.setO_o];split;rfl;exact h.o u hu⟩
theorem Alike.join {K:Lk}{ρ ρ' η η':Env}(h:Alike K ρ ρ')(k:Alike K η η')(lr lo:List Nat):Alike K (ρ.join lr lo η) (ρ'.join lr lo η'):=
 ⟨fun u hu=>by rw[Env.join_r,Env.join_r];split;exact k.r u hu;exact h.r u hu,fun u hu=>by rw[Env.join_o,Env.join_o];split;exact k.o u hu;exact h.o u hu⟩
theorem Dr {f g:Nat→D}{u:Nat}(h:g u=f u):∀(ts:List Nat) (xs:List D),putL g ts xs u=putL f ts xs u
 |[],xs=>by rw[Fk,Fk];exact h
 |t::ts,[]=>by simp only[putL];exact h
 |t::ts,x::xs=>by rw[Bf,Bf];split;rfl;exact Dr h ts xs
theorem Alike.put {K:Lk}{ρ ρ':Env}(h:Alike K ρ ρ')(lr lo:List Nat)(vr vo:List D):Alike K (ρ.put lr vr lo vo) (ρ'.put lr vr lo vo):=⟨fun u hu=>Dr (h.r u hu) lr vr,fun u hu=>Dr (h.o u hu) lo vo⟩
def PI.lkw:PI→Lk
 |.setR t e=>e.lk.un ⟨jF t,[]⟩
 |.setO j e=>e.lk.un ⟨0,[j]⟩
 |.chk e=>e.lk
 |.call gs dst f as=>(PI.call gs dst f as).lk.un ⟨jF dst,[]⟩
 |.callc gs dst e as=>(PI.callc gs dst e as).lk.un ⟨jF dst,[]⟩
 |.mcall j f as=>(PI.mcall j f as).lk.un ⟨0,[j]⟩
def PC.lk:PC→Lk
 |.skip=>.none
 |.exit _=>.none
 |.is l=>l.foldr (fun p k=>p.lkw.un k) .none
 |.seq a b=>(PC.lk a).un (PC.lk b)
 |.ite c _ _ a b=>c.lk.un ((PC.lk a).un (PC.lk b))
 |.block _ _ _ a=>PC.lk a
 |.loop lr lo a=>(⟨bits lr,lo⟩:Lk).un (PC.lk a)
 |.ret e=>e.lk
 |.each e _ lo rt a=>e.lk.un ((match rt with|some e=>e.lk|none=>.none).un ((⟨0,lo⟩:Lk).un (PC.lk a)))
 |.meach J _ _ lo a=>(⟨0,J::lo⟩:Lk).un (PC.lk a)
structure Off (K:Lk) (b η η':Env):Prop where
 al:Alike K η η'
 r:∀t,ay K.r t=false→η'.r t=b.r t
 o:∀j,j∉K.o→η'.o j=b.o j
def OffO (K:Lk)(b:Env):Out→Out→Prop
 |.next η,x=>∃η',x=.next η'∧Off K b η η'
 |.exit i η,x=>∃η',x=.exit i η'∧Off K b η η'
 |.ret d,x=>x=.ret d
theorem Off.uniq {K:Lk}{b η η' η2:Env}(h:Off K b η η')(k:Off K b η η2):η2=η':=by
 have h1:∀t,η2.r t=η'.r t:=fun t=>by
  cases hb:ay K.r t with
  |true=>rw[k.al.r t hb,h.al.r t hb]
  |false=>rw[k.r t hb,h.r t hb]
 have h2:∀t,η2.o t=η'.o t:=fun t=>by
  by_cases hb:t∈K.o
  ·rw[k.al.o t hb,h.al.o t hb]
  ·rw[k.o t hb,h.o t hb]
 cases η2;cases η'
 congr
 ·exact funext h1
 ·exact funext h2
theorem OffO.uniq {K:Lk}{b:Env}{x y z:Out}(h:OffO K b x y)(k:OffO K b x z):z=y:=by
 cases x with
 |next η=>obtain⟨a,rfl,h⟩:=h;obtain⟨c,rfl,k⟩:=k;rw[h.uniq k]
 |exit i η=>obtain⟨a,rfl,h⟩:=h;obtain⟨c,rfl,k⟩:=k;rw[h.uniq k]
 |ret d=>rw[h,k]
theorem Off.setR {K:Lk}{b η η':Env}(h:Off K b η η'){t:Nat}(ht:ay K.r t=true)(d:D):Off K b (η.setR t d) (η'.setR t d):=
 ⟨h.al.setR t d,fun u hu=>by rw[Env.setR_r,if_neg (fun e=>by rw[e,ht] at hu;cases hu)];exact h.r u hu,h.o⟩
theorem Off.setO {K:Lk}{b η η':Env}(h:Off K b η η'){t:Nat}(ht:t∈K.o)(d:D):Off K b (η.setO t d) (η'.setO t d):=
 ⟨h.al.setO t d,h.r,fun u hu=>by rw[Env.setO_o,if_neg (fun e=>hu (by rw[e];exact ht))];exact h.o u hu⟩
theorem Off.join {K:Lk}{b η η' ζ ζ':Env}(h:Off K b η η')(k:Off K b ζ ζ')(lr lo:List Nat):Off K b (η.join lr lo ζ) (η'.join lr lo ζ'):=
 ⟨h.al.join k.al lr lo,fun u hu=>by rw[Env.join_r];split;exact k.r u hu;exact h.r u hu,fun u hu=>by rw[Env.join_o];split;exact k.o u hu;exact h.o u hu⟩
theorem P3 {f:Nat→D}{b:D}{u:Nat}(h:f u=b):∀(ts:List Nat) (xs:List D),u∉ts→putL f ts xs u=b
 |[],xs,_=>by rw[Fk];exact h
 |t::ts,[],_=>by simp only[putL];exact h
 |t::ts,x::xs,hu=>by rw[Bf,if_neg (fun e=>hu (by simp[e]))];exact P3 h ts xs (fun e=>hu (by simp[e]))
theorem Off.put {K:Lk}{b η η':Env}(h:Off K b η η'){lr lo:List Nat}(hr:∀t,t∈lr→ay K.r t=true)(ho:∀t,t∈lo→t∈K.o)(vr vo:List D):Off K b (η.put lr vr lo vo) (η'.put lr vr lo vo):=
 ⟨h.al.put lr lo vr vo,fun u hu=>P3 (h.r u hu) lr vr (fun e=>by rw[hr u e] at hu;cases hu),fun u hu=>P3 (h.o u hu) lo vo (fun e=>hu (ho u e))⟩
theorem PI.run_off {Φ:aO}{K:Lk}{b ρ ρ' η:Env}{p:PI}(hp:p.lkw.Le K)(h:Off K b ρ ρ')(hr:p.run Φ ρ=some η):∃η',p.run Φ ρ'=some η'∧Off K b η η':=by
 have hlk:p.lk.Le K:=by cases p<;>first|exact hp|exact hp.of_un.1
 rw[PI.run_eff,PI.eff_alike p (h.al.le hlk)]
 rw[PI.run_eff] at hr
 cases he:p.eff Φ ρ with
 |none=>rw[he] at hr;cases hr
 |some x=>
  rw[he] at hr
  simp only[Option.map_some,Option.some.injEq] at hr
  subst hr
  refine⟨_,rfl,?_⟩
  have hb:∀{t:Nat} {a:Lk},(a.un ⟨jF t,[]⟩).Le K→ay K.r t=true:=fun h=>h.of_un.2.1 _ (fY _)
  have ho:∀{t:Nat} {a:Lk},(a.un ⟨0,[t]⟩).Le K→t∈K.o:=fun h=>h.of_un.2.2 _ (by simp)
  cases p with
  |setR t e=>simp only[PI.eff,Option.some.injEq] at he;subst he;exact h.setR (hb hp) _
  |setO t e=>simp only[PI.eff,Option.some.injEq] at he;subst he;exact h.setO (ho hp) _
  |chk e=>simp only[PI.eff] at he;cases hbb:(e.ev ρ).b<;>rw[hbb] at he<;>cases he;exact h
  |call gs d f as=>
   simp only[PI.eff] at he
   cases hbb:holds gs ρ<;>simp only[hbb,cond_true,cond_false,Option.some.injEq,Option.map_eq_some_iff] at he
   ·subst he;exact h
   ·obtain⟨y,_,rfl⟩:=he;exact h.setR (hb hp) _
  |callc gs d e as=>
   simp only[PI.eff] at he
   cases hbb:holds gs ρ<;>simp only[hbb,cond_true,cond_false,Option.some.injEq] at he
   ·subst he;exact h
   ·split at he
    ·simp only[Option.map_eq_some_iff] at he;obtain⟨y,_,rfl⟩:=he;exact h.setR (hb hp) _
    ·cases he
  |mcall j f as=>simp only[PI.eff,Option.map_eq_some_iff] at he;obtain⟨y,_,rfl⟩:=he;exact h.setO (ho hp) _
theorem PI.runs_off {Φ:aO}{K:Lk}{b:Env}:∀{l:List PI} {ρ ρ' η:Env},(l.foldr (fun p k=>p.lkw.un k) Lk.none).Le K→Off K b ρ ρ'→PI.runs Φ l ρ=some η→∃η',PI.runs Φ l ρ'=some η'∧Off K b η η'
 |[],ρ,ρ',η,_,h,hr=>by simp only[PI.runs,Option.some.injEq] at hr ⊢;subst hr;exact⟨_,rfl,h⟩
 |p::l,ρ,ρ',η,hl,h,hr=>by
  simp only[PI.runs,Option.bind_eq_some_iff] at hr
  obtain⟨ρ1,h1,h2⟩:=hr
  obtain⟨ρ2,h3,h4⟩:=PI.run_off hl.of_un.1 h h1
  obtain⟨η',h5,h6⟩:=PI.runs_off (l:=l) hl.of_un.2 h4 h2
  exact⟨η',by simp only[PI.runs,h3,Option.bind_some,h5],h6⟩
theorem xw {K:Lk}{b η η':Env}(h:Off K b η η'){lo:List Nat}(ho:∀t,t∈lo→t∈K.o):lo.map η'.o=lo.map η.o:=List.map_congr_left fun t ht=>h.al.o t (ho t ht)
theorem Wo {K:Lk}{b η η':Env}(h:Off K b η η'){lr:List Nat}(hr:∀t,t∈lr→ay K.r t=true):lr.map η'.r=lr.map η.r:=List.map_congr_left fun t ht=>h.al.r t (hr t ht)
theorem PC.ev_off {Φ:aO}{n:Nat}{K:Lk}:∀(c:PC),c.lk.Le K→∀{b ρ ρ':Env} {x:Out},Off K b ρ ρ'→c.ev Φ n ρ=some x→∃x',c.ev Φ n ρ'=some x'∧OffO K b x x':=by
 intro c
 induction c with
 |skip=>intro _ b ρ ρ' x h hr;simp only[PC.ev,Option.some.injEq] at hr ⊢;subst hr;exact⟨_,rfl,_,rfl,h⟩
 |exit id=>intro _ b ρ ρ' x h hr;simp only[PC.ev,Option.some.injEq] at hr ⊢;subst hr;exact⟨_,rfl,_,rfl,h⟩
 |ret e=>intro hk B ρ ρ' x h hr;simp only[PC.ev,Option.some.injEq] at hr ⊢;subst hr;exact⟨_,rfl,by rw[PE.ev_alike e (h.al.le hk)];rfl⟩
 |is l=>
  intro hk B ρ ρ' x h hr
  simp only[PC.ev,Option.map_eq_some_iff] at hr
  obtain⟨η,h1,rfl⟩:=hr
  obtain⟨η',h2,h3⟩:=PI.runs_off hk h h1
  exact⟨.next η',by simp only[PC.ev,h2,Option.map_some],η',rfl,h3⟩
 |seq a b iha ihb=>
  intro hk B ρ ρ' x h hr
  simp only[PC.ev] at hr ⊢
  cases ha:a.ev Φ n ρ with
  |none=>rw[ha] at hr;cases hr
  |some y=>
   obtain⟨y',h1,h2⟩:=iha hk.of_un.1 h ha
   rw[ha] at hr
   rw[h1]
   cases y with
   |next η=>obtain⟨η',rfl,h3⟩:=h2;exact ihb hk.of_un.2 h3 hr
   |exit i η=>obtain⟨η',rfl,h3⟩:=h2;cases hr;exact⟨_,rfl,η',rfl,h3⟩
   |ret d=>cases h2;cases hr;exact⟨_,rfl,rfl⟩
 |ite c lr lo a b iha ihb=>
  intro hk B ρ ρ' x h hr
  have hc:(c.ev ρ').b=(c.ev ρ).b:=by rw[PE.ev_alike c (h.al.le hk.of_un.1)]
  have key:∀(d:PC),(∀{ρ ρ':Env} {x:Out},Off K B ρ ρ'→d.ev Φ n ρ=some x→∃x',d.ev Φ n ρ'=some x'∧OffO K B x x')→(match d.ev Φ n ρ with|some (.next η)=>some (.next (ρ.join lr lo η))|x=>x)=some x→
      ∃x',(match d.ev Φ n ρ' with|some (.next η)=>some (.next (ρ'.join lr lo η))|x=>x)=some x'∧OffO K B x x':=by
   intro d ih hr
   cases ha:d.ev Φ n ρ with
   |none=>rw[ha] at hr;cases hr
   |some y=>
    obtain⟨y',h1,h2⟩:=ih h ha
    rw[ha] at hr
    rw[h1]
    cases y with
    |next η=>obtain⟨η',rfl,h3⟩:=h2;cases hr;exact⟨_,rfl,_,rfl,h.join h3 lr lo⟩
    |exit i η=>obtain⟨η',rfl,h3⟩:=h2;cases hr;exact⟨_,rfl,η',rfl,h3⟩
    |ret d=>cases h2;cases hr;exact⟨_,rfl,rfl⟩
  simp only[PC.ev,hc] at hr ⊢
  cases hcc:(c.ev ρ).b<;>simp only[hcc,cond_true,cond_false] at hr ⊢
  ·exact key b (fun h1 h2=>ihb hk.of_un.2.of_un.2 h1 h2) hr
  ·exact key a (fun h1 h2=>iha hk.of_un.2.of_un.1 h1 h2) hr
 |block id lr lo a iha=>
  intro hk B ρ ρ' x h hr
  simp only[PC.ev] at hr ⊢
  cases ha:a.ev Φ n ρ with
  |none=>rw[ha] at hr;cases hr
  |some y=>
   obtain⟨y',h1,h2⟩:=iha hk h ha
   rw[ha] at hr
   rw[h1]
   cases y with
   |next η=>obtain⟨η',rfl,h3⟩:=h2;cases hr;exact⟨_,rfl,_,rfl,h.join h3 lr lo⟩
   |exit i η=>
    obtain⟨η',rfl,h3⟩:=h2
    simp only at hr ⊢
    cases hb:Nat.beq i id<;>simp only[hb,cond_true,cond_false] at hr ⊢<;>cases hr
    ·exact⟨_,rfl,η',rfl,h3⟩
    ·exact⟨_,rfl,_,rfl,h.join h3 lr lo⟩
   |ret d=>cases h2;cases hr;exact⟨_,rfl,rfl⟩
 |loop lr lo a iha=>
  intro hk B ρ ρ' x h hr
  have hr1:∀t,t∈lr→ay K.r t=true:=fun t ht=>hk.of_un.1.1 t (Ou ht)
  have ho1:∀t,t∈lo→t∈K.o:=fun t ht=>hk.of_un.1.2 t ht
  have key:∀(m:Nat) (vr vo:List D),jQ (a.ev Φ n) ρ lr lo m vr vo=some x→∃x',jQ (a.ev Φ n) ρ' lr lo m vr vo=some x'∧OffO K B x x':=by
   intro m
   induction m with
   |zero=>intro vr vo h;simp[jQ] at h
   |succ m ihm=>
    intro vr vo hr
    simp only[jQ] at hr ⊢
    cases ha:a.ev Φ n (ρ.put lr vr lo vo) with
    |none=>rw[ha] at hr;cases hr
    |some y=>
     obtain⟨y',h1,h2⟩:=iha hk.of_un.2 (h.put hr1 ho1 vr vo) ha
     rw[ha] at hr
     rw[h1]
     cases y with
     |next η=>obtain⟨η',rfl,h3⟩:=h2;simp only[xw h3 ho1,Wo h3 hr1];exact ihm _ _ hr
     |exit i η=>obtain⟨η',rfl,h3⟩:=h2;cases hr;exact⟨_,rfl,η',rfl,h3⟩
     |ret d=>cases h2;cases hr;exact⟨_,rfl,rfl⟩
  simp only[PC.ev] at hr ⊢
  rw[xw h ho1,Wo h hr1]
  exact key n _ _ hr
 |each e ps lo rt a iha=>
  intro hk B ρ ρ' x h hr
  obtain⟨hk1,hk2⟩:=hk.of_un
  obtain⟨hk2,hk3⟩:=hk2.of_un
  obtain⟨hk3,hk4⟩:=hk3.of_un
  have ho1:∀t,t∈lo→t∈K.o:=fun t ht=>hk3.2 t ht
  have key:∀(xs vo:List D),ls (a.ev Φ n) ρ ps lo rt xs vo=some x→∃x',ls (a.ev Φ n) ρ' ps lo rt xs vo=some x'∧OffO K B x x':=by
   intro xs
   induction xs with
   |nil=>intro vo hr;simp only[ls,Option.some.injEq] at hr ⊢;subst hr;exact⟨_,rfl,_,rfl,h.put (fun _ h=>by cases h) ho1 _ _⟩
   |cons y xs ihx=>
    intro vo hr
    simp only[ls] at hr ⊢
    cases ha:a.ev Φ n (ρ.put ps (partsOf ps y) lo vo) with
    |none=>rw[ha] at hr;cases hr
    |some z=>
     have hoff:Off K (ρ'.put ps (partsOf ps y) lo vo) (ρ.put ps (partsOf ps y) lo vo) (ρ'.put ps (partsOf ps y) lo vo):=⟨h.al.put ps lo _ _,fun _ _=>rfl,fun _ _=>rfl⟩
     obtain⟨z',h1,h2⟩:=iha hk4 hoff ha
     rw[ha] at hr
     rw[h1]
     cases z with
     |next η=>obtain⟨η',rfl,h3⟩:=h2;simp only[xw h3 ho1];exact ihx _ hr
     |exit i η=>
      obtain⟨η',rfl,h3⟩:=h2
      simp only[xw h3 ho1] at hr ⊢
      have hp:=h.put (lr:=[]) (fun _ h=>by cases h) ho1 [] (lo.map η.o)
      cases hb:Nat.beq i bt<;>simp only[hb,cond_true,cond_false] at hr ⊢
      ·cases hr;exact⟨_,rfl,_,rfl,hp⟩
      ·cases rt with
       |none=>cases hr
       |some e2=>cases hr;exact⟨_,rfl,by show Out.ret _=Out.ret _;rw[PE.ev_alike e2 (hp.al.le hk2)]⟩
     |ret d=>cases hr
  simp only[PC.ev] at hr ⊢
  rw[PE.ev_alike e (h.al.le hk1),xw h ho1]
  exact key _ _ hr
 |meach J ps sel lo a iha=>
  intro hk B ρ ρ' x h hr
  obtain⟨hk3,hk4⟩:=hk.of_un
  have ho1:∀t,t∈lo→t∈K.o:=fun t ht=>hk3.2 t (List.mem_cons_of_mem _ ht)
  have hJ:ρ'.o J=ρ.o J:=h.al.o J (hk3.2 J (List.mem_cons_self ..))
  have key:∀(es:D) (xs done vo vo':List D),yI (a.ev Φ n) ρ J es ps sel lo xs done vo=some vo'→yI (a.ev Φ n) ρ' J es ps sel lo xs done vo=some vo':=by
   intro es xs
   induction xs with
   |nil=>intro done vo vo' h;exact h
   |cons y xs ihx=>
    intro done vo vo' hr
    simp only[yI] at hr ⊢
    cases ha:a.ev Φ n ((ρ.put ps (sel.map y.tget) lo vo).setO J (.tup [.list (done++[y]),es])) with
    |none=>rw[ha] at hr;cases hr
    |some z=>
     have hoff:Off K ((ρ'.put ps (sel.map y.tget) lo vo).setO J (.tup [.list (done++[y]),es])) ((ρ.put ps (sel.map y.tget) lo vo).setO J (.tup [.list (done++[y]),es])) ((ρ'.put ps (sel.map y.tget) lo vo).setO J (.tup [.list (done++[y]),es])):=
          ⟨(h.al.put ps lo _ _).setO J _,fun _ _=>rfl,fun _ _=>rfl⟩
     obtain⟨z',h1,h2⟩:=iha hk4 hoff ha
     rw[ha] at hr
     rw[h1]
     cases z with
     |next η=>obtain⟨η',rfl,h3⟩:=h2;simp only[xw h3 ho1];exact ihx _ _ _ hr
     |exit i η=>cases hr
     |ret d=>cases hr
  simp only[PC.ev,permR_some] at hr
  obtain⟨vo,⟨h1,h2⟩,rfl⟩:=hr
  refine⟨.next (ρ'.put [] [] lo vo),?_,_,rfl,h.put (fun _ h=>by cases h) ho1 _ _⟩
  simp only[PC.ev,permR_some]
  refine⟨vo,⟨by rw[hJ];exact h1,fun ys hy=>?_⟩,rfl⟩
  rw[hJ] at hy ⊢
  rw[xw h ho1]
  exact key _ _ _ _ _ (h2 ys hy)
def ML:List Nat→PC→Bool
 |l,.exit id=>oR l id
 |l,.seq a b=>ML l a&&ML l b
 |l,.ite _ _ _ a b=>ML l a&&ML l b
 |l,.block id _ _ a=>ML (id::l) a
 |l,.loop _ _ a=>ML l a
 |l,.each _ _ _ _ a=>ML (bt::l) a
 |_,_=>true
theorem aem {Φ:aO}{n:Nat}:∀(c:PC) {l:List Nat},ML l c=true→∀{ρ:Env} {i:Nat} {η:Env},c.ev Φ n ρ=some (.exit i η)→i∈l:=by
 intro c
 induction c with
 |skip=>intro l _ ρ i η h;simp[PC.ev] at h
 |exit id=>intro l hl ρ i η h;simp only[PC.ev,Option.some.injEq] at h;injection h with h1 h2;subst h1;exact(lI _ _).1 hl
 |ret e=>intro l _ ρ i η h;simp[PC.ev] at h
 |is _=>intro l _ ρ i η h;simp[PC.ev] at h
 |seq a b iha ihb=>
  intro l hl ρ i η h
  simp only[ML,Bool.and_eq_true] at hl
  simp only[PC.ev] at h
  split at h
  ·exact ihb hl.2 h
  ·exact iha hl.1 h
 |ite c lr lo a b iha ihb=>
  intro l hl ρ i η h
  simp only[ML,Bool.and_eq_true] at hl
  simp only[PC.ev] at h
  cases hc:(c.ev ρ).b<;>simp only[hc,cond_true,cond_false] at h
  ·split at h
   ·cases h
   ·exact ihb hl.2 h
  ·split at h
   ·cases h
   ·exact iha hl.1 h
 |block id lr lo a iha=>
  intro l hl ρ i η h
  simp only[PC.ev] at h
  split at h
  ·cases h
  ·rename_i id' ρ2 ha
   cases hb:Nat.beq id' id<;>simp only[hb,cond_true,cond_false] at h<;>cases h
   rcases List.mem_cons.1 (iha hl ha) with e|e
   ·subst e;rw[Nat.beq_refl] at hb;cases hb
   ·exact e
  ·rename_i h1 h2
   exact absurd h (h2 _ _)
 |loop lr lo a iha=>
  intro l hl ρ i η h
  have key:∀(m:Nat) (vr vo:List D),jQ (a.ev Φ n) ρ lr lo m vr vo=some (.exit i η)→i∈l:=by
   intro m
   induction m with
   |zero=>intro vr vo h;simp[jQ] at h
   |succ m ihm=>
    intro vr vo h
    simp only[jQ] at h
    split at h
    ·exact ihm _ _ h
    ·exact iha hl h
  exact key _ _ _ h
 |each e ps lo rt a iha=>
  intro l hl ρ i η h
  have key:∀(xs vo:List D),ls (a.ev Φ n) ρ ps lo rt xs vo=some (.exit i η)→i∈l:=by
   intro xs
   induction xs with
   |nil=>intro vo h;simp[ls] at h
   |cons x xs ihx=>
    intro vo h
    simp only[ls] at h
    split at h
    ·exact ihx _ h
    ·rename_i id' ρ2 ha
     cases hb:Nat.beq id' bt<;>simp only[hb,cond_true,cond_false] at h
     ·injection h with h;injection h with h1 h2;subst h1
      rcases List.mem_cons.1 (iha hl ha) with e|e
      ·subst e;rw[Nat.beq_refl] at hb;cases hb
      ·exact e
     ·cases rt<;>simp at h
    ·cases h
  exact key _ _ h
 |meach J ps sel lo a _=>
  intro l _ ρ i η h
  simp only[PC.ev,permR_some] at h
  obtain⟨vo,_,h⟩:=h
  cases h
def aiS (t:Nat):PE→Bool
 |.r u=>Nat.beq u t
 |_=>false
def ae1 (t:Nat):PE→Bool
 |.o u=>Nat.beq u t
 |_=>false
def fk (idB:Nat→PE→Bool)(p:Nat→Bool):List Nat→List (Nat×PE)→List (Nat×PE)
 |_,[]=>[]
 |seen,x::l=>bif p x.1&& !oR seen x.1 then(bif idB x.1 x.2 then fk idB p (x.1::seen) l else x::fk idB p (x.1::seen) l) else fk idB p seen l
theorem M9 {idB:Nat→PE→Bool}{p:Nat→Bool}:∀{l:List (Nat×PE)} {seen:List Nat} {t:Nat},oR seen t=true→aa (fk idB p seen l) t=none
 |[],_,_,_=>rfl
 |x::l,seen,t,h=>by
  have h':oR (x.1::seen) t=true:=by rw[lI] at h ⊢;exact List.mem_cons_of_mem _ h
  simp only[fk]
  cases hb:(p x.1&& !oR seen x.1) with
  |false=>exact M9 h
  |true=>
   simp only[cond_true]
   cases idB x.1 x.2 with
   |true=>exact M9 h'
   |false=>
    simp only[cond_false,aa]
    have:Nat.beq x.1 t=false:=by
      cases e:Nat.beq x.1 t with
      |false=>rfl
      |true=>rw[fq e,h] at hb;simp at hb
    rw[this];exact M9 h'
theorem He {idB:Nat→PE→Bool}{p:Nat→Bool}{dflt:Nat→PE}(hid:∀t e,idB t e=true→e=dflt t):∀{l:List (Nat×PE)} {seen:List Nat} {t:Nat},p t=true→oR seen t=false→
 (match aa (fk idB p seen l) t with|some e=>e|none=>dflt t)=(match aa l t with|some e=>e|none=>dflt t)
 |[],_,_,_,_=>rfl
 |x::l,seen,t,hp,hs=>by
  simp only[fk,aa]
  cases e:Nat.beq x.1 t with
  |true=>
   have e':=fq e
   rw[e',hp,hs]
   simp only[Bool.not_false,Bool.and_self,cond_true]
   cases hi:idB t x.2 with
   |true=>simp only[cond_true];rw[M9 (by rw[lI];exact List.mem_cons_self ..)];exact(hid _ _ hi).symm
   |false=>simp only[cond_false,aa,e,cond_true]
  |false=>
   simp only[cond_false]
   cases hb:(p x.1&& !oR seen x.1) with
   |false=>exact He hid hp hs
   |true=>
    have hs':oR (x.1::seen) t=false:=by
      cases hm:oR (x.1::seen) t with
      |false=>rfl
      |true=>
       rcases List.mem_cons.1 ((lI _ _).1 hm) with h|h
       ·rw[h,Nat.beq_refl] at e;cases e
       ·rw[(lI _ _).2 h] at hs;cases hs
    simp only[cond_true]
    cases idB x.1 x.2 with
    |true=>exact He hid hp hs'
    |false=>simp only[cond_false,aa,e];exact He hid hp hs'
def SE.cut (s:SE)(k:Lk):SE:=⟨fk aiS (ay k.r) [] s.r,fk ae1 (oR k.o) [] s.o⟩
def lkL (l:List (Nat×PE)):Lk:=l.foldr (fun x k=>x.2.lk.un k) .none
def SE.lks (s:SE):Lk:=(lkL s.r).un (lkL s.o)
theorem Yg:∀{l:List (Nat×PE)} {t:Nat} {e:PE},aa l t=some e→e.lk.Le (lkL l)
 |[],_,_,h=>by cases h
 |x::l,t,e,h=>by
  simp only[aa] at h
  cases hb:Nat.beq x.1 t<;>simp only[hb,cond_true,cond_false] at h
  ·exact(Yg h).trans (Lk.le_r _ _)
  ·cases h;exact Lk.le_l _ _
theorem SE.cut_al {s:SE}{L:Lk}{ρ1 ρ2:Env}(h:Alike (L.un (s.cut L).lks) ρ1 ρ2):Alike L ((s.cut L).ev ρ1) (s.ev ρ2):=by
 have hL:=h.le (Lk.le_l _ _)
 have hs:=h.le (Lk.le_r _ _)
 constructor
 ·intro t ht
  show(s.getR t).ev ρ2=((s.cut L).getR t).ev ρ1
  have e:(s.cut L).getR t=s.getR t:=He (dflt:=.r) (fun t e he=>by unfold aiS at he;split at he;rw[fq he];cases he) ht rfl
  rw[←e]
  cases hl:aa (s.cut L).r t with
  |none=>have:(s.cut L).getR t=.r t:=by unfold SE.getR;rw[hl]
         rw[this];exact hL.r t ht
  |some x=>have:(s.cut L).getR t=x:=by unfold SE.getR;rw[hl]
           rw[this];exact PE.ev_alike x (hs.le ((Yg hl).trans (Lk.le_l _ _)))
 ·intro t ht
  show(s.getO t).ev ρ2=((s.cut L).getO t).ev ρ1
  have e:(s.cut L).getO t=s.getO t:=He (dflt:=.o) (fun t e he=>by unfold ae1 at he;split at he;rw[fq he];cases he) ((lI _ _).2 ht) rfl
  rw[←e]
  cases hl:aa (s.cut L).o t with
  |none=>have:(s.cut L).getO t=.o t:=by unfold SE.getO;rw[hl]
         rw[this];exact hL.o t ht
  |some x=>have:(s.cut L).getO t=x:=by unfold SE.getO;rw[hl]
           rw[this];exact PE.ev_alike x (hs.le ((Yg hl).trans (Lk.le_r _ _)))
structure LC where
 next:Lk
 ov:List (Nat×Lk)
def LC.all (c:LC):Lk:=c.ov.foldr (fun x k=>x.2.un k) .none
def agq (c:LC)(Q1 Q2:Out→Prop):Prop:=
 (∀ρ1 ρ2,Alike c.next ρ1 ρ2→Q1 (.next ρ1)→Q2 (.next ρ2))∧(∀id k ρ1 ρ2,aa c.ov id=some k→Alike k ρ1 ρ2→Q1 (.exit id ρ1)→Q2 (.exit id ρ2))∧∀d,Q1 (.ret d)→Q2 (.ret d)
def fM:LC→PT→Option (PT×Lk)
 |c,.next s=>some (.next (s.cut c.next),c.next.un (s.cut c.next).lks)
 |c,.exit id s=>(aa c.ov id).map fun k=>(.exit id (s.cut k),k.un (s.cut k).lks)
 |_,.ret e=>some (.ret e,e.lk)
 |c,.chk e k=>(fM c k).map fun r=>(.chk e r.1,e.lk.un r.2)
 |c,.ite e a b=>(fM c a).bind fun x=>(fM c b).map fun y=>(.ite e x.1 y.1,e.lk.un (x.2.un y.2))
 |c,.call s gs dst f args k=>(fM c k).map fun r=>(.call (s.cut (r.2.un (FA gs))) gs dst f args r.1,(PE.lks args).un ((r.2.un (FA gs)).un (s.cut (r.2.un (FA gs))).lks))
 |c,.callc s gs dst e args k=>(fM c k).map fun r=>(.callc (s.cut (r.2.un (FA gs))) gs dst e args r.1,(e.lk.un (PE.lks args)).un ((r.2.un (FA gs)).un (s.cut (r.2.un (FA gs))).lks))
 |c,.mcall s j f args k=>(fM c k).map fun r=>(.mcall (s.cut r.2) j f args r.1,(PE.lks args).un (r.2.un (s.cut r.2).lks))
 |c,.iteS s e lr lo a b k=>(fM c k).bind fun r=>(fM ⟨r.2,c.ov⟩ a).bind fun x=>(fM ⟨r.2,c.ov⟩ b).map fun y=>
    (.iteS (s.cut (r.2.un (x.2.un y.2))) e lr lo x.1 y.1 r.1,e.lk.un ((r.2.un (x.2.un y.2)).un (s.cut (r.2.un (x.2.un y.2))).lks))
 |c,.blockS s id lr lo a k=>(fM c k).bind fun r=>(fM ⟨r.2,(id,r.2)::c.ov⟩ a).map fun x=>(.blockS (s.cut (r.2.un x.2)) id lr lo x.1 r.1,(r.2.un x.2).un (s.cut (r.2.un x.2)).lks)
 |c,.brk s p k=>(fM c k).bind fun r=>bif ML (c.ov.map (·.1)) p then some (.brk (s.cut (p.lk.un (r.2.un c.all))) p r.1,(p.lk.un (r.2.un c.all)).un (s.cut (p.lk.un (r.2.un c.all))).lks) else none
theorem LC.all_le:∀{l:List (Nat×Lk)} {id:Nat} {k:Lk},aa l id=some k→k.Le (l.foldr (fun x k=>x.2.un k) .none)
 |[],_,_,h=>by cases h
 |x::l,t,e,h=>by
  simp only[aa] at h
  cases hb:Nat.beq x.1 t<;>simp only[hb,cond_true,cond_false] at h
  ·exact(LC.all_le h).trans (Lk.le_r _ _)
  ·cases h;exact Lk.le_l _ _
theorem SR:∀{l:List (Nat×Lk)} {id:Nat},id∈l.map (·.1)→∃k,aa l id=some k
 |[],_,h=>by cases h
 |x::l,id,h=>by
  simp only[aa]
  cases hb:Nat.beq x.1 id with
  |true=>exact⟨_,rfl⟩
  |false=>
   simp only[cond_false]
   rcases List.mem_cons.1 h with e|h
   ·rw[e,Nat.beq_refl] at hb;cases hb
   ·exact SR h
theorem ac7 {T:bn}:∀(t:PT) {c:LC} {t':PT} {L:Lk},fM c t=some (t',L)→∀{Q1 Q2:Out→Prop} {ρ1 ρ2:Env},agq c Q1 Q2→Alike L ρ1 ρ2→aE T t' ρ1 Q1→aE T t ρ2 Q2:=by
 intro t
 induction t with
 |next s=>
  intro c t' L hp Q1 Q2 ρ1 ρ2 hQ hA h
  simp only[fM,Option.some.injEq,Prod.mk.injEq] at hp
  obtain⟨rfl,rfl⟩:=hp
  exact hQ.1 _ _ (SE.cut_al hA) h
 |exit id s=>
  intro c t' L hp Q1 Q2 ρ1 ρ2 hQ hA h
  simp only[fM,Option.map_eq_some_iff,Prod.mk.injEq] at hp
  obtain⟨k,hk,rfl,rfl⟩:=hp
  exact hQ.2.1 _ k _ _ hk (SE.cut_al hA) h
 |ret e=>
  intro c t' L hp Q1 Q2 ρ1 ρ2 hQ hA h
  simp only[fM,Option.some.injEq,Prod.mk.injEq] at hp
  obtain⟨rfl,rfl⟩:=hp
  show Q2 (.ret (e.ev ρ2))
  rw[PE.ev_alike e hA];exact hQ.2.2 _ h
 |chk e k ih=>
  intro c t' L hp Q1 Q2 ρ1 ρ2 hQ hA h
  simp only[fM,Option.map_eq_some_iff,Prod.mk.injEq] at hp
  obtain⟨r,hr,rfl,rfl⟩:=hp
  exact⟨by rw[PE.ev_alike e (hA.le (Lk.le_l _ _))];exact h.1,ih hr hQ (hA.le (Lk.le_r _ _)) h.2⟩
 |ite e a b iha ihb=>
  intro c t' L hp Q1 Q2 ρ1 ρ2 hQ hA h
  simp only[fM,Option.bind_eq_some_iff,Option.map_eq_some_iff,Prod.mk.injEq] at hp
  obtain⟨x,hx,y,hy,rfl,rfl⟩:=hp
  have h2:=hA.le (Lk.le_r _ _)
  simp only[aE] at h ⊢
  rw[PE.ev_alike e (hA.le (Lk.le_l _ _))]
  split
  ·rename_i hc;rw[if_pos hc] at h;exact iha hx hQ (h2.le (Lk.le_l _ _)) h
  ·rename_i hc;rw[if_neg hc] at h;exact ihb hy hQ (h2.le (Lk.le_r _ _)) h
 |call s gs dst f args k ih=>
  intro c t' L hp Q1 Q2 ρ1 ρ2 hQ hA h
  simp only[fM,Option.map_eq_some_iff,Prod.mk.injEq] at hp
  obtain⟨r,hr,rfl,rfl⟩:=hp
  have hS:=SE.cut_al (hA.le (Lk.le_r _ _))
  simp only[aE] at h ⊢
  rw[PE.evs_alike args (hA.le (Lk.le_l _ _)),lj (hS.le (Lk.le_r _ _))]
  split
  ·rename_i hc;rw[if_pos hc] at h;obtain⟨d,hd,h⟩:=h;exact⟨d,hd,ih hr hQ ((hS.le (Lk.le_l _ _)).setR dst d) h⟩
  ·rename_i hc;rw[if_neg hc] at h;exact ih hr hQ (hS.le (Lk.le_l _ _)) h
 |callc s gs dst e args k ih=>
  intro c t' L hp Q1 Q2 ρ1 ρ2 hQ hA h
  simp only[fM,Option.map_eq_some_iff,Prod.mk.injEq] at hp
  obtain⟨r,hr,rfl,rfl⟩:=hp
  have hS:=SE.cut_al (hA.le (Lk.le_r _ _))
  have hE:=hA.le (Lk.le_l _ _)
  simp only[aE] at h ⊢
  rw[PE.ev_alike e (hE.le (Lk.le_l _ _)),PE.evs_alike args (hE.le (Lk.le_r _ _)),lj (hS.le (Lk.le_r _ _))]
  split
  ·rename_i hc;rw[if_pos hc] at h;obtain⟨f,caps,d,he,hd,h⟩:=h;exact⟨f,caps,d,he,hd,ih hr hQ ((hS.le (Lk.le_l _ _)).setR dst d) h⟩
  ·rename_i hc;rw[if_neg hc] at h;exact ih hr hQ (hS.le (Lk.le_l _ _)) h
 |mcall s j f args k ih=>
  intro c t' L hp Q1 Q2 ρ1 ρ2 hQ hA h
  simp only[fM,Option.map_eq_some_iff,Prod.mk.injEq] at hp
  obtain⟨r,hr,rfl,rfl⟩:=hp
  have hS:=SE.cut_al (hA.le (Lk.le_r _ _))
  simp only[aE] at h ⊢
  rw[PE.evs_alike args (hA.le (Lk.le_l _ _))]
  obtain⟨d,hd,h⟩:=h
  exact⟨d,hd,ih hr hQ (hS.setO j d) h⟩
 |iteS s e lr lo a b k iha ihb ihk=>
  intro c t' L hp Q1 Q2 ρ1 ρ2 hQ hA h
  simp only[fM,Option.bind_eq_some_iff,Option.map_eq_some_iff,Prod.mk.injEq] at hp
  obtain⟨r,hr,x,hx,y,hy,rfl,rfl⟩:=hp
  have hS:=SE.cut_al (hA.le (Lk.le_r _ _))
  have hSk:=hS.le (Lk.le_l _ _)
  have hSx:=hS.le ((Lk.le_l _ _).trans (Lk.le_r _ _))
  have hSy:=hS.le ((Lk.le_r _ _).trans (Lk.le_r _ _))
  have rel:agq ⟨r.2,c.ov⟩ (qT ((s.cut (r.2.un (x.2.un y.2))).ev ρ1) lr lo (tF (fun ρ'=>aE T r.1 ρ' Q1) Q1)) (qT (s.ev ρ2) lr lo (tF (fun ρ'=>aE T k ρ' Q2) Q2)):=
   ⟨fun η1 η2 ha hq=>ihk hr hQ (hSk.join ha lr lo) hq,fun id k' η1 η2 hk ha hq=>hQ.2.1 id k' _ _ hk ha hq,fun d hq=>hQ.2.2 d hq⟩
  simp only[aE] at h ⊢
  rw[PE.ev_alike e (hA.le (Lk.le_l _ _))]
  split
  ·rename_i hc;rw[if_pos hc] at h;exact iha hx rel hSx h
  ·rename_i hc;rw[if_neg hc] at h;exact ihb hy rel hSy h
 |blockS s id lr lo a k iha ihk=>
  intro c t' L hp Q1 Q2 ρ1 ρ2 hQ hA h
  simp only[fM,Option.bind_eq_some_iff,Option.map_eq_some_iff,Prod.mk.injEq] at hp
  obtain⟨r,hr,x,hx,rfl,rfl⟩:=hp
  have hS:=SE.cut_al hA
  have hSk:=hS.le (Lk.le_l _ _)
  refine iha hx (Q1:=lH ((s.cut (r.2.un x.2)).ev ρ1) id lr lo (tF (fun ρ'=>aE T r.1 ρ' Q1) Q1)) ⟨fun η1 η2 ha hq=>ihk hr hQ (hSk.join ha lr lo) hq,fun id' k' η1 η2 hk ha hq=>?_,fun d hq=>hQ.2.2 d hq⟩ (hS.le (Lk.le_r _ _)) h
  simp only[lH] at hq ⊢
  simp only[aa] at hk
  by_cases e:id'=id
  ·subst e
   simp only[Nat.beq_refl,cond_true,Option.some.injEq] at hk
   subst hk
   rw[if_pos rfl] at hq ⊢
   exact ihk hr hQ (hSk.join ha lr lo) hq
  ·rw[if_neg e] at hq ⊢
   rw[bZ (fun h=>e h.symm),cond_false] at hk
   exact hQ.2.1 id' k' _ _ hk ha hq
 |brk s p k ihk=>
  intro c t' L hp Q1 Q2 ρ1 ρ2 hQ hA h
  simp only[fM,Option.bind_eq_some_iff] at hp
  obtain⟨r,hr,hp⟩:=hp
  cases hx:ML (c.ov.map (·.1)) p<;>simp only[hx,cond_true,cond_false,Option.some.injEq,Prod.mk.injEq] at hp
  ·cases hp
  obtain⟨rfl,rfl⟩:=hp
  have hS:=SE.cut_al hA
  have hoff:Off (p.lk.un (r.2.un c.all)) (s.ev ρ2) ((s.cut (p.lk.un (r.2.un c.all))).ev ρ1) (s.ev ρ2):=⟨hS,fun _ _=>rfl,fun _ _=>rfl⟩
  obtain⟨x,hq,n0,hn⟩:=h
  have step:=fun n (hle:n0≤n)=>PC.ev_off p (Lk.le_l _ _) hoff (hn n hle)
  obtain⟨x',h1,h2⟩:=step n0 (Nat.le_refl _)
  refine⟨x',?_,n0,fun n hle=>?_⟩
  ·cases x with
   |next η=>obtain⟨η',rfl,h3⟩:=h2;exact ihk hr hQ (h3.al.le ((Lk.le_l _ _).trans (Lk.le_r _ _))) hq
   |exit i η=>
    obtain⟨η',rfl,h3⟩:=h2
    obtain⟨k',hk'⟩:=SR (aem p hx (hn n0 (Nat.le_refl _)))
    exact hQ.2.1 i k' _ _ hk' (h3.al.le ((LC.all_le hk').trans ((Lk.le_r _ _).trans (Lk.le_r _ _)))) hq
   |ret d=>cases h2;exact hQ.2.2 d hq
  ·obtain⟨x2,h3,h4⟩:=step n hle
   rw[h3,h2.uniq h4]
def PH (c:LC)(t:PT):PT:=match fM c t with|some r=>r.1|none=>t
theorem Ba {T:bn}{c:LC}{t:PT}{Q:Out→Prop}{ρ:Env}(hQ:agq c Q Q)(h:aE T (PH c t) ρ Q):aE T t ρ Q:=by
 unfold PH at h
 split at h
 ·rename_i r hr;exact ac7 t hr hQ ⟨fun _ _=>rfl,fun _ _=>rfl⟩ h
 ·exact h
def afi (c:PC):PT:=sx c [] .id (fun _ s=>.next s) (fun _ id s=>.exit id s)
theorem XE {T:bn}{c:PC}{ρ:Env}{Q:Out→Prop}(h:aE T (afi c) ρ Q):EvP T c ρ Q:=
 Z8 (s:=.id) c (Asm.ok_nil _) h (fun ρ' asm s _ _ h=>h) (fun ρ' asm id s _ _ h=>h) (fun _ _ _ h=>h) (fun _ h=>h)
def tree (c:PC):PT:=PH ⟨.none,[]⟩ (afi c)
theorem Nh {T:bn}{c:PC}{ρ:Env}{d:D}(h:aE T (tree c) ρ fun x=>x=.ret d):EvP T c ρ fun x=>x=.ret d:=
 XE (Ba ⟨fun _ _ _ h=>(by cases h),fun _ _ _ _ _ _ h=>(by cases h),fun _ h=>h⟩ h)
def SE.keep (s:SE)(lr lo:List Nat):SE:=⟨lr.map fun t=>(t,s.getR t),lo.map fun t=>(t,s.getO t)⟩
theorem SE.keep_r (s:SE)(lr lo:List Nat)(ρ:Env):lr.map ((s.keep lr lo).ev ρ).r=lr.map (s.ev ρ).r:=by
 apply List.map_congr_left
 intro t ht
 show((s.keep lr lo).getR t).ev ρ=(s.getR t).ev ρ
 have:=kR (f:=fun t=>s.getR t) (l:=[]) (u:=t) lr
 rw[List.append_nil,if_pos ht] at this
 have e:(s.keep lr lo).getR t=s.getR t:=by unfold SE.getR SE.keep;simp only[];rw[this];rfl
 rw[e]
theorem SE.keep_o (s:SE)(lr lo:List Nat)(ρ:Env):lo.map ((s.keep lr lo).ev ρ).o=lo.map (s.ev ρ).o:=by
 apply List.map_congr_left
 intro t ht
 show((s.keep lr lo).getO t).ev ρ=(s.getO t).ev ρ
 have:=kR (f:=fun t=>s.getO t) (l:=[]) (u:=t) lo
 rw[List.append_nil,if_pos ht] at this
 have e:(s.keep lr lo).getO t=s.getO t:=by unfold SE.getO SE.keep;simp only[];rw[this];rfl
 rw[e]
def ab7 (id:Nat)(lrb lob lr lo:List Nat)(a:PC):PT:=
 sx a [] .id (fun _ s=>.next (s.keep lr lo)) (fun _ id' s=>bif Nat.beq id' id then .exit id (s.keep lrb lob) else .exit id' s)
def bY (ρ:Env)(id:Nat)(lrb lob lr lo:List Nat)(K:List D→List D→Prop)(Q:Out→Prop):Out→Prop
 |.next ρ'=>K (lr.map ρ'.r) (lo.map ρ'.o)
 |.exit id' ρ'=>if id'=id then Q (.next (ρ.put lrb (lrb.map ρ'.r) lob (lob.map ρ'.o))) else Q (.exit id' ρ')
 |.ret d=>Q (.ret d)
def round (id:Nat)(lrb lob lr lo:List Nat)(a:PC):PT:=PH ⟨⟨bits lr,lo⟩,[(id,⟨bits lrb,lob⟩)]⟩ (ab7 id lrb lob lr lo a)
theorem adk {k:Lk}{lr:List Nat}{ρ1 ρ2:Env}(h:Alike k ρ1 ρ2)(hk:∀t,t∈lr→ay k.r t=true):lr.map ρ2.r=lr.map ρ1.r:=List.map_congr_left fun t ht=>h.r t (hk t ht)
theorem Nf {k:Lk}{lo:List Nat}{ρ1 ρ2:Env}(h:Alike k ρ1 ρ2)(hk:∀t,t∈lo→t∈k.o):lo.map ρ2.o=lo.map ρ1.o:=List.map_congr_left fun t ht=>h.o t (hk t ht)
theorem acE {T:bn}{id:Nat}{lrb lob lr lo:List Nat}{a:PC}{ρ ρ0:Env}{K:List D→List D→Prop}{Q:Out→Prop}(h:aE T (round id lrb lob lr lo a) ρ (bY ρ0 id lrb lob lr lo K Q)):aE T (ab7 id lrb lob lr lo a) ρ (bY ρ0 id lrb lob lr lo K Q):=by
 refine Ba ⟨fun ρ1 ρ2 ha hq=>?_,fun id' k ρ1 ρ2 hk ha hq=>?_,fun d hq=>hq⟩ h
 ·simp only[bY] at hq ⊢
  rw[adk ha fun t ht=>Ou ht,Nf ha fun t ht=>ht];exact hq
 ·simp only[aa] at hk
  cases hb:Nat.beq id id'<;>simp only[hb,cond_true,cond_false] at hk
  ·cases hk
  ·cases hk
   have:=fq hb
   subst this
   simp only[bY,if_true] at hq ⊢
   rw[adk ha fun t ht=>Ou ht,Nf ha fun t ht=>ht];exact hq
theorem EvP.forLoop {T:bn}{id:Nat}{lrb lob lr lo:List Nat}{a:PC}{ρ:Env}{Q:Out→Prop}{α:Type}(inv:α→List D→List D→Prop)(meas:α→Nat)(s0:α)(h0:inv s0 (lr.map ρ.r) (lo.map ρ.o))
 (step:∀s vr vo,inv s vr vo→aE T (round id lrb lob lr lo a) (ρ.put lr vr lo vo) (bY ρ id lrb lob lr lo (fun vr vo=>∃s',meas s'<meas s∧inv s' vr vo) Q)):EvP T (.block id lrb lob (.loop lr lo a)) ρ Q:=by
 refine .block (.loop inv meas s0 h0 fun s vr vo hi=>?_)
 have h:=acE (step s vr vo hi)
 refine Z8 (s:=.id) a (Asm.ok_nil _) h (fun ρ' asm s' _ _ h=>?_) (fun ρ' asm id' s' _ _ h=>?_) (fun _ id' ρ' h=>?_) (fun d h=>h)
 ·simp only[aE,bY] at h
  rw[SE.keep_r,SE.keep_o] at h
  exact h
 ·simp only[tF,lH]
  by_cases hid:id'=id
  ·subst hid
   simp only[Nat.beq_refl,cond_true,aE,bY,if_true] at h
   rw[SE.keep_r,SE.keep_o] at h
   rw[if_pos rfl];exact h
  ·rw[bZ hid,cond_false] at h
   simp only[aE,bY] at h
   rw[if_neg hid] at h ⊢;exact h
 ·simp only[tF,lH]
  simp only[bY] at h
  split
  ·rename_i e;rw[if_pos e] at h;exact h
  ·rename_i e;rw[if_neg e] at h;exact h
def ZQ (lo:List Nat)(a:PC):PT:=sx a [] .id (fun _ s=>.next (s.keep [] lo)) (fun _ id s=>.exit id (s.keep [] lo))
def tn (lo:List Nat)(a:PC):PT:=PH ⟨⟨0,lo⟩,[(bt,⟨0,lo⟩)]⟩ (ZQ lo a)
theorem S7 {T:bn}{lo:List Nat}{a:PC}{ρ:Env}{Q:Out→Prop}(hn:∀ρ1 ρ2,lo.map ρ2.o=lo.map ρ1.o→Q (.next ρ1)→Q (.next ρ2))(hx:∀ρ1 ρ2,lo.map ρ2.o=lo.map ρ1.o→Q (.exit bt ρ1)→Q (.exit bt ρ2))(h:aE T (tn lo a) ρ Q):aE T (ZQ lo a) ρ Q:=by
 refine Ba ⟨fun ρ1 ρ2 ha hq=>hn ρ1 ρ2 (Nf ha fun t ht=>ht) hq,fun id' k ρ1 ρ2 hk ha hq=>?_,fun d hq=>hq⟩ h
 simp only[aa] at hk
 cases hb:Nat.beq bt id'<;>simp only[hb,cond_true,cond_false] at hk
 ·cases hk
 ·cases hk
  have:=fq hb
  subst this
  exact hx ρ1 ρ2 (Nf ha fun t ht=>ht) hq
theorem EvP.eachR {T:bn}{e:PE}{ps lo:List Nat}{rt:Option PE}{a:PC}{ρ:Env}{Q:Out→Prop}(xs:List D)(he:(e.ev ρ).l=xs)(inv:Nat→List D→Prop)(h0:inv 0 (lo.map ρ.o))
 (step:∀k x vo,xs[k]?=some x→inv k vo→aE T (tn lo a) (ρ.put ps (partsOf ps x) lo vo) (Lh ρ lo rt (inv (k+1)) Q)) (done:∀vo,inv xs.length vo→Q (.next (ρ.put [] [] lo vo))):EvP T (.each e ps lo rt a) ρ Q:=by
 refine .each xs he inv h0 (fun k x vo hx hi=>?_) done
 have h:=S7 (fun ρ1 ρ2 e hq=>by simp only[Lh] at hq ⊢;rw[e];exact hq) (fun ρ1 ρ2 e hq=>by simp only[Lh,if_true] at hq ⊢;rw[e];exact hq) (step k x vo hx hi)
 refine Z8 (s:=.id) a (Asm.ok_nil _) h (fun ρ' asm s' _ _ h=>?_) (fun ρ' asm id' s' _ _ h=>?_) (fun _ id' ρ' h=>h) (fun d h=>h)
 ·simp only[aE,Lh] at h
  rw[SE.keep_o] at h
  exact h
 ·simp only[aE,Lh] at h
  rw[SE.keep_o] at h
  exact h
theorem EvP.meachR {T:bn}{J:Nat}{ps sel lo:List Nat}{a:PC}{ρ:Env}{Q:Out→Prop}(es:List (D×D))(he:ρ.o J=.tup [.list [],.map es])(inv:List D→List D→Prop)(h0:inv [] (lo.map ρ.o))
 (step:∀done x rest vo,(done++x::rest).Perm (cf (.map es))→inv done vo→aE T (tn lo a) ((ρ.put ps (sel.map x.tget) lo vo).setO J (.tup [.list (done++[x]),.map es])) (fun y=>∃ρ',y=.next ρ'∧inv (done++[x]) (lo.map ρ'.o)))
 (last:∃vo,(∀done,done.Perm (cf (.map es))→∀vo',inv done vo'→vo'=vo)∧Q (.next (ρ.put [] [] lo vo))):EvP T (.meach J ps sel lo a) ρ Q:=by
 refine .meach es he inv h0 (fun done x rest vo hp hi=>?_) last
 have h:=S7 (fun ρ1 ρ2 e ⟨ρ',e1,hq⟩=>by cases e1;exact⟨_,rfl,by rw[e];exact hq⟩) (fun ρ1 ρ2 e ⟨ρ',e1,hq⟩=>by cases e1) (step done x rest vo hp hi)
 refine Z8 (s:=.id) a (Asm.ok_nil _) h (fun ρ' asm s' _ _ h=>?_) (fun ρ' asm id' s' _ _ h=>?_) (fun _ id' ρ' h=>?_) (fun d h=>?_)
 ·simp only[aE] at h
  obtain⟨ρ2,e,h⟩:=h
  injection e with e;subst e
  rw[SE.keep_o] at h
  exact⟨_,rfl,h⟩
 ·simp only[aE] at h
  obtain⟨ρ2,e,h⟩:=h
  cases e
 ·obtain⟨ρ2,e,_⟩:=h;cases e
 ·obtain⟨ρ2,e,_⟩:=h;cases e
theorem rL {T:bn}:∀(t:PT) {ρ:Env} {Q Q':Out→Prop},(∀x,Q x→Q' x)→aE T t ρ Q→aE T t ρ Q':=by
 intro t
 induction t with
 |next s=>intro ρ Q Q' h hx;exact h _ hx
 |exit id s=>intro ρ Q Q' h hx;exact h _ hx
 |ret e=>intro ρ Q Q' h hx;exact h _ hx
 |chk e k ih=>intro ρ Q Q' h hx;exact⟨hx.1,ih h hx.2⟩
 |ite c a b iha ihb=>
  intro ρ Q Q' h hx
  simp only[aE] at hx ⊢
  split
  ·rename_i hc;rw[if_pos hc] at hx;exact iha h hx
  ·rename_i hc;rw[if_neg hc] at hx;exact ihb h hx
 |call s gs dst f args k ih=>
  intro ρ Q Q' h hx
  simp only[aE] at hx ⊢
  split
  ·rename_i hc;rw[if_pos hc] at hx;obtain⟨d,hd,hx⟩:=hx;exact⟨d,hd,ih h hx⟩
  ·rename_i hc;rw[if_neg hc] at hx;exact ih h hx
 |callc s gs dst e args k ih=>
  intro ρ Q Q' h hx
  simp only[aE] at hx ⊢
  split
  ·rename_i hc;rw[if_pos hc] at hx;obtain⟨f,c,d,he,hd,hx⟩:=hx;exact⟨f,c,d,he,hd,ih h hx⟩
  ·rename_i hc;rw[if_neg hc] at hx;exact ih h hx
 |mcall s j f args k ih=>intro ρ Q Q' h hx;obtain⟨d,hd,hx⟩:=hx;exact⟨d,hd,ih h hx⟩
 |iteS s c lr lo a b k iha ihb ihk=>
  intro ρ Q Q' h hx
  have hq:∀x,qT (s.ev ρ) lr lo (tF (fun ρ'=>aE T k ρ' Q) Q) x→qT (s.ev ρ) lr lo (tF (fun ρ'=>aE T k ρ' Q') Q') x:=by
   intro x hx
   cases x with
   |next ρ'=>exact ihk h hx
   |exit id ρ'=>exact h _ hx
   |ret d=>exact h _ hx
  simp only[aE] at hx ⊢
  split
  ·rename_i hc;rw[if_pos hc] at hx;exact iha hq hx
  ·rename_i hc;rw[if_neg hc] at hx;exact ihb hq hx
 |blockS s id lr lo a k iha ihk=>
  intro ρ Q Q' h hx
  refine iha (fun x hx=>?_) hx
  cases x with
  |next ρ'=>exact ihk h hx
  |exit id' ρ'=>
   simp only[lH] at hx ⊢
   split
   ·rename_i e;rw[if_pos e] at hx;exact ihk h hx
   ·rename_i e;rw[if_neg e] at hx;exact h _ hx
  |ret d=>exact h _ hx
 |brk s c k ih=>
  intro ρ Q Q' h hx
  refine EvP.mono hx fun x hx=>?_
  cases x with
  |next ρ'=>exact ih h hx
  |exit id ρ'=>exact h _ hx
  |ret d=>exact h _ hx
theorem EvP.forRounds {T:bn}{id:Nat}{lrb lob lr lo:List Nat}{a:PC}{ρ:Env}{Q:Out→Prop}(N:Nat)(str sto:Nat→List D)(h0:lr.map ρ.r=str 0∧lo.map ρ.o=sto 0)
 (step:∀k,k<N→aE T (round id lrb lob lr lo a) (ρ.put lr (str k) lo (sto k)) (bY ρ id lrb lob lr lo (fun vr vo=>vr=str (k+1)∧vo=sto (k+1)) Q))
 (last:aE T (round id lrb lob lr lo a) (ρ.put lr (str N) lo (sto N)) (bY ρ id lrb lob lr lo (fun _ _=>False) Q)):EvP T (.block id lrb lob (.loop lr lo a)) ρ Q:=by
 refine .forLoop (α:=Nat) (fun k vr vo=>k≤N∧vr=str k∧vo=sto k) (fun k=>N-k) 0 ⟨Nat.zero_le _,h0.1,h0.2⟩ ?_
 rintro k vr vo ⟨hk,rfl,rfl⟩
 have mono:∀{K K':List D→List D→Prop},(∀a b,K a b→K' a b)→∀x,bY ρ id lrb lob lr lo K Q x→bY ρ id lrb lob lr lo K' Q x:=by
  intro K K' h x hx
  cases x with
  |next ρ'=>exact h _ _ hx
  |exit id' ρ'=>exact hx
  |ret d=>exact hx
 by_cases hlt:k<N
 ·exact rL _ (mono fun a b ⟨h1,h2⟩=>⟨k+1,by omega,by omega,h1,h2⟩) (step k hlt)
 ·obtain rfl:k=N:=by omega
  exact rL _ (mono fun a b h=>h.elim) last
theorem zl {ρ:Env}{id:Nat}{lrb lob lr lo:List Nat}{K K':List D→List D→Prop}{Q:Out→Prop}(h:∀a b,K a b→K' a b):∀x,bY ρ id lrb lob lr lo K Q x→bY ρ id lrb lob lr lo K' Q x:=by
 intro x hx
 cases x with
 |next ρ'=>exact h _ _ hx
 |exit id' ρ'=>exact hx
 |ret d=>exact hx
theorem EvP.scan {T:bn}{id:Nat}{lrb lob lr lo:List Nat}{a:PC}{ρ:Env}{Q:Out→Prop}(N:Nat)(ok:Nat→Prop)(str sto:Nat→List D)(h0:lr.map ρ.r=str 0∧lo.map ρ.o=sto 0)
 (step:∀k,k<N→(∀j,j<k→ok j)→ok k→aE T (round id lrb lob lr lo a) (ρ.put lr (str k) lo (sto k)) (bY ρ id lrb lob lr lo (fun vr vo=>vr=str (k+1)∧vo=sto (k+1)) Q))
 (bad:∀k,k<N→(∀j,j<k→ok j)→¬ok k→aE T (round id lrb lob lr lo a) (ρ.put lr (str k) lo (sto k)) (bY ρ id lrb lob lr lo (fun _ _=>False) Q))
 (last:(∀j,j<N→ok j)→aE T (round id lrb lob lr lo a) (ρ.put lr (str N) lo (sto N)) (bY ρ id lrb lob lr lo (fun _ _=>False) Q)):EvP T (.block id lrb lob (.loop lr lo a)) ρ Q:=by
 refine .forLoop (α:=Nat) (fun k vr vo=>k≤N∧(∀j,j<k→ok j)∧vr=str k∧vo=sto k) (fun k=>N-k) 0 ⟨Nat.zero_le _,fun j hj=>by omega,h0.1,h0.2⟩ ?_
 rintro k vr vo ⟨hk,hj,rfl,rfl⟩
 by_cases hlt:k<N
 ·by_cases hok:ok k
  ·refine rL _ (zl fun a b ⟨h1,h2⟩=>⟨k+1,by omega,by omega,fun j hjk=>?_,h1,h2⟩) (step k hlt hj hok)
   by_cases e:j=k
   ·subst e;exact hok
   ·exact hj j (by omega)
  ·exact rL _ (zl fun a b h=>h.elim) (bad k hlt hj hok)
 ·obtain rfl:k=N:=by omega
  exact rL _ (zl fun a b h=>h.elim) (last hj)
def mkA (n:Nat)(e:PE):PE:=.mk ((List.range n).map fun i=>.cell e i)
def v9 (n:Nat)(d:D):D:=.agg ((List.range n).flatMap fun i=>(d.c i).cells)
theorem afT (ρ:Env)(n:Nat)(e:PE):(mkA n e).ev ρ=v9 n (e.ev ρ):=by
 have key:∀l:List Nat,PE.evc ρ (l.map fun i=>.cell e i)=l.flatMap fun i=>((e.ev ρ).c i).cells:=by
  intro l
  induction l with
  |nil=>rfl
  |cons i l ih=>simp only[List.map_cons,PE.evc,PE.ev,List.flatMap_cons,ih]
 show D.agg _=_
 rw[key];rfl
end Cx
namespace Cx
open Go Go.RowKit
def I64 (n:Int):Prop:=-9223372036854775808≤n∧n≤9223372036854775807
def ints (l:List Int):D:=.list (l.map .int)
theorem az {n:Int}(h:-9223372036854775808≤n∧n≤9223372036854775807):IntKind.i64.wrap n=n:=by
 simp only[IntKind.wrap,IntKind.signed,IntKind.bits];simp;split<;>omega
theorem DTy.int_inv {k:IntKind}{d:D}(h:DTy (.int k) d):∃n,d=.v (.int k n)∧k.min≤n∧n≤k.max:=by
 cases h with
 |int k n h1 h2=>exact⟨n,rfl,h1,h2⟩
 |other t d h=>exact h.elim
theorem DTy.i64_inv {d:D}(h:DTy (.int .i64) d):∃n,d=.int n∧I64 n:=by
 obtain⟨n,rfl,h1,h2⟩:=h.int_inv
 exact⟨n,rfl,by simpa [IntKind.min,IntKind.max,IntKind.signed,IntKind.bits] using h1,by simpa [IntKind.min,IntKind.max,IntKind.signed,IntKind.bits] using h2⟩
theorem DTy.bool_inv {d:D}(h:DTy .bool d):∃b,d=.bool b:=by
 cases h with
 |bool b=>exact⟨b,rfl⟩
 |other t d h=>exact h.elim
theorem DTy.slice_inv {e:Ty}{d:D}(h:DTy (.slice e) d):∃xs,d=.list xs∧xs.length≤maxLen∧∀x,x∈xs→DTy e.unf x:=by
 cases h with
 |slice e xs hm h=>exact⟨xs,rfl,hm,h⟩
 |other t d h=>exact h.elim
theorem DTy.agg_inv {ts:List Ty}{d:D}(h:DTy (.agg ts) d):∃ds,d=.agg ds∧DTys ts ds:=by
 cases h with
 |agg ts ds h=>exact⟨ds,rfl,h⟩
 |other t d h=>exact h.elim
theorem DTys.cons_inv {t:Ty}{ts:List Ty}{ds:List D}(h:DTys (t::ts) ds):∃d ds',ds=d::ds'∧DTy t d∧DTys ts ds':=by
 cases h with
 |cons h hs=>exact⟨_,_,rfl,h,hs⟩
theorem DTys.nil_inv {ds:List D}(h:DTys [] ds):ds=[]:=by cases h;rfl
theorem cn {α:Type}{enc:α→D}{P:α→Prop}{xs:List D}(h:∀x,x∈xs→∃a,x=enc a∧P a):∃l:List α,xs=l.map enc∧∀a,a∈l→P a:=by
 induction xs with
 |nil=>exact⟨[],rfl,fun _ h=>nomatch h⟩
 |cons x xs ih=>
  obtain⟨l,hl,hp⟩:=ih fun y hy=>h y (List.mem_cons_of_mem _ hy)
  obtain⟨a,ha,pa⟩:=h x (List.mem_cons_self ..)
  exact⟨a::l,by rw[hl,ha];rfl,fun b hb=>by
   rcases List.mem_cons.1 hb with e|hb
   ·rw[e];exact pa
   ·exact hp b hb⟩
theorem DTy.ints_inv {d:D}(h:DTy (.slice (.int .i64)) d):∃l:List Int,d=ints l∧l.length≤maxLen∧∀x,x∈l→I64 x:=by
 obtain⟨xs,rfl,hm,hx⟩:=h.slice_inv
 obtain⟨l,rfl,hl⟩:=cn (enc:=D.int) (P:=I64) fun x hh=>(hx x hh).i64_inv
 exact⟨l,rfl,by simpa using hm,hl⟩
section
variable (ρ:Env) (T:bn)
@[simp] theorem alR (t:Nat):PE.ev ρ (.r t)=ρ.r t:=_root_.id rfl
@[simp] theorem alU (t:Nat):PE.ev ρ (.o t)=ρ.o t:=_root_.id rfl
@[simp] theorem alp (d:D):PE.ev ρ (.con d)=d:=_root_.id rfl
@[simp] theorem ai6 (e:PE)(i:Nat):PE.ev ρ (.cell e i)=(PE.ev ρ e).c i:=_root_.id rfl
@[simp] theorem alo (e:PE)(a n:Nat):PE.ev ρ (.sub e a n)=.agg (((PE.ev ρ e).cells.drop a).take n):=_root_.id rfl
@[simp] theorem ajL (e x:PE)(n:Nat):PE.ev ρ (.setc e n x)=.agg (aX (PE.ev ρ e).cells n (PE.ev ρ x).cells):=_root_.id rfl
@[simp] theorem alB (es:List PE):PE.ev ρ (.mk es)=.agg (PE.evc ρ es):=_root_.id rfl
@[simp] theorem alP (op:BinOp)(k:IntKind)(x y:PE):PE.ev ρ (.ai op k x y)=.v (.int k (arI op k (PE.ev ρ x).i (PE.ev ρ y).i)):=_root_.id rfl
@[simp] theorem alF (op:BinOp)(x y:PE):PE.ev ρ (.ci op x y)=.v (.bool (cmI op (PE.ev ρ x).i (PE.ev ρ y).i)):=_root_.id rfl
@[simp] theorem alL (op:BinOp)(x y:PE):PE.ev ρ (.cb op x y)=.v (.bool (cmB op (PE.ev ρ x).b (PE.ev ρ y).b)):=_root_.id rfl
@[simp] theorem alD (op:BinOp)(x y:PE):PE.ev ρ (.cs op x y)=.v (.bool (cmS op (PE.ev ρ x).s (PE.ev ρ y).s)):=_root_.id rfl
@[simp] theorem alz (x:PE):PE.ev ρ (.nt x)=.v (.bool (!(PE.ev ρ x).b)):=_root_.id rfl
@[simp] theorem ai5 (k:IntKind)(x:PE):PE.ev ρ (.conv k x)=.v (.int k (k.wrap (PE.ev ρ x).i)):=_root_.id rfl
@[simp] theorem ajG (c a b:PE):PE.ev ρ (.pick c a b)=if(PE.ev ρ c).b=true then PE.ev ρ a else PE.ev ρ b:=by
  simp only[PE.ev];cases(PE.ev ρ c).b<;>rfl
@[simp] theorem akl (n:Nat)(e:PE):PE.ev ρ (mkA n e)=v9 n (PE.ev ρ e):=afT ρ n e
@[simp] theorem ahW (x:PE):PE.ev ρ (.bytes x)=.list ((PE.ev ρ x).s.data.toList.map fun b=>.v (.int .u8 b.toNat)):=_root_.id rfl
@[simp] theorem ajd (x:PE):PE.ev ρ (.llen x)=.v (.int .i64 (PE.ev ρ x).l.length):=_root_.id rfl
@[simp] theorem ajD (x:PE):PE.ev ρ (.slen x)=.v (.int .i64 (PE.ev ρ x).s.size):=_root_.id rfl
@[simp] theorem ajA (x:PE):PE.ev ρ (.mlen x)=.v (.int .i64 (PE.ev ρ x).m.length):=_root_.id rfl
@[simp] theorem akO (x i:PE):PE.ev ρ (.nth x i)=(PE.ev ρ x).l.getD (PE.ev ρ i).i.toNat .none:=_root_.id rfl
@[simp] theorem als (x i:PE):PE.ev ρ (.idx x i)=.v (.bool (decide (0≤(PE.ev ρ i).i∧(PE.ev ρ i).i<(PE.ev ρ x).l.length))):=_root_.id rfl
@[simp] theorem ai8 (x i y:PE)(n:Nat):PE.ev ρ (.setn x i n y)=.list ((PE.ev ρ x).l.set (PE.ev ρ i).i.toNat (tS ((PE.ev ρ x).l.getD (PE.ev ρ i).i.toNat .none) n (PE.ev ρ y))):=_root_.id rfl
@[simp] theorem akZ (x y:PE):PE.ev ρ (.app x y)=.list ((PE.ev ρ x).l++(PE.ev ρ y).l):=_root_.id rfl
@[simp] theorem ali (es:List PE):PE.ev ρ (.lst es)=.list (PE.evs ρ es):=_root_.id rfl
@[simp] theorem ale (x y:PE):PE.ev ρ (.rep x y)=.list (List.replicate (PE.ev ρ x).i.toNat (PE.ev ρ y)):=_root_.id rfl
@[simp] theorem ak9 (x a b:PE):PE.ev ρ (.slc x a b)=.list (((PE.ev ρ x).l.take (PE.ev ρ b).i.toNat).drop (PE.ev ρ a).i.toNat):=_root_.id rfl
@[simp] theorem ajN (x a b:PE):PE.ev ρ (.slok x a b)=.v (.bool (decide (0≤(PE.ev ρ a).i∧(PE.ev ρ a).i≤(PE.ev ρ b).i∧(PE.ev ρ b).i≤(PE.ev ρ x).l.length))):=_root_.id rfl
@[simp] theorem akD (x:PE):PE.ev ρ (.ref x)=.ref (PE.ev ρ x):=_root_.id rfl
@[simp] theorem ahS (x:PE):PE.ev ρ (.deref x)=(PE.ev ρ x).deref:=_root_.id rfl
@[simp] theorem ake (m k z:PE):PE.ev ρ (.look m k z)=(jP (PE.ev ρ k) (PE.ev ρ m).m).getD (PE.ev ρ z):=_root_.id rfl
@[simp] theorem alu (m k v:PE):PE.ev ρ (.put m k v)=.map (nM (PE.ev ρ k) (PE.ev ρ v) (PE.ev ρ m).m):=_root_.id rfl
@[simp] theorem alI (x y:PE):PE.ev ρ (.mn x y)=if(PE.ev ρ y).i<(PE.ev ρ x).i then PE.ev ρ y else PE.ev ρ x:=by
  simp only[PE.ev];by_cases h:(PE.ev ρ y).i<(PE.ev ρ x).i<;>simp[h]
@[simp] theorem alJ (x y:PE):PE.ev ρ (.mx x y)=if(PE.ev ρ y).i>(PE.ev ρ x).i then PE.ev ρ y else PE.ev ρ x:=by
  simp only[PE.ev];by_cases h:(PE.ev ρ y).i>(PE.ev ρ x).i<;>simp[h]
@[simp] theorem akK (es:List PE):PE.ev ρ (.tup es)=.tup (PE.evs ρ es):=_root_.id rfl
@[simp] theorem ajI (x:PE)(i:Nat):PE.ev ρ (.tget x i)=(PE.ev ρ x).tget i:=_root_.id rfl
@[simp] theorem ak3 (f:Nat)(es:List PE):PE.ev ρ (.clo f es)=.clo f (PE.evs ρ es):=_root_.id rfl
@[simp] theorem alG (x y:PE):PE.ev ρ (.an x y)=.v (.bool ((PE.ev ρ x).b&&(PE.ev ρ y).b)):=_root_.id rfl
@[simp] theorem aiX:PE.evs ρ []=[]:=_root_.id rfl
@[simp] theorem aid (e:PE)(es:List PE):PE.evs ρ (e::es)=PE.ev ρ e::PE.evs ρ es:=_root_.id rfl
@[simp] theorem aiW:PE.evc ρ []=[]:=_root_.id rfl
@[simp] theorem aiR (e:PE)(es:List PE):PE.evc ρ (e::es)=(PE.ev ρ e).cells++PE.evc ρ es:=_root_.id rfl
@[simp] theorem aje (x:Bool):(D.bool x).b=x:=_root_.id rfl
@[simp] theorem alb (k:IntKind)(n:Int):(D.v (.int k n)).i=n:=_root_.id rfl
@[simp] theorem agp (n:Int):(D.int n).i=n:=_root_.id rfl
@[simp] theorem ajb (x:List D):(D.list x).l=x:=_root_.id rfl
@[simp] theorem ai4 (l:List Int):(ints l).l=l.map .int:=_root_.id rfl
@[simp] theorem alx (x:List (D×D)):(D.map x).m=x:=_root_.id rfl
@[simp] theorem aln (x:List D)(i:Nat):(D.agg x).c i=x.getD i .none:=_root_.id rfl
@[simp] theorem afY (x:List D):(D.agg x).cells=x:=_root_.id rfl
@[simp] theorem aeK (x:List D):(D.list x).cells=[.list x]:=_root_.id rfl
@[simp] theorem afx (x:List Int):(ints x).cells=[ints x]:=_root_.id rfl
@[simp] theorem afA (n:Int):(D.int n).cells=[.int n]:=_root_.id rfl
@[simp] theorem afw (n:Bool):(D.bool n).cells=[.bool n]:=_root_.id rfl
@[simp] theorem ah0 (x:Value):(D.v x).cells=[.v x]:=_root_.id rfl
@[simp] theorem agT (x:List D)(i:Nat):(D.tup x).tget i=x.getD i .none:=_root_.id rfl
@[simp] theorem afN (x:D):(D.ref x).deref=x:=_root_.id rfl
@[simp] theorem alT (s:SE)(t:Nat):(s.ev ρ).r t=PE.ev ρ (s.getR t):=_root_.id rfl
@[simp] theorem alS (s:SE)(t:Nat):(s.ev ρ).o t=PE.ev ρ (s.getO t):=_root_.id rfl
@[simp] theorem ahQ (o:List (Nat×PE))(u:Nat):SE.getR ⟨[],o⟩ u=.r u:=_root_.id rfl
@[simp] theorem agU (t:Nat)(e:PE)(r o:List (Nat×PE))(u:Nat):SE.getR ⟨(t,e)::r,o⟩ u=if t=u then e else SE.getR ⟨r,o⟩ u:=by
  simp only[SE.getR,aa]
  by_cases h:t=u
  ·subst h;simp
  ·simp[bZ h,h]
@[simp] theorem ah2 (r:List (Nat×PE))(u:Nat):SE.getO ⟨r,[]⟩ u=.o u:=_root_.id rfl
@[simp] theorem agz (t:Nat)(e:PE)(r o:List (Nat×PE))(u:Nat):SE.getO ⟨r,(t,e)::o⟩ u=if t=u then e else SE.getO ⟨r,o⟩ u:=by
  simp only[SE.getO,aa]
  by_cases h:t=u
  ·subst h;simp
  ·simp[bZ h,h]
@[simp] theorem setR_r (t u:Nat)(d:D):(ρ.setR t d).r u=if u=t then d else ρ.r u:=Env.setR_r ρ t u d
@[simp] theorem alm (t u:Nat)(d:D):(ρ.setR t d).o u=ρ.o u:=_root_.id rfl
@[simp] theorem setO_o (t u:Nat)(d:D):(ρ.setO t d).o u=if u=t then d else ρ.o u:=Env.setO_o ρ t u d
@[simp] theorem alg (t u:Nat)(d:D):(ρ.setO t d).r u=ρ.r u:=_root_.id rfl
@[simp] theorem aly (lr lo:List Nat)(vr vo:List D)(u:Nat):(ρ.put lr vr lo vo).r u=putL ρ.r lr vr u:=_root_.id rfl
@[simp] theorem alK (lr lo:List Nat)(vr vo:List D)(u:Nat):(ρ.put lr vr lo vo).o u=putL ρ.o lo vo u:=_root_.id rfl
@[simp] theorem join_r (ρ':Env)(lr lo:List Nat)(u:Nat):(ρ.join lr lo ρ').r u=if u∈lr then ρ'.r u else ρ.r u:=Env.join_r ρ ρ' lr lo u
@[simp] theorem join_o (ρ':Env)(lr lo:List Nat)(u:Nat):(ρ.join lr lo ρ').o u=if u∈lo then ρ'.o u else ρ.o u:=Env.join_o ρ ρ' lr lo u
@[simp] theorem afX (f:Nat→D)(i:Nat)(is:List Nat)(x:D)(xs:List D)(u:Nat):putL f (i::is) (x::xs) u=if u=i then x else putL f is xs u:=Bf f i is x xs u
@[simp] theorem agv (f:Nat→D)(xs:List D)(u:Nat):putL f [] xs u=f u:=Fk f xs u
@[simp] theorem akp (ds:List D)(u:Nat):(Ep ds).r u=ds.getD u .none:=_root_.id rfl
@[simp] theorem agl:holds [] ρ=true:=_root_.id rfl
@[simp] theorem afm (g:Nat×Bool)(gs:List (Nat×Bool)):holds (g::gs) ρ=((ρ.r g.1).b==g.2&&holds gs ρ):=_root_.id rfl
variable (Q:Out→Prop)
@[simp] theorem ai9 (s:SE):aE T (.next s) ρ Q=Q (.next (s.ev ρ)):=_root_.id rfl
@[simp] theorem ah7 (id:Nat)(s:SE):aE T (.exit id s) ρ Q=Q (.exit id (s.ev ρ)):=_root_.id rfl
@[simp] theorem ajt (e:PE):aE T (.ret e) ρ Q=Q (.ret (e.ev ρ)):=_root_.id rfl
@[simp] theorem ak4 (e:PE)(k:PT):aE T (.chk e k) ρ Q=((e.ev ρ).b=true∧aE T k ρ Q):=_root_.id rfl
@[simp] theorem akH (c:PE)(a b:PT):aE T (.ite c a b) ρ Q=if(c.ev ρ).b=true then aE T a ρ Q else aE T b ρ Q:=_root_.id rfl
@[simp] theorem aj5 (s:SE)(gs:List (Nat×Bool))(dst f:Nat)(args:List PE)(k:PT):aE T (.call s gs dst f args k) ρ Q=if holds gs (s.ev ρ)=true then ∃d,Runs T f (PE.evs ρ args) d∧aE T k ((s.ev ρ).setR dst d) Q else aE T k (s.ev ρ) Q:=_root_.id rfl
@[simp] theorem ajq (s:SE)(c:PE)(lr lo:List Nat)(a b k:PT):aE T (.iteS s c lr lo a b k) ρ Q=if(c.ev ρ).b=true then aE T a (s.ev ρ) (qT (s.ev ρ) lr lo (tF (fun ρ'=>aE T k ρ' Q) Q)) else aE T b (s.ev ρ) (qT (s.ev ρ) lr lo (tF (fun ρ'=>aE T k ρ' Q) Q)):=_root_.id rfl
@[simp] theorem agX (s:SE)(id:Nat)(lr lo:List Nat)(a k:PT):aE T (.blockS s id lr lo a k) ρ Q=aE T a (s.ev ρ) (lH (s.ev ρ) id lr lo (tF (fun ρ'=>aE T k ρ' Q) Q)):=_root_.id rfl
@[simp] theorem akS (s:SE)(c:PC)(k:PT):aE T (.brk s c k) ρ Q=EvP T c (s.ev ρ) (tF (fun ρ'=>aE T k ρ' Q) Q):=_root_.id rfl
variable (K:Env→Prop) (id:Nat) (lr lo lrb lob:List Nat) (K2:List D→List D→Prop)
@[simp] theorem agw (ρ':Env):tF K Q (.next ρ')=K ρ':=_root_.id rfl
@[simp] theorem agO (i:Nat)(ρ':Env):tF K Q (.exit i ρ')=Q (.exit i ρ'):=_root_.id rfl
@[simp] theorem ahm (d:D):tF K Q (.ret d)=Q (.ret d):=_root_.id rfl
@[simp] theorem afC (ρ':Env):qT ρ lr lo Q (.next ρ')=Q (.next (ρ.join lr lo ρ')):=_root_.id rfl
@[simp] theorem agZ (d:D):qT ρ lr lo Q (.ret d)=Q (.ret d):=_root_.id rfl
@[simp] theorem aeG (ρ':Env):lH ρ id lr lo Q (.next ρ')=Q (.next (ρ.join lr lo ρ')):=_root_.id rfl
@[simp] theorem ae9 (i:Nat)(ρ':Env):lH ρ id lr lo Q (.exit i ρ')=if i=id then Q (.next (ρ.join lr lo ρ')) else Q (.exit i ρ'):=_root_.id rfl
@[simp] theorem af3 (d:D):lH ρ id lr lo Q (.ret d)=Q (.ret d):=_root_.id rfl
@[simp] theorem aeF (ρ':Env):bY ρ id lrb lob lr lo K2 Q (.next ρ')=K2 (lr.map ρ'.r) (lo.map ρ'.o):=_root_.id rfl
@[simp] theorem ae4 (i:Nat)(ρ':Env):bY ρ id lrb lob lr lo K2 Q (.exit i ρ')=if i=id then Q (.next (ρ.put lrb (lrb.map ρ'.r) lob (lob.map ρ'.o))) else Q (.exit i ρ'):=_root_.id rfl
@[simp] theorem af2 (d:D):bY ρ id lrb lob lr lo K2 Q (.ret d)=Q (.ret d):=_root_.id rfl
@[simp] theorem aif (s:SE)(gs:List (Nat×Bool))(dst:Nat)(e:PE)(args:List PE)(k:PT):aE T (.callc s gs dst e args k) ρ Q=if holds gs (s.ev ρ)=true then ∃f caps d,e.ev ρ=.clo f caps∧Runs T f (PE.evs ρ args++caps) d∧aE T k ((s.ev ρ).setR dst d) Q else aE T k (s.ev ρ) Q:=_root_.id rfl
@[simp] theorem afH (rt:Option PE)(K3:List D→Prop)(i:Nat)(ρ':Env):Lh ρ lo rt K3 Q (.exit i ρ')=if i=bt then ∃e,rt=some e∧Q (.ret (e.ev (ρ.put [] [] lo (lo.map ρ'.o)))) else Q (.exit i (ρ.put [] [] lo (lo.map ρ'.o))):=_root_.id rfl
@[simp] theorem ak7 (J:Nat)(ds:List D)(u:Nat):(abA J ds).r u=(D.none::ds).getD u .none:=_root_.id rfl
theorem afD (J:Nat)(ds:List D)(u:Nat):(abA J ds).o u=if u=J then .list [] else .none:=by
 show(bif Nat.beq u J then D.list [] else .none)=_
 by_cases h:u=J
 ·subst h;simp
 ·simp[bZ h,h]
@[simp] theorem adX (p:Nat)(x:D):partsOf [p] x=[x.tget 0]:=_root_.id rfl
end
section
variable (k:IntKind) (a b:Int)
@[simp] theorem akC:arI .add k a b=k.wrap (a+b):=_root_.id rfl
@[simp] theorem ak6:arI .sub k a b=k.wrap (a-b):=_root_.id rfl
@[simp] theorem akQ:arI .mul k a b=k.wrap (a*b):=_root_.id rfl
@[simp] theorem akV:arI .quo k a b=k.wrap (a.tdiv b):=_root_.id rfl
@[simp] theorem alq:arI .rem k a b=a.tmod b:=_root_.id rfl
@[simp] theorem akX:cmI .eql a b=(a==b):=_root_.id rfl
@[simp] theorem ak5:cmI .neq a b=(a !=b):=_root_.id rfl
@[simp] theorem akN:cmI .lss a b=decide (a<b):=_root_.id rfl
@[simp] theorem akT:cmI .leq a b=decide (a≤b):=_root_.id rfl
@[simp] theorem akR:cmI .gtr a b=decide (a>b):=_root_.id rfl
@[simp] theorem ak0:cmI .geq a b=decide (a≥b):=_root_.id rfl
variable (x y:Bool)
@[simp] theorem alk:cmB .eql x y=(x==y):=_root_.id rfl
@[simp] theorem akI:cmB .neq x y=(!(x==y)):=_root_.id rfl
end
theorem Runs.of_tree {tab:Nat→Option PC}{ext:Nat→Option (aO→List D→Option D)}{f:Nat}{pc:PC}{t:PT}{ds:List D}{d:D}(hx:ext f=none)(ht:tab f=some pc)(he:tree pc=t)(h:aE (Tab tab ext) t (Ep ds) (fun x=>x=.ret d)):Runs (Tab tab ext) f ds d:=
 .of_pc hx ht (Nh (he▸h))
@[simp] theorem akw (n:Int):D.v (.int .i64 n)=D.int n:=_root_.id rfl
@[simp] theorem aij (b:Bool):D.v (.bool b)=D.bool b:=_root_.id rfl
@[simp] theorem aiT (a b:Int):(D.int a=D.int b)=(a=b):=by
  apply propext;constructor
  ·intro h;injection h with h;injection h
  ·intro h;rw[h]
@[simp] theorem agy (a b:Bool):(D.bool a=D.bool b)=(a=b):=by
  apply propext;constructor
  ·intro h;injection h with h;injection h
  ·intro h;rw[h]
section
variable (c:Prop) [Decidable c] (x y:D)
@[simp] theorem alA:(if c then x else y).b=if c then x.b else y.b:=by split<;>rfl
@[simp] theorem alH:(if c then x else y).i=if c then x.i else y.i:=by split<;>rfl
end
@[simp] theorem afc:IntKind.i64.wrap 0=0:=az (by omega)
end Cx
namespace Cx
open Go
inductive Tm where
 |mk (op n:Int) (args:List Tm)
instance:Inhabited Tm:=⟨.mk 0 0 []⟩
namespace Tm
def op:Tm→Int|.mk o _ _=>o
def n:Tm→Int|.mk _ n _=>n
def args:Tm→List Tm|.mk _ _ as=>as
end Tm
mutual
def jz:Tm→D
 |.mk o n as=>.agg [.int o,.int n,.list (Z0 as)]
def Z0:List Tm→List D
 |[]=>[]
 |t::ts=>jz t::Z0 ts
end
theorem Oq:∀l:List Tm,Z0 l=l.map jz
 |[]=>rfl
 |t::l=>by rw[Z0,Oq l];rfl
theorem Hr (t:Tm):jz t=.agg [.int t.op,.int t.n,.list (t.args.map jz)]:=by
 cases t with
 |mk o n as=>rw[jz,Oq];rfl
inductive Tm.OK:Tm→Prop where
 |mk (o n:Int) (as:List Tm) (h1:I64 o) (h2:I64 n) (h3:as.length≤maxLen) (h:∀a,a∈as→Tm.OK a):Tm.OK (.mk o n as)
theorem DTy.trm_inv {d:D}(h:DTy .trmA d):∃t:Tm,d=jz t∧t.OK:=by
 suffices hs:∀(m:Nat) (d:D),sizeOf d≤m→DTy .trmA d→∃t:Tm,d=jz t∧t.OK from hs _ d (Nat.le_refl _) h
 intro m
 induction m with
 |zero=>
  intro d hm h
  cases d<;>simp at hm
 |succ m ih=>
  intro d hm h
  obtain⟨ds,rfl,hs⟩:=DTy.agg_inv h
  obtain⟨d1,ds,rfl,h1,hs⟩:=hs.cons_inv
  obtain⟨d2,ds,rfl,h2,hs⟩:=hs.cons_inv
  obtain⟨d3,ds,rfl,h3,hs⟩:=hs.cons_inv
  obtain rfl:=hs.nil_inv
  obtain⟨o,rfl,b1⟩:=h1.i64_inv
  obtain⟨n,rfl,b2⟩:=h2.i64_inv
  obtain⟨xs,rfl,hl,hx⟩:=h3.slice_inv
  obtain⟨l,rfl,hok⟩:=cn (enc:=jz) (P:=Tm.OK) fun x hh=>ih x (by
   have:=List.sizeOf_lt_of_mem hh
   simp at hm;omega) (hx x hh)
  exact⟨.mk o n l,by rw[jz,Oq],.mk o n l b1 b2 (by simpa using hl) hok⟩
theorem DTy.trms_inv {d:D}(h:DTy (.slice .trm) d):∃l:List Tm,d=.list (l.map jz)∧l.length≤maxLen∧∀t,t∈l→t.OK:=by
 obtain⟨xs,rfl,hl,hx⟩:=h.slice_inv
 obtain⟨l,rfl,hok⟩:=cn (enc:=jz) (P:=Tm.OK) fun x hh=>DTy.trm_inv (hx x hh)
 exact⟨l,rfl,by simpa using hl,hok⟩
end Cx
namespace Cx
open Go
def TP (g:Nat)(zs:List Int):Nat→Option (Ty×D):=fun k=>bif Nat.beq k g then some (.agg (zs.map fun _=>.int .i64),.agg (zs.map fun z=>.v (.int .i64 z))) else none
theorem YL {C:Ctx}{g:Nat}{zs:List Int}{name:String}{W:World}(hC:C.glob=TP g zs)(hg:C.P.globalNamed name=some g)(hz:zs.all (fun z=>decide (IntKind.i64.min≤z)&&decide (z≤IntKind.i64.max))=true)
 (h:Lib.TabIs C.P W name .i64 zs):CtxOK C (JQ W):=by
 refine⟨fun k x hx=>?_⟩
 rw[hC] at hx
 unfold TP at hx
 cases hk:Nat.beq k g<;>simp only[hk,cond_true,cond_false] at hx
 ·cases hx
 cases hx
 obtain rfl:=Nat.eq_of_beq_eq_true hk
 have hrow:Rep C.cap (JQ W) (.agg (zs.map fun _=>.int .i64)) (.agg (zs.map fun z=>Value.int .i64 z).toArray) (.agg (zs.map fun z=>.v (.int .i64 z))):=by
  refine .agg _ _ _ (by simp) (by simp) (fun i t ht=>?_) (fun i t ht=>?_)
  ·rw[List.getElem?_map,Option.map_eq_some_iff] at ht
   obtain⟨z,hz1,rfl⟩:=ht
   rw[List.getD_eq_getElem?_getD,List.getD_eq_getElem?_getD,List.getElem?_map,List.getElem?_map,hz1]
   have:=List.all_eq_true.1 hz z (List.mem_of_getElem? hz1)
   simp only[Bool.and_eq_true,decide_eq_true_eq] at this
   exact .int _ _ this.1 this.2
  ·rw[List.getElem?_map,Option.map_eq_some_iff] at ht
   obtain⟨z,_,rfl⟩:=ht;rfl
 refine .ref _ k 0 _ _ hrow fun j u hu=>?_
 simp only[Value.cells,List.getElem?_toArray,List.getElem?_map,Option.map_eq_some_iff] at hu
 obtain⟨z,hz1,rfl⟩:=hu
 have hlt:=(List.getElem?_eq_some_iff.1 hz1).1
 have:=h.cell hg j hlt
 show W.cell? ⟨k,0+j,none⟩=_
 rw[Nat.zero_add,this,List.getD_eq_getElem?_getD,hz1];rfl
end Cx
namespace Cx
open Go Go.RowKit
def loops:PC→List PC
 |.seq a b=>loops a++loops b
 |.ite _ _ _ a b=>loops a++loops b
 |.block id lr lo (.loop lr' lo' a)=>loops a++[.block id lr lo (.loop lr' lo' a)]
 |.block _ _ _ a=>loops a
 |.loop _ _ a=>loops a
 |.each e ps lo rt a=>loops a++[.each e ps lo rt a]
 |.meach J ps sel lo a=>loops a++[.meach J ps sel lo a]
 |_=>[]
def X1:PC→PC
 |.block _ _ _ (.loop _ _ a)=>a
 |.each _ _ _ _ a=>a
 |.meach _ _ _ _ a=>a
 |_=>.skip
def U2 (c:PC)(k:Nat):PC:=(loops c).getD k .skip
def rnd:PC→PT
 |.block id lr lo (.loop lr' lo' a)=>round id lr lo lr' lo' a
 |.each _ _ lo _ a=>tn lo a
 |.meach _ _ _ lo a=>tn lo a
 |_=>.next .id
inductive Shp where
 |lp (id:Nat) (lrb lob lr lo:List Nat)
 |ea (lo:List Nat)
 |no
def shp:PC→Shp
 |.block id lrb lob (.loop lr lo _)=>.lp id lrb lob lr lo
 |.each _ _ lo _ _=>.ea lo
 |.meach _ _ _ lo _=>.ea lo
 |_=>.no
def told (c:PC):PT×List (Shp×PT):=(tree c,(loops c).map fun l=>(shp l,rnd l))
theorem Na {o:Option PC}{t:PT}{l:List (Shp×PT)}(h:o.map told=some (t,l)):o=some (o.getD .skip)∧tree (o.getD .skip)=t∧∀k x,l[k]?=some x→(shp (U2 (o.getD .skip) k),rnd (U2 (o.getD .skip) k))=x:=by
 cases o with
 |none=>cases h
 |some c=>
  have h1:told c=(t,l):=by injection h
  unfold told at h1
  injection h1 with h1 h2
  refine⟨rfl,h1,fun k x hx=>?_⟩
  subst h2
  simp only[List.getElem?_map,Option.map_eq_some_iff] at hx
  obtain⟨y,hy,rfl⟩:=hx
  have:U2 ((some c:Option PC).getD .skip) k=y:=by
   show(loops c).getD k .skip=y
   rw[List.getD_eq_getElem?_getD,hy];rfl
  rw[this]
theorem ahA {c:PC}{id:Nat}{lrb lob lr lo:List Nat}{t:PT}(h:(shp c,rnd c)=(.lp id lrb lob lr lo,t)):round id lrb lob lr lo (X1 c)=t:=by
 injection h with h1 h2
 subst h2
 unfold shp at h1
 split at h1
 ·cases h1;rfl
 all_goals cases h1
theorem ahZ {c:PC}{lo:List Nat}{t:PT}(h:(shp c,rnd c)=(.ea lo,t)):tn lo (X1 c)=t:=by
 injection h with h1 h2
 subst h2
 unfold shp at h1
 split at h1
 ·cases h1
 ·cases h1;rfl
 ·cases h1;rfl
 ·cases h1
noncomputable def hid {α:Type}(x:α):α:=Classical.choose (⟨x,rfl⟩:∃y,y=x)
theorem J1 {α:Type}(x:α):hid x=x:=Classical.choose_spec (⟨x,rfl⟩:∃y,y=x)
noncomputable def aA (o:Option PC):Nat→PC:=fun k=>X1 (U2 (o.getD .skip) k)
noncomputable abbrev hpc (o:Option PC):PC:=hid (o.getD .skip)
noncomputable abbrev hbd (o:Option PC):Nat→PC:=hid (aA o)
section
variable {o:Option PC} {F:(Nat→PC)→PT×List (Shp×PT)}
theorem ah (h:o.map told=some (F (aA o))):o=some (hpc o):=by unfold hpc;rw[J1];exact(Na (t:=(F (aA o)).1) (l:=(F (aA o)).2) h).1
theorem aj (h:o.map told=some (F (aA o))):tree (hpc o)=(F (hbd o)).1:=by unfold hpc hbd;rw[J1,J1];exact(Na (t:=(F (aA o)).1) (l:=(F (aA o)).2) h).2.1
theorem aw (h:o.map told=some (F (aA o)))(k:Nat){id:Nat}{lrb lob lr lo:List Nat}{t:(Nat→PC)→PT}(hk:∀b,(F b).2[k]?=some (.lp id lrb lob lr lo,t b)):round id lrb lob lr lo (hbd o k)=t (hbd o):=by
 unfold hbd;rw[J1];exact ahA ((Na (t:=(F (aA o)).1) (l:=(F (aA o)).2) h).2.2 k _ (hk _))
theorem Un (h:o.map told=some (F (aA o)))(k:Nat){lo:List Nat}{t:(Nat→PC)→PT}(hk:∀b,(F b).2[k]?=some (.ea lo,t b)):tn lo (hbd o k)=t (hbd o):=by
 unfold hbd;rw[J1];exact ahZ ((Na (t:=(F (aA o)).1) (l:=(F (aA o)).2) h).2.2 k _ (hk _))
theorem acf (h:o.isSome=true):o=some (hpc o):=by unfold hpc;rw[J1];cases o with|none=>cases h|some c=>rfl
end
theorem ab {α:Type}{R:Nat→α→Prop}{f:Nat}{x:α}{l:List (Nat×α)}(h:R f x)(k:aej R l):aej R ((f,x)::l):=⟨h,k⟩
theorem ak {α:Type}:∀{l:List (Nat×α)},(l.map (·.1)).Nodup→∀{k f:Nat} {x:α},l[k]?=some (f,x)→aa l f=some x
 |[],_,k,f,x,h=>by simp at h
 |y::l,hn,0,f,x,h=>by
  simp only[List.getElem?_cons_zero,Option.some.injEq] at h
  subst h
  simp[aa]
 |y::l,hn,k+1,f,x,h=>by
  simp only[List.getElem?_cons_succ] at h
  rw[List.map_cons,List.nodup_cons] at hn
  have hm:f∈l.map (·.1):=List.mem_map.2 ⟨(f,x),List.mem_of_getElem? h,rfl⟩
  have hb:Nat.beq y.1 f=false:=by
   cases e:Nat.beq y.1 f with
   |false=>rfl
   |true=>rw[fq e] at hn;exact absurd hm hn.1
  simp only[aa,hb,cond_false]
  exact ak hn.2 h
abbrev pT:PE:=.con (.bool true)
abbrev pF:PE:=.con (.bool false)
abbrev pN:PE:=.con .none
abbrev pL:PE:=.con (.list [])
abbrev pi (n:Int):PE:=.con (.int n)
abbrev aF (a b:PE):PE:=.ai .add .i64 a b
abbrev aQ (a b:PE):PE:=.ai .sub .i64 a b
abbrev peq (a b:PE):PE:=.ci .eql a b
abbrev pne (a b:PE):PE:=.ci .neq a b
abbrev plt (a b:PE):PE:=.ci .lss a b
abbrev ple (a b:PE):PE:=.ci .leq a b
abbrev pgt (a b:PE):PE:=.ci .gtr a b
abbrev pge (a b:PE):PE:=.ci .geq a b
abbrev pc (a:PE)(i:Nat):PE:=.cell a i
abbrev pn (a b:PE):PE:=.nth a b
abbrev pix (a b:PE):PE:=.idx a b
abbrev z2:PE:=.con (.agg [(.int 0),(.int 0)])
abbrev z3:PE:=.con (.agg [(.int 0),(.int 0),(.int 0)])
abbrev z4:PE:=.con (.agg [(.int 0),(.int 0),(.int 0),(.int 0)])
abbrev z5:PE:=.con (.agg [(.int 0),(.int 0),(.int 0),(.int 0),(.int 0)])
abbrev z6:PE:=.con (.agg [(.int 0),(.int 0),(.int 0),(.int 0),(.int 0),(.int 0)])
abbrev z9:PE:=.con (.agg [(.int 0),(.int 0),(.int 0),(.int 0),(.int 0),(.int 0),(.int 0),(.int 0),(.int 0)])
abbrev z15:PE:=.con (.agg [(.int 0),(.int 0),(.int 0),(.int 0),(.int 0),(.int 0),(.int 0),(.int 0),(.int 0),(.int 0),(.int 0),(.int 0),(.int 0),(.int 0),(.int 0)])
abbrev r0:PE:=.r 0
abbrev r1:PE:=.r 1
abbrev r2:PE:=.r 2
abbrev r3:PE:=.r 3
abbrev r4:PE:=.r 4
abbrev r5:PE:=.r 5
abbrev r6:PE:=.r 6
abbrev r7:PE:=.r 7
abbrev r8:PE:=.r 8
abbrev r9:PE:=.r 9
abbrev r10:PE:=.r 10
abbrev r11:PE:=.r 11
abbrev r12:PE:=.r 12
abbrev r13:PE:=.r 13
abbrev r14:PE:=.r 14
abbrev r15:PE:=.r 15
abbrev r16:PE:=.r 16
abbrev r17:PE:=.r 17
abbrev r18:PE:=.r 18
abbrev r19:PE:=.r 19
abbrev r20:PE:=.r 20
abbrev r21:PE:=.r 21
abbrev r22:PE:=.r 22
abbrev r23:PE:=.r 23
abbrev r24:PE:=.r 24
abbrev r25:PE:=.r 25
abbrev r26:PE:=.r 26
abbrev r27:PE:=.r 27
abbrev r28:PE:=.r 28
abbrev r29:PE:=.r 29
abbrev r30:PE:=.r 30
abbrev r31:PE:=.r 31
abbrev r32:PE:=.r 32
abbrev r33:PE:=.r 33
abbrev r34:PE:=.r 34
abbrev r35:PE:=.r 35
abbrev r36:PE:=.r 36
abbrev r37:PE:=.r 37
abbrev r38:PE:=.r 38
abbrev r39:PE:=.r 39
abbrev r40:PE:=.r 40
abbrev r41:PE:=.r 41
abbrev r42:PE:=.r 42
abbrev r43:PE:=.r 43
abbrev r44:PE:=.r 44
abbrev r45:PE:=.r 45
abbrev r46:PE:=.r 46
abbrev r47:PE:=.r 47
abbrev r48:PE:=.r 48
abbrev r49:PE:=.r 49
abbrev r50:PE:=.r 50
abbrev r51:PE:=.r 51
abbrev r52:PE:=.r 52
abbrev r53:PE:=.r 53
abbrev r54:PE:=.r 54
abbrev r55:PE:=.r 55
abbrev r56:PE:=.r 56
abbrev r57:PE:=.r 57
abbrev r58:PE:=.r 58
abbrev r59:PE:=.r 59
abbrev r60:PE:=.r 60
abbrev r61:PE:=.r 61
abbrev r62:PE:=.r 62
abbrev r63:PE:=.r 63
abbrev r64:PE:=.r 64
abbrev r65:PE:=.r 65
abbrev r66:PE:=.r 66
abbrev r67:PE:=.r 67
abbrev r68:PE:=.r 68
abbrev r69:PE:=.r 69
abbrev r70:PE:=.r 70
abbrev r72:PE:=.r 72
abbrev r73:PE:=.r 73
abbrev r74:PE:=.r 74
abbrev r75:PE:=.r 75
abbrev r76:PE:=.r 76
abbrev r78:PE:=.r 78
abbrev r80:PE:=.r 80
abbrev r81:PE:=.r 81
abbrev r82:PE:=.r 82
abbrev r85:PE:=.r 85
abbrev r86:PE:=.r 86
abbrev r87:PE:=.r 87
abbrev r88:PE:=.r 88
abbrev r89:PE:=.r 89
abbrev r91:PE:=.r 91
abbrev r92:PE:=.r 92
abbrev r93:PE:=.r 93
abbrev r94:PE:=.r 94
abbrev r96:PE:=.r 96
abbrev r99:PE:=.r 99
abbrev afU:PE:=.r 103
abbrev alc:PE:=.r 104
abbrev af4:PE:=.r 106
abbrev af5:PE:=.r 108
abbrev agk:PE:=.r 112
abbrev akF:PE:=.r 115
abbrev ah1:PE:=.r 120
abbrev aiv:PE:=.r 121
abbrev ahY:PE:=.r 123
abbrev ag9:PE:=.r 127
abbrev akW:PE:=.r 129
abbrev o0:PE:=.o 0
abbrev o1:PE:=.o 1
abbrev o2:PE:=.o 2
abbrev o3:PE:=.o 3
abbrev o4:PE:=.o 4
abbrev o5:PE:=.o 5
abbrev o6:PE:=.o 6
abbrev o7:PE:=.o 7
abbrev o8:PE:=.o 8
abbrev o9:PE:=.o 9
abbrev o10:PE:=.o 10
abbrev o12:PE:=.o 12
abbrev o13:PE:=.o 13
abbrev o14:PE:=.o 14
abbrev o16:PE:=.o 16
abbrev o17:PE:=.o 17
abbrev o45:PE:=.o 45
end Cx
