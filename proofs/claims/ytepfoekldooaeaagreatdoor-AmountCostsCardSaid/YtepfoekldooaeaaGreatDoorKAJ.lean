/-
  Shared texts of this claim.
-/
import Derived.Test.YtepfoekldooaeaaGreatDoorKAI
import Derived.Lib.LaidTab
set_option linter.unusedSimpArgs false
set_option linter.unusedVariables false
namespace Cx
open Go Go.RowKit
structure SE where
 r:List (Nat×PE)
 o:List (Nat×PE)
def SE.getR (s:SE)(t:Nat):PE:=match aa s.r t with|some e=>e|none=>.r t
def SE.getO (s:SE)(t:Nat):PE:=match aa s.o t with|some e=>e|none=>.o t
def SE.setR (s:SE)(t:Nat)(e:PE):SE:=⟨(t,e)::s.r,s.o⟩
def SE.setO (s:SE)(t:Nat)(e:PE):SE:=⟨s.r,(t,e)::s.o⟩
def SE.id:SE:=⟨[],[]⟩
def SE.ev (s:SE)(ρ:Env):Env:=⟨fun t=>(s.getR t).ev ρ,fun t=>(s.getO t).ev ρ⟩
def SE.join (s:SE)(lr lo:List Nat)(s':SE):SE:=⟨lr.map (fun t=>(t,s'.getR t))++s.r,lo.map (fun t=>(t,s'.getO t))++s.o⟩
theorem SE.setR_ev (s:SE)(t:Nat)(e:PE)(ρ:Env):(s.setR t e).ev ρ=(s.ev ρ).setR t (e.ev ρ):=by
 have h:(fun u=>((s.setR t e).getR u).ev ρ)=bZ (fun u=>(s.getR u).ev ρ) t (e.ev ρ):=by
  funext u;simp only[SE.getR,SE.setR,aa,fI];by_cases h:t=u
  ·subst h;simp
  ·have h':¬u=t:=fun e=>h e.symm;simp[ez h,h']
 simp only[SE.ev,Env.setR];rw[h];rfl
theorem SE.setO_ev (s:SE)(t:Nat)(e:PE)(ρ:Env):(s.setO t e).ev ρ=(s.ev ρ).setO t (e.ev ρ):=by
 have h:(fun u=>((s.setO t e).getO u).ev ρ)=bZ (fun u=>(s.getO u).ev ρ) t (e.ev ρ):=by
  funext u;simp only[SE.getO,SE.setO,aa,fI];by_cases h:t=u
  ·subst h;simp
  ·have h':¬u=t:=fun e=>h e.symm;simp[ez h,h']
 simp only[SE.ev,Env.setO];rw[h];rfl
theorem vQ {f:Nat→PE}{l:List (Nat×PE)}{u:Nat}:∀(lr:List Nat),aa (lr.map (fun t=>(t,f t))++l) u=if u∈lr then some (f u) else aa l u
 |[]=>by simp
 |t::lr=>by
  simp only[List.map_cons,List.cons_append,aa,vQ lr,List.mem_cons];by_cases h:t=u
  ·subst h;simp
  ·have h':¬u=t:=fun e=>h e.symm;simp[ez h,h']
theorem SE.join_ev (s s':SE)(lr lo:List Nat)(ρ:Env):(s.join lr lo s').ev ρ=(s.ev ρ).join lr lo (s'.ev ρ):=by
 have h1:∀u,((s.join lr lo s').getR u).ev ρ=((s.ev ρ).join lr lo (s'.ev ρ)).r u:=by
  intro u;rw[Env.join_r];have e:aa (s.join lr lo s').r u=if u∈lr then some (s'.getR u) else aa s.r u:=vQ lr;unfold SE.getR;rw[e];by_cases h:u∈lr
  ·simp only[h,if_true];rfl
  ·simp only[h,if_false];rfl
 have h2:∀u,((s.join lr lo s').getO u).ev ρ=((s.ev ρ).join lr lo (s'.ev ρ)).o u:=by
  intro u;rw[Env.join_o];have e:aa (s.join lr lo s').o u=if u∈lo then some (s'.getO u) else aa s.o u:=vQ lo;unfold SE.getO;rw[e];by_cases h:u∈lo
  ·simp only[h,if_true];rfl
  ·simp only[h,if_false];rfl
 have e1:(fun u=>((s.join lr lo s').getR u).ev ρ)=((s.ev ρ).join lr lo (s'.ev ρ)).r:=funext h1;have e2:(fun u=>((s.join lr lo s').getO u).ev ρ)=((s.ev ρ).join lr lo (s'.ev ρ)).o:=funext h2;show Env.mk _ _=_;rw[e1,e2]
abbrev bK:=List (PE×Bool)
def bK.ok (ab:bK)(ρ:Env):Prop:=∀x,x∈ab→(x.1.ev ρ).b=x.2
def EN (e:PE):bK→Option Bool
 |[]=>none
 |x::l=>bif PE.beq x.1 e then some x.2 else EN e l
theorem Wu {e:PE}{ρ:Env}{b:Bool}:∀{ab:bK},ab.ok ρ→EN e ab=some b→(e.ev ρ).b=b
 |[],_,h=>by cases h
 |x::l,az,h=>by
  simp only[EN] at h;cases hb:PE.beq x.1 e<;>simp only[hb,cond_true,cond_false] at h
  ·exact Wu (fun y hy=>az y (List.mem_cons_of_mem _ hy)) h
  ·cases h;rw[←PE.beq_eq _ _ hb];exact az x (List.mem_cons_self ..)
def uq (ab:bK):PE→Option Bool
 |.con (.v (.bool b))=>some b
 |.nt x=>(uq ab x).map (!·)
 |e=>EN e ab
theorem wX {ab:bK}{ρ:Env}(h:ab.ok ρ):∀{e:PE} {b:Bool},uq ab e=some b→(e.ev ρ).b=b
 |.con (.v (.bool b)),b',he=>by simp only[uq,Option.some.injEq] at he;subst he;rfl
 |.nt x,b',he=>by
  simp only[uq,Option.map_eq_some_iff] at he;obtain⟨c,hc,rfl⟩:=he;simp only[PE.ev,D.b_bool,wX h hc]
 |e,b',he=>by
  unfold uq at he;split at he
  ·cases he;rfl
  ·rename_i x;simp only[Option.map_eq_some_iff] at he;obtain⟨c,hc,rfl⟩:=he;simp only[PE.ev,D.b_bool,wX h hc]
  ·exact Wu h he
def rL (ab:bK)(c a b:PE):PE:=match uq ab c with|some true=>a|some false=>b|none=>.pick c a b
theorem RH {ab:bK}{ρ:Env}(h:ab.ok ρ)(c a b:PE):(rL ab c a b).ev ρ=(PE.pick c a b).ev ρ:=by
 unfold rL;split
 ·rename_i ht;simp[PE.ev,wX h ht]
 ·rename_i ht;simp[PE.ev,wX h ht]
 ·rfl
def N8:PE→PE
 |.ref x=>x
 |x=>.deref x
theorem anL (x:PE)(ρ:Env):(N8 x).ev ρ=(PE.deref x).ev ρ:=by unfold N8;split<;>rfl
def Tz:PE→Nat→PE
 |.tup es,i=>es.getD i (.con .none)
 |x,i=>.tget x i
theorem azO (x:PE)(i:Nat)(ρ:Env):(Tz x i).ev ρ=(PE.tget x i).ev ρ:=by
 unfold Tz;split
 ·rename_i es;simp only[PE.ev,D.tget_tup,PE.evs_eq,List.getD_eq_getElem?_getD,List.getElem?_map];cases es[i]?<;>rfl
 ·rfl
def C0:PE→Bool
 |.ai ..|.ci ..|.cb ..|.cs ..|.sadd ..|.nt _|.conv ..|.llen _|.bytes _|.slen _|.mlen _|.idx ..|.sidx ..|.sok ..|.slok ..|.lst _|.app ..|.setn ..|.rep ..|.slc ..|.ref _|.has ..|.put ..|.an ..|.imp ..|.tup _|.clo ..=>true
 |.con (.v _)|.con (.list _)|.con (.map _)=>true
 |_=>false
theorem axc {e:PE}(h:C0 e=true)(ρ:Env):(e.ev ρ).cells=[e.ev ρ]:=by
 unfold C0 at h;split at h<;>first|rfl|cases h
def NZ:PE→Nat→PE
 |.mk es,i=>bif es.all C0 then es.getD i (.con .none) else .cell (.mk es) i
 |x,i=>.cell x i
theorem Xz {ρ:Env}:∀{es:List PE},es.all C0=true→PE.evc ρ es=PE.evs ρ es
 |[],_=>rfl
 |e::es,h=>by
  simp only[List.all_cons,Bool.and_eq_true] at h;simp only[PE.evc,PE.evs,axc h.1,Xz h.2];rfl
theorem akO (x:PE)(i:Nat)(ρ:Env):(NZ x i).ev ρ=(PE.cell x i).ev ρ:=by
 unfold NZ;split
 ·rename_i es;cases hc:es.all C0
  ·rfl
  ·simp only[cond_true,PE.ev,Xz hc,D.c_agg,PE.evs_eq,List.getD_eq_getElem?_getD,List.getElem?_map];cases es[i]?<;>rfl
 ·rfl
def BH (s:SE):List (Nat×Bool)→PE
 |[]=>.con (.v (.bool true))
 |g::gs=>.an (bif g.2 then s.getR g.1 else .nt (s.getR g.1)) (BH s gs)
theorem XZ (s:SE)(ρ:Env):∀gs,((BH s gs).ev ρ).b=holds gs (s.ev ρ)
 |[]=>rfl
 |g::gs=>by
  have ih:=XZ s ρ gs;rw[at1,←ih];have e:((s.ev ρ).r g.1)=(s.getR g.1).ev ρ:=rfl;rw[e];cases hg:g.2
  ·simp only[BH,hg,cond_false,PE.ev,D.b_bool];cases((s.getR g.1).ev ρ).b<;>rfl
  ·simp only[BH,hg,cond_true,PE.ev,D.b_bool];cases((s.getR g.1).ev ρ).b<;>rfl
mutual
def PE.sub' (ab:bK)(s:SE):PE→PE
 |.r t=>s.getR t
 |.o j=>s.getO j
 |.con d=>.con d
 |.cell e i=>NZ (PE.sub' ab s e) i
 |.sub e a b=>.sub (PE.sub' ab s e) a b
 |.setc e q x=>.setc (PE.sub' ab s e) q (PE.sub' ab s x)
 |.mk es=>.mk (PE.subs' ab s es)
 |.ai op k x y=>.ai op k (PE.sub' ab s x) (PE.sub' ab s y)
 |.ci op x y=>.ci op (PE.sub' ab s x) (PE.sub' ab s y)
 |.cb op x y=>.cb op (PE.sub' ab s x) (PE.sub' ab s y)
 |.cs op x y=>.cs op (PE.sub' ab s x) (PE.sub' ab s y)
 |.sadd x y=>.sadd (PE.sub' ab s x) (PE.sub' ab s y)
 |.nt x=>.nt (PE.sub' ab s x)
 |.conv k x=>.conv k (PE.sub' ab s x)
 |.pick c a b=>rL ab (PE.sub' ab s c) (PE.sub' ab s a) (PE.sub' ab s b)
 |.llen x=>.llen (PE.sub' ab s x)
 |.bytes x=>.bytes (PE.sub' ab s x)
 |.slen x=>.slen (PE.sub' ab s x)
 |.mlen x=>.mlen (PE.sub' ab s x)
 |.nth x y=>.nth (PE.sub' ab s x) (PE.sub' ab s y)
 |.idx x y=>.idx (PE.sub' ab s x) (PE.sub' ab s y)
 |.sidx x y=>.sidx (PE.sub' ab s x) (PE.sub' ab s y)
 |.sok x y=>.sok (PE.sub' ab s x) (PE.sub' ab s y)
 |.setn x y n z=>.setn (PE.sub' ab s x) (PE.sub' ab s y) n (PE.sub' ab s z)
 |.app x y=>.app (PE.sub' ab s x) (PE.sub' ab s y)
 |.lst es=>.lst (PE.subs' ab s es)
 |.rep x y=>.rep (PE.sub' ab s x) (PE.sub' ab s y)
 |.slc x y z=>.slc (PE.sub' ab s x) (PE.sub' ab s y) (PE.sub' ab s z)
 |.slok x y z=>.slok (PE.sub' ab s x) (PE.sub' ab s y) (PE.sub' ab s z)
 |.ref x=>.ref (PE.sub' ab s x)
 |.deref x=>N8 (PE.sub' ab s x)
 |.look x y z=>.look (PE.sub' ab s x) (PE.sub' ab s y) (PE.sub' ab s z)
 |.has x y=>.has (PE.sub' ab s x) (PE.sub' ab s y)
 |.put x y z=>.put (PE.sub' ab s x) (PE.sub' ab s y) (PE.sub' ab s z)
 |.mn x y=>.mn (PE.sub' ab s x) (PE.sub' ab s y)
 |.mx x y=>.mx (PE.sub' ab s x) (PE.sub' ab s y)
 |.tup es=>.tup (PE.subs' ab s es)
 |.tget x i=>Tz (PE.sub' ab s x) i
 |.clo f es=>.clo f (PE.subs' ab s es)
 |.an x y=>.an (PE.sub' ab s x) (PE.sub' ab s y)
 |.imp c x=>.nt (.an (BH s c) (.nt (PE.sub' ab s x)))
def PE.subs' (ab:bK)(s:SE):List PE→List PE
 |[]=>[]
 |e::es=>PE.sub' ab s e::PE.subs' ab s es
end
mutual
theorem PE.sub_ev {ab:bK}{ρ:Env}(h:ab.ok ρ)(s:SE):∀(e:PE),(PE.sub' ab s e).ev ρ=e.ev (s.ev ρ)
 |.r t=>rfl
 |.o j=>rfl
 |.con d=>rfl
 |.cell e i=>by simp only[PE.sub',akO,PE.ev,PE.sub_ev h s e]
 |.sub e a b=>by simp only[PE.sub',PE.ev,PE.sub_ev h s e]
 |.setc e q x=>by simp only[PE.sub',PE.ev,PE.sub_ev h s e,PE.sub_ev h s x]
 |.mk es=>by simp only[PE.sub',PE.ev,PE.subc_ev h s es]
 |.ai op k x y=>by simp only[PE.sub',PE.ev,PE.sub_ev h s x,PE.sub_ev h s y]
 |.ci op x y=>by simp only[PE.sub',PE.ev,PE.sub_ev h s x,PE.sub_ev h s y]
 |.cb op x y=>by simp only[PE.sub',PE.ev,PE.sub_ev h s x,PE.sub_ev h s y]
 |.cs op x y=>by simp only[PE.sub',PE.ev,PE.sub_ev h s x,PE.sub_ev h s y]
 |.sadd x y=>by simp only[PE.sub',PE.ev,PE.sub_ev h s x,PE.sub_ev h s y]
 |.nt x=>by simp only[PE.sub',PE.ev,PE.sub_ev h s x]
 |.conv k x=>by simp only[PE.sub',PE.ev,PE.sub_ev h s x]
 |.pick c a b=>by simp only[PE.sub',RH h,PE.ev,PE.sub_ev h s c,PE.sub_ev h s a,PE.sub_ev h s b]
 |.llen x=>by simp only[PE.sub',PE.ev,PE.sub_ev h s x]
 |.bytes x=>by simp only[PE.sub',PE.ev,PE.sub_ev h s x]
 |.slen x=>by simp only[PE.sub',PE.ev,PE.sub_ev h s x]
 |.mlen x=>by simp only[PE.sub',PE.ev,PE.sub_ev h s x]
 |.nth x y=>by simp only[PE.sub',PE.ev,PE.sub_ev h s x,PE.sub_ev h s y]
 |.idx x y=>by simp only[PE.sub',PE.ev,PE.sub_ev h s x,PE.sub_ev h s y]
 |.sidx x y=>by simp only[PE.sub',PE.ev,PE.sub_ev h s x,PE.sub_ev h s y]
 |.sok x y=>by simp only[PE.sub',PE.ev,PE.sub_ev h s x,PE.sub_ev h s y]
 |.setn x y n z=>by simp only[PE.sub',PE.ev,PE.sub_ev h s x,PE.sub_ev h s y,PE.sub_ev h s z]
 |.app x y=>by simp only[PE.sub',PE.ev,PE.sub_ev h s x,PE.sub_ev h s y]
 |.lst es=>by simp only[PE.sub',PE.ev,PE.subs_ev h s es]
 |.rep x y=>by simp only[PE.sub',PE.ev,PE.sub_ev h s x,PE.sub_ev h s y]
 |.slc x y z=>by simp only[PE.sub',PE.ev,PE.sub_ev h s x,PE.sub_ev h s y,PE.sub_ev h s z]
 |.slok x y z=>by simp only[PE.sub',PE.ev,PE.sub_ev h s x,PE.sub_ev h s y,PE.sub_ev h s z]
 |.ref x=>by simp only[PE.sub',PE.ev,PE.sub_ev h s x]
 |.deref x=>by simp only[PE.sub',anL,PE.ev,PE.sub_ev h s x]
 |.look x y z=>by simp only[PE.sub',PE.ev,PE.sub_ev h s x,PE.sub_ev h s y,PE.sub_ev h s z]
 |.has x y=>by simp only[PE.sub',PE.ev,PE.sub_ev h s x,PE.sub_ev h s y]
 |.put x y z=>by simp only[PE.sub',PE.ev,PE.sub_ev h s x,PE.sub_ev h s y,PE.sub_ev h s z]
 |.mn x y=>by simp only[PE.sub',PE.ev,PE.sub_ev h s x,PE.sub_ev h s y]
 |.mx x y=>by simp only[PE.sub',PE.ev,PE.sub_ev h s x,PE.sub_ev h s y]
 |.tup es=>by simp only[PE.sub',PE.ev,PE.subs_ev h s es]
 |.tget x i=>by simp only[PE.sub',azO,PE.ev,PE.sub_ev h s x]
 |.clo f es=>by simp only[PE.sub',PE.ev,PE.subs_ev h s es]
 |.an x y=>by simp only[PE.sub',PE.ev,PE.sub_ev h s x,PE.sub_ev h s y]
 |.imp c x=>by
  simp only[PE.sub',PE.ev,D.b_bool,XZ,PE.sub_ev h s x];cases holds c (s.ev ρ)<;>cases(x.ev (s.ev ρ)).b<;>rfl
theorem PE.subs_ev {ab:bK}{ρ:Env}(h:ab.ok ρ)(s:SE):∀(es:List PE),PE.evs ρ (PE.subs' ab s es)=PE.evs (s.ev ρ) es
 |[]=>rfl
 |e::es=>by simp only[PE.subs',PE.evs,PE.sub_ev h s e,PE.subs_ev h s es]
theorem PE.subc_ev {ab:bK}{ρ:Env}(h:ab.ok ρ)(s:SE):∀(es:List PE),PE.evc ρ (PE.subs' ab s es)=PE.evc (s.ev ρ) es
 |[]=>rfl
 |e::es=>by simp only[PE.subs',PE.evc,PE.sub_ev h s e,PE.subc_ev h s es]
end
inductive PT where
 |next (s:SE)
 |exit (id:Nat) (s:SE)
 |ret (e:PE)
 |chk (e:PE) (k:PT)
 |ite (c:PE) (a b:PT)
 |call (s:SE) (gs:List (Nat×Bool)) (dst f:Nat) (args:List PE) (k:PT)
 |callc (s:SE) (gs:List (Nat×Bool)) (dst:Nat) (e:PE) (args:List PE) (k:PT)
 |mcall (s:SE) (j f:Nat) (args:List PE) (k:PT)
 |iteS (s:SE) (c:PE) (lr lo:List Nat) (a b k:PT)
 |blockS (s:SE) (id:Nat) (lr lo:List Nat) (a k:PT)
 |brk (s:SE) (c:PC) (k:PT)
def aI (T:cu):PT→Env→(Out→Prop)→Prop
 |.next s,ρ,Q=>Q (.next (s.ev ρ))
 |.exit id s,ρ,Q=>Q (.exit id (s.ev ρ))
 |.ret e,ρ,Q=>Q (.ret (e.ev ρ))
 |.chk e k,ρ,Q=>(e.ev ρ).b=true∧aI T k ρ Q
 |.ite c a b,ρ,Q=>if(c.ev ρ).b=true then aI T a ρ Q else aI T b ρ Q
 |.call s gs dst f args k,ρ,Q=>if holds gs (s.ev ρ)=true then ∃d,aj T f (PE.evs ρ args) d∧aI T k ((s.ev ρ).setR dst d) Q else aI T k (s.ev ρ) Q
 |.callc s gs dst e args k,ρ,Q=>if holds gs (s.ev ρ)=true then ∃f caps d,e.ev ρ=.clo f caps∧aj T f (PE.evs ρ args++caps) d∧aI T k ((s.ev ρ).setR dst d) Q else aI T k (s.ev ρ) Q
 |.mcall s j f args k,ρ,Q=>∃d,aj T f (PE.evs ρ args) d∧aI T k ((s.ev ρ).setO j d) Q
 |.iteS s c lr lo a b k,ρ,Q=>if(c.ev ρ).b=true then aI T a (s.ev ρ) (kg (s.ev ρ) lr lo (fu (fun ρ'=>aI T k ρ' Q) Q)) else aI T b (s.ev ρ) (kg (s.ev ρ) lr lo (fu (fun ρ'=>aI T k ρ' Q) Q))
 |.blockS s id lr lo a k,ρ,Q=>aI T a (s.ev ρ) (la (s.ev ρ) id lr lo (fu (fun ρ'=>aI T k ρ' Q) Q))
 |.brk s c k,ρ,Q=>aO T c (s.ev ρ) (fu (fun ρ'=>aI T k ρ' Q) Q)
def nH:PI→Bool
 |.setR ..|.setO ..|.chk _=>true
 |_=>false
def dF:PC→Bool
 |.loop ..=>false
 |.each ..=>false
 |.meach ..=>false
 |.seq a b=>dF a&&dF b
 |.ite _ _ _ a b=>dF a&&dF b
 |.block _ _ _ a=>dF a
 |.is l=>l.all nH
 |_=>true
abbrev Kn:=bK→SE→PT
abbrev Kx:=bK→Nat→SE→PT
def mX:List PI→bK→SE→Kn→PT
 |[],ab,s,k=>k ab s
 |.setR t e::l,ab,s,k=>mX l ab (s.setR t (e.sub' ab s)) k
 |.setO t e::l,ab,s,k=>mX l ab (s.setO t (e.sub' ab s)) k
 |.chk e::l,ab,s,k=>
  match uq ab (e.sub' ab s) with
  |some true=>mX l ab s k
  |_=>.chk (e.sub' ab s) (mX l ((e.sub' ab s,true)::ab) s k)
 |.call gs dst f args::l,ab,s,k=>.call s gs dst f (PE.subs' ab s args) (mX l [] .id k)
 |.callc gs dst e args::l,ab,s,k=>.callc s gs dst (e.sub' ab s) (PE.subs' ab s args) (mX l [] .id k)
 |.mcall j f args::l,ab,s,k=>.mcall s j f (PE.subs' ab s args) (mX l [] .id k)
def SE.merge (s:SE)(ab:bK)(lr lo:List Nat)(c:PE)(a b:SE):SE:=⟨lr.map (fun t=>(t,rL ab c (a.getR t) (b.getR t)))++s.r,lo.map (fun t=>(t,rL ab c (a.getO t) (b.getO t)))++s.o⟩
def oR:List PI→bK→SE→Option SE
 |[],_,s=>some s
 |.setR t e::l,ab,s=>oR l ab (s.setR t (e.sub' ab s))
 |.setO t e::l,ab,s=>oR l ab (s.setO t (e.sub' ab s))
 |_::_,_,_=>none
def plain:PC→bK→SE→Option SE
 |.skip,_,s=>some s
 |.is l,ab,s=>oR l ab s
 |.seq a b,ab,s=>(plain a ab s).bind fun s=>plain b ab s
 |.ite c lr lo a b,ab,s=>(plain a ab s).bind fun sa=>(plain b ab s).map fun sb=>s.merge ab lr lo (c.sub' ab s) sa sb
 |_,_,_=>none
def ZQ:PC→Bool
 |.loop ..=>true
 |_=>false
def sx:PC→bK→SE→Kn→Kx→PT
 |.skip,ab,s,k,_=>k ab s
 |.is l,ab,s,k,_=>mX l ab s k
 |.seq a b,ab,s,k,kx=>sx a ab s (fun ab s=>sx b ab s k kx) kx
 |.ite c lr lo a b,ab,s,k,kx=>
  match uq ab (c.sub' ab s) with
  |some true=>bif dF a then sx a ab s (fun ab s'=>k ab (s.join lr lo s')) kx else .iteS s (c.sub' ab s) lr lo (sx a [] .id (fun _ s=>.next s) (fun _ id s=>.exit id s)) (sx b [] .id (fun _ s=>.next s) (fun _ id s=>.exit id s)) (k [] .id)
  |some false=>bif dF b then sx b ab s (fun ab s'=>k ab (s.join lr lo s')) kx else .iteS s (c.sub' ab s) lr lo (sx a [] .id (fun _ s=>.next s) (fun _ id s=>.exit id s)) (sx b [] .id (fun _ s=>.next s) (fun _ id s=>.exit id s)) (k [] .id)
  |none=>
   match plain a ab s,plain b ab s with
   |some sa,some sb=>k ab (s.merge ab lr lo (c.sub' ab s) sa sb)
   |_,_=>
   bif dF a&&dF b then
    .ite (c.sub' ab s) (sx a ((c.sub' ab s,true)::ab) s (fun ab s'=>k ab (s.join lr lo s')) kx) (sx b ((c.sub' ab s,false)::ab) s (fun ab s'=>k ab (s.join lr lo s')) kx)
   else .iteS s (c.sub' ab s) lr lo (sx a [] .id (fun _ s=>.next s) (fun _ id s=>.exit id s)) (sx b [] .id (fun _ s=>.next s) (fun _ id s=>.exit id s)) (k [] .id)
 |.block id lr lo a,ab,s,k,kx=>
  bif dF a then sx a ab s (fun ab s'=>k ab (s.join lr lo s')) (fun ab bG s'=>bif Nat.beq bG id then k ab (s.join lr lo s') else kx ab bG s')
  else bif ZQ a then .brk s (.block id lr lo a) (k [] .id)
  else .blockS s id lr lo (sx a [] .id (fun _ s=>.next s) (fun _ id s=>.exit id s)) (k [] .id)
 |.loop lr lo a,_,s,k,_=>.brk s (.loop lr lo a) (k [] .id)
 |.each e ps lo rt a,_,s,k,_=>.brk s (.each e ps lo rt a) (k [] .id)
 |.meach J ps cR lo a,_,s,k,_=>.brk s (.meach J ps cR lo a) (k [] .id)
 |.exit id,ab,s,_,kx=>kx ab id s
 |.ret e,ab,s,_,_=>.ret (e.sub' ab s)
theorem bK.ok_nil (ρ:Env):bK.ok [] ρ:=fun _ h=>nomatch h
theorem bK.ok_cons {ab:bK}{ρ:Env}{e:PE}{b:Bool}(h:ab.ok ρ)(he:(e.ev ρ).b=b):bK.ok ((e,b)::ab) ρ:=fun x hx=>by
 rcases List.mem_cons.1 hx with e'|hx
 ·rw[e'];exact he
 ·exact h x hx
theorem qG {T:cu}{Q:Out→Prop}{K:Env→Prop}{k:Kn}:∀{l:List PI} {ab:bK} {s:SE} {ρ:Env},ab.ok ρ→aI T (mX l ab s k) ρ Q→
 (∀ρ' ab s,(l.all nH=true→ρ'=ρ)→ab.ok ρ'→aI T (k ab s) ρ' Q→K (s.ev ρ'))→gl T l (s.ev ρ) K
 |[],ab,s,ρ,ha,h,hk=>hk ρ ab s (fun _=>rfl) ha h
 |.setR t e::l,ab,s,ρ,ha,h,hk=>by
  simp only[gl];rw[←PE.sub_ev ha s e,←SE.setR_ev];exact qG ha h fun ρ' ab s hp=>hk ρ' ab s fun hl=>hp (by simpa [nH] using hl)
 |.setO t e::l,ab,s,ρ,ha,h,hk=>by
  simp only[gl];rw[←PE.sub_ev ha s e,←SE.setO_ev];exact qG ha h fun ρ' ab s hp=>hk ρ' ab s fun hl=>hp (by simpa [nH] using hl)
 |.chk e::l,ab,s,ρ,ha,h,hk=>by
  simp only[gl];rw[←PE.sub_ev ha s e];simp only[mX] at h;split at h
  ·rename_i ht;exact⟨wX ha ht,qG ha h fun ρ' ab s hp=>hk ρ' ab s fun hl=>hp (by simpa [nH] using hl)⟩
  ·exact⟨h.1,qG (bK.ok_cons ha h.1) h.2 fun ρ' ab s hp=>hk ρ' ab s fun hl=>hp (by simpa [nH] using hl)⟩
 |.call gs dst f args::l,ab,s,ρ,ha,h,hk=>by
  simp only[gl];simp only[mX,aI,PE.subs_ev ha,PE.sub_ev ha] at h;have bU:∀{ρ0:Env},∀ρ' ab s,(l.all nH=true→ρ'=ρ0)→ab.ok ρ'→aI T (k ab s) ρ' Q→K (s.ev ρ'):=fun ρ' ab s _=>hk ρ' ab s fun hl=>by simp[nH] at hl
  split at h
  ·rename_i hg;rw[if_pos hg];obtain⟨d,hd,h⟩:=h;exact⟨d,hd,qG (s:=.id) (bK.ok_nil _) h bU⟩
  ·rename_i hg;rw[if_neg hg];exact qG (s:=.id) (bK.ok_nil _) h bU
 |.callc gs dst e args::l,ab,s,ρ,ha,h,hk=>by
  simp only[gl];simp only[mX,aI,PE.subs_ev ha,PE.sub_ev ha] at h;have bU:∀{ρ0:Env},∀ρ' ab s,(l.all nH=true→ρ'=ρ0)→ab.ok ρ'→aI T (k ab s) ρ' Q→K (s.ev ρ'):=fun ρ' ab s _=>hk ρ' ab s fun hl=>by simp[nH] at hl
  split at h
  ·rename_i hg;rw[if_pos hg];obtain⟨f,caps,d,he,hd,h⟩:=h;exact⟨f,caps,d,he,hd,qG (s:=.id) (bK.ok_nil _) h bU⟩
  ·rename_i hg;rw[if_neg hg];exact qG (s:=.id) (bK.ok_nil _) h bU
 |.mcall j f args::l,ab,s,ρ,ha,h,hk=>by
  simp only[gl];simp only[mX,aI,PE.subs_ev ha,PE.sub_ev ha] at h;have bU:∀{ρ0:Env},∀ρ' ab s,(l.all nH=true→ρ'=ρ0)→ab.ok ρ'→aI T (k ab s) ρ' Q→K (s.ev ρ'):=fun ρ' ab s _=>hk ρ' ab s fun hl=>by simp[nH] at hl
  obtain⟨d,hd,h⟩:=h;exact⟨d,hd,qG (s:=.id) (bK.ok_nil _) h bU⟩
theorem SE.merge_ev {ab:bK}{ρ:Env}(h:ab.ok ρ)(s a b:SE)(lr lo:List Nat)(c:PE):(s.merge ab lr lo c a b).ev ρ=(s.ev ρ).join lr lo (if(c.ev ρ).b=true then a.ev ρ else b.ev ρ):=by
 have h1:∀u,((s.merge ab lr lo c a b).getR u).ev ρ=((s.ev ρ).join lr lo (if(c.ev ρ).b=true then a.ev ρ else b.ev ρ)).r u:=by
  intro u;rw[Env.join_r];have e:aa (s.merge ab lr lo c a b).r u=if u∈lr then some (rL ab c (a.getR u) (b.getR u)) else aa s.r u:=vQ lr;have e2:(s.merge ab lr lo c a b).getR u=if u∈lr then rL ab c (a.getR u) (b.getR u) else s.getR u:=by
   unfold SE.getR;rw[e];by_cases h:u∈lr<;>simp[h,SE.getR]
  rw[e2];by_cases hu:u∈lr
  ·simp only[hu,if_true,RH h,PE.ev];cases hc:(c.ev ρ).b<;>simp[SE.ev]
  ·simp only[hu,if_false];rfl
 have h2:∀u,((s.merge ab lr lo c a b).getO u).ev ρ=((s.ev ρ).join lr lo (if(c.ev ρ).b=true then a.ev ρ else b.ev ρ)).o u:=by
  intro u;rw[Env.join_o];have e:aa (s.merge ab lr lo c a b).o u=if u∈lo then some (rL ab c (a.getO u) (b.getO u)) else aa s.o u:=vQ lo;have e2:(s.merge ab lr lo c a b).getO u=if u∈lo then rL ab c (a.getO u) (b.getO u) else s.getO u:=by
   unfold SE.getO;rw[e];by_cases h:u∈lo<;>simp[h,SE.getO]
  rw[e2];by_cases hu:u∈lo
  ·simp only[hu,if_true,RH h,PE.ev];cases hc:(c.ev ρ).b<;>simp[SE.ev]
  ·simp only[hu,if_false];rfl
 have e1:(fun u=>((s.merge ab lr lo c a b).getR u).ev ρ)=((s.ev ρ).join lr lo (if(c.ev ρ).b=true then a.ev ρ else b.ev ρ)).r:=funext h1;have e2:(fun u=>((s.merge ab lr lo c a b).getO u).ev ρ)=((s.ev ρ).join lr lo (if(c.ev ρ).b=true then a.ev ρ else b.ev ρ)).o:=funext h2;show Env.mk _ _=_;rw[e1,e2]
theorem RK {T:cu}{ab:bK}{ρ:Env}(ha:ab.ok ρ):∀{l:List PI} {s s':SE},oR l ab s=some s'→∀{K:Env→Prop},K (s'.ev ρ)→gl T l (s.ev ρ) K
 |[],s,s',h,K,hk=>by simp only[oR,Option.some.injEq] at h;subst h;exact hk
 |.setR t e::l,s,s',h,K,hk=>by simp only[gl];rw[←PE.sub_ev ha s e,←SE.setR_ev];exact RK (l:=l) ha (show oR l ab _=some s' from h) hk
 |.setO t e::l,s,s',h,K,hk=>by simp only[gl];rw[←PE.sub_ev ha s e,←SE.setO_ev];exact RK (l:=l) ha (show oR l ab _=some s' from h) hk
 |.chk _::_,_,_,h,_,_=>by simp[oR] at h
 |.call ..::_,_,_,h,_,_=>by simp[oR] at h
 |.callc ..::_,_,_,h,_,_=>by simp[oR] at h
 |.mcall ..::_,_,_,h,_,_=>by simp[oR] at h
theorem ayc {T:cu}{ab:bK}{ρ:Env}(ha:ab.ok ρ):∀(c:PC) {s s':SE},plain c ab s=some s'→∀{Q:Out→Prop},Q (.next (s'.ev ρ))→aO T c (s.ev ρ) Q:=by
 intro c
 induction c with
 |skip=>intro s s' h Q hq;simp only[plain,Option.some.injEq] at h;subst h;exact .skip hq
 |is l=>intro s s' h Q hq;exact .is (RK ha h hq)
 |seq a b br dO=>
  intro s s' h Q hq;simp only[plain,Option.bind_eq_some_iff] at h;obtain⟨s1,h1,h2⟩:=h;exact .seq (br h1 (dO h2 hq))
 |ite c lr lo a b br dO=>
  intro s s' h Q hq;simp only[plain,Option.bind_eq_some_iff,Option.map_eq_some_iff] at h;obtain⟨sa,h1,sb,h2,rfl⟩:=h;rw[SE.merge_ev ha,PE.sub_ev ha] at hq;refine .ite ?_;split
  ·rename_i hc;rw[if_pos hc] at hq;exact br h1 hq
  ·rename_i hc;rw[if_neg hc] at hq;exact dO h2 hq
 |_=>intro s s' h;simp[plain] at h
theorem Mp {T:cu}:∀(c:PC) {ab:bK} {s:SE} {k:Kn} {kx:Kx} {ρ:Env} {Q Q':Out→Prop},ab.ok ρ→aI T (sx c ab s k kx) ρ Q→
 (∀ρ' ab s,(dF c=true→ρ'=ρ)→ab.ok ρ'→aI T (k ab s) ρ' Q→Q' (.next (s.ev ρ')))→
 (∀ρ' ab id s,(dF c=true→ρ'=ρ)→ab.ok ρ'→aI T (kx ab id s) ρ' Q→Q' (.exit id (s.ev ρ')))→(dF c=false→∀id ρ',Q (.exit id ρ')→Q' (.exit id ρ'))→(∀d,Q (.ret d)→Q' (.ret d))→aO T c (s.ev ρ) Q':=by
 intro c;have alone:∀(a:PC),(∀{ab:bK} {s:SE} {k:Kn} {kx:Kx} {ρ:Env} {Q Q':Out→Prop},ab.ok ρ→aI T (sx a ab s k kx) ρ Q→
  (∀ρ' ab s,(dF a=true→ρ'=ρ)→ab.ok ρ'→aI T (k ab s) ρ' Q→Q' (.next (s.ev ρ')))→
  (∀ρ' ab id s,(dF a=true→ρ'=ρ)→ab.ok ρ'→aI T (kx ab id s) ρ' Q→Q' (.exit id (s.ev ρ')))→(dF a=false→∀id ρ',Q (.exit id ρ')→Q' (.exit id ρ'))→(∀d,Q (.ret d)→Q' (.ret d))→aO T a (s.ev ρ) Q')→
  ∀{ρ:Env} {Q:Out→Prop},aI T (sx a [] .id (fun _ s=>.next s) (fun _ id s=>.exit id s)) ρ Q→aO T a ρ Q:=by
  intro a ih ρ Q h;exact ih (s:=.id) (bK.ok_nil _) h (fun ρ' ab s _ _ h=>h) (fun ρ' ab id s _ _ h=>h) (fun _ _ _ h=>h) (fun _ h=>h)
 induction c with
 |skip=>intro ab s k kx ρ Q Q' ha h hk _ _ _;exact .skip (hk ρ ab s (fun _=>rfl) ha h)
 |is l=>intro ab s k kx ρ Q Q' ha h hk _ _ _;exact .is (qG (K:=fun ρ'=>Q' (.next ρ')) ha h hk)
 |seq a b br dO=>
  intro ab s k kx ρ Q Q' ha h hk hx eT hr;refine .seq (br ha h (Q':=fu (fun ρ'=>aO T b ρ' Q') Q') (fun ρ' ab s hp uZ h'=>?_) (fun ρ' ab id s hp uZ h'=>?_) (fun hp=>?_) hr)
  ·refine dO uZ h' (fun ρ2 ab s eR=>hk ρ2 ab s fun hl=>?_) (fun ρ2 ab id s eR=>hx ρ2 ab id s fun hl=>?_) (fun eR=>?_) hr
   ·simp only[dF,Bool.and_eq_true] at hl;rw[eR hl.2,hp hl.1]
   ·simp only[dF,Bool.and_eq_true] at hl;rw[eR hl.2,hp hl.1]
   ·exact eT (by simp[dF,eR])
  ·exact hx ρ' ab id s (fun hl=>by simp only[dF,Bool.and_eq_true] at hl;exact hp hl.1) uZ h'
  ·exact eT (by simp[dF,hp])
 |ite c lr lo a b br dO=>
  intro ab s k kx ρ Q Q' ha h hk hx eT hr;have bE:((c.sub' ab s).ev ρ).b=(c.ev (s.ev ρ)).b:=by rw[PE.sub_ev ha]
  have struct:(dF a&&dF b)=false→aI T (.iteS s (c.sub' ab s) lr lo (sx a [] .id (fun _ s=>.next s) (fun _ id s=>.exit id s)) (sx b [] .id (fun _ s=>.next s) (fun _ id s=>.exit id s)) (k [] .id)) ρ Q→aO T (.ite c lr lo a b) (s.ev ρ) Q':=by
   intro Cl h;have pY:dF (.ite c lr lo a b)=false:=Cl;simp only[aI,bE] at h
   have conv:∀x,kg (s.ev ρ) lr lo (fu (fun ρ'=>aI T (k [] .id) ρ' Q) Q) x→kg (s.ev ρ) lr lo Q' x:=by
      intro x cX;cases x with
      |next ρ'=>exact hk _ [] .id (fun hl=>by rw[pY] at hl;cases hl) (bK.ok_nil _) cX
      |exit id ρ'=>exact eT pY id ρ' cX
      |ret d=>exact hr d cX
   refine .ite ?_;split at h
   ·rename_i hc;rw[if_pos hc];exact(alone a br h).mono conv
   ·rename_i hc;rw[if_neg hc];exact(alone b dO h).mono conv
  have ZI:∀uH,uH.ok ρ→dF a=true→aI T (sx a uH s (fun ab s'=>k ab (s.join lr lo s')) kx) ρ Q→aO T a (s.ev ρ) (kg (s.ev ρ) lr lo Q'):=by
   intro uH uZ dM h';refine br uZ h' (fun ρ' ab s' hp nk j1=>?_) (fun ρ' ab id s' hp nk j1=>?_) (fun hp=>by rw[dM] at hp;cases hp) hr
   ·have e:=hp dM;subst e;show Q' (.next _);rw[←SE.join_ev];exact hk ρ' ab _ (fun _=>rfl) nk j1
   ·have e:=hp dM;subst e;exact hx ρ' ab id s' (fun _=>rfl) nk j1
  have aF:∀uH,uH.ok ρ→dF b=true→aI T (sx b uH s (fun ab s'=>k ab (s.join lr lo s')) kx) ρ Q→aO T b (s.ev ρ) (kg (s.ev ρ) lr lo Q'):=by
   intro uH uZ dM h';refine dO uZ h' (fun ρ' ab s' hp nk j1=>?_) (fun ρ' ab id s' hp nk j1=>?_) (fun hp=>by rw[dM] at hp;cases hp) hr
   ·have e:=hp dM;subst e;show Q' (.next _);rw[←SE.join_ev];exact hk ρ' ab _ (fun _=>rfl) nk j1
   ·have e:=hp dM;subst e;exact hx ρ' ab id s' (fun _=>rfl) nk j1
  simp only[sx] at h;split at h
  ·rename_i ht;cases dM:dF a<;>simp only[dM,cond_true,cond_false] at h
   ·exact struct (by simp[dM]) h
   ·refine .ite ?_;rw[if_pos (by rw[←bE];exact wX ha ht)];exact ZI ab ha dM h
  ·rename_i ht;cases dM:dF b<;>simp only[dM,cond_true,cond_false] at h
   ·exact struct (by simp[dM]) h
   ·refine .ite ?_;rw[if_neg (by rw[←bE,wX ha ht];simp)];exact aF ab ha dM h
  ·split at h
   ·rename_i sa sb xX jN;have fh:plain (.ite c lr lo a b) ab s=some (s.merge ab lr lo (c.sub' ab s) sa sb):=by simp[plain,xX,jN]
    exact ayc ha _ fh (hk ρ ab _ (fun _=>rfl) ha h)
   cases dM:(dF a&&dF b)<;>simp only[dM,cond_true,cond_false] at h
   ·exact struct dM h
   ·simp only[Bool.and_eq_true] at dM;simp only[aI] at h;refine .ite ?_;rw[←bE];split at h
    ·rename_i hc;rw[if_pos hc];exact ZI _ (bK.ok_cons ha hc) dM.1 h
    ·rename_i hc;rw[if_neg hc];exact aF _ (bK.ok_cons ha (by simpa using hc)) dM.2 h
 |block id lr lo a br=>
  intro ab s k kx ρ Q Q' ha h hk hx eT hr;simp only[sx] at h;cases dM:dF a<;>simp only[dM,cond_true,cond_false] at h
  ·have pY:dF (.block id lr lo a)=false:=dM;cases hl:ZQ a<;>simp only[hl,cond_true,cond_false] at h
   case true=>
        simp only[aI] at h;refine aO.mono h fun x cX=>?_;cases x with
        |next ρ'=>exact hk _ [] .id (fun hl=>by rw[pY] at hl;cases hl) (bK.ok_nil _) cX
        |exit id ρ'=>exact eT pY id ρ' cX
        |ret d=>exact hr d cX
   simp only[aI] at h;refine .block ((alone a br h).mono fun x cX=>?_);cases x with
   |next ρ'=>exact hk _ [] .id (fun hl=>by rw[pY] at hl;cases hl) (bK.ok_nil _) cX
   |exit bG ρ'=>
    simp only[la] at cX ⊢;split
    ·rename_i e;rw[if_pos e] at cX;exact hk _ [] .id (fun hl=>by rw[pY] at hl;cases hl) (bK.ok_nil _) cX
    ·rename_i e;rw[if_neg e] at cX;exact eT pY bG ρ' cX
   |ret d=>exact hr d cX
  ·refine .block (br ha h (fun ρ' ab s' hp nk j1=>?_) (fun ρ' ab bG s' hp nk j1=>?_) (fun hp=>by rw[dM] at hp;cases hp) hr)
   ·have e:=hp dM;subst e;show Q' (.next _);rw[←SE.join_ev];exact hk ρ' ab _ (fun _=>rfl) nk j1
   ·have e:=hp dM;subst e;simp only[la];by_cases bL:bG=id
    ·subst bL;simp only[Nat.beq_refl,cond_true] at j1;rw[if_pos rfl,←SE.join_ev];exact hk ρ' ab _ (fun _=>rfl) nk j1
    ·rw[ez bL,cond_false] at j1;rw[if_neg bL];exact hx ρ' ab bG s' (fun _=>rfl) nk j1
 |loop lr lo a br=>
  intro ab s k kx ρ Q Q' ha h hk hx eT hr;simp only[sx,aI] at h;refine aO.mono h fun x cX=>?_;cases x with
  |next ρ'=>exact hk _ [] .id (fun hl=>by cases hl) (bK.ok_nil _) cX
  |exit id ρ'=>exact eT rfl id ρ' cX
  |ret d=>exact hr d cX
 |each e ps lo rt a br=>
  intro ab s k kx ρ Q Q' ha h hk hx eT hr;simp only[sx,aI] at h;refine aO.mono h fun x cX=>?_;cases x with
  |next ρ'=>exact hk _ [] .id (fun hl=>by cases hl) (bK.ok_nil _) cX
  |exit id ρ'=>exact eT rfl id ρ' cX
  |ret d=>exact hr d cX
 |meach J ps cR lo a br=>
  intro ab s k kx ρ Q Q' ha h hk hx eT hr;simp only[sx,aI] at h;refine aO.mono h fun x cX=>?_;cases x with
  |next ρ'=>exact hk _ [] .id (fun hl=>by cases hl) (bK.ok_nil _) cX
  |exit id ρ'=>exact eT rfl id ρ' cX
  |ret d=>exact hr d cX
 |exit id=>intro ab s k kx ρ Q Q' ha h _ hx _ _;exact .exit (hx ρ ab id s (fun _=>rfl) ha h)
 |ret e=>
  intro ab s k kx ρ Q Q' ha h _ _ _ hr;simp only[sx,aI] at h;refine .ret (hr _ ?_);rw[PE.sub_ev ha] at h;exact h
def Lk.un (a b:Lk):Lk:=⟨Nat.lor a.r b.r,iP a.o b.o⟩
def bits (l:List Nat):Nat:=l.foldr (fun t m=>Nat.lor (dA t) m) 0
theorem NQ {l:List Nat}{t:Nat}(h:t∈l):ar (bits l) t=true:=by
 induction l with
 |nil=>cases h
 |cons x l ih=>
  show ar (Nat.lor (dA x) (bits l)) t=true;rw[eK];rcases List.mem_cons.1 h with e|h
  ·subst e;rw[pC];rfl
  ·rw[ih h,Bool.or_true]
theorem VU:∀{a b:List Nat} {x:Nat},x∈iP a b↔x∈a∨x∈b
 |[],b,x=>by simp[iP]
 |y::a,b,x=>by
  have ih:=VU (a:=a) (b:=bif eU b y then b else y::b) (x:=x);show x∈iP a _↔_;rw[ih];cases hb:eU b y with
  |true=>simp only[cond_true,List.mem_cons];have:=(oL b y).1 hb;constructor
         ·rintro(h|h);exact .inl (.inr h);exact .inr h
         ·rintro((rfl|h)|h);exact .inr this;exact .inl h;exact .inr h
  |false=>simp only[cond_false,List.mem_cons];constructor
          ·rintro(h|h|h);exact .inl (.inr h);exact .inl (.inl h);exact .inr h
          ·rintro((h|h)|h);exact .inr (.inl h);exact .inl h;exact .inr (.inr h)
def Lk.Le (a K:Lk):Prop:=(∀t,ar a.r t=true→ar K.r t=true)∧∀j,j∈a.o→j∈K.o
theorem Lk.le_l (a b:Lk):a.Le (a.un b):=⟨fun t h=>by simp only[Lk.un,eK,h,Bool.true_or],fun j h=>VU.2 (.inl h)⟩
theorem Lk.le_r (a b:Lk):b.Le (a.un b):=⟨fun t h=>by simp only[Lk.un,eK,h,Bool.or_true],fun j h=>VU.2 (.inr h)⟩
theorem Lk.Le.trans {a b c:Lk}(h:a.Le b)(k:b.Le c):a.Le c:=⟨fun t ht=>k.1 t (h.1 t ht),fun j hj=>k.2 j (h.2 j hj)⟩
theorem Alike.le {a K:Lk}{ρ ρ':Env}(h:Alike K ρ ρ')(k:a.Le K):Alike a ρ ρ':=⟨fun t ht=>h.r t (k.1 t ht),fun j hj=>h.o j (k.2 j hj)⟩
theorem Lk.Le.of_un {a b K:Lk}(h:(a.un b).Le K):a.Le K∧b.Le K:=⟨(Lk.le_l a b).trans h,(Lk.le_r a b).trans h⟩
theorem Alike.setR {K:Lk}{ρ ρ':Env}(h:Alike K ρ ρ')(t:Nat)(d:D):Alike K (ρ.setR t d) (ρ'.setR t d):=⟨fun u hu=>by rw[Env.setR_r,Env.setR_r];split;rfl;exact h.r u hu,h.o⟩
theorem Alike.setO {K:Lk}{ρ ρ':Env}(h:Alike K ρ ρ')(t:Nat)(d:D):Alike K (ρ.setO t d) (ρ'.setO t d):=⟨h.r,fun u hu=>by rw[Env.setO_o,Env.setO_o];split;rfl;exact h.o u hu⟩
theorem Alike.join {K:Lk}{ρ ρ' η η':Env}(h:Alike K ρ ρ')(k:Alike K η η')(lr lo:List Nat):Alike K (ρ.join lr lo η) (ρ'.join lr lo η'):=
 ⟨fun u hu=>by rw[Env.join_r,Env.join_r];split;exact k.r u hu;exact h.r u hu,fun u hu=>by rw[Env.join_o,Env.join_o];split;exact k.o u hu;exact h.o u hu⟩
theorem RL {f g:Nat→D}{u:Nat}(h:g u=f u):∀(ts:List Nat) (xs:List D),putL g ts xs u=putL f ts xs u
 |[],xs=>by rw[K9,K9];exact h
 |t::ts,[]=>by simp only[putL];exact h
 |t::ts,x::xs=>by rw[K8,K8];split;rfl;exact RL h ts xs
theorem Alike.put {K:Lk}{ρ ρ':Env}(h:Alike K ρ ρ')(lr lo:List Nat)(vr vo:List D):Alike K (ρ.put lr vr lo vo) (ρ'.put lr vr lo vo):=⟨fun u hu=>RL (h.r u hu) lr vr,fun u hu=>RL (h.o u hu) lo vo⟩
def PI.lkw:PI→Lk
 |.setR t e=>e.lk.un ⟨dA t,[]⟩
 |.setO j e=>e.lk.un ⟨0,[j]⟩
 |.chk e=>e.lk
 |.call gs dst f as=>(PI.call gs dst f as).lk.un ⟨dA dst,[]⟩
 |.callc gs dst e as=>(PI.callc gs dst e as).lk.un ⟨dA dst,[]⟩
 |.mcall j f as=>(PI.mcall j f as).lk.un ⟨0,[j]⟩
def PC.lk:PC→Lk
 |.skip=>.none
 |.exit _=>.none
 |.is l=>l.foldr (fun p k=>p.lkw.un k) .none
 |.seq a b=>(PC.lk a).un (PC.lk b)
 |.ite c _ _ a b=>c.lk.un ((PC.lk a).un (PC.lk b))
 |.block _ _ _ a=>PC.lk a
 |.loop lr lo a=>(⟨bits lr,lo⟩:Lk).un (PC.lk a)
 |.ret e=>e.lk
 |.each e _ lo rt a=>e.lk.un ((match rt with|some e=>e.lk|none=>.none).un ((⟨0,lo⟩:Lk).un (PC.lk a)))
 |.meach J _ _ lo a=>(⟨0,J::lo⟩:Lk).un (PC.lk a)
structure Off (K:Lk) (b η η':Env):Prop where
 al:Alike K η η'
 r:∀t,ar K.r t=false→η'.r t=b.r t
 o:∀j,j∉K.o→η'.o j=b.o j
def sd (K:Lk)(b:Env):Out→Out→Prop
 |.next η,x=>∃η',x=.next η'∧Off K b η η'
 |.exit i η,x=>∃η',x=.exit i η'∧Off K b η η'
 |.ret d,x=>x=.ret d
theorem Off.uniq {K:Lk}{b η η' η2:Env}(h:Off K b η η')(k:Off K b η η2):η2=η':=by
 have h1:∀t,η2.r t=η'.r t:=fun t=>by
  cases hb:ar K.r t with
  |true=>rw[k.al.r t hb,h.al.r t hb]
  |false=>rw[k.r t hb,h.r t hb]
 have h2:∀t,η2.o t=η'.o t:=fun t=>by
  by_cases hb:t∈K.o
  ·rw[k.al.o t hb,h.al.o t hb]
  ·rw[k.o t hb,h.o t hb]
 cases η2;cases η'
 congr
 ·exact funext h1
 ·exact funext h2
theorem sd.uniq {K:Lk}{b:Env}{x y z:Out}(h:sd K b x y)(k:sd K b x z):z=y:=by
 cases x with
 |next η=>obtain⟨a,rfl,h⟩:=h;obtain⟨c,rfl,k⟩:=k;rw[h.uniq k]
 |exit i η=>obtain⟨a,rfl,h⟩:=h;obtain⟨c,rfl,k⟩:=k;rw[h.uniq k]
 |ret d=>rw[h,k]
theorem Off.setR {K:Lk}{b η η':Env}(h:Off K b η η'){t:Nat}(ht:ar K.r t=true)(d:D):Off K b (η.setR t d) (η'.setR t d):=
 ⟨h.al.setR t d,fun u hu=>by rw[Env.setR_r,if_neg (fun e=>by rw[e,ht] at hu;cases hu)];exact h.r u hu,h.o⟩
theorem Off.setO {K:Lk}{b η η':Env}(h:Off K b η η'){t:Nat}(ht:t∈K.o)(d:D):Off K b (η.setO t d) (η'.setO t d):=
 ⟨h.al.setO t d,h.r,fun u hu=>by rw[Env.setO_o,if_neg (fun e=>hu (by rw[e];exact ht))];exact h.o u hu⟩
theorem Off.join {K:Lk}{b η η' ζ ζ':Env}(h:Off K b η η')(k:Off K b ζ ζ')(lr lo:List Nat):Off K b (η.join lr lo ζ) (η'.join lr lo ζ'):=
 ⟨h.al.join k.al lr lo,fun u hu=>by rw[Env.join_r];split;exact k.r u hu;exact h.r u hu,fun u hu=>by rw[Env.join_o];split;exact k.o u hu;exact h.o u hu⟩
theorem RO {f:Nat→D}{b:D}{u:Nat}(h:f u=b):∀(ts:List Nat) (xs:List D),u∉ts→putL f ts xs u=b
 |[],xs,_=>by rw[K9];exact h
 |t::ts,[],_=>by simp only[putL];exact h
 |t::ts,x::xs,hu=>by rw[K8,if_neg (fun e=>hu (by simp[e]))];exact RO h ts xs (fun e=>hu (by simp[e]))
theorem Off.put {K:Lk}{b η η':Env}(h:Off K b η η'){lr lo:List Nat}(hr:∀t,t∈lr→ar K.r t=true)(ho:∀t,t∈lo→t∈K.o)(vr vo:List D):Off K b (η.put lr vr lo vo) (η'.put lr vr lo vo):=
 ⟨h.al.put lr lo vr vo,fun u hu=>RO (h.r u hu) lr vr (fun e=>by rw[hr u e] at hu;cases hu),fun u hu=>RO (h.o u hu) lo vo (fun e=>hu (ho u e))⟩
theorem PI.run_off {Φ:aS}{K:Lk}{b ρ ρ' η:Env}{p:PI}(hp:p.lkw.Le K)(h:Off K b ρ ρ')(hr:p.run Φ ρ=some η):∃η',p.run Φ ρ'=some η'∧Off K b η η':=by
 have vk:p.lk.Le K:=by cases p<;>first|exact hp|exact hp.of_un.1
 rw[PI.run_eff,PI.eff_alike p (h.al.le vk)];rw[PI.run_eff] at hr;cases he:p.eff Φ ρ with
 |none=>rw[he] at hr;cases hr
 |some x=>
  rw[he] at hr;simp only[Option.map_some,Option.some.injEq] at hr;subst hr;refine⟨_,rfl,?_⟩;have hb:∀{t:Nat} {a:Lk},(a.un ⟨dA t,[]⟩).Le K→ar K.r t=true:=fun h=>h.of_un.2.1 _ (pC _);have ho:∀{t:Nat} {a:Lk},(a.un ⟨0,[t]⟩).Le K→t∈K.o:=fun h=>h.of_un.2.2 _ (by simp);cases p with
  |setR t e=>simp only[PI.eff,Option.some.injEq] at he;subst he;exact h.setR (hb hp) _
  |setO t e=>simp only[PI.eff,Option.some.injEq] at he;subst he;exact h.setO (ho hp) _
  |chk e=>simp only[PI.eff] at he;cases sK:(e.ev ρ).b<;>rw[sK] at he<;>cases he;exact h
  |call gs d f as=>
   simp only[PI.eff] at he;cases sK:holds gs ρ<;>simp only[sK,cond_true,cond_false,Option.some.injEq,Option.map_eq_some_iff] at he
   ·subst he;exact h
   ·obtain⟨y,_,rfl⟩:=he;exact h.setR (hb hp) _
  |callc gs d e as=>
   simp only[PI.eff] at he;cases sK:holds gs ρ<;>simp only[sK,cond_true,cond_false,Option.some.injEq] at he
   ·subst he;exact h
   ·split at he
    ·simp only[Option.map_eq_some_iff] at he;obtain⟨y,_,rfl⟩:=he;exact h.setR (hb hp) _
    ·cases he
  |mcall j f as=>simp only[PI.eff,Option.map_eq_some_iff] at he;obtain⟨y,_,rfl⟩:=he;exact h.setO (ho hp) _
theorem PI.runs_off {Φ:aS}{K:Lk}{b:Env}:∀{l:List PI} {ρ ρ' η:Env},(l.foldr (fun p k=>p.lkw.un k) Lk.none).Le K→Off K b ρ ρ'→PI.runs Φ l ρ=some η→∃η',PI.runs Φ l ρ'=some η'∧Off K b η η'
 |[],ρ,ρ',η,_,h,hr=>by simp only[PI.runs,Option.some.injEq] at hr ⊢;subst hr;exact⟨_,rfl,h⟩
 |p::l,ρ,ρ',η,hl,h,hr=>by
  simp only[PI.runs,Option.bind_eq_some_iff] at hr;obtain⟨ρ1,h1,h2⟩:=hr;obtain⟨ρ2,h3,h4⟩:=PI.run_off hl.of_un.1 h h1;obtain⟨η',h5,h6⟩:=PI.runs_off (l:=l) hl.of_un.2 h4 h2;exact⟨η',by simp only[PI.runs,h3,Option.bind_some,h5],h6⟩
theorem vT {K:Lk}{b η η':Env}(h:Off K b η η'){lo:List Nat}(ho:∀t,t∈lo→t∈K.o):lo.map η'.o=lo.map η.o:=List.map_congr_left fun t ht=>h.al.o t (ho t ht)
theorem aax {K:Lk}{b η η':Env}(h:Off K b η η'){lr:List Nat}(hr:∀t,t∈lr→ar K.r t=true):lr.map η'.r=lr.map η.r:=List.map_congr_left fun t ht=>h.al.r t (hr t ht)
theorem PC.ev_off {Φ:aS}{n:Nat}{K:Lk}:∀(c:PC),c.lk.Le K→∀{b ρ ρ':Env} {x:Out},Off K b ρ ρ'→c.ev Φ n ρ=some x→∃x',c.ev Φ n ρ'=some x'∧sd K b x x':=by
 intro c
 induction c with
 |skip=>intro _ b ρ ρ' x h hr;simp only[PC.ev,Option.some.injEq] at hr ⊢;subst hr;exact⟨_,rfl,_,rfl,h⟩
 |exit id=>intro _ b ρ ρ' x h hr;simp only[PC.ev,Option.some.injEq] at hr ⊢;subst hr;exact⟨_,rfl,_,rfl,h⟩
 |ret e=>intro hk B ρ ρ' x h hr;simp only[PC.ev,Option.some.injEq] at hr ⊢;subst hr;exact⟨_,rfl,by rw[PE.ev_alike e (h.al.le hk)];rfl⟩
 |is l=>
  intro hk B ρ ρ' x h hr;simp only[PC.ev,Option.map_eq_some_iff] at hr;obtain⟨η,h1,rfl⟩:=hr;obtain⟨η',h2,h3⟩:=PI.runs_off hk h h1;exact⟨.next η',by simp only[PC.ev,h2,Option.map_some],η',rfl,h3⟩
 |seq a b br dO=>
  intro hk B ρ ρ' x h hr;simp only[PC.ev] at hr ⊢;cases ha:a.ev Φ n ρ with
  |none=>rw[ha] at hr;cases hr
  |some y=>
   obtain⟨y',h1,h2⟩:=br hk.of_un.1 h ha;rw[ha] at hr;rw[h1];cases y with
   |next η=>obtain⟨η',rfl,h3⟩:=h2;exact dO hk.of_un.2 h3 hr
   |exit i η=>obtain⟨η',rfl,h3⟩:=h2;cases hr;exact⟨_,rfl,η',rfl,h3⟩
   |ret d=>cases h2;cases hr;exact⟨_,rfl,rfl⟩
 |ite c lr lo a b br dO=>
  intro hk B ρ ρ' x h hr;have hc:(c.ev ρ').b=(c.ev ρ).b:=by rw[PE.ev_alike c (h.al.le hk.of_un.1)]
  have key:∀(d:PC),(∀{ρ ρ':Env} {x:Out},Off K B ρ ρ'→d.ev Φ n ρ=some x→∃x',d.ev Φ n ρ'=some x'∧sd K B x x')→(match d.ev Φ n ρ with|some (.next η)=>some (.next (ρ.join lr lo η))|x=>x)=some x→
      ∃x',(match d.ev Φ n ρ' with|some (.next η)=>some (.next (ρ'.join lr lo η))|x=>x)=some x'∧sd K B x x':=by
   intro d ih hr;cases ha:d.ev Φ n ρ with
   |none=>rw[ha] at hr;cases hr
   |some y=>
    obtain⟨y',h1,h2⟩:=ih h ha;rw[ha] at hr;rw[h1];cases y with
    |next η=>obtain⟨η',rfl,h3⟩:=h2;cases hr;exact⟨_,rfl,_,rfl,h.join h3 lr lo⟩
    |exit i η=>obtain⟨η',rfl,h3⟩:=h2;cases hr;exact⟨_,rfl,η',rfl,h3⟩
    |ret d=>cases h2;cases hr;exact⟨_,rfl,rfl⟩
  simp only[PC.ev,hc] at hr ⊢;cases gQ:(c.ev ρ).b<;>simp only[gQ,cond_true,cond_false] at hr ⊢
  ·exact key b (fun h1 h2=>dO hk.of_un.2.of_un.2 h1 h2) hr
  ·exact key a (fun h1 h2=>br hk.of_un.2.of_un.1 h1 h2) hr
 |block id lr lo a br=>
  intro hk B ρ ρ' x h hr;simp only[PC.ev] at hr ⊢;cases ha:a.ev Φ n ρ with
  |none=>rw[ha] at hr;cases hr
  |some y=>
   obtain⟨y',h1,h2⟩:=br hk h ha;rw[ha] at hr;rw[h1];cases y with
   |next η=>obtain⟨η',rfl,h3⟩:=h2;cases hr;exact⟨_,rfl,_,rfl,h.join h3 lr lo⟩
   |exit i η=>
    obtain⟨η',rfl,h3⟩:=h2;simp only at hr ⊢;cases hb:Nat.beq i id<;>simp only[hb,cond_true,cond_false] at hr ⊢<;>cases hr
    ·exact⟨_,rfl,η',rfl,h3⟩
    ·exact⟨_,rfl,_,rfl,h.join h3 lr lo⟩
   |ret d=>cases h2;cases hr;exact⟨_,rfl,rfl⟩
 |loop lr lo a br=>
  intro hk B ρ ρ' x h hr;have gS:∀t,t∈lr→ar K.r t=true:=fun t ht=>hk.of_un.1.1 t (NQ ht);have jh:∀t,t∈lo→t∈K.o:=fun t ht=>hk.of_un.1.2 t ht;have key:∀(m:Nat) (vr vo:List D),gC (a.ev Φ n) ρ lr lo m vr vo=some x→∃x',gC (a.ev Φ n) ρ' lr lo m vr vo=some x'∧sd K B x x':=by
   intro m
   induction m with
   |zero=>intro vr vo h;simp[gC] at h
   |succ m Qg=>
    intro vr vo hr;simp only[gC] at hr ⊢;cases ha:a.ev Φ n (ρ.put lr vr lo vo) with
    |none=>rw[ha] at hr;cases hr
    |some y=>
     obtain⟨y',h1,h2⟩:=br hk.of_un.2 (h.put gS jh vr vo) ha;rw[ha] at hr;rw[h1];cases y with
     |next η=>obtain⟨η',rfl,h3⟩:=h2;simp only[vT h3 jh,aax h3 gS];exact Qg _ _ hr
     |exit i η=>obtain⟨η',rfl,h3⟩:=h2;cases hr;exact⟨_,rfl,η',rfl,h3⟩
     |ret d=>cases h2;cases hr;exact⟨_,rfl,rfl⟩
  simp only[PC.ev] at hr ⊢;rw[vT h jh,aax h gS];exact key n _ _ hr
 |each e ps lo rt a br=>
  intro hk B ρ ρ' x h hr;obtain⟨cD,ct⟩:=hk.of_un;obtain⟨ct,lj⟩:=ct.of_un;obtain⟨lj,xO⟩:=lj.of_un;have jh:∀t,t∈lo→t∈K.o:=fun t ht=>lj.2 t ht;have key:∀(xs vo:List D),gO (a.ev Φ n) ρ ps lo rt xs vo=some x→∃x',gO (a.ev Φ n) ρ' ps lo rt xs vo=some x'∧sd K B x x':=by
   intro xs
   induction xs with
   |nil=>intro vo hr;simp only[gO,Option.some.injEq] at hr ⊢;subst hr;exact⟨_,rfl,_,rfl,h.put (fun _ h=>by cases h) jh _ _⟩
   |cons y xs iv=>
    intro vo hr;simp only[gO] at hr ⊢;cases ha:a.ev Φ n (ρ.put ps (partsOf ps y) lo vo) with
    |none=>rw[ha] at hr;cases hr
    |some z=>
     have ij:Off K (ρ'.put ps (partsOf ps y) lo vo) (ρ.put ps (partsOf ps y) lo vo) (ρ'.put ps (partsOf ps y) lo vo):=⟨h.al.put ps lo _ _,fun _ _=>rfl,fun _ _=>rfl⟩
     obtain⟨z',h1,h2⟩:=br xO ij ha;rw[ha] at hr;rw[h1];cases z with
     |next η=>obtain⟨η',rfl,h3⟩:=h2;simp only[vT h3 jh];exact iv _ hr
     |exit i η=>
      obtain⟨η',rfl,h3⟩:=h2;simp only[vT h3 jh] at hr ⊢;have hp:=h.put (lr:=[]) (fun _ h=>by cases h) jh [] (lo.map η.o);cases hb:Nat.beq i cC<;>simp only[hb,cond_true,cond_false] at hr ⊢
      ·cases hr;exact⟨_,rfl,_,rfl,hp⟩
      ·cases rt with
       |none=>cases hr
       |some e2=>cases hr;exact⟨_,rfl,by show Out.ret _=Out.ret _;rw[PE.ev_alike e2 (hp.al.le ct)]⟩
     |ret d=>cases hr
  simp only[PC.ev] at hr ⊢;rw[PE.ev_alike e (h.al.le cD),vT h jh];exact key _ _ hr
 |meach J ps cR lo a br=>
  intro hk B ρ ρ' x h hr;obtain⟨lj,xO⟩:=hk.of_un;have jh:∀t,t∈lo→t∈K.o:=fun t ht=>lj.2 t (List.mem_cons_of_mem _ ht);have hJ:ρ'.o J=ρ.o J:=h.al.o J (lj.2 J (List.mem_cons_self ..));have key:∀(es:D) (xs done vo qJ:List D),nG (a.ev Φ n) ρ J es ps cR lo xs done vo=some qJ→nG (a.ev Φ n) ρ' J es ps cR lo xs done vo=some qJ:=by
   intro es xs
   induction xs with
   |nil=>intro done vo qJ h;exact h
   |cons y xs iv=>
    intro done vo qJ hr;simp only[nG] at hr ⊢;cases ha:a.ev Φ n ((ρ.put ps (cR.map y.tget) lo vo).setO J (.tup [.list (done++[y]),es])) with
    |none=>rw[ha] at hr;cases hr
    |some z=>
     have ij:Off K ((ρ'.put ps (cR.map y.tget) lo vo).setO J (.tup [.list (done++[y]),es])) ((ρ.put ps (cR.map y.tget) lo vo).setO J (.tup [.list (done++[y]),es])) ((ρ'.put ps (cR.map y.tget) lo vo).setO J (.tup [.list (done++[y]),es])):=
          ⟨(h.al.put ps lo _ _).setO J _,fun _ _=>rfl,fun _ _=>rfl⟩
     obtain⟨z',h1,h2⟩:=br xO ij ha;rw[ha] at hr;rw[h1];cases z with
     |next η=>obtain⟨η',rfl,h3⟩:=h2;simp only[vT h3 jh];exact iv _ _ _ hr
     |exit i η=>cases hr
     |ret d=>cases hr
  simp only[PC.ev,yV] at hr;obtain⟨vo,⟨h1,h2⟩,rfl⟩:=hr;refine⟨.next (ρ'.put [] [] lo vo),?_,_,rfl,h.put (fun _ h=>by cases h) jh _ _⟩;simp only[PC.ev,yV];refine⟨vo,⟨by rw[hJ];exact h1,fun ys hy=>?_⟩,rfl⟩;rw[hJ] at hy ⊢;rw[vT h jh];exact key _ _ _ _ _ (h2 ys hy)
def ng:List Nat→PC→Bool
 |l,.exit id=>eU l id
 |l,.seq a b=>ng l a&&ng l b
 |l,.ite _ _ _ a b=>ng l a&&ng l b
 |l,.block id _ _ a=>ng (id::l) a
 |l,.loop _ _ a=>ng l a
 |l,.each _ _ _ _ a=>ng (cC::l) a
 |_,_=>true
theorem aoU {Φ:aS}{n:Nat}:∀(c:PC) {l:List Nat},ng l c=true→∀{ρ:Env} {i:Nat} {η:Env},c.ev Φ n ρ=some (.exit i η)→i∈l:=by
 intro c
 induction c with
 |skip=>intro l _ ρ i η h;simp[PC.ev] at h
 |exit id=>intro l hl ρ i η h;simp only[PC.ev,Option.some.injEq] at h;injection h with h1 h2;subst h1;exact(oL _ _).1 hl
 |ret e=>intro l _ ρ i η h;simp[PC.ev] at h
 |is _=>intro l _ ρ i η h;simp[PC.ev] at h
 |seq a b br dO=>
  intro l hl ρ i η h;simp only[ng,Bool.and_eq_true] at hl;simp only[PC.ev] at h;split at h
  ·exact dO hl.2 h
  ·exact br hl.1 h
 |ite c lr lo a b br dO=>
  intro l hl ρ i η h;simp only[ng,Bool.and_eq_true] at hl;simp only[PC.ev] at h;cases hc:(c.ev ρ).b<;>simp only[hc,cond_true,cond_false] at h
  ·split at h
   ·cases h
   ·exact dO hl.2 h
  ·split at h
   ·cases h
   ·exact br hl.1 h
 |block id lr lo a br=>
  intro l hl ρ i η h;simp only[PC.ev] at h;split at h
  ·cases h
  ·rename_i bG ρ2 ha;cases hb:Nat.beq bG id<;>simp only[hb,cond_true,cond_false] at h<;>cases h;rcases List.mem_cons.1 (br hl ha) with e|e
   ·subst e;rw[Nat.beq_refl] at hb;cases hb
   ·exact e
  ·rename_i h1 h2;exact absurd h (h2 _ _)
 |loop lr lo a br=>
  intro l hl ρ i η h;have key:∀(m:Nat) (vr vo:List D),gC (a.ev Φ n) ρ lr lo m vr vo=some (.exit i η)→i∈l:=by
   intro m
   induction m with
   |zero=>intro vr vo h;simp[gC] at h
   |succ m Qg=>
    intro vr vo h;simp only[gC] at h;split at h
    ·exact Qg _ _ h
    ·exact br hl h
  exact key _ _ _ h
 |each e ps lo rt a br=>
  intro l hl ρ i η h;have key:∀(xs vo:List D),gO (a.ev Φ n) ρ ps lo rt xs vo=some (.exit i η)→i∈l:=by
   intro xs
   induction xs with
   |nil=>intro vo h;simp[gO] at h
   |cons x xs iv=>
    intro vo h;simp only[gO] at h;split at h
    ·exact iv _ h
    ·rename_i bG ρ2 ha;cases hb:Nat.beq bG cC<;>simp only[hb,cond_true,cond_false] at h
     ·injection h with h;injection h with h1 h2;subst h1
      rcases List.mem_cons.1 (br hl ha) with e|e
      ·subst e;rw[Nat.beq_refl] at hb;cases hb
      ·exact e
     ·cases rt<;>simp at h
    ·cases h
  exact key _ _ h
 |meach J ps cR lo a _=>
  intro l _ ρ i η h;simp only[PC.ev,yV] at h;obtain⟨vo,_,h⟩:=h;cases h
def ZN (t:Nat):PE→Bool
 |.r u=>Nat.beq u t
 |_=>false
def ZO (t:Nat):PE→Bool
 |.o u=>Nat.beq u t
 |_=>false
def fk (nv:Nat→PE→Bool)(p:Nat→Bool):List Nat→List (Nat×PE)→List (Nat×PE)
 |_,[]=>[]
 |seen,x::l=>bif p x.1&& !eU seen x.1 then(bif nv x.1 x.2 then fk nv p (x.1::seen) l else x::fk nv p (x.1::seen) l) else fk nv p seen l
theorem GS {nv:Nat→PE→Bool}{p:Nat→Bool}:∀{l:List (Nat×PE)} {seen:List Nat} {t:Nat},eU seen t=true→aa (fk nv p seen l) t=none
 |[],_,_,_=>rfl
 |x::l,seen,t,h=>by
  have h':eU (x.1::seen) t=true:=by rw[oL] at h ⊢;exact List.mem_cons_of_mem _ h
  simp only[fk];cases hb:(p x.1&& !eU seen x.1) with
  |false=>exact GS h
  |true=>
   simp only[cond_true];cases nv x.1 x.2 with
   |true=>exact GS h'
   |false=>
    simp only[cond_false,aa];have:Nat.beq x.1 t=false:=by
      cases e:Nat.beq x.1 t with
      |false=>rfl
      |true=>rw[cK e,h] at hb;simp at hb
    rw[this];exact GS h'
theorem By {nv:Nat→PE→Bool}{p:Nat→Bool}{dflt:Nat→PE}(bL:∀t e,nv t e=true→e=dflt t):∀{l:List (Nat×PE)} {seen:List Nat} {t:Nat},p t=true→eU seen t=false→
 (match aa (fk nv p seen l) t with|some e=>e|none=>dflt t)=(match aa l t with|some e=>e|none=>dflt t)
 |[],_,_,_,_=>rfl
 |x::l,seen,t,hp,hs=>by
  simp only[fk,aa];cases e:Nat.beq x.1 t with
  |true=>
   have e':=cK e;rw[e',hp,hs];simp only[Bool.not_false,Bool.and_self,cond_true];cases hi:nv t x.2 with
   |true=>simp only[cond_true];rw[GS (by rw[oL];exact List.mem_cons_self ..)];exact(bL _ _ hi).symm
   |false=>simp only[cond_false,aa,e,cond_true]
  |false=>
   simp only[cond_false];cases hb:(p x.1&& !eU seen x.1) with
   |false=>exact By bL hp hs
   |true=>
    have il:eU (x.1::seen) t=false:=by
      cases hm:eU (x.1::seen) t with
      |false=>rfl
      |true=>
       rcases List.mem_cons.1 ((oL _ _).1 hm) with h|h
       ·rw[h,Nat.beq_refl] at e;cases e
       ·rw[(oL _ _).2 h] at hs;cases hs
    simp only[cond_true];cases nv x.1 x.2 with
    |true=>exact By bL hp il
    |false=>simp only[cond_false,aa,e];exact By bL hp il
def SE.cut (s:SE)(k:Lk):SE:=⟨fk ZN (ar k.r) [] s.r,fk ZO (eU k.o) [] s.o⟩
def Qs (l:List (Nat×PE)):Lk:=l.foldr (fun x k=>x.2.lk.un k) .none
def SE.lks (s:SE):Lk:=(Qs s.r).un (Qs s.o)
theorem Qt:∀{l:List (Nat×PE)} {t:Nat} {e:PE},aa l t=some e→e.lk.Le (Qs l)
 |[],_,_,h=>by cases h
 |x::l,t,e,h=>by
  simp only[aa] at h;cases hb:Nat.beq x.1 t<;>simp only[hb,cond_true,cond_false] at h
  ·exact(Qt h).trans (Lk.le_r _ _)
  ·cases h;exact Lk.le_l _ _
theorem SE.cut_al {s:SE}{L:Lk}{ρ1 ρ2:Env}(h:Alike (L.un (s.cut L).lks) ρ1 ρ2):Alike L ((s.cut L).ev ρ1) (s.ev ρ2):=by
 have hL:=h.le (Lk.le_l _ _);have hs:=h.le (Lk.le_r _ _);constructor
 ·intro t ht;show(s.getR t).ev ρ2=((s.cut L).getR t).ev ρ1;have e:(s.cut L).getR t=s.getR t:=By (dflt:=.r) (fun t e he=>by unfold ZN at he;split at he;rw[cK he];cases he) ht rfl;rw[←e];cases hl:aa (s.cut L).r t with
  |none=>have:(s.cut L).getR t=.r t:=by unfold SE.getR;rw[hl]
         rw[this];exact hL.r t ht
  |some x=>have:(s.cut L).getR t=x:=by unfold SE.getR;rw[hl]
           rw[this];exact PE.ev_alike x (hs.le ((Qt hl).trans (Lk.le_l _ _)))
 ·intro t ht;show(s.getO t).ev ρ2=((s.cut L).getO t).ev ρ1;have e:(s.cut L).getO t=s.getO t:=By (dflt:=.o) (fun t e he=>by unfold ZO at he;split at he;rw[cK he];cases he) ((oL _ _).2 ht) rfl;rw[←e];cases hl:aa (s.cut L).o t with
  |none=>have:(s.cut L).getO t=.o t:=by unfold SE.getO;rw[hl]
         rw[this];exact hL.o t ht
  |some x=>have:(s.cut L).getO t=x:=by unfold SE.getO;rw[hl]
           rw[this];exact PE.ev_alike x (hs.le ((Qt hl).trans (Lk.le_r _ _)))
structure LC where
 next:Lk
 ov:List (Nat×Lk)
def LC.all (c:LC):Lk:=c.ov.foldr (fun x k=>x.2.un k) .none
def M0 (c:LC)(Q1 Q2:Out→Prop):Prop:=
 (∀ρ1 ρ2,Alike c.next ρ1 ρ2→Q1 (.next ρ1)→Q2 (.next ρ2))∧(∀id k ρ1 ρ2,aa c.ov id=some k→Alike k ρ1 ρ2→Q1 (.exit id ρ1)→Q2 (.exit id ρ2))∧∀d,Q1 (.ret d)→Q2 (.ret d)
def fp:LC→PT→Option (PT×Lk)
 |c,.next s=>some (.next (s.cut c.next),c.next.un (s.cut c.next).lks)
 |c,.exit id s=>(aa c.ov id).map fun k=>(.exit id (s.cut k),k.un (s.cut k).lks)
 |_,.ret e=>some (.ret e,e.lk)
 |c,.chk e k=>(fp c k).map fun r=>(.chk e r.1,e.lk.un r.2)
 |c,.ite e a b=>(fp c a).bind fun x=>(fp c b).map fun y=>(.ite e x.1 y.1,e.lk.un (x.2.un y.2))
 |c,.call s gs dst f args k=>(fp c k).map fun r=>(.call (s.cut (r.2.un (lh gs))) gs dst f args r.1,(PE.lks args).un ((r.2.un (lh gs)).un (s.cut (r.2.un (lh gs))).lks))
 |c,.callc s gs dst e args k=>(fp c k).map fun r=>(.callc (s.cut (r.2.un (lh gs))) gs dst e args r.1,(e.lk.un (PE.lks args)).un ((r.2.un (lh gs)).un (s.cut (r.2.un (lh gs))).lks))
 |c,.mcall s j f args k=>(fp c k).map fun r=>(.mcall (s.cut r.2) j f args r.1,(PE.lks args).un (r.2.un (s.cut r.2).lks))
 |c,.iteS s e lr lo a b k=>(fp c k).bind fun r=>(fp ⟨r.2,c.ov⟩ a).bind fun x=>(fp ⟨r.2,c.ov⟩ b).map fun y=>
    (.iteS (s.cut (r.2.un (x.2.un y.2))) e lr lo x.1 y.1 r.1,e.lk.un ((r.2.un (x.2.un y.2)).un (s.cut (r.2.un (x.2.un y.2))).lks))
 |c,.blockS s id lr lo a k=>(fp c k).bind fun r=>(fp ⟨r.2,(id,r.2)::c.ov⟩ a).map fun x=>(.blockS (s.cut (r.2.un x.2)) id lr lo x.1 r.1,(r.2.un x.2).un (s.cut (r.2.un x.2)).lks)
 |c,.brk s p k=>(fp c k).bind fun r=>bif ng (c.ov.map (·.1)) p then some (.brk (s.cut (p.lk.un (r.2.un c.all))) p r.1,(p.lk.un (r.2.un c.all)).un (s.cut (p.lk.un (r.2.un c.all))).lks) else none
theorem LC.all_le:∀{l:List (Nat×Lk)} {id:Nat} {k:Lk},aa l id=some k→k.Le (l.foldr (fun x k=>x.2.un k) .none)
 |[],_,_,h=>by cases h
 |x::l,t,e,h=>by
  simp only[aa] at h;cases hb:Nat.beq x.1 t<;>simp only[hb,cond_true,cond_false] at h
  ·exact(LC.all_le h).trans (Lk.le_r _ _)
  ·cases h;exact Lk.le_l _ _
theorem aae:∀{l:List (Nat×Lk)} {id:Nat},id∈l.map (·.1)→∃k,aa l id=some k
 |[],_,h=>by cases h
 |x::l,id,h=>by
  simp only[aa];cases hb:Nat.beq x.1 id with
  |true=>exact⟨_,rfl⟩
  |false=>
   simp only[cond_false];rcases List.mem_cons.1 h with e|h
   ·rw[e,Nat.beq_refl] at hb;cases hb
   ·exact aae h
theorem ayi {T:cu}:∀(t:PT) {c:LC} {t':PT} {L:Lk},fp c t=some (t',L)→∀{Q1 Q2:Out→Prop} {ρ1 ρ2:Env},M0 c Q1 Q2→Alike L ρ1 ρ2→aI T t' ρ1 Q1→aI T t ρ2 Q2:=by
 intro t
 induction t with
 |next s=>
  intro c t' L hp Q1 Q2 ρ1 ρ2 hQ hA h;simp only[fp,Option.some.injEq,Prod.mk.injEq] at hp;obtain⟨rfl,rfl⟩:=hp;exact hQ.1 _ _ (SE.cut_al hA) h
 |exit id s=>
  intro c t' L hp Q1 Q2 ρ1 ρ2 hQ hA h;simp only[fp,Option.map_eq_some_iff,Prod.mk.injEq] at hp;obtain⟨k,hk,rfl,rfl⟩:=hp;exact hQ.2.1 _ k _ _ hk (SE.cut_al hA) h
 |ret e=>
  intro c t' L hp Q1 Q2 ρ1 ρ2 hQ hA h;simp only[fp,Option.some.injEq,Prod.mk.injEq] at hp;obtain⟨rfl,rfl⟩:=hp;show Q2 (.ret (e.ev ρ2));rw[PE.ev_alike e hA];exact hQ.2.2 _ h
 |chk e k ih=>
  intro c t' L hp Q1 Q2 ρ1 ρ2 hQ hA h;simp only[fp,Option.map_eq_some_iff,Prod.mk.injEq] at hp;obtain⟨r,hr,rfl,rfl⟩:=hp;exact⟨by rw[PE.ev_alike e (hA.le (Lk.le_l _ _))];exact h.1,ih hr hQ (hA.le (Lk.le_r _ _)) h.2⟩
 |ite e a b br dO=>
  intro c t' L hp Q1 Q2 ρ1 ρ2 hQ hA h;simp only[fp,Option.bind_eq_some_iff,Option.map_eq_some_iff,Prod.mk.injEq] at hp;obtain⟨x,hx,y,hy,rfl,rfl⟩:=hp;have h2:=hA.le (Lk.le_r _ _);simp only[aI] at h ⊢;rw[PE.ev_alike e (hA.le (Lk.le_l _ _))];split
  ·rename_i hc;rw[if_pos hc] at h;exact br hx hQ (h2.le (Lk.le_l _ _)) h
  ·rename_i hc;rw[if_neg hc] at h;exact dO hy hQ (h2.le (Lk.le_r _ _)) h
 |call s gs dst f args k ih=>
  intro c t' L hp Q1 Q2 ρ1 ρ2 hQ hA h;simp only[fp,Option.map_eq_some_iff,Prod.mk.injEq] at hp;obtain⟨r,hr,rfl,rfl⟩:=hp;have hS:=SE.cut_al (hA.le (Lk.le_r _ _));simp only[aI] at h ⊢;rw[PE.evs_alike args (hA.le (Lk.le_l _ _)),xU (hS.le (Lk.le_r _ _))];split
  ·rename_i hc;rw[if_pos hc] at h;obtain⟨d,hd,h⟩:=h;exact⟨d,hd,ih hr hQ ((hS.le (Lk.le_l _ _)).setR dst d) h⟩
  ·rename_i hc;rw[if_neg hc] at h;exact ih hr hQ (hS.le (Lk.le_l _ _)) h
 |callc s gs dst e args k ih=>
  intro c t' L hp Q1 Q2 ρ1 ρ2 hQ hA h;simp only[fp,Option.map_eq_some_iff,Prod.mk.injEq] at hp;obtain⟨r,hr,rfl,rfl⟩:=hp;have hS:=SE.cut_al (hA.le (Lk.le_r _ _));have hE:=hA.le (Lk.le_l _ _);simp only[aI] at h ⊢;rw[PE.ev_alike e (hE.le (Lk.le_l _ _)),PE.evs_alike args (hE.le (Lk.le_r _ _)),xU (hS.le (Lk.le_r _ _))];split
  ·rename_i hc;rw[if_pos hc] at h;obtain⟨f,caps,d,he,hd,h⟩:=h;exact⟨f,caps,d,he,hd,ih hr hQ ((hS.le (Lk.le_l _ _)).setR dst d) h⟩
  ·rename_i hc;rw[if_neg hc] at h;exact ih hr hQ (hS.le (Lk.le_l _ _)) h
 |mcall s j f args k ih=>
  intro c t' L hp Q1 Q2 ρ1 ρ2 hQ hA h;simp only[fp,Option.map_eq_some_iff,Prod.mk.injEq] at hp;obtain⟨r,hr,rfl,rfl⟩:=hp;have hS:=SE.cut_al (hA.le (Lk.le_r _ _));simp only[aI] at h ⊢;rw[PE.evs_alike args (hA.le (Lk.le_l _ _))];obtain⟨d,hd,h⟩:=h;exact⟨d,hd,ih hr hQ (hS.setO j d) h⟩
 |iteS s e lr lo a b k br dO jP=>
  intro c t' L hp Q1 Q2 ρ1 ρ2 hQ hA h;simp only[fp,Option.bind_eq_some_iff,Option.map_eq_some_iff,Prod.mk.injEq] at hp;obtain⟨r,hr,x,hx,y,hy,rfl,rfl⟩:=hp;have hS:=SE.cut_al (hA.le (Lk.le_r _ _));have Hc:=hS.le (Lk.le_l _ _);have BL:=hS.le ((Lk.le_l _ _).trans (Lk.le_r _ _));have hSy:=hS.le ((Lk.le_r _ _).trans (Lk.le_r _ _))
  have rel:M0 ⟨r.2,c.ov⟩ (kg ((s.cut (r.2.un (x.2.un y.2))).ev ρ1) lr lo (fu (fun ρ'=>aI T r.1 ρ' Q1) Q1)) (kg (s.ev ρ2) lr lo (fu (fun ρ'=>aI T k ρ' Q2) Q2)):=
   ⟨fun η1 η2 ha hq=>jP hr hQ (Hc.join ha lr lo) hq,fun id k' η1 η2 hk ha hq=>hQ.2.1 id k' _ _ hk ha hq,fun d hq=>hQ.2.2 d hq⟩
  simp only[aI] at h ⊢;rw[PE.ev_alike e (hA.le (Lk.le_l _ _))];split
  ·rename_i hc;rw[if_pos hc] at h;exact br hx rel BL h
  ·rename_i hc;rw[if_neg hc] at h;exact dO hy rel hSy h
 |blockS s id lr lo a k br jP=>
  intro c t' L hp Q1 Q2 ρ1 ρ2 hQ hA h;simp only[fp,Option.bind_eq_some_iff,Option.map_eq_some_iff,Prod.mk.injEq] at hp;obtain⟨r,hr,x,hx,rfl,rfl⟩:=hp;have hS:=SE.cut_al hA;have Hc:=hS.le (Lk.le_l _ _);refine br hx (Q1:=la ((s.cut (r.2.un x.2)).ev ρ1) id lr lo (fu (fun ρ'=>aI T r.1 ρ' Q1) Q1)) ⟨fun η1 η2 ha hq=>jP hr hQ (Hc.join ha lr lo) hq,fun bG k' η1 η2 hk ha hq=>?_,fun d hq=>hQ.2.2 d hq⟩ (hS.le (Lk.le_r _ _)) h;simp only[la] at hq ⊢;simp only[aa] at hk;by_cases e:bG=id
  ·subst e;simp only[Nat.beq_refl,cond_true,Option.some.injEq] at hk;subst hk;rw[if_pos rfl] at hq ⊢;exact jP hr hQ (Hc.join ha lr lo) hq
  ·rw[if_neg e] at hq ⊢;rw[ez (fun h=>e h.symm),cond_false] at hk;exact hQ.2.1 bG k' _ _ hk ha hq
 |brk s p k jP=>
  intro c t' L hp Q1 Q2 ρ1 ρ2 hQ hA h;simp only[fp,Option.bind_eq_some_iff] at hp;obtain⟨r,hr,hp⟩:=hp;cases hx:ng (c.ov.map (·.1)) p<;>simp only[hx,cond_true,cond_false,Option.some.injEq,Prod.mk.injEq] at hp
  ·cases hp
  obtain⟨rfl,rfl⟩:=hp;have hS:=SE.cut_al hA;have ij:Off (p.lk.un (r.2.un c.all)) (s.ev ρ2) ((s.cut (p.lk.un (r.2.un c.all))).ev ρ1) (s.ev ρ2):=⟨hS,fun _ _=>rfl,fun _ _=>rfl⟩
  obtain⟨x,hq,n0,hn⟩:=h;have step:=fun n (hle:n0≤n)=>PC.ev_off p (Lk.le_l _ _) ij (hn n hle);obtain⟨x',h1,h2⟩:=step n0 (Nat.le_refl _);refine⟨x',?_,n0,fun n hle=>?_⟩
  ·cases x with
   |next η=>obtain⟨η',rfl,h3⟩:=h2;exact jP hr hQ (h3.al.le ((Lk.le_l _ _).trans (Lk.le_r _ _))) hq
   |exit i η=>
    obtain⟨η',rfl,h3⟩:=h2;obtain⟨k',bU⟩:=aae (aoU p hx (hn n0 (Nat.le_refl _)));exact hQ.2.1 i k' _ _ bU (h3.al.le ((LC.all_le bU).trans ((Lk.le_r _ _).trans (Lk.le_r _ _)))) hq
   |ret d=>cases h2;exact hQ.2.2 d hq
  ·obtain⟨x2,h3,h4⟩:=step n hle;rw[h3,h2.uniq h4]
def C9 (c:LC)(t:PT):PT:=match fp c t with|some r=>r.1|none=>t
theorem K7 {T:cu}{c:LC}{t:PT}{Q:Out→Prop}{ρ:Env}(hQ:M0 c Q Q)(h:aI T (C9 c t) ρ Q):aI T t ρ Q:=by
 unfold C9 at h;split at h
 ·rename_i r hr;exact ayi t hr hQ ⟨fun _ _=>rfl,fun _ _=>rfl⟩ h
 ·exact h
def agM (c:PC):PT:=sx c [] .id (fun _ s=>.next s) (fun _ id s=>.exit id s)
theorem agN {T:cu}{c:PC}{ρ:Env}{Q:Out→Prop}(h:aI T (agM c) ρ Q):aO T c ρ Q:=
 Mp (s:=.id) c (bK.ok_nil _) h (fun ρ' ab s _ _ h=>h) (fun ρ' ab id s _ _ h=>h) (fun _ _ _ h=>h) (fun _ h=>h)
def tree (c:PC):PT:=C9 ⟨.none,[]⟩ (agM c)
theorem MI {T:cu}{c:PC}{ρ:Env}{d:D}(h:aI T (tree c) ρ fun x=>x=.ret d):aO T c ρ fun x=>x=.ret d:=
 agN (K7 ⟨fun _ _ _ h=>(by cases h),fun _ _ _ _ _ _ h=>(by cases h),fun _ h=>h⟩ h)
def SE.keep (s:SE)(lr lo:List Nat):SE:=⟨lr.map fun t=>(t,s.getR t),lo.map fun t=>(t,s.getO t)⟩
theorem SE.keep_r (s:SE)(lr lo:List Nat)(ρ:Env):lr.map ((s.keep lr lo).ev ρ).r=lr.map (s.ev ρ).r:=by
 apply List.map_congr_left;intro t ht;show((s.keep lr lo).getR t).ev ρ=(s.getR t).ev ρ;have:=vQ (f:=fun t=>s.getR t) (l:=[]) (u:=t) lr;rw[List.append_nil,if_pos ht] at this;have e:(s.keep lr lo).getR t=s.getR t:=by unfold SE.getR SE.keep;simp only[];rw[this];rfl
 rw[e]
theorem SE.keep_o (s:SE)(lr lo:List Nat)(ρ:Env):lo.map ((s.keep lr lo).ev ρ).o=lo.map (s.ev ρ).o:=by
 apply List.map_congr_left;intro t ht;show((s.keep lr lo).getO t).ev ρ=(s.getO t).ev ρ;have:=vQ (f:=fun t=>s.getO t) (l:=[]) (u:=t) lo;rw[List.append_nil,if_pos ht] at this;have e:(s.keep lr lo).getO t=s.getO t:=by unfold SE.getO SE.keep;simp only[];rw[this];rfl
 rw[e]
def agb (id:Nat)(bo bn lr lo:List Nat)(a:PC):PT:=
 sx a [] .id (fun _ s=>.next (s.keep lr lo)) (fun _ bG s=>bif Nat.beq bG id then .exit id (s.keep bo bn) else .exit bG s)
def eH (ρ:Env)(id:Nat)(bo bn lr lo:List Nat)(K:List D→List D→Prop)(Q:Out→Prop):Out→Prop
 |.next ρ'=>K (lr.map ρ'.r) (lo.map ρ'.o)
 |.exit bG ρ'=>if bG=id then Q (.next (ρ.put bo (bo.map ρ'.r) bn (bn.map ρ'.o))) else Q (.exit bG ρ')
 |.ret d=>Q (.ret d)
def round (id:Nat)(bo bn lr lo:List Nat)(a:PC):PT:=C9 ⟨⟨bits lr,lo⟩,[(id,⟨bits bo,bn⟩)]⟩ (agb id bo bn lr lo a)
theorem aaw {k:Lk}{lr:List Nat}{ρ1 ρ2:Env}(h:Alike k ρ1 ρ2)(hk:∀t,t∈lr→ar k.r t=true):lr.map ρ2.r=lr.map ρ1.r:=List.map_congr_left fun t ht=>h.r t (hk t ht)
theorem Ib {k:Lk}{lo:List Nat}{ρ1 ρ2:Env}(h:Alike k ρ1 ρ2)(hk:∀t,t∈lo→t∈k.o):lo.map ρ2.o=lo.map ρ1.o:=List.map_congr_left fun t ht=>h.o t (hk t ht)
theorem ay3 {T:cu}{id:Nat}{bo bn lr lo:List Nat}{a:PC}{ρ ρ0:Env}{K:List D→List D→Prop}{Q:Out→Prop}(h:aI T (round id bo bn lr lo a) ρ (eH ρ0 id bo bn lr lo K Q)):aI T (agb id bo bn lr lo a) ρ (eH ρ0 id bo bn lr lo K Q):=by
 refine K7 ⟨fun ρ1 ρ2 ha hq=>?_,fun bG k ρ1 ρ2 hk ha hq=>?_,fun d hq=>hq⟩ h
 ·simp only[eH] at hq ⊢;rw[aaw ha fun t ht=>NQ ht,Ib ha fun t ht=>ht];exact hq
 ·simp only[aa] at hk;cases hb:Nat.beq id bG<;>simp only[hb,cond_true,cond_false] at hk
  ·cases hk
  ·cases hk;have:=cK hb;subst this;simp only[eH,if_true] at hq ⊢;rw[aaw ha fun t ht=>NQ ht,Ib ha fun t ht=>ht];exact hq
theorem aO.forLoop {T:cu}{id:Nat}{bo bn lr lo:List Nat}{a:PC}{ρ:Env}{Q:Out→Prop}{α:Type}(inv:α→List D→List D→Prop)(tF:α→Nat)(s0:α)(h0:inv s0 (lr.map ρ.r) (lo.map ρ.o))
 (step:∀s vr vo,inv s vr vo→aI T (round id bo bn lr lo a) (ρ.put lr vr lo vo) (eH ρ id bo bn lr lo (fun vr vo=>∃s',tF s'<tF s∧inv s' vr vo) Q)):aO T (.block id bo bn (.loop lr lo a)) ρ Q:=by
 refine .block (.loop inv tF s0 h0 fun s vr vo hi=>?_);have h:=ay3 (step s vr vo hi);refine Mp (s:=.id) a (bK.ok_nil _) h (fun ρ' ab s' _ _ h=>?_) (fun ρ' ab bG s' _ _ h=>?_) (fun _ bG ρ' h=>?_) (fun d h=>h)
 ·simp only[aI,eH] at h;rw[SE.keep_r,SE.keep_o] at h;exact h
 ·simp only[fu,la];by_cases bL:bG=id
  ·subst bL;simp only[Nat.beq_refl,cond_true,aI,eH,if_true] at h;rw[SE.keep_r,SE.keep_o] at h;rw[if_pos rfl];exact h
  ·rw[ez bL,cond_false] at h;simp only[aI,eH] at h;rw[if_neg bL] at h ⊢;exact h
 ·simp only[fu,la];simp only[eH] at h;split
  ·rename_i e;rw[if_pos e] at h;exact h
  ·rename_i e;rw[if_neg e] at h;exact h
def agc (lo:List Nat)(a:PC):PT:=sx a [] .id (fun _ s=>.next (s.keep [] lo)) (fun _ id s=>.exit id (s.keep [] lo))
def po (lo:List Nat)(a:PC):PT:=C9 ⟨⟨0,lo⟩,[(cC,⟨0,lo⟩)]⟩ (agc lo a)
theorem agd {T:cu}{lo:List Nat}{a:PC}{ρ:Env}{Q:Out→Prop}(hn:∀ρ1 ρ2,lo.map ρ2.o=lo.map ρ1.o→Q (.next ρ1)→Q (.next ρ2))(hx:∀ρ1 ρ2,lo.map ρ2.o=lo.map ρ1.o→Q (.exit cC ρ1)→Q (.exit cC ρ2))(h:aI T (po lo a) ρ Q):aI T (agc lo a) ρ Q:=by
 refine K7 ⟨fun ρ1 ρ2 ha hq=>hn ρ1 ρ2 (Ib ha fun t ht=>ht) hq,fun bG k ρ1 ρ2 hk ha hq=>?_,fun d hq=>hq⟩ h;simp only[aa] at hk;cases hb:Nat.beq cC bG<;>simp only[hb,cond_true,cond_false] at hk
 ·cases hk
 ·cases hk;have:=cK hb;subst this;exact hx ρ1 ρ2 (Ib ha fun t ht=>ht) hq
theorem aO.eachR {T:cu}{e:PE}{ps lo:List Nat}{rt:Option PE}{a:PC}{ρ:Env}{Q:Out→Prop}(xs:List D)(he:(e.ev ρ).l=xs)(inv:Nat→List D→Prop)(h0:inv 0 (lo.map ρ.o))
 (step:∀k x vo,xs[k]?=some x→inv k vo→aI T (po lo a) (ρ.put ps (partsOf ps x) lo vo) (sD ρ lo rt (inv (k+1)) Q)) (done:∀vo,inv xs.length vo→Q (.next (ρ.put [] [] lo vo))):aO T (.each e ps lo rt a) ρ Q:=by
 refine .each xs he inv h0 (fun k x vo hx hi=>?_) done;have h:=agd (fun ρ1 ρ2 e hq=>by simp only[sD] at hq ⊢;rw[e];exact hq) (fun ρ1 ρ2 e hq=>by simp only[sD,if_true] at hq ⊢;rw[e];exact hq) (step k x vo hx hi);refine Mp (s:=.id) a (bK.ok_nil _) h (fun ρ' ab s' _ _ h=>?_) (fun ρ' ab bG s' _ _ h=>?_) (fun _ bG ρ' h=>h) (fun d h=>h)
 ·simp only[aI,sD] at h;rw[SE.keep_o] at h;exact h
 ·simp only[aI,sD] at h;rw[SE.keep_o] at h;exact h
theorem aO.meachR {T:cu}{J:Nat}{ps cR lo:List Nat}{a:PC}{ρ:Env}{Q:Out→Prop}(es:List (D×D))(he:ρ.o J=.tup [.list [],.map es])(inv:List D→List D→Prop)(h0:inv [] (lo.map ρ.o))
 (step:∀done x rest vo,(done++x::rest).Perm (gE (.map es))→inv done vo→aI T (po lo a) ((ρ.put ps (cR.map x.tget) lo vo).setO J (.tup [.list (done++[x]),.map es])) (fun y=>∃ρ',y=.next ρ'∧inv (done++[x]) (lo.map ρ'.o)))
 (last:∃vo,(∀done,done.Perm (gE (.map es))→∀qJ,inv done qJ→qJ=vo)∧Q (.next (ρ.put [] [] lo vo))):aO T (.meach J ps cR lo a) ρ Q:=by
 refine .meach es he inv h0 (fun done x rest vo hp hi=>?_) last;have h:=agd (fun ρ1 ρ2 e ⟨ρ',e1,hq⟩=>by cases e1;exact⟨_,rfl,by rw[e];exact hq⟩) (fun ρ1 ρ2 e ⟨ρ',e1,hq⟩=>by cases e1) (step done x rest vo hp hi);refine Mp (s:=.id) a (bK.ok_nil _) h (fun ρ' ab s' _ _ h=>?_) (fun ρ' ab bG s' _ _ h=>?_) (fun _ bG ρ' h=>?_) (fun d h=>?_)
 ·simp only[aI] at h;obtain⟨ρ2,e,h⟩:=h;injection e with e;subst e;rw[SE.keep_o] at h;exact⟨_,rfl,h⟩
 ·simp only[aI] at h;obtain⟨ρ2,e,h⟩:=h;cases e
 ·obtain⟨ρ2,e,_⟩:=h;cases e
 ·obtain⟨ρ2,e,_⟩:=h;cases e
theorem xc {T:cu}:∀(t:PT) {ρ:Env} {Q Q':Out→Prop},(∀x,Q x→Q' x)→aI T t ρ Q→aI T t ρ Q':=by
 intro t
 induction t with
 |next s=>intro ρ Q Q' h hx;exact h _ hx
 |exit id s=>intro ρ Q Q' h hx;exact h _ hx
 |ret e=>intro ρ Q Q' h hx;exact h _ hx
 |chk e k ih=>intro ρ Q Q' h hx;exact⟨hx.1,ih h hx.2⟩
 |ite c a b br dO=>
  intro ρ Q Q' h hx;simp only[aI] at hx ⊢;split
  ·rename_i hc;rw[if_pos hc] at hx;exact br h hx
  ·rename_i hc;rw[if_neg hc] at hx;exact dO h hx
 |call s gs dst f args k ih=>
  intro ρ Q Q' h hx;simp only[aI] at hx ⊢;split
  ·rename_i hc;rw[if_pos hc] at hx;obtain⟨d,hd,hx⟩:=hx;exact⟨d,hd,ih h hx⟩
  ·rename_i hc;rw[if_neg hc] at hx;exact ih h hx
 |callc s gs dst e args k ih=>
  intro ρ Q Q' h hx;simp only[aI] at hx ⊢;split
  ·rename_i hc;rw[if_pos hc] at hx;obtain⟨f,c,d,he,hd,hx⟩:=hx;exact⟨f,c,d,he,hd,ih h hx⟩
  ·rename_i hc;rw[if_neg hc] at hx;exact ih h hx
 |mcall s j f args k ih=>intro ρ Q Q' h hx;obtain⟨d,hd,hx⟩:=hx;exact⟨d,hd,ih h hx⟩
 |iteS s c lr lo a b k br dO jP=>
  intro ρ Q Q' h hx
  have hq:∀x,kg (s.ev ρ) lr lo (fu (fun ρ'=>aI T k ρ' Q) Q) x→kg (s.ev ρ) lr lo (fu (fun ρ'=>aI T k ρ' Q') Q') x:=by
   intro x hx;cases x with
   |next ρ'=>exact jP h hx
   |exit id ρ'=>exact h _ hx
   |ret d=>exact h _ hx
  simp only[aI] at hx ⊢;split
  ·rename_i hc;rw[if_pos hc] at hx;exact br hq hx
  ·rename_i hc;rw[if_neg hc] at hx;exact dO hq hx
 |blockS s id lr lo a k br jP=>
  intro ρ Q Q' h hx;refine br (fun x hx=>?_) hx;cases x with
  |next ρ'=>exact jP h hx
  |exit bG ρ'=>
   simp only[la] at hx ⊢;split
   ·rename_i e;rw[if_pos e] at hx;exact jP h hx
   ·rename_i e;rw[if_neg e] at hx;exact h _ hx
  |ret d=>exact h _ hx
 |brk s c k ih=>
  intro ρ Q Q' h hx;refine aO.mono hx fun x hx=>?_;cases x with
  |next ρ'=>exact ih h hx
  |exit id ρ'=>exact h _ hx
  |ret d=>exact h _ hx
theorem aO.forRounds {T:cu}{id:Nat}{bo bn lr lo:List Nat}{a:PC}{ρ:Env}{Q:Out→Prop}(N:Nat)(str eX:Nat→List D)(h0:lr.map ρ.r=str 0∧lo.map ρ.o=eX 0)
 (step:∀k,k<N→aI T (round id bo bn lr lo a) (ρ.put lr (str k) lo (eX k)) (eH ρ id bo bn lr lo (fun vr vo=>vr=str (k+1)∧vo=eX (k+1)) Q))
 (last:aI T (round id bo bn lr lo a) (ρ.put lr (str N) lo (eX N)) (eH ρ id bo bn lr lo (fun _ _=>False) Q)):aO T (.block id bo bn (.loop lr lo a)) ρ Q:=by
 refine .forLoop (α:=Nat) (fun k vr vo=>k≤N∧vr=str k∧vo=eX k) (fun k=>N-k) 0 ⟨Nat.zero_le _,h0.1,h0.2⟩ ?_;rintro k vr vo ⟨hk,rfl,rfl⟩;have mono:∀{K K':List D→List D→Prop},(∀a b,K a b→K' a b)→∀x,eH ρ id bo bn lr lo K Q x→eH ρ id bo bn lr lo K' Q x:=by
  intro K K' h x hx;cases x with
  |next ρ'=>exact h _ _ hx
  |exit bG ρ'=>exact hx
  |ret d=>exact hx
 by_cases af:k<N
 ·exact xc _ (mono fun a b ⟨h1,h2⟩=>⟨k+1,by omega,by omega,h1,h2⟩) (step k af)
 ·obtain rfl:k=N:=by omega
  exact xc _ (mono fun a b h=>h.elim) last
theorem Te {ρ:Env}{id:Nat}{bo bn lr lo:List Nat}{K K':List D→List D→Prop}{Q:Out→Prop}(h:∀a b,K a b→K' a b):∀x,eH ρ id bo bn lr lo K Q x→eH ρ id bo bn lr lo K' Q x:=by
 intro x hx;cases x with
 |next ρ'=>exact h _ _ hx
 |exit bG ρ'=>exact hx
 |ret d=>exact hx
theorem aO.scan {T:cu}{id:Nat}{bo bn lr lo:List Nat}{a:PC}{ρ:Env}{Q:Out→Prop}(N:Nat)(ok:Nat→Prop)(str eX:Nat→List D)(h0:lr.map ρ.r=str 0∧lo.map ρ.o=eX 0)
 (step:∀k,k<N→(∀j,j<k→ok j)→ok k→aI T (round id bo bn lr lo a) (ρ.put lr (str k) lo (eX k)) (eH ρ id bo bn lr lo (fun vr vo=>vr=str (k+1)∧vo=eX (k+1)) Q))
 (bad:∀k,k<N→(∀j,j<k→ok j)→¬ok k→aI T (round id bo bn lr lo a) (ρ.put lr (str k) lo (eX k)) (eH ρ id bo bn lr lo (fun _ _=>False) Q))
 (last:(∀j,j<N→ok j)→aI T (round id bo bn lr lo a) (ρ.put lr (str N) lo (eX N)) (eH ρ id bo bn lr lo (fun _ _=>False) Q)):aO T (.block id bo bn (.loop lr lo a)) ρ Q:=by
 refine .forLoop (α:=Nat) (fun k vr vo=>k≤N∧(∀j,j<k→ok j)∧vr=str k∧vo=eX k) (fun k=>N-k) 0 ⟨Nat.zero_le _,fun j hj=>by omega,h0.1,h0.2⟩ ?_;rintro k vr vo ⟨hk,hj,rfl,rfl⟩;by_cases af:k<N
 ·by_cases az:ok k
  ·refine xc _ (Te fun a b ⟨h1,h2⟩=>⟨k+1,by omega,by omega,fun j Ht=>?_,h1,h2⟩) (step k af hj az);by_cases e:j=k
   ·subst e;exact az
   ·exact hj j (by omega)
  ·exact xc _ (Te fun a b h=>h.elim) (bad k af hj az)
 ·obtain rfl:k=N:=by omega
  exact xc _ (Te fun a b h=>h.elim) (last hj)
def ao (n:Nat)(e:PE):PE:=.mk ((List.range n).map fun i=>.cell e i)
def gM (n:Nat)(d:D):D:=.agg ((List.range n).flatMap fun i=>(d.c i).cells)
theorem aoR (ρ:Env)(n:Nat)(e:PE):(ao n e).ev ρ=gM n (e.ev ρ):=by
 have key:∀l:List Nat,PE.evc ρ (l.map fun i=>.cell e i)=l.flatMap fun i=>((e.ev ρ).c i).cells:=by
  intro l
  induction l with
  |nil=>rfl
  |cons i l ih=>simp only[List.map_cons,PE.evc,PE.ev,List.flatMap_cons,ih]
 show D.agg _=_;rw[key];rfl
end Cx
namespace Cx
open Go Go.RowKit
def aT (n:Int):Prop:=-9223372036854775808≤n∧n≤9223372036854775807
def ints (l:List Int):D:=.list (l.map .int)
theorem aW {n:Int}(h:-9223372036854775808≤n∧n≤9223372036854775807):IntKind.i64.wrap n=n:=by
 simp only[IntKind.wrap,IntKind.signed,IntKind.bits];simp;split<;>omega
theorem DTy.int_inv {k:IntKind}{d:D}(h:DTy (.int k) d):∃n,d=.v (.int k n)∧k.min≤n∧n≤k.max:=by
 cases h with
 |int k n h1 h2=>exact⟨n,rfl,h1,h2⟩
 |other t d h=>exact h.elim
theorem DTy.i64_inv {d:D}(h:DTy (.int .i64) d):∃n,d=.int n∧aT n:=by
 obtain⟨n,rfl,h1,h2⟩:=h.int_inv;exact⟨n,rfl,by simpa [IntKind.min,IntKind.max,IntKind.signed,IntKind.bits] using h1,by simpa [IntKind.min,IntKind.max,IntKind.signed,IntKind.bits] using h2⟩
theorem DTy.bool_inv {d:D}(h:DTy .bool d):∃b,d=.bool b:=by
 cases h with
 |bool b=>exact⟨b,rfl⟩
 |other t d h=>exact h.elim
theorem DTy.slice_inv {e:Ty}{d:D}(h:DTy (.slice e) d):∃xs,d=.list xs∧xs.length≤maxLen∧∀x,x∈xs→DTy e.unf x:=by
 cases h with
 |slice e xs hm h=>exact⟨xs,rfl,hm,h⟩
 |other t d h=>exact h.elim
theorem DTy.agg_inv {ts:List Ty}{d:D}(h:DTy (.agg ts) d):∃ds,d=.agg ds∧DTys ts ds:=by
 cases h with
 |agg ts ds h=>exact⟨ds,rfl,h⟩
 |other t d h=>exact h.elim
theorem DTys.cons_inv {t:Ty}{ts:List Ty}{ds:List D}(h:DTys (t::ts) ds):∃d ds',ds=d::ds'∧DTy t d∧DTys ts ds':=by
 cases h with
 |cons h hs=>exact⟨_,_,rfl,h,hs⟩
theorem DTys.nil_inv {ds:List D}(h:DTys [] ds):ds=[]:=by cases h;rfl
theorem jR {α:Type}{enc:α→D}{P:α→Prop}{xs:List D}(h:∀x,x∈xs→∃a,x=enc a∧P a):∃l:List α,xs=l.map enc∧∀a,a∈l→P a:=by
 induction xs with
 |nil=>exact⟨[],rfl,fun _ h=>nomatch h⟩
 |cons x xs ih=>
  obtain⟨l,hl,hp⟩:=ih fun y hy=>h y (List.mem_cons_of_mem _ hy);obtain⟨a,ha,pa⟩:=h x (List.mem_cons_self ..)
  exact⟨a::l,by rw[hl,ha];rfl,fun b hb=>by
   rcases List.mem_cons.1 hb with e|hb
   ·rw[e];exact pa
   ·exact hp b hb⟩
theorem DTy.ints_inv {d:D}(h:DTy (.slice (.int .i64)) d):∃l:List Int,d=ints l∧l.length≤maxLen∧∀x,x∈l→aT x:=by
 obtain⟨xs,rfl,hm,hx⟩:=h.slice_inv;obtain⟨l,rfl,hl⟩:=jR (enc:=D.int) (P:=aT) fun x hh=>(hx x hh).i64_inv;exact⟨l,rfl,by simpa using hm,hl⟩
section
variable (ρ:Env) (T:cu)
@[simp] theorem aGP (t:Nat):PE.ev ρ (.r t)=ρ.r t:=_root_.id rfl
@[simp] theorem aGM (t:Nat):PE.ev ρ (.o t)=ρ.o t:=_root_.id rfl
@[simp] theorem aGx (d:D):PE.ev ρ (.con d)=d:=_root_.id rfl
@[simp] theorem aGu (e:PE)(i:Nat):PE.ev ρ (.cell e i)=(PE.ev ρ e).c i:=_root_.id rfl
@[simp] theorem aGZ (e:PE)(a n:Nat):PE.ev ρ (.sub e a n)=.agg (((PE.ev ρ e).cells.drop a).take n):=_root_.id rfl
@[simp] theorem aGS (e x:PE)(n:Nat):PE.ev ρ (.setc e n x)=.agg (cH (PE.ev ρ e).cells n (PE.ev ρ x).cells):=_root_.id rfl
@[simp] theorem aGF (es:List PE):PE.ev ρ (.mk es)=.agg (PE.evc ρ es):=_root_.id rfl
@[simp] theorem aGp (op:BinOp)(k:IntKind)(x y:PE):PE.ev ρ (.ai op k x y)=.v (.int k (bD op k (PE.ev ρ x).i (PE.ev ρ y).i)):=_root_.id rfl
@[simp] theorem aGv (op:BinOp)(x y:PE):PE.ev ρ (.ci op x y)=.v (.bool (gN op (PE.ev ρ x).i (PE.ev ρ y).i)):=_root_.id rfl
@[simp] theorem aGt (op:BinOp)(x y:PE):PE.ev ρ (.cb op x y)=.v (.bool (uM op (PE.ev ρ x).b (PE.ev ρ y).b)):=_root_.id rfl
@[simp] theorem aGz (op:BinOp)(x y:PE):PE.ev ρ (.cs op x y)=.v (.bool (uN op (PE.ev ρ x).s (PE.ev ρ y).s)):=_root_.id rfl
@[simp] theorem aGK (x:PE):PE.ev ρ (.nt x)=.v (.bool (!(PE.ev ρ x).b)):=_root_.id rfl
@[simp] theorem aGy (k:IntKind)(x:PE):PE.ev ρ (.conv k x)=.v (.int k (k.wrap (PE.ev ρ x).i)):=_root_.id rfl
@[simp] theorem aGN (c a b:PE):PE.ev ρ (.pick c a b)=if(PE.ev ρ c).b=true then PE.ev ρ a else PE.ev ρ b:=by
  simp only[PE.ev];cases(PE.ev ρ c).b<;>rfl
@[simp] theorem aGG (n:Nat)(e:PE):PE.ev ρ (ao n e)=gM n (PE.ev ρ e):=aoR ρ n e
@[simp] theorem aGs (x:PE):PE.ev ρ (.bytes x)=.list ((PE.ev ρ x).s.data.toList.map fun b=>.v (.int .u8 b.toNat)):=_root_.id rfl
@[simp] theorem aGC (x:PE):PE.ev ρ (.llen x)=.v (.int .i64 (PE.ev ρ x).l.length):=_root_.id rfl
@[simp] theorem aGW (x:PE):PE.ev ρ (.slen x)=.v (.int .i64 (PE.ev ρ x).s.size):=_root_.id rfl
@[simp] theorem aGH (x:PE):PE.ev ρ (.mlen x)=.v (.int .i64 (PE.ev ρ x).m.length):=_root_.id rfl
@[simp] theorem aGL (x i:PE):PE.ev ρ (.nth x i)=(PE.ev ρ x).l.getD (PE.ev ρ i).i.toNat .none:=_root_.id rfl
@[simp] theorem aGB (x i:PE):PE.ev ρ (.idx x i)=.v (.bool (decide (0≤(PE.ev ρ i).i∧(PE.ev ρ i).i<(PE.ev ρ x).l.length))):=_root_.id rfl
@[simp] theorem aGT (x i y:PE)(n:Nat):PE.ev ρ (.setn x i n y)=.list ((PE.ev ρ x).l.set (PE.ev ρ i).i.toNat (uh ((PE.ev ρ x).l.getD (PE.ev ρ i).i.toNat .none) n (PE.ev ρ y))):=_root_.id rfl
@[simp] theorem aGr (x y:PE):PE.ev ρ (.app x y)=.list ((PE.ev ρ x).l++(PE.ev ρ y).l):=_root_.id rfl
@[simp] theorem aGE (es:List PE):PE.ev ρ (.lst es)=.list (PE.evs ρ es):=_root_.id rfl
@[simp] theorem aGR (x y:PE):PE.ev ρ (.rep x y)=.list (List.replicate (PE.ev ρ x).i.toNat (PE.ev ρ y)):=_root_.id rfl
@[simp] theorem aGV (x a b:PE):PE.ev ρ (.slc x a b)=.list (((PE.ev ρ x).l.take (PE.ev ρ b).i.toNat).drop (PE.ev ρ a).i.toNat):=_root_.id rfl
@[simp] theorem aGX (x a b:PE):PE.ev ρ (.slok x a b)=.v (.bool (decide (0≤(PE.ev ρ a).i∧(PE.ev ρ a).i≤(PE.ev ρ b).i∧(PE.ev ρ b).i≤(PE.ev ρ x).l.length))):=_root_.id rfl
@[simp] theorem aGQ (x:PE):PE.ev ρ (.ref x)=.ref (PE.ev ρ x):=_root_.id rfl
@[simp] theorem aGA (x:PE):PE.ev ρ (.deref x)=(PE.ev ρ x).deref:=_root_.id rfl
@[simp] theorem aGD (m k z:PE):PE.ev ρ (.look m k z)=(gi (PE.ev ρ k) (PE.ev ρ m).m).getD (PE.ev ρ z):=_root_.id rfl
@[simp] theorem aGO (m k v:PE):PE.ev ρ (.put m k v)=.map (eF (PE.ev ρ k) (PE.ev ρ v) (PE.ev ρ m).m):=_root_.id rfl
@[simp] theorem aGI (x y:PE):PE.ev ρ (.mn x y)=if(PE.ev ρ y).i<(PE.ev ρ x).i then PE.ev ρ y else PE.ev ρ x:=by
  simp only[PE.ev];by_cases h:(PE.ev ρ y).i<(PE.ev ρ x).i<;>simp[h]
@[simp] theorem aGJ (x y:PE):PE.ev ρ (.mx x y)=if(PE.ev ρ y).i>(PE.ev ρ x).i then PE.ev ρ y else PE.ev ρ x:=by
  simp only[PE.ev];by_cases h:(PE.ev ρ y).i>(PE.ev ρ x).i<;>simp[h]
@[simp] theorem aG1 (es:List PE):PE.ev ρ (.tup es)=.tup (PE.evs ρ es):=_root_.id rfl
@[simp] theorem aG0 (x:PE)(i:Nat):PE.ev ρ (.tget x i)=(PE.ev ρ x).tget i:=_root_.id rfl
@[simp] theorem aGw (f:Nat)(es:List PE):PE.ev ρ (.clo f es)=.clo f (PE.evs ρ es):=_root_.id rfl
@[simp] theorem aGq (x y:PE):PE.ev ρ (.an x y)=.v (.bool ((PE.ev ρ x).b&&(PE.ev ρ y).b)):=_root_.id rfl
@[simp] theorem aG5:PE.evs ρ []=[]:=_root_.id rfl
@[simp] theorem aG4 (e:PE)(es:List PE):PE.evs ρ (e::es)=PE.ev ρ e::PE.evs ρ es:=_root_.id rfl
@[simp] theorem aG3:PE.evc ρ []=[]:=_root_.id rfl
@[simp] theorem aG2 (e:PE)(es:List PE):PE.evc ρ (e::es)=(PE.ev ρ e).cells++PE.evc ρ es:=_root_.id rfl
@[simp] theorem anK (x:Bool):(D.bool x).b=x:=_root_.id rfl
@[simp] theorem aGk (k:IntKind)(n:Int):(D.v (.int k n)).i=n:=_root_.id rfl
@[simp] theorem xp (n:Int):(D.int n).i=n:=_root_.id rfl
@[simp] theorem aGf (x:List D):(D.list x).l=x:=_root_.id rfl
@[simp] theorem aGd (l:List Int):(ints l).l=l.map .int:=_root_.id rfl
@[simp] theorem aGg (x:List (D×D)):(D.map x).m=x:=_root_.id rfl
@[simp] theorem aF4 (x:List D)(i:Nat):(D.agg x).c i=x.getD i .none:=_root_.id rfl
@[simp] theorem aF5 (x:List D):(D.agg x).cells=x:=_root_.id rfl
@[simp] theorem aGe (x:List D):(D.list x).cells=[.list x]:=_root_.id rfl
@[simp] theorem aGc (x:List Int):(ints x).cells=[ints x]:=_root_.id rfl
@[simp] theorem aF9 (n:Int):(D.int n).cells=[.int n]:=_root_.id rfl
@[simp] theorem aF6 (n:Bool):(D.bool n).cells=[.bool n]:=_root_.id rfl
@[simp] theorem aGj (x:Value):(D.v x).cells=[.v x]:=_root_.id rfl
@[simp] theorem aGi (x:List D)(i:Nat):(D.tup x).tget i=x.getD i .none:=_root_.id rfl
@[simp] theorem aGh (x:D):(D.ref x).deref=x:=_root_.id rfl
@[simp] theorem aJm (s:SE)(t:Nat):(s.ev ρ).r t=PE.ev ρ (s.getR t):=_root_.id rfl
@[simp] theorem aJl (s:SE)(t:Nat):(s.ev ρ).o t=PE.ev ρ (s.getO t):=_root_.id rfl
@[simp] theorem aHe (o:List (Nat×PE))(u:Nat):SE.getR ⟨[],o⟩ u=.r u:=_root_.id rfl
@[simp] theorem aHd (t:Nat)(e:PE)(r o:List (Nat×PE))(u:Nat):SE.getR ⟨(t,e)::r,o⟩ u=if t=u then e else SE.getR ⟨r,o⟩ u:=by
  simp only[SE.getR,aa];by_cases h:t=u
  ·subst h;simp
  ·simp[ez h,h]
@[simp] theorem aHc (r:List (Nat×PE))(u:Nat):SE.getO ⟨r,[]⟩ u=.o u:=_root_.id rfl
@[simp] theorem aHb (t:Nat)(e:PE)(r o:List (Nat×PE))(u:Nat):SE.getO ⟨r,(t,e)::o⟩ u=if t=u then e else SE.getO ⟨r,o⟩ u:=by
  simp only[SE.getO,aa];by_cases h:t=u
  ·subst h;simp
  ·simp[ez h,h]
@[simp] theorem setR_r (t u:Nat)(d:D):(ρ.setR t d).r u=if u=t then d else ρ.r u:=Env.setR_r ρ t u d
@[simp] theorem aJs (t u:Nat)(d:D):(ρ.setR t d).o u=ρ.o u:=_root_.id rfl
@[simp] theorem setO_o (t u:Nat)(d:D):(ρ.setO t d).o u=if u=t then d else ρ.o u:=Env.setO_o ρ t u d
@[simp] theorem aJr (t u:Nat)(d:D):(ρ.setO t d).r u=ρ.r u:=_root_.id rfl
@[simp] theorem aI9 (lr lo:List Nat)(vr vo:List D)(u:Nat):(ρ.put lr vr lo vo).r u=putL ρ.r lr vr u:=_root_.id rfl
@[simp] theorem aI8 (lr lo:List Nat)(vr vo:List D)(u:Nat):(ρ.put lr vr lo vo).o u=putL ρ.o lo vo u:=_root_.id rfl
@[simp] theorem join_r (ρ':Env)(lr lo:List Nat)(u:Nat):(ρ.join lr lo ρ').r u=if u∈lr then ρ'.r u else ρ.r u:=Env.join_r ρ ρ' lr lo u
@[simp] theorem join_o (ρ':Env)(lr lo:List Nat)(u:Nat):(ρ.join lr lo ρ').o u=if u∈lo then ρ'.o u else ρ.o u:=Env.join_o ρ ρ' lr lo u
@[simp] theorem aI6 (f:Nat→D)(i:Nat)(is:List Nat)(x:D)(xs:List D)(u:Nat):putL f (i::is) (x::xs) u=if u=i then x else putL f is xs u:=K8 f i is x xs u
@[simp] theorem aI7 (f:Nat→D)(xs:List D)(u:Nat):putL f [] xs u=f u:=K9 f xs u
@[simp] theorem aGm (ds:List D)(u:Nat):(kC ds).r u=ds.getD u .none:=_root_.id rfl
@[simp] theorem aHQ:holds [] ρ=true:=_root_.id rfl
@[simp] theorem aHP (g:Nat×Bool)(gs:List (Nat×Bool)):holds (g::gs) ρ=((ρ.r g.1).b==g.2&&holds gs ρ):=_root_.id rfl
variable (Q:Out→Prop)
@[simp] theorem aKa (s:SE):aI T (.next s) ρ Q=Q (.next (s.ev ρ)):=_root_.id rfl
@[simp] theorem aJ7 (id:Nat)(s:SE):aI T (.exit id s) ρ Q=Q (.exit id (s.ev ρ)):=_root_.id rfl
@[simp] theorem aKb (e:PE):aI T (.ret e) ρ Q=Q (.ret (e.ev ρ)):=_root_.id rfl
@[simp] theorem aJ6 (e:PE)(k:PT):aI T (.chk e k) ρ Q=((e.ev ρ).b=true∧aI T k ρ Q):=_root_.id rfl
@[simp] theorem aJ8 (c:PE)(a b:PT):aI T (.ite c a b) ρ Q=if(c.ev ρ).b=true then aI T a ρ Q else aI T b ρ Q:=_root_.id rfl
@[simp] theorem aJ4 (s:SE)(gs:List (Nat×Bool))(dst f:Nat)(args:List PE)(k:PT):aI T (.call s gs dst f args k) ρ Q=if holds gs (s.ev ρ)=true then ∃d,aj T f (PE.evs ρ args) d∧aI T k ((s.ev ρ).setR dst d) Q else aI T k (s.ev ρ) Q:=_root_.id rfl
@[simp] theorem aJ9 (s:SE)(c:PE)(lr lo:List Nat)(a b k:PT):aI T (.iteS s c lr lo a b k) ρ Q=if(c.ev ρ).b=true then aI T a (s.ev ρ) (kg (s.ev ρ) lr lo (fu (fun ρ'=>aI T k ρ' Q) Q)) else aI T b (s.ev ρ) (kg (s.ev ρ) lr lo (fu (fun ρ'=>aI T k ρ' Q) Q)):=_root_.id rfl
@[simp] theorem aJ2 (s:SE)(id:Nat)(lr lo:List Nat)(a k:PT):aI T (.blockS s id lr lo a k) ρ Q=aI T a (s.ev ρ) (la (s.ev ρ) id lr lo (fu (fun ρ'=>aI T k ρ' Q) Q)):=_root_.id rfl
@[simp] theorem aJ3 (s:SE)(c:PC)(k:PT):aI T (.brk s c k) ρ Q=aO T c (s.ev ρ) (fu (fun ρ'=>aI T k ρ' Q) Q):=_root_.id rfl
variable (K:Env→Prop) (id:Nat) (lr lo bo bn:List Nat) (K2:List D→List D→Prop)
@[simp] theorem aJp (ρ':Env):fu K Q (.next ρ')=K ρ':=_root_.id rfl
@[simp] theorem aJo (i:Nat)(ρ':Env):fu K Q (.exit i ρ')=Q (.exit i ρ'):=_root_.id rfl
@[simp] theorem aJq (d:D):fu K Q (.ret d)=Q (.ret d):=_root_.id rfl
@[simp] theorem aIc (ρ':Env):kg ρ lr lo Q (.next ρ')=Q (.next (ρ.join lr lo ρ')):=_root_.id rfl
@[simp] theorem aId (d:D):kg ρ lr lo Q (.ret d)=Q (.ret d):=_root_.id rfl
@[simp] theorem aFM (ρ':Env):la ρ id lr lo Q (.next ρ')=Q (.next (ρ.join lr lo ρ')):=_root_.id rfl
@[simp] theorem aFL (i:Nat)(ρ':Env):la ρ id lr lo Q (.exit i ρ')=if i=id then Q (.next (ρ.join lr lo ρ')) else Q (.exit i ρ'):=_root_.id rfl
@[simp] theorem aFN (d:D):la ρ id lr lo Q (.ret d)=Q (.ret d):=_root_.id rfl
@[simp] theorem aJh (ρ':Env):eH ρ id bo bn lr lo K2 Q (.next ρ')=K2 (lr.map ρ'.r) (lo.map ρ'.o):=_root_.id rfl
@[simp] theorem aJg (i:Nat)(ρ':Env):eH ρ id bo bn lr lo K2 Q (.exit i ρ')=if i=id then Q (.next (ρ.put bo (bo.map ρ'.r) bn (bn.map ρ'.o))) else Q (.exit i ρ'):=_root_.id rfl
@[simp] theorem aJi (d:D):eH ρ id bo bn lr lo K2 Q (.ret d)=Q (.ret d):=_root_.id rfl
@[simp] theorem aJ5 (s:SE)(gs:List (Nat×Bool))(dst:Nat)(e:PE)(args:List PE)(k:PT):aI T (.callc s gs dst e args k) ρ Q=if holds gs (s.ev ρ)=true then ∃f caps d,e.ev ρ=.clo f caps∧aj T f (PE.evs ρ args++caps) d∧aI T k ((s.ev ρ).setR dst d) Q else aI T k (s.ev ρ) Q:=_root_.id rfl
@[simp] theorem aGl (rt:Option PE)(K3:List D→Prop)(i:Nat)(ρ':Env):sD ρ lo rt K3 Q (.exit i ρ')=if i=cC then ∃e,rt=some e∧Q (.ret (e.ev (ρ.put [] [] lo (lo.map ρ'.o)))) else Q (.exit i (ρ.put [] [] lo (lo.map ρ'.o))):=_root_.id rfl
@[simp] theorem aGn (J:Nat)(ds:List D)(u:Nat):(xu J ds).r u=(D.none::ds).getD u .none:=_root_.id rfl
theorem aoP (J:Nat)(ds:List D)(u:Nat):(xu J ds).o u=if u=J then .list [] else .none:=by
 show(bif Nat.beq u J then D.list [] else .none)=_;by_cases h:u=J
 ·subst h;simp
 ·simp[ez h,h]
@[simp] theorem aI4 (p:Nat)(x:D):partsOf [p] x=[x.tget 0]:=_root_.id rfl
end
section
variable (k:IntKind) (a b:Int)
@[simp] theorem aFE:bD .add k a b=k.wrap (a+b):=_root_.id rfl
@[simp] theorem aFI:bD .sub k a b=k.wrap (a-b):=_root_.id rfl
@[simp] theorem aFF:bD .mul k a b=k.wrap (a*b):=_root_.id rfl
@[simp] theorem aFG:bD .quo k a b=k.wrap (a.tdiv b):=_root_.id rfl
@[simp] theorem aFH:bD .rem k a b=a.tmod b:=_root_.id rfl
@[simp] theorem aFW:gN .eql a b=(a==b):=_root_.id rfl
@[simp] theorem aF1:gN .neq a b=(a !=b):=_root_.id rfl
@[simp] theorem aF0:gN .lss a b=decide (a<b):=_root_.id rfl
@[simp] theorem aFZ:gN .leq a b=decide (a≤b):=_root_.id rfl
@[simp] theorem aFY:gN .gtr a b=decide (a>b):=_root_.id rfl
@[simp] theorem aFX:gN .geq a b=decide (a≥b):=_root_.id rfl
variable (x y:Bool)
@[simp] theorem aFP:uM .eql x y=(x==y):=_root_.id rfl
@[simp] theorem aFQ:uM .neq x y=(!(x==y)):=_root_.id rfl
end
theorem aj.of_tree {tab:Nat→Option PC}{ext:Nat→Option (aS→List D→Option D)}{f:Nat}{pc:PC}{t:PT}{ds:List D}{d:D}(hx:ext f=none)(ht:tab f=some pc)(he:tree pc=t)(h:aI (dK tab ext) t (kC ds) (fun x=>x=.ret d)):aj (dK tab ext) f ds d:=
 .of_pc hx ht (MI (he▸h))
@[simp] theorem aGb (n:Int):D.v (.int .i64 n)=D.int n:=_root_.id rfl
@[simp] theorem aF8 (b:Bool):D.v (.bool b)=D.bool b:=_root_.id rfl
@[simp] theorem aGa (a b:Int):(D.int a=D.int b)=(a=b):=by
  apply propext;constructor
  ·intro h;injection h with h;injection h
  ·intro h;rw[h]
@[simp] theorem aF7 (a b:Bool):(D.bool a=D.bool b)=(a=b):=by
  apply propext;constructor
  ·intro h;injection h with h;injection h
  ·intro h;rw[h]
section
variable (c:Prop) [Decidable c] (x y:D)
@[simp] theorem aIa:(if c then x else y).b=if c then x.b else y.b:=by split<;>rfl
@[simp] theorem aIb:(if c then x else y).i=if c then x.i else y.i:=by split<;>rfl
end
@[simp] theorem aKc:IntKind.i64.wrap 0=0:=aW (by omega)
end Cx
namespace Cx
open Go
inductive Tm where
 |mk (op n:Int) (args:List Tm)
instance:Inhabited Tm:=⟨.mk 0 0 []⟩
namespace Tm
def op:Tm→Int|.mk o _ _=>o
def n:Tm→Int|.mk _ n _=>n
def args:Tm→List Tm|.mk _ _ as=>as
end Tm
mutual
def dB:Tm→D
 |.mk o n as=>.agg [.int o,.int n,.list (GL as)]
def GL:List Tm→List D
 |[]=>[]
 |t::ts=>dB t::GL ts
end
theorem Oj:∀l:List Tm,GL l=l.map dB
 |[]=>rfl
 |t::l=>by rw[GL,Oj l];rfl
theorem Bn (t:Tm):dB t=.agg [.int t.op,.int t.n,.list (t.args.map dB)]:=by
 cases t with
 |mk o n as=>rw[dB,Oj];rfl
inductive Tm.OK:Tm→Prop where
 |mk (o n:Int) (as:List Tm) (h1:aT o) (h2:aT n) (h3:as.length≤maxLen) (h:∀a,a∈as→Tm.OK a):Tm.OK (.mk o n as)
theorem DTy.trm_inv {d:D}(h:DTy .trmA d):∃t:Tm,d=dB t∧t.OK:=by
 suffices hs:∀(m:Nat) (d:D),sizeOf d≤m→DTy .trmA d→∃t:Tm,d=dB t∧t.OK from hs _ d (Nat.le_refl _) h
 intro m
 induction m with
 |zero=>
  intro d hm h;cases d<;>simp at hm
 |succ m ih=>
  intro d hm h;obtain⟨ds,rfl,hs⟩:=DTy.agg_inv h;obtain⟨d1,ds,rfl,h1,hs⟩:=hs.cons_inv;obtain⟨d2,ds,rfl,h2,hs⟩:=hs.cons_inv;obtain⟨d3,ds,rfl,h3,hs⟩:=hs.cons_inv;obtain rfl:=hs.nil_inv;obtain⟨o,rfl,b1⟩:=h1.i64_inv;obtain⟨n,rfl,b2⟩:=h2.i64_inv;obtain⟨xs,rfl,hl,hx⟩:=h3.slice_inv
  obtain⟨l,rfl,az⟩:=jR (enc:=dB) (P:=Tm.OK) fun x hh=>ih x (by
   have:=List.sizeOf_lt_of_mem hh;simp at hm;omega) (hx x hh)
  exact⟨.mk o n l,by rw[dB,Oj],.mk o n l b1 b2 (by simpa using hl) az⟩
theorem DTy.trms_inv {d:D}(h:DTy (.slice .trm) d):∃l:List Tm,d=.list (l.map dB)∧l.length≤maxLen∧∀t,t∈l→t.OK:=by
 obtain⟨xs,rfl,hl,hx⟩:=h.slice_inv;obtain⟨l,rfl,az⟩:=jR (enc:=dB) (P:=Tm.OK) fun x hh=>DTy.trm_inv (hx x hh);exact⟨l,rfl,by simpa using hl,az⟩
end Cx
namespace Cx
open Go
def Tv (g:Nat)(zs:List Int):Nat→Option (Ty×D):=fun k=>bif Nat.beq k g then some (.agg (zs.map fun _=>.int .i64),.agg (zs.map fun z=>.v (.int .i64 z))) else none
theorem Mq {C:Ctx}{g:Nat}{zs:List Int}{name:String}{W:World}(hC:C.glob=Tv g zs)(hg:C.P.globalNamed name=some g)(hz:zs.all (fun z=>decide (IntKind.i64.min≤z)&&decide (z≤IntKind.i64.max))=true)
 (h:Lib.TabIs C.P W name .i64 zs):CtxOK C (kf W):=by
 refine⟨fun k x hx=>?_⟩;rw[hC] at hx;unfold Tv at hx;cases hk:Nat.beq k g<;>simp only[hk,cond_true,cond_false] at hx
 ·cases hx
 cases hx;obtain rfl:=Nat.eq_of_beq_eq_true hk
 have Cp:Rep C.cap (kf W) (.agg (zs.map fun _=>.int .i64)) (.agg (zs.map fun z=>Value.int .i64 z).toArray) (.agg (zs.map fun z=>.v (.int .i64 z))):=by
  refine .agg _ _ _ (by simp) (by simp) (fun i t ht=>?_) (fun i t ht=>?_)
  ·rw[List.getElem?_map,Option.map_eq_some_iff] at ht;obtain⟨z,vG,rfl⟩:=ht;rw[List.getD_eq_getElem?_getD,List.getD_eq_getElem?_getD,List.getElem?_map,List.getElem?_map,vG];have:=List.all_eq_true.1 hz z (List.mem_of_getElem? vG);simp only[Bool.and_eq_true,decide_eq_true_eq] at this;exact .int _ _ this.1 this.2
  ·rw[List.getElem?_map,Option.map_eq_some_iff] at ht;obtain⟨z,_,rfl⟩:=ht;rfl
 refine .ref _ k 0 _ _ Cp fun j u hu=>?_;simp only[Value.cells,List.getElem?_toArray,List.getElem?_map,Option.map_eq_some_iff] at hu;obtain⟨z,vG,rfl⟩:=hu;have af:=(List.getElem?_eq_some_iff.1 vG).1;have:=h.cell hg j af;show W.cell? ⟨k,0+j,none⟩=_;rw[Nat.zero_add,this,List.getD_eq_getElem?_getD,vG];rfl
end Cx
namespace Cx
open Go Go.RowKit
def loops:PC→List PC
 |.seq a b=>loops a++loops b
 |.ite _ _ _ a b=>loops a++loops b
 |.block id lr lo (.loop QA Qu a)=>loops a++[.block id lr lo (.loop QA Qu a)]
 |.block _ _ _ a=>loops a
 |.loop _ _ a=>loops a
 |.each e ps lo rt a=>loops a++[.each e ps lo rt a]
 |.meach J ps cR lo a=>loops a++[.meach J ps cR lo a]
 |_=>[]
def NS:PC→PC
 |.block _ _ _ (.loop _ _ a)=>a
 |.each _ _ _ _ a=>a
 |.meach _ _ _ _ a=>a
 |_=>.skip
def H9 (c:PC)(k:Nat):PC:=(loops c).getD k .skip
def rnd:PC→PT
 |.block id lr lo (.loop QA Qu a)=>round id lr lo QA Qu a
 |.each _ _ lo _ a=>po lo a
 |.meach _ _ _ lo a=>po lo a
 |_=>.next .id
inductive Shp where
 |lp (id:Nat) (bo bn lr lo:List Nat)
 |ea (lo:List Nat)
 |no
def zp:PC→Shp
 |.block id bo bn (.loop lr lo _)=>.lp id bo bn lr lo
 |.each _ _ lo _ _=>.ea lo
 |.meach _ _ _ lo _=>.ea lo
 |_=>.no
def told (c:PC):PT×List (Shp×PT):=(tree c,(loops c).map fun l=>(zp l,rnd l))
theorem Mv {o:Option PC}{t:PT}{l:List (Shp×PT)}(h:o.map told=some (t,l)):o=some (o.getD .skip)∧tree (o.getD .skip)=t∧∀k x,l[k]?=some x→(zp (H9 (o.getD .skip) k),rnd (H9 (o.getD .skip) k))=x:=by
 cases o with
 |none=>cases h
 |some c=>
  have h1:told c=(t,l):=by injection h
  unfold told at h1;injection h1 with h1 h2
  refine⟨rfl,h1,fun k x hx=>?_⟩;subst h2;simp only[List.getElem?_map,Option.map_eq_some_iff] at hx;obtain⟨y,hy,rfl⟩:=hx;have:H9 ((some c:Option PC).getD .skip) k=y:=by
   show(loops c).getD k .skip=y;rw[List.getD_eq_getElem?_getD,hy];rfl
  rw[this]
theorem ayG {c:PC}{id:Nat}{bo bn lr lo:List Nat}{t:PT}(h:(zp c,rnd c)=(.lp id bo bn lr lo,t)):round id bo bn lr lo (NS c)=t:=by
 injection h with h1 h2
 subst h2;unfold zp at h1;split at h1
 ·cases h1;rfl
 all_goals cases h1
theorem aoz {c:PC}{lo:List Nat}{t:PT}(h:(zp c,rnd c)=(.ea lo,t)):po lo (NS c)=t:=by
 injection h with h1 h2
 subst h2;unfold zp at h1;split at h1
 ·cases h1
 ·cases h1;rfl
 ·cases h1;rfl
 ·cases h1
noncomputable def bL {α:Type}(x:α):α:=Classical.choose (⟨x,rfl⟩:∃y,y=x)
theorem B1 {α:Type}(x:α):bL x=x:=Classical.choose_spec (⟨x,rfl⟩:∃y,y=x)
noncomputable def au (o:Option PC):Nat→PC:=fun k=>NS (H9 (o.getD .skip) k)
noncomputable abbrev av (o:Option PC):PC:=bL (o.getD .skip)
noncomputable abbrev bx (o:Option PC):Nat→PC:=bL (au o)
section
variable {o:Option PC} {F:(Nat→PC)→PT×List (Shp×PT)}
theorem ax (h:o.map told=some (F (au o))):o=some (av o):=by unfold av;rw[B1];exact(Mv (t:=(F (au o)).1) (l:=(F (au o)).2) h).1
theorem ay (h:o.map told=some (F (au o))):tree (av o)=(F (bx o)).1:=by unfold av bx;rw[B1,B1];exact(Mv (t:=(F (au o)).1) (l:=(F (au o)).2) h).2.1
theorem bt (h:o.map told=some (F (au o)))(k:Nat){id:Nat}{bo bn lr lo:List Nat}{t:(Nat→PC)→PT}(hk:∀b,(F b).2[k]?=some (.lp id bo bn lr lo,t b)):round id bo bn lr lo (bx o k)=t (bx o):=by
 unfold bx;rw[B1];exact ayG ((Mv (t:=(F (au o)).1) (l:=(F (au o)).2) h).2.2 k _ (hk _))
theorem TB (h:o.map told=some (F (au o)))(k:Nat){lo:List Nat}{t:(Nat→PC)→PT}(hk:∀b,(F b).2[k]?=some (.ea lo,t b)):po lo (bx o k)=t (bx o):=by
 unfold bx;rw[B1];exact aoz ((Mv (t:=(F (au o)).1) (l:=(F (au o)).2) h).2.2 k _ (hk _))
end
theorem aB {α:Type}{R:Nat→α→Prop}{f:Nat}{x:α}{l:List (Nat×α)}(h:R f x)(k:Ez R l):Ez R ((f,x)::l):=⟨h,k⟩
theorem aA {α:Type}:∀{l:List (Nat×α)},(l.map (·.1)).Nodup→∀{k f:Nat} {x:α},l[k]?=some (f,x)→aa l f=some x
 |[],_,k,f,x,h=>by simp at h
 |y::l,hn,0,f,x,h=>by
  simp only[List.getElem?_cons_zero,Option.some.injEq] at h;subst h;simp[aa]
 |y::l,hn,k+1,f,x,h=>by
  simp only[List.getElem?_cons_succ] at h;rw[List.map_cons,List.nodup_cons] at hn;have hm:f∈l.map (·.1):=List.mem_map.2 ⟨(f,x),List.mem_of_getElem? h,rfl⟩;have hb:Nat.beq y.1 f=false:=by
   cases e:Nat.beq y.1 f with
   |false=>rfl
   |true=>rw[cK e] at hn;exact absurd hm hn.1
  simp only[aa,hb,cond_false];exact aA hn.2 h
abbrev pT:PE:=.con (.bool true)
abbrev pF:PE:=.con (.bool false)
abbrev pN:PE:=.con .none
abbrev pL:PE:=.con (.list [])
abbrev pi (n:Int):PE:=.con (.int n)
abbrev aH (a b:PE):PE:=.ai .add .i64 a b
abbrev bJ (a b:PE):PE:=.ai .sub .i64 a b
abbrev ah (a b:PE):PE:=.ci .eql a b
abbrev aL (a b:PE):PE:=.ci .neq a b
abbrev aq (a b:PE):PE:=.ci .lss a b
abbrev bz (a b:PE):PE:=.ci .leq a b
abbrev bj (a b:PE):PE:=.ci .gtr a b
abbrev aY (a b:PE):PE:=.ci .geq a b
abbrev pc (a:PE)(i:Nat):PE:=.cell a i
abbrev pn (a b:PE):PE:=.nth a b
abbrev aD (a b:PE):PE:=.idx a b
abbrev z2:PE:=.con (.agg [(.int 0),(.int 0)])
abbrev z3:PE:=.con (.agg [(.int 0),(.int 0),(.int 0)])
abbrev z4:PE:=.con (.agg [(.int 0),(.int 0),(.int 0),(.int 0)])
abbrev z5:PE:=.con (.agg [(.int 0),(.int 0),(.int 0),(.int 0),(.int 0)])
abbrev z6:PE:=.con (.agg [(.int 0),(.int 0),(.int 0),(.int 0),(.int 0),(.int 0)])
abbrev z7:PE:=.con (.agg [(.int 0),(.int 0),(.int 0),(.int 0),(.int 0),(.int 0),(.int 0)])
abbrev z9:PE:=.con (.agg [(.int 0),(.int 0),(.int 0),(.int 0),(.int 0),(.int 0),(.int 0),(.int 0),(.int 0)])
abbrev MS:PE:=.con (.agg [(.int 0),(.int 0),(.int 0),(.int 0),(.int 0),(.int 0),(.int 0),(.int 0),(.int 0),(.int 0),(.int 0),(.int 0),(.int 0),(.int 0),(.int 0)])
abbrev r0:PE:=.r 0
abbrev r1:PE:=.r 1
abbrev r2:PE:=.r 2
abbrev r3:PE:=.r 3
abbrev r4:PE:=.r 4
abbrev r5:PE:=.r 5
abbrev r6:PE:=.r 6
abbrev r7:PE:=.r 7
abbrev r8:PE:=.r 8
abbrev r9:PE:=.r 9
abbrev cP:PE:=.r 10
abbrev bp:PE:=.r 11
abbrev cn:PE:=.r 12
abbrev cB:PE:=.r 13
abbrev dc:PE:=.r 14
abbrev cm:PE:=.r 15
abbrev cQ:PE:=.r 16
abbrev kP:PE:=.r 17
abbrev cT:PE:=.r 18
abbrev iK:PE:=.r 19
abbrev dG:PE:=.r 20
abbrev jU:PE:=.r 21
abbrev y8:PE:=.r 22
abbrev fF:PE:=.r 23
abbrev qw:PE:=.r 24
abbrev iL:PE:=.r 25
abbrev nM:PE:=.r 26
abbrev eG:PE:=.r 27
abbrev tR:PE:=.r 28
abbrev qx:PE:=.r 29
abbrev mS:PE:=.r 30
abbrev oX:PE:=.r 31
abbrev y9:PE:=.r 32
abbrev tS:PE:=.r 33
abbrev Sb:PE:=.r 34
abbrev nN:PE:=.r 35
abbrev gW:PE:=.r 36
abbrev kQ:PE:=.r 37
abbrev kR:PE:=.r 38
abbrev tT:PE:=.r 39
abbrev rR:PE:=.r 40
abbrev lI:PE:=.r 41
abbrev Sc:PE:=.r 42
abbrev rS:PE:=.r 43
abbrev wF:PE:=.r 44
abbrev qy:PE:=.r 45
abbrev Dm:PE:=.r 46
abbrev za:PE:=.r 47
abbrev jv:PE:=.r 48
abbrev qz:PE:=.r 49
abbrev lJ:PE:=.r 50
abbrev oY:PE:=.r 51
abbrev zb:PE:=.r 52
abbrev r53:PE:=.r 53
abbrev qA:PE:=.r 54
abbrev tU:PE:=.r 55
abbrev oZ:PE:=.r 56
abbrev tV:PE:=.r 57
abbrev rT:PE:=.r 58
abbrev LD:PE:=.r 59
abbrev wG:PE:=.r 60
abbrev Sd:PE:=.r 61
abbrev pf:PE:=.r 62
abbrev LF:PE:=.r 63
abbrev nO:PE:=.r 64
abbrev zc:PE:=.r 65
abbrev r66:PE:=.r 66
abbrev wH:PE:=.r 67
abbrev r68:PE:=.r 68
abbrev zd:PE:=.r 69
abbrev r70:PE:=.r 70
abbrev r71:PE:=.r 71
abbrev LG:PE:=.r 72
abbrev Dn:PE:=.r 73
abbrev Se:PE:=.r 74
abbrev r75:PE:=.r 75
abbrev rU:PE:=.r 76
abbrev r77:PE:=.r 77
abbrev r78:PE:=.r 78
abbrev r79:PE:=.r 79
abbrev wI:PE:=.r 80
abbrev tW:PE:=.r 81
abbrev jV:PE:=.r 82
abbrev r83:PE:=.r 83
abbrev r84:PE:=.r 84
abbrev Dp:PE:=.r 85
abbrev r86:PE:=.r 86
abbrev ze:PE:=.r 87
abbrev Sf:PE:=.r 88
abbrev r89:PE:=.r 89
abbrev r90:PE:=.r 90
abbrev r91:PE:=.r 91
abbrev Sg:PE:=.r 92
abbrev Si:PE:=.r 93
abbrev r94:PE:=.r 94
abbrev r95:PE:=.r 95
abbrev r96:PE:=.r 96
abbrev r98:PE:=.r 98
abbrev r99:PE:=.r 99
abbrev afn:PE:=.r 103
abbrev ayl:PE:=.r 104
abbrev R8:PE:=.r 106
abbrev R9:PE:=.r 108
abbrev aym:PE:=.r 109
abbrev ayn:PE:=.r 111
abbrev Sa:PE:=.r 112
abbrev LB:PE:=.r 114
abbrev afo:PE:=.r 115
abbrev wD:PE:=.r 116
abbrev ayo:PE:=.r 121
abbrev ayp:PE:=.r 127
abbrev aJa:PE:=.r 128
abbrev o0:PE:=.o 0
abbrev o1:PE:=.o 1
abbrev o2:PE:=.o 2
abbrev o3:PE:=.o 3
abbrev o4:PE:=.o 4
abbrev o5:PE:=.o 5
abbrev o6:PE:=.o 6
abbrev o7:PE:=.o 7
abbrev o8:PE:=.o 8
abbrev o9:PE:=.o 9
abbrev bQ:PE:=.o 10
abbrev qo:PE:=.o 11
abbrev gj:PE:=.o 12
abbrev Ir:PE:=.o 13
abbrev bH:PE:=.o 14
abbrev nC:PE:=.o 15
abbrev fS:PE:=.o 16
abbrev o17:PE:=.o 17
abbrev o18:PE:=.o 18
abbrev Is:PE:=.o 45
end Cx
