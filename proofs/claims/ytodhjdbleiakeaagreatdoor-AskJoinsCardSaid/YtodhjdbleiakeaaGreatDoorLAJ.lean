/-
  Shared texts of this claim.
-/
import Derived.Test.YtodhjdbleiakeaaGreatDoorLAI
import Derived.Lib.LaidTab
set_option linter.unusedSimpArgs false
set_option linter.unusedVariables false
namespace Cx
open Go Go.RowKit
structure SE where
 r:List (Nat×PE)
 o:List (Nat×PE)
def SE.getR (s:SE)(t:Nat):PE:=match ae s.r t with|some e=>e|none=>.r t
def SE.getO (s:SE)(t:Nat):PE:=match ae s.o t with|some e=>e|none=>.o t
def SE.setR (s:SE)(t:Nat)(e:PE):SE:=⟨(t,e)::s.r,s.o⟩
def SE.setO (s:SE)(t:Nat)(e:PE):SE:=⟨s.r,(t,e)::s.o⟩
def SE.id:SE:=⟨[],[]⟩
def SE.ev (s:SE)(ρ:Env):Env:=⟨fun t=>(s.getR t).ev ρ,fun t=>(s.getO t).ev ρ⟩
def SE.join (s:SE)(lr lo:List Nat)(s':SE):SE:=⟨lr.map (fun t=>(t,s'.getR t))++s.r,lo.map (fun t=>(t,s'.getO t))++s.o⟩
theorem SE.setR_ev (s:SE)(t:Nat)(e:PE)(ρ:Env):(s.setR t e).ev ρ=(s.ev ρ).setR t (e.ev ρ):=by
 have h:(fun u=>((s.setR t e).getR u).ev ρ)=bN (fun u=>(s.getR u).ev ρ) t (e.ev ρ):=by
  funext u;simp only[SE.getR,SE.setR,ae,fb];by_cases h:t=u
  ·subst h;simp
  ·have h':¬u=t:=fun e=>h e.symm;simp[dI h,h']
 simp only[SE.ev,Env.setR];rw[h];rfl
theorem SE.setO_ev (s:SE)(t:Nat)(e:PE)(ρ:Env):(s.setO t e).ev ρ=(s.ev ρ).setO t (e.ev ρ):=by
 have h:(fun u=>((s.setO t e).getO u).ev ρ)=bN (fun u=>(s.getO u).ev ρ) t (e.ev ρ):=by
  funext u;simp only[SE.getO,SE.setO,ae,fb];by_cases h:t=u
  ·subst h;simp
  ·have h':¬u=t:=fun e=>h e.symm;simp[dI h,h']
 simp only[SE.ev,Env.setO];rw[h];rfl
theorem sU {f:Nat→PE}{l:List (Nat×PE)}{u:Nat}:∀(lr:List Nat),ae (lr.map (fun t=>(t,f t))++l) u=if u∈lr then some (f u) else ae l u
 |[]=>by simp
 |t::lr=>by
  simp only[List.map_cons,List.cons_append,ae,sU lr,List.mem_cons];by_cases h:t=u
  ·subst h;simp
  ·have h':¬u=t:=fun e=>h e.symm;simp[dI h,h']
theorem SE.join_ev (s s':SE)(lr lo:List Nat)(ρ:Env):(s.join lr lo s').ev ρ=(s.ev ρ).join lr lo (s'.ev ρ):=by
 have h1:∀u,((s.join lr lo s').getR u).ev ρ=((s.ev ρ).join lr lo (s'.ev ρ)).r u:=by
  intro u;rw[Env.join_r];have e:ae (s.join lr lo s').r u=if u∈lr then some (s'.getR u) else ae s.r u:=sU lr;unfold SE.getR;rw[e];by_cases h:u∈lr
  ·simp only[h,if_true];rfl
  ·simp only[h,if_false];rfl
 have h2:∀u,((s.join lr lo s').getO u).ev ρ=((s.ev ρ).join lr lo (s'.ev ρ)).o u:=by
  intro u;rw[Env.join_o];have e:ae (s.join lr lo s').o u=if u∈lo then some (s'.getO u) else ae s.o u:=sU lo;unfold SE.getO;rw[e];by_cases h:u∈lo
  ·simp only[h,if_true];rfl
  ·simp only[h,if_false];rfl
 have e1:(fun u=>((s.join lr lo s').getR u).ev ρ)=((s.ev ρ).join lr lo (s'.ev ρ)).r:=funext h1;have e2:(fun u=>((s.join lr lo s').getO u).ev ρ)=((s.ev ρ).join lr lo (s'.ev ρ)).o:=funext h2;show Env.mk _ _=_;rw[e1,e2]
abbrev bG:=List (PE×Bool)
def bG.ok (ab:bG)(ρ:Env):Prop:=∀x,x∈ab→(x.1.ev ρ).b=x.2
def Cj (e:PE):bG→Option Bool
 |[]=>none
 |x::l=>bif PE.beq x.1 e then some x.2 else Cj e l
theorem SB {e:PE}{ρ:Env}{b:Bool}:∀{ab:bG},ab.ok ρ→Cj e ab=some b→(e.ev ρ).b=b
 |[],_,h=>by cases h
 |x::l,ax,h=>by
  simp only[Cj] at h;cases hb:PE.beq x.1 e<;>simp only[hb,cond_true,cond_false] at h
  ·exact SB (fun y hy=>ax y (List.mem_cons_of_mem _ hy)) h
  ·cases h;rw[←PE.beq_eq _ _ hb];exact ax x (List.mem_cons_self ..)
def rC (ab:bG):PE→Option Bool
 |.con (.v (.bool b))=>some b
 |.nt x=>(rC ab x).map (!·)
 |e=>Cj e ab
theorem tS {ab:bG}{ρ:Env}(h:ab.ok ρ):∀{e:PE} {b:Bool},rC ab e=some b→(e.ev ρ).b=b
 |.con (.v (.bool b)),b',he=>by simp only[rC,Option.some.injEq] at he;subst he;rfl
 |.nt x,b',he=>by
  simp only[rC,Option.map_eq_some_iff] at he;obtain⟨c,hc,rfl⟩:=he;simp only[PE.ev,D.b_bool,tS h hc]
 |e,b',he=>by
  unfold rC at he;split at he
  ·cases he;rfl
  ·rename_i x;simp only[Option.map_eq_some_iff] at he;obtain⟨c,hc,rfl⟩:=he;simp only[PE.ev,D.b_bool,tS h hc]
  ·exact SB h he
def pC (ab:bG)(c a b:PE):PE:=match rC ab c with|some true=>a|some false=>b|none=>.pick c a b
theorem Of {ab:bG}{ρ:Env}(h:ab.ok ρ)(c a b:PE):(pC ab c a b).ev ρ=(PE.pick c a b).ev ρ:=by
 unfold pC;split
 ·rename_i ht;simp[PE.ev,tS h ht]
 ·rename_i ht;simp[PE.ev,tS h ht]
 ·rfl
def J7:PE→PE
 |.ref x=>x
 |x=>.deref x
theorem aie (x:PE)(ρ:Env):(J7 x).ev ρ=(PE.deref x).ev ρ:=by unfold J7;split<;>rfl
def P4:PE→Nat→PE
 |.tup es,i=>es.getD i (.con .none)
 |x,i=>.tget x i
theorem au4 (x:PE)(i:Nat)(ρ:Env):(P4 x i).ev ρ=(PE.tget x i).ev ρ:=by
 unfold P4;split
 ·rename_i es;simp only[PE.ev,D.tget_tup,PE.evs_eq,List.getD_eq_getElem?_getD,List.getElem?_map];cases es[i]?<;>rfl
 ·rfl
def AA:PE→Bool
 |.ai ..|.ci ..|.cb ..|.cs ..|.sadd ..|.nt _|.conv ..|.llen _|.bytes _|.slen _|.mlen _|.idx ..|.sidx ..|.sok ..|.slok ..|.lst _|.app ..|.setn ..|.rep ..|.slc ..|.ref _|.has ..|.put ..|.an ..|.imp ..|.tup _|.clo ..=>true
 |.con (.v _)|.con (.list _)|.con (.map _)=>true
 |_=>false
theorem asu {e:PE}(h:AA e=true)(ρ:Env):(e.ev ρ).cells=[e.ev ρ]:=by
 unfold AA at h;split at h<;>first|rfl|cases h
def JX:PE→Nat→PE
 |.mk es,i=>bif es.all AA then es.getD i (.con .none) else .cell (.mk es) i
 |x,i=>.cell x i
theorem Ui {ρ:Env}:∀{es:List PE},es.all AA=true→PE.evc ρ es=PE.evs ρ es
 |[],_=>rfl
 |e::es,h=>by
  simp only[List.all_cons,Bool.and_eq_true] at h;simp only[PE.evc,PE.evs,asu h.1,Ui h.2];rfl
theorem afV (x:PE)(i:Nat)(ρ:Env):(JX x i).ev ρ=(PE.cell x i).ev ρ:=by
 unfold JX;split
 ·rename_i es;cases hc:es.all AA
  ·rfl
  ·simp only[cond_true,PE.ev,Ui hc,D.c_agg,PE.evs_eq,List.getD_eq_getElem?_getD,List.getElem?_map];cases es[i]?<;>rfl
 ·rfl
def zg (s:SE):List (Nat×Bool)→PE
 |[]=>.con (.v (.bool true))
 |g::gs=>.an (bif g.2 then s.getR g.1 else .nt (s.getR g.1)) (zg s gs)
theorem UG (s:SE)(ρ:Env):∀gs,((zg s gs).ev ρ).b=holds gs (s.ev ρ)
 |[]=>rfl
 |g::gs=>by
  have ih:=UG s ρ gs;rw[anW,←ih];have e:((s.ev ρ).r g.1)=(s.getR g.1).ev ρ:=rfl;rw[e];cases hg:g.2
  ·simp only[zg,hg,cond_false,PE.ev,D.b_bool];cases((s.getR g.1).ev ρ).b<;>rfl
  ·simp only[zg,hg,cond_true,PE.ev,D.b_bool];cases((s.getR g.1).ev ρ).b<;>rfl
mutual
def PE.sub' (ab:bG)(s:SE):PE→PE
 |.r t=>s.getR t
 |.o j=>s.getO j
 |.con d=>.con d
 |.cell e i=>JX (PE.sub' ab s e) i
 |.sub e a b=>.sub (PE.sub' ab s e) a b
 |.setc e q x=>.setc (PE.sub' ab s e) q (PE.sub' ab s x)
 |.mk es=>.mk (PE.subs' ab s es)
 |.ai op k x y=>.ai op k (PE.sub' ab s x) (PE.sub' ab s y)
 |.ci op x y=>.ci op (PE.sub' ab s x) (PE.sub' ab s y)
 |.cb op x y=>.cb op (PE.sub' ab s x) (PE.sub' ab s y)
 |.cs op x y=>.cs op (PE.sub' ab s x) (PE.sub' ab s y)
 |.sadd x y=>.sadd (PE.sub' ab s x) (PE.sub' ab s y)
 |.nt x=>.nt (PE.sub' ab s x)
 |.conv k x=>.conv k (PE.sub' ab s x)
 |.pick c a b=>pC ab (PE.sub' ab s c) (PE.sub' ab s a) (PE.sub' ab s b)
 |.llen x=>.llen (PE.sub' ab s x)
 |.bytes x=>.bytes (PE.sub' ab s x)
 |.slen x=>.slen (PE.sub' ab s x)
 |.mlen x=>.mlen (PE.sub' ab s x)
 |.nth x y=>.nth (PE.sub' ab s x) (PE.sub' ab s y)
 |.idx x y=>.idx (PE.sub' ab s x) (PE.sub' ab s y)
 |.sidx x y=>.sidx (PE.sub' ab s x) (PE.sub' ab s y)
 |.sok x y=>.sok (PE.sub' ab s x) (PE.sub' ab s y)
 |.setn x y n z=>.setn (PE.sub' ab s x) (PE.sub' ab s y) n (PE.sub' ab s z)
 |.app x y=>.app (PE.sub' ab s x) (PE.sub' ab s y)
 |.lst es=>.lst (PE.subs' ab s es)
 |.rep x y=>.rep (PE.sub' ab s x) (PE.sub' ab s y)
 |.slc x y z=>.slc (PE.sub' ab s x) (PE.sub' ab s y) (PE.sub' ab s z)
 |.slok x y z=>.slok (PE.sub' ab s x) (PE.sub' ab s y) (PE.sub' ab s z)
 |.ref x=>.ref (PE.sub' ab s x)
 |.deref x=>J7 (PE.sub' ab s x)
 |.look x y z=>.look (PE.sub' ab s x) (PE.sub' ab s y) (PE.sub' ab s z)
 |.has x y=>.has (PE.sub' ab s x) (PE.sub' ab s y)
 |.put x y z=>.put (PE.sub' ab s x) (PE.sub' ab s y) (PE.sub' ab s z)
 |.mn x y=>.mn (PE.sub' ab s x) (PE.sub' ab s y)
 |.mx x y=>.mx (PE.sub' ab s x) (PE.sub' ab s y)
 |.tup es=>.tup (PE.subs' ab s es)
 |.tget x i=>P4 (PE.sub' ab s x) i
 |.clo f es=>.clo f (PE.subs' ab s es)
 |.an x y=>.an (PE.sub' ab s x) (PE.sub' ab s y)
 |.imp c x=>.nt (.an (zg s c) (.nt (PE.sub' ab s x)))
def PE.subs' (ab:bG)(s:SE):List PE→List PE
 |[]=>[]
 |e::es=>PE.sub' ab s e::PE.subs' ab s es
end
mutual
theorem PE.sub_ev {ab:bG}{ρ:Env}(h:ab.ok ρ)(s:SE):∀(e:PE),(PE.sub' ab s e).ev ρ=e.ev (s.ev ρ)
 |.r t=>rfl
 |.o j=>rfl
 |.con d=>rfl
 |.cell e i=>by simp only[PE.sub',afV,PE.ev,PE.sub_ev h s e]
 |.sub e a b=>by simp only[PE.sub',PE.ev,PE.sub_ev h s e]
 |.setc e q x=>by simp only[PE.sub',PE.ev,PE.sub_ev h s e,PE.sub_ev h s x]
 |.mk es=>by simp only[PE.sub',PE.ev,PE.subc_ev h s es]
 |.ai op k x y=>by simp only[PE.sub',PE.ev,PE.sub_ev h s x,PE.sub_ev h s y]
 |.ci op x y=>by simp only[PE.sub',PE.ev,PE.sub_ev h s x,PE.sub_ev h s y]
 |.cb op x y=>by simp only[PE.sub',PE.ev,PE.sub_ev h s x,PE.sub_ev h s y]
 |.cs op x y=>by simp only[PE.sub',PE.ev,PE.sub_ev h s x,PE.sub_ev h s y]
 |.sadd x y=>by simp only[PE.sub',PE.ev,PE.sub_ev h s x,PE.sub_ev h s y]
 |.nt x=>by simp only[PE.sub',PE.ev,PE.sub_ev h s x]
 |.conv k x=>by simp only[PE.sub',PE.ev,PE.sub_ev h s x]
 |.pick c a b=>by simp only[PE.sub',Of h,PE.ev,PE.sub_ev h s c,PE.sub_ev h s a,PE.sub_ev h s b]
 |.llen x=>by simp only[PE.sub',PE.ev,PE.sub_ev h s x]
 |.bytes x=>by simp only[PE.sub',PE.ev,PE.sub_ev h s x]
 |.slen x=>by simp only[PE.sub',PE.ev,PE.sub_ev h s x]
 |.mlen x=>by simp only[PE.sub',PE.ev,PE.sub_ev h s x]
 |.nth x y=>by simp only[PE.sub',PE.ev,PE.sub_ev h s x,PE.sub_ev h s y]
 |.idx x y=>by simp only[PE.sub',PE.ev,PE.sub_ev h s x,PE.sub_ev h s y]
 |.sidx x y=>by simp only[PE.sub',PE.ev,PE.sub_ev h s x,PE.sub_ev h s y]
 |.sok x y=>by simp only[PE.sub',PE.ev,PE.sub_ev h s x,PE.sub_ev h s y]
 |.setn x y n z=>by simp only[PE.sub',PE.ev,PE.sub_ev h s x,PE.sub_ev h s y,PE.sub_ev h s z]
 |.app x y=>by simp only[PE.sub',PE.ev,PE.sub_ev h s x,PE.sub_ev h s y]
 |.lst es=>by simp only[PE.sub',PE.ev,PE.subs_ev h s es]
 |.rep x y=>by simp only[PE.sub',PE.ev,PE.sub_ev h s x,PE.sub_ev h s y]
 |.slc x y z=>by simp only[PE.sub',PE.ev,PE.sub_ev h s x,PE.sub_ev h s y,PE.sub_ev h s z]
 |.slok x y z=>by simp only[PE.sub',PE.ev,PE.sub_ev h s x,PE.sub_ev h s y,PE.sub_ev h s z]
 |.ref x=>by simp only[PE.sub',PE.ev,PE.sub_ev h s x]
 |.deref x=>by simp only[PE.sub',aie,PE.ev,PE.sub_ev h s x]
 |.look x y z=>by simp only[PE.sub',PE.ev,PE.sub_ev h s x,PE.sub_ev h s y,PE.sub_ev h s z]
 |.has x y=>by simp only[PE.sub',PE.ev,PE.sub_ev h s x,PE.sub_ev h s y]
 |.put x y z=>by simp only[PE.sub',PE.ev,PE.sub_ev h s x,PE.sub_ev h s y,PE.sub_ev h s z]
 |.mn x y=>by simp only[PE.sub',PE.ev,PE.sub_ev h s x,PE.sub_ev h s y]
 |.mx x y=>by simp only[PE.sub',PE.ev,PE.sub_ev h s x,PE.sub_ev h s y]
 |.tup es=>by simp only[PE.sub',PE.ev,PE.subs_ev h s es]
 |.tget x i=>by simp only[PE.sub',au4,PE.ev,PE.sub_ev h s x]
 |.clo f es=>by simp only[PE.sub',PE.ev,PE.subs_ev h s es]
 |.an x y=>by simp only[PE.sub',PE.ev,PE.sub_ev h s x,PE.sub_ev h s y]
 |.imp c x=>by
  simp only[PE.sub',PE.ev,D.b_bool,UG,PE.sub_ev h s x];cases holds c (s.ev ρ)<;>cases(x.ev (s.ev ρ)).b<;>rfl
theorem PE.subs_ev {ab:bG}{ρ:Env}(h:ab.ok ρ)(s:SE):∀(es:List PE),PE.evs ρ (PE.subs' ab s es)=PE.evs (s.ev ρ) es
 |[]=>rfl
 |e::es=>by simp only[PE.subs',PE.evs,PE.sub_ev h s e,PE.subs_ev h s es]
theorem PE.subc_ev {ab:bG}{ρ:Env}(h:ab.ok ρ)(s:SE):∀(es:List PE),PE.evc ρ (PE.subs' ab s es)=PE.evc (s.ev ρ) es
 |[]=>rfl
 |e::es=>by simp only[PE.subs',PE.evc,PE.sub_ev h s e,PE.subc_ev h s es]
end
inductive PT where
 |next (s:SE)
 |exit (id:Nat) (s:SE)
 |ret (e:PE)
 |chk (e:PE) (k:PT)
 |ite (c:PE) (a b:PT)
 |call (s:SE) (gs:List (Nat×Bool)) (dst f:Nat) (args:List PE) (k:PT)
 |callc (s:SE) (gs:List (Nat×Bool)) (dst:Nat) (e:PE) (args:List PE) (k:PT)
 |mcall (s:SE) (j f:Nat) (args:List PE) (k:PT)
 |iteS (s:SE) (c:PE) (lr lo:List Nat) (a b k:PT)
 |blockS (s:SE) (id:Nat) (lr lo:List Nat) (a k:PT)
 |brk (s:SE) (c:PC) (k:PT)
def aG (T:cd):PT→Env→(Out→Prop)→Prop
 |.next s,ρ,Q=>Q (.next (s.ev ρ))
 |.exit id s,ρ,Q=>Q (.exit id (s.ev ρ))
 |.ret e,ρ,Q=>Q (.ret (e.ev ρ))
 |.chk e k,ρ,Q=>(e.ev ρ).b=true∧aG T k ρ Q
 |.ite c a b,ρ,Q=>if(c.ev ρ).b=true then aG T a ρ Q else aG T b ρ Q
 |.call s gs dst f args k,ρ,Q=>if holds gs (s.ev ρ)=true then ∃d,ao T f (PE.evs ρ args) d∧aG T k ((s.ev ρ).setR dst d) Q else aG T k (s.ev ρ) Q
 |.callc s gs dst e args k,ρ,Q=>if holds gs (s.ev ρ)=true then ∃f caps d,e.ev ρ=.clo f caps∧ao T f (PE.evs ρ args++caps) d∧aG T k ((s.ev ρ).setR dst d) Q else aG T k (s.ev ρ) Q
 |.mcall s j f args k,ρ,Q=>∃d,ao T f (PE.evs ρ args) d∧aG T k ((s.ev ρ).setO j d) Q
 |.iteS s c lr lo a b k,ρ,Q=>if(c.ev ρ).b=true then aG T a (s.ev ρ) (jh (s.ev ρ) lr lo (fF (fun ρ'=>aG T k ρ' Q) Q)) else aG T b (s.ev ρ) (jh (s.ev ρ) lr lo (fF (fun ρ'=>aG T k ρ' Q) Q))
 |.blockS s id lr lo a k,ρ,Q=>aG T a (s.ev ρ) (jY (s.ev ρ) id lr lo (fF (fun ρ'=>aG T k ρ' Q) Q))
 |.brk s c k,ρ,Q=>aT T c (s.ev ρ) (fF (fun ρ'=>aG T k ρ' Q) Q)
def lT:PI→Bool
 |.setR ..|.setO ..|.chk _=>true
 |_=>false
def di:PC→Bool
 |.loop ..=>false
 |.each ..=>false
 |.meach ..=>false
 |.seq a b=>di a&&di b
 |.ite _ _ _ a b=>di a&&di b
 |.block _ _ _ a=>di a
 |.is l=>l.all lT
 |_=>true
abbrev Kn:=bG→SE→PT
abbrev Kx:=bG→Nat→SE→PT
def lq:List PI→bG→SE→Kn→PT
 |[],ab,s,k=>k ab s
 |.setR t e::l,ab,s,k=>lq l ab (s.setR t (e.sub' ab s)) k
 |.setO t e::l,ab,s,k=>lq l ab (s.setO t (e.sub' ab s)) k
 |.chk e::l,ab,s,k=>
  match rC ab (e.sub' ab s) with
  |some true=>lq l ab s k
  |_=>.chk (e.sub' ab s) (lq l ((e.sub' ab s,true)::ab) s k)
 |.call gs dst f args::l,ab,s,k=>.call s gs dst f (PE.subs' ab s args) (lq l [] .id k)
 |.callc gs dst e args::l,ab,s,k=>.callc s gs dst (e.sub' ab s) (PE.subs' ab s args) (lq l [] .id k)
 |.mcall j f args::l,ab,s,k=>.mcall s j f (PE.subs' ab s args) (lq l [] .id k)
def SE.merge (s:SE)(ab:bG)(lr lo:List Nat)(c:PE)(a b:SE):SE:=⟨lr.map (fun t=>(t,pC ab c (a.getR t) (b.getR t)))++s.r,lo.map (fun t=>(t,pC ab c (a.getO t) (b.getO t)))++s.o⟩
def mW:List PI→bG→SE→Option SE
 |[],_,s=>some s
 |.setR t e::l,ab,s=>mW l ab (s.setR t (e.sub' ab s))
 |.setO t e::l,ab,s=>mW l ab (s.setO t (e.sub' ab s))
 |_::_,_,_=>none
def plain:PC→bG→SE→Option SE
 |.skip,_,s=>some s
 |.is l,ab,s=>mW l ab s
 |.seq a b,ab,s=>(plain a ab s).bind fun s=>plain b ab s
 |.ite c lr lo a b,ab,s=>(plain a ab s).bind fun sa=>(plain b ab s).map fun sb=>s.merge ab lr lo (c.sub' ab s) sa sb
 |_,_,_=>none
def Wh:PC→Bool
 |.loop ..=>true
 |_=>false
def sx:PC→bG→SE→Kn→Kx→PT
 |.skip,ab,s,k,_=>k ab s
 |.is l,ab,s,k,_=>lq l ab s k
 |.seq a b,ab,s,k,kx=>sx a ab s (fun ab s=>sx b ab s k kx) kx
 |.ite c lr lo a b,ab,s,k,kx=>
  match rC ab (c.sub' ab s) with
  |some true=>bif di a then sx a ab s (fun ab s'=>k ab (s.join lr lo s')) kx else .iteS s (c.sub' ab s) lr lo (sx a [] .id (fun _ s=>.next s) (fun _ id s=>.exit id s)) (sx b [] .id (fun _ s=>.next s) (fun _ id s=>.exit id s)) (k [] .id)
  |some false=>bif di b then sx b ab s (fun ab s'=>k ab (s.join lr lo s')) kx else .iteS s (c.sub' ab s) lr lo (sx a [] .id (fun _ s=>.next s) (fun _ id s=>.exit id s)) (sx b [] .id (fun _ s=>.next s) (fun _ id s=>.exit id s)) (k [] .id)
  |none=>
   match plain a ab s,plain b ab s with
   |some sa,some sb=>k ab (s.merge ab lr lo (c.sub' ab s) sa sb)
   |_,_=>
   bif di a&&di b then
    .ite (c.sub' ab s) (sx a ((c.sub' ab s,true)::ab) s (fun ab s'=>k ab (s.join lr lo s')) kx) (sx b ((c.sub' ab s,false)::ab) s (fun ab s'=>k ab (s.join lr lo s')) kx)
   else .iteS s (c.sub' ab s) lr lo (sx a [] .id (fun _ s=>.next s) (fun _ id s=>.exit id s)) (sx b [] .id (fun _ s=>.next s) (fun _ id s=>.exit id s)) (k [] .id)
 |.block id lr lo a,ab,s,k,kx=>
  bif di a then sx a ab s (fun ab s'=>k ab (s.join lr lo s')) (fun ab bF s'=>bif Nat.beq bF id then k ab (s.join lr lo s') else kx ab bF s')
  else bif Wh a then .brk s (.block id lr lo a) (k [] .id)
  else .blockS s id lr lo (sx a [] .id (fun _ s=>.next s) (fun _ id s=>.exit id s)) (k [] .id)
 |.loop lr lo a,_,s,k,_=>.brk s (.loop lr lo a) (k [] .id)
 |.each e ps lo rt a,_,s,k,_=>.brk s (.each e ps lo rt a) (k [] .id)
 |.meach J ps cm lo a,_,s,k,_=>.brk s (.meach J ps cm lo a) (k [] .id)
 |.exit id,ab,s,_,kx=>kx ab id s
 |.ret e,ab,s,_,_=>.ret (e.sub' ab s)
theorem bG.ok_nil (ρ:Env):bG.ok [] ρ:=fun _ h=>nomatch h
theorem bG.ok_cons {ab:bG}{ρ:Env}{e:PE}{b:Bool}(h:ab.ok ρ)(he:(e.ev ρ).b=b):bG.ok ((e,b)::ab) ρ:=fun x hx=>by
 rcases List.mem_cons.1 hx with e'|hx
 ·rw[e'];exact he
 ·exact h x hx
theorem oq {T:cd}{Q:Out→Prop}{K:Env→Prop}{k:Kn}:∀{l:List PI} {ab:bG} {s:SE} {ρ:Env},ab.ok ρ→aG T (lq l ab s k) ρ Q→
 (∀ρ' ab s,(l.all lT=true→ρ'=ρ)→ab.ok ρ'→aG T (k ab s) ρ' Q→K (s.ev ρ'))→fG T l (s.ev ρ) K
 |[],ab,s,ρ,ha,h,hk=>hk ρ ab s (fun _=>rfl) ha h
 |.setR t e::l,ab,s,ρ,ha,h,hk=>by
  simp only[fG];rw[←PE.sub_ev ha s e,←SE.setR_ev];exact oq ha h fun ρ' ab s hp=>hk ρ' ab s fun hl=>hp (by simpa [lT] using hl)
 |.setO t e::l,ab,s,ρ,ha,h,hk=>by
  simp only[fG];rw[←PE.sub_ev ha s e,←SE.setO_ev];exact oq ha h fun ρ' ab s hp=>hk ρ' ab s fun hl=>hp (by simpa [lT] using hl)
 |.chk e::l,ab,s,ρ,ha,h,hk=>by
  simp only[fG];rw[←PE.sub_ev ha s e];simp only[lq] at h;split at h
  ·rename_i ht;exact⟨tS ha ht,oq ha h fun ρ' ab s hp=>hk ρ' ab s fun hl=>hp (by simpa [lT] using hl)⟩
  ·exact⟨h.1,oq (bG.ok_cons ha h.1) h.2 fun ρ' ab s hp=>hk ρ' ab s fun hl=>hp (by simpa [lT] using hl)⟩
 |.call gs dst f args::l,ab,s,ρ,ha,h,hk=>by
  simp only[fG];simp only[lq,aG,PE.subs_ev ha,PE.sub_ev ha] at h;have bn:∀{ρ0:Env},∀ρ' ab s,(l.all lT=true→ρ'=ρ0)→ab.ok ρ'→aG T (k ab s) ρ' Q→K (s.ev ρ'):=fun ρ' ab s _=>hk ρ' ab s fun hl=>by simp[lT] at hl
  split at h
  ·rename_i hg;rw[if_pos hg];obtain⟨d,hd,h⟩:=h;exact⟨d,hd,oq (s:=.id) (bG.ok_nil _) h bn⟩
  ·rename_i hg;rw[if_neg hg];exact oq (s:=.id) (bG.ok_nil _) h bn
 |.callc gs dst e args::l,ab,s,ρ,ha,h,hk=>by
  simp only[fG];simp only[lq,aG,PE.subs_ev ha,PE.sub_ev ha] at h;have bn:∀{ρ0:Env},∀ρ' ab s,(l.all lT=true→ρ'=ρ0)→ab.ok ρ'→aG T (k ab s) ρ' Q→K (s.ev ρ'):=fun ρ' ab s _=>hk ρ' ab s fun hl=>by simp[lT] at hl
  split at h
  ·rename_i hg;rw[if_pos hg];obtain⟨f,caps,d,he,hd,h⟩:=h;exact⟨f,caps,d,he,hd,oq (s:=.id) (bG.ok_nil _) h bn⟩
  ·rename_i hg;rw[if_neg hg];exact oq (s:=.id) (bG.ok_nil _) h bn
 |.mcall j f args::l,ab,s,ρ,ha,h,hk=>by
  simp only[fG];simp only[lq,aG,PE.subs_ev ha,PE.sub_ev ha] at h;have bn:∀{ρ0:Env},∀ρ' ab s,(l.all lT=true→ρ'=ρ0)→ab.ok ρ'→aG T (k ab s) ρ' Q→K (s.ev ρ'):=fun ρ' ab s _=>hk ρ' ab s fun hl=>by simp[lT] at hl
  obtain⟨d,hd,h⟩:=h;exact⟨d,hd,oq (s:=.id) (bG.ok_nil _) h bn⟩
theorem SE.merge_ev {ab:bG}{ρ:Env}(h:ab.ok ρ)(s a b:SE)(lr lo:List Nat)(c:PE):(s.merge ab lr lo c a b).ev ρ=(s.ev ρ).join lr lo (if(c.ev ρ).b=true then a.ev ρ else b.ev ρ):=by
 have h1:∀u,((s.merge ab lr lo c a b).getR u).ev ρ=((s.ev ρ).join lr lo (if(c.ev ρ).b=true then a.ev ρ else b.ev ρ)).r u:=by
  intro u;rw[Env.join_r];have e:ae (s.merge ab lr lo c a b).r u=if u∈lr then some (pC ab c (a.getR u) (b.getR u)) else ae s.r u:=sU lr;have e2:(s.merge ab lr lo c a b).getR u=if u∈lr then pC ab c (a.getR u) (b.getR u) else s.getR u:=by
   unfold SE.getR;rw[e];by_cases h:u∈lr<;>simp[h,SE.getR]
  rw[e2];by_cases hu:u∈lr
  ·simp only[hu,if_true,Of h,PE.ev];cases hc:(c.ev ρ).b<;>simp[SE.ev]
  ·simp only[hu,if_false];rfl
 have h2:∀u,((s.merge ab lr lo c a b).getO u).ev ρ=((s.ev ρ).join lr lo (if(c.ev ρ).b=true then a.ev ρ else b.ev ρ)).o u:=by
  intro u;rw[Env.join_o];have e:ae (s.merge ab lr lo c a b).o u=if u∈lo then some (pC ab c (a.getO u) (b.getO u)) else ae s.o u:=sU lo;have e2:(s.merge ab lr lo c a b).getO u=if u∈lo then pC ab c (a.getO u) (b.getO u) else s.getO u:=by
   unfold SE.getO;rw[e];by_cases h:u∈lo<;>simp[h,SE.getO]
  rw[e2];by_cases hu:u∈lo
  ·simp only[hu,if_true,Of h,PE.ev];cases hc:(c.ev ρ).b<;>simp[SE.ev]
  ·simp only[hu,if_false];rfl
 have e1:(fun u=>((s.merge ab lr lo c a b).getR u).ev ρ)=((s.ev ρ).join lr lo (if(c.ev ρ).b=true then a.ev ρ else b.ev ρ)).r:=funext h1;have e2:(fun u=>((s.merge ab lr lo c a b).getO u).ev ρ)=((s.ev ρ).join lr lo (if(c.ev ρ).b=true then a.ev ρ else b.ev ρ)).o:=funext h2;show Env.mk _ _=_;rw[e1,e2]
theorem Oi {T:cd}{ab:bG}{ρ:Env}(ha:ab.ok ρ):∀{l:List PI} {s s':SE},mW l ab s=some s'→∀{K:Env→Prop},K (s'.ev ρ)→fG T l (s.ev ρ) K
 |[],s,s',h,K,hk=>by simp only[mW,Option.some.injEq] at h;subst h;exact hk
 |.setR t e::l,s,s',h,K,hk=>by simp only[fG];rw[←PE.sub_ev ha s e,←SE.setR_ev];exact Oi (l:=l) ha (show mW l ab _=some s' from h) hk
 |.setO t e::l,s,s',h,K,hk=>by simp only[fG];rw[←PE.sub_ev ha s e,←SE.setO_ev];exact Oi (l:=l) ha (show mW l ab _=some s' from h) hk
 |.chk _::_,_,_,h,_,_=>by simp[mW] at h
 |.call ..::_,_,_,h,_,_=>by simp[mW] at h
 |.callc ..::_,_,_,h,_,_=>by simp[mW] at h
 |.mcall ..::_,_,_,h,_,_=>by simp[mW] at h
theorem ati {T:cd}{ab:bG}{ρ:Env}(ha:ab.ok ρ):∀(c:PC) {s s':SE},plain c ab s=some s'→∀{Q:Out→Prop},Q (.next (s'.ev ρ))→aT T c (s.ev ρ) Q:=by
 intro c
 induction c with
 |skip=>intro s s' h Q hq;simp only[plain,Option.some.injEq] at h;subst h;exact .skip hq
 |is l=>intro s s' h Q hq;exact .is (Oi ha h hq)
 |seq a b aY cR=>
  intro s s' h Q hq;simp only[plain,Option.bind_eq_some_iff] at h;obtain⟨s1,h1,h2⟩:=h;exact .seq (aY h1 (cR h2 hq))
 |ite c lr lo a b aY cR=>
  intro s s' h Q hq;simp only[plain,Option.bind_eq_some_iff,Option.map_eq_some_iff] at h;obtain⟨sa,h1,sb,h2,rfl⟩:=h;rw[SE.merge_ev ha,PE.sub_ev ha] at hq;refine .ite ?_;split
  ·rename_i hc;rw[if_pos hc] at hq;exact aY h1 hq
  ·rename_i hc;rw[if_neg hc] at hq;exact cR h2 hq
 |_=>intro s s' h;simp[plain] at h
theorem It {T:cd}:∀(c:PC) {ab:bG} {s:SE} {k:Kn} {kx:Kx} {ρ:Env} {Q Q':Out→Prop},ab.ok ρ→aG T (sx c ab s k kx) ρ Q→
 (∀ρ' ab s,(di c=true→ρ'=ρ)→ab.ok ρ'→aG T (k ab s) ρ' Q→Q' (.next (s.ev ρ')))→
 (∀ρ' ab id s,(di c=true→ρ'=ρ)→ab.ok ρ'→aG T (kx ab id s) ρ' Q→Q' (.exit id (s.ev ρ')))→(di c=false→∀id ρ',Q (.exit id ρ')→Q' (.exit id ρ'))→(∀d,Q (.ret d)→Q' (.ret d))→aT T c (s.ev ρ) Q':=by
 intro c;have alone:∀(a:PC),(∀{ab:bG} {s:SE} {k:Kn} {kx:Kx} {ρ:Env} {Q Q':Out→Prop},ab.ok ρ→aG T (sx a ab s k kx) ρ Q→
  (∀ρ' ab s,(di a=true→ρ'=ρ)→ab.ok ρ'→aG T (k ab s) ρ' Q→Q' (.next (s.ev ρ')))→
  (∀ρ' ab id s,(di a=true→ρ'=ρ)→ab.ok ρ'→aG T (kx ab id s) ρ' Q→Q' (.exit id (s.ev ρ')))→(di a=false→∀id ρ',Q (.exit id ρ')→Q' (.exit id ρ'))→(∀d,Q (.ret d)→Q' (.ret d))→aT T a (s.ev ρ) Q')→
  ∀{ρ:Env} {Q:Out→Prop},aG T (sx a [] .id (fun _ s=>.next s) (fun _ id s=>.exit id s)) ρ Q→aT T a ρ Q:=by
  intro a ih ρ Q h;exact ih (s:=.id) (bG.ok_nil _) h (fun ρ' ab s _ _ h=>h) (fun ρ' ab id s _ _ h=>h) (fun _ _ _ h=>h) (fun _ h=>h)
 induction c with
 |skip=>intro ab s k kx ρ Q Q' ha h hk _ _ _;exact .skip (hk ρ ab s (fun _=>rfl) ha h)
 |is l=>intro ab s k kx ρ Q Q' ha h hk _ _ _;exact .is (oq (K:=fun ρ'=>Q' (.next ρ')) ha h hk)
 |seq a b aY cR=>
  intro ab s k kx ρ Q Q' ha h hk hx iw hr;refine .seq (aY ha h (Q':=fF (fun ρ'=>aT T b ρ' Q') Q') (fun ρ' ab s hp rZ h'=>?_) (fun ρ' ab id s hp rZ h'=>?_) (fun hp=>?_) hr)
  ·refine cR rZ h' (fun ρ2 ab s fm=>hk ρ2 ab s fun hl=>?_) (fun ρ2 ab id s fm=>hx ρ2 ab id s fun hl=>?_) (fun fm=>?_) hr
   ·simp only[di,Bool.and_eq_true] at hl;rw[fm hl.2,hp hl.1]
   ·simp only[di,Bool.and_eq_true] at hl;rw[fm hl.2,hp hl.1]
   ·exact iw (by simp[di,fm])
  ·exact hx ρ' ab id s (fun hl=>by simp only[di,Bool.and_eq_true] at hl;exact hp hl.1) rZ h'
  ·exact iw (by simp[di,hp])
 |ite c lr lo a b aY cR=>
  intro ab s k kx ρ Q Q' ha h hk hx iw hr;have bD:((c.sub' ab s).ev ρ).b=(c.ev (s.ev ρ)).b:=by rw[PE.sub_ev ha]
  have struct:(di a&&di b)=false→aG T (.iteS s (c.sub' ab s) lr lo (sx a [] .id (fun _ s=>.next s) (fun _ id s=>.exit id s)) (sx b [] .id (fun _ s=>.next s) (fun _ id s=>.exit id s)) (k [] .id)) ρ Q→aT T (.ite c lr lo a b) (s.ev ρ) Q':=by
   intro zV h;have nF:di (.ite c lr lo a b)=false:=zV;simp only[aG,bD] at h
   have conv:∀x,jh (s.ev ρ) lr lo (fF (fun ρ'=>aG T (k [] .id) ρ' Q) Q) x→jh (s.ev ρ) lr lo Q' x:=by
      intro x cL;cases x with
      |next ρ'=>exact hk _ [] .id (fun hl=>by rw[nF] at hl;cases hl) (bG.ok_nil _) cL
      |exit id ρ'=>exact iw nF id ρ' cL
      |ret d=>exact hr d cL
   refine .ite ?_;split at h
   ·rename_i hc;rw[if_pos hc];exact(alone a aY h).mono conv
   ·rename_i hc;rw[if_neg hc];exact(alone b cR h).mono conv
  have Wa:∀rJ,rJ.ok ρ→di a=true→aG T (sx a rJ s (fun ab s'=>k ab (s.join lr lo s')) kx) ρ Q→aT T a (s.ev ρ) (jh (s.ev ρ) lr lo Q'):=by
   intro rJ rZ dt h';refine aY rZ h' (fun ρ' ab s' hp lC iT=>?_) (fun ρ' ab id s' hp lC iT=>?_) (fun hp=>by rw[dt] at hp;cases hp) hr
   ·have e:=hp dt;subst e;show Q' (.next _);rw[←SE.join_ev];exact hk ρ' ab _ (fun _=>rfl) lC iT
   ·have e:=hp dt;subst e;exact hx ρ' ab id s' (fun _=>rfl) lC iT
  have aN:∀rJ,rJ.ok ρ→di b=true→aG T (sx b rJ s (fun ab s'=>k ab (s.join lr lo s')) kx) ρ Q→aT T b (s.ev ρ) (jh (s.ev ρ) lr lo Q'):=by
   intro rJ rZ dt h';refine cR rZ h' (fun ρ' ab s' hp lC iT=>?_) (fun ρ' ab id s' hp lC iT=>?_) (fun hp=>by rw[dt] at hp;cases hp) hr
   ·have e:=hp dt;subst e;show Q' (.next _);rw[←SE.join_ev];exact hk ρ' ab _ (fun _=>rfl) lC iT
   ·have e:=hp dt;subst e;exact hx ρ' ab id s' (fun _=>rfl) lC iT
  simp only[sx] at h;split at h
  ·rename_i ht;cases dt:di a<;>simp only[dt,cond_true,cond_false] at h
   ·exact struct (by simp[dt]) h
   ·refine .ite ?_;rw[if_pos (by rw[←bD];exact tS ha ht)];exact Wa ab ha dt h
  ·rename_i ht;cases dt:di b<;>simp only[dt,cond_true,cond_false] at h
   ·exact struct (by simp[dt]) h
   ·refine .ite ?_;rw[if_neg (by rw[←bD,tS ha ht];simp)];exact aN ab ha dt h
  ·split at h
   ·rename_i sa sb hsa iv;have cX:plain (.ite c lr lo a b) ab s=some (s.merge ab lr lo (c.sub' ab s) sa sb):=by simp[plain,hsa,iv]
    exact ati ha _ cX (hk ρ ab _ (fun _=>rfl) ha h)
   cases dt:(di a&&di b)<;>simp only[dt,cond_true,cond_false] at h
   ·exact struct dt h
   ·simp only[Bool.and_eq_true] at dt;simp only[aG] at h;refine .ite ?_;rw[←bD];split at h
    ·rename_i hc;rw[if_pos hc];exact Wa _ (bG.ok_cons ha hc) dt.1 h
    ·rename_i hc;rw[if_neg hc];exact aN _ (bG.ok_cons ha (by simpa using hc)) dt.2 h
 |block id lr lo a aY=>
  intro ab s k kx ρ Q Q' ha h hk hx iw hr;simp only[sx] at h;cases dt:di a<;>simp only[dt,cond_true,cond_false] at h
  ·have nF:di (.block id lr lo a)=false:=dt;cases hl:Wh a<;>simp only[hl,cond_true,cond_false] at h
   case true=>
        simp only[aG] at h;refine aT.mono h fun x cL=>?_;cases x with
        |next ρ'=>exact hk _ [] .id (fun hl=>by rw[nF] at hl;cases hl) (bG.ok_nil _) cL
        |exit id ρ'=>exact iw nF id ρ' cL
        |ret d=>exact hr d cL
   simp only[aG] at h;refine .block ((alone a aY h).mono fun x cL=>?_);cases x with
   |next ρ'=>exact hk _ [] .id (fun hl=>by rw[nF] at hl;cases hl) (bG.ok_nil _) cL
   |exit bF ρ'=>
    simp only[jY] at cL ⊢;split
    ·rename_i e;rw[if_pos e] at cL;exact hk _ [] .id (fun hl=>by rw[nF] at hl;cases hl) (bG.ok_nil _) cL
    ·rename_i e;rw[if_neg e] at cL;exact iw nF bF ρ' cL
   |ret d=>exact hr d cL
  ·refine .block (aY ha h (fun ρ' ab s' hp lC iT=>?_) (fun ρ' ab bF s' hp lC iT=>?_) (fun hp=>by rw[dt] at hp;cases hp) hr)
   ·have e:=hp dt;subst e;show Q' (.next _);rw[←SE.join_ev];exact hk ρ' ab _ (fun _=>rfl) lC iT
   ·have e:=hp dt;subst e;simp only[jY];by_cases cf:bF=id
    ·subst cf;simp only[Nat.beq_refl,cond_true] at iT;rw[if_pos rfl,←SE.join_ev];exact hk ρ' ab _ (fun _=>rfl) lC iT
    ·rw[dI cf,cond_false] at iT;rw[if_neg cf];exact hx ρ' ab bF s' (fun _=>rfl) lC iT
 |loop lr lo a aY=>
  intro ab s k kx ρ Q Q' ha h hk hx iw hr;simp only[sx,aG] at h;refine aT.mono h fun x cL=>?_;cases x with
  |next ρ'=>exact hk _ [] .id (fun hl=>by cases hl) (bG.ok_nil _) cL
  |exit id ρ'=>exact iw rfl id ρ' cL
  |ret d=>exact hr d cL
 |each e ps lo rt a aY=>
  intro ab s k kx ρ Q Q' ha h hk hx iw hr;simp only[sx,aG] at h;refine aT.mono h fun x cL=>?_;cases x with
  |next ρ'=>exact hk _ [] .id (fun hl=>by cases hl) (bG.ok_nil _) cL
  |exit id ρ'=>exact iw rfl id ρ' cL
  |ret d=>exact hr d cL
 |meach J ps cm lo a aY=>
  intro ab s k kx ρ Q Q' ha h hk hx iw hr;simp only[sx,aG] at h;refine aT.mono h fun x cL=>?_;cases x with
  |next ρ'=>exact hk _ [] .id (fun hl=>by cases hl) (bG.ok_nil _) cL
  |exit id ρ'=>exact iw rfl id ρ' cL
  |ret d=>exact hr d cL
 |exit id=>intro ab s k kx ρ Q Q' ha h _ hx _ _;exact .exit (hx ρ ab id s (fun _=>rfl) ha h)
 |ret e=>
  intro ab s k kx ρ Q Q' ha h _ _ _ hr;simp only[sx,aG] at h;refine .ret (hr _ ?_);rw[PE.sub_ev ha] at h;exact h
def Lk.un (a b:Lk):Lk:=⟨Nat.lor a.r b.r,gK a.o b.o⟩
def bits (l:List Nat):Nat:=l.foldr (fun t m=>Nat.lor (dc t) m) 0
theorem JQ {l:List Nat}{t:Nat}(h:t∈l):ar (bits l) t=true:=by
 induction l with
 |nil=>cases h
 |cons x l ih=>
  show ar (Nat.lor (dc x) (bits l)) t=true;rw[dU];rcases List.mem_cons.1 h with e|h
  ·subst e;rw[nq];rfl
  ·rw[ih h,Bool.or_true]
theorem R2:∀{a b:List Nat} {x:Nat},x∈gK a b↔x∈a∨x∈b
 |[],b,x=>by simp[gK]
 |y::a,b,x=>by
  have ih:=R2 (a:=a) (b:=bif eg b y then b else y::b) (x:=x);show x∈gK a _↔_;rw[ih];cases hb:eg b y with
  |true=>simp only[cond_true,List.mem_cons];have:=(mQ b y).1 hb;constructor
         ·rintro(h|h);exact .inl (.inr h);exact .inr h
         ·rintro((rfl|h)|h);exact .inr this;exact .inl h;exact .inr h
  |false=>simp only[cond_false,List.mem_cons];constructor
          ·rintro(h|h|h);exact .inl (.inr h);exact .inl (.inl h);exact .inr h
          ·rintro((h|h)|h);exact .inr (.inl h);exact .inl h;exact .inr (.inr h)
def Lk.Le (a K:Lk):Prop:=(∀t,ar a.r t=true→ar K.r t=true)∧∀j,j∈a.o→j∈K.o
theorem Lk.le_l (a b:Lk):a.Le (a.un b):=⟨fun t h=>by simp only[Lk.un,dU,h,Bool.true_or],fun j h=>R2.2 (.inl h)⟩
theorem Lk.le_r (a b:Lk):b.Le (a.un b):=⟨fun t h=>by simp only[Lk.un,dU,h,Bool.or_true],fun j h=>R2.2 (.inr h)⟩
theorem Lk.Le.trans {a b c:Lk}(h:a.Le b)(k:b.Le c):a.Le c:=⟨fun t ht=>k.1 t (h.1 t ht),fun j hj=>k.2 j (h.2 j hj)⟩
theorem Alike.le {a K:Lk}{ρ ρ':Env}(h:Alike K ρ ρ')(k:a.Le K):Alike a ρ ρ':=⟨fun t ht=>h.r t (k.1 t ht),fun j hj=>h.o j (k.2 j hj)⟩
theorem Lk.Le.of_un {a b K:Lk}(h:(a.un b).Le K):a.Le K∧b.Le K:=⟨(Lk.le_l a b).trans h,(Lk.le_r a b).trans h⟩
theorem Alike.setR {K:Lk}{ρ ρ':Env}(h:Alike K ρ ρ')(t:Nat)(d:D):Alike K (ρ.setR t d) (ρ'.setR t d):=⟨fun u hu=>by rw[Env.setR_r,Env.setR_r];split;rfl;exact h.r u hu,h.o⟩
theorem Alike.setO {K:Lk}{ρ ρ':Env}(h:Alike K ρ ρ')(t:Nat)(d:D):Alike K (ρ.setO t d) (ρ'.setO t d):=⟨h.r,fun u hu=>by rw[Env.setO_o,Env.setO_o];split;rfl;exact h.o u hu⟩
theorem Alike.join {K:Lk}{ρ ρ' η η':Env}(h:Alike K ρ ρ')(k:Alike K η η')(lr lo:List Nat):Alike K (ρ.join lr lo η) (ρ'.join lr lo η'):=
 ⟨fun u hu=>by rw[Env.join_r,Env.join_r];split;exact k.r u hu;exact h.r u hu,fun u hu=>by rw[Env.join_o,Env.join_o];split;exact k.o u hu;exact h.o u hu⟩
theorem Oj {f g:Nat→D}{u:Nat}(h:g u=f u):∀(ts:List Nat) (xs:List D),putL g ts xs u=putL f ts xs u
 |[],xs=>by rw[Hu,Hu];exact h
 |t::ts,[]=>by simp only[putL];exact h
 |t::ts,x::xs=>by rw[Ht,Ht];split;rfl;exact Oj h ts xs
theorem Alike.put {K:Lk}{ρ ρ':Env}(h:Alike K ρ ρ')(lr lo:List Nat)(vr vo:List D):Alike K (ρ.put lr vr lo vo) (ρ'.put lr vr lo vo):=⟨fun u hu=>Oj (h.r u hu) lr vr,fun u hu=>Oj (h.o u hu) lo vo⟩
def PI.lkw:PI→Lk
 |.setR t e=>e.lk.un ⟨dc t,[]⟩
 |.setO j e=>e.lk.un ⟨0,[j]⟩
 |.chk e=>e.lk
 |.call gs dst f aa=>(PI.call gs dst f aa).lk.un ⟨dc dst,[]⟩
 |.callc gs dst e aa=>(PI.callc gs dst e aa).lk.un ⟨dc dst,[]⟩
 |.mcall j f aa=>(PI.mcall j f aa).lk.un ⟨0,[j]⟩
def PC.lk:PC→Lk
 |.skip=>.none
 |.exit _=>.none
 |.is l=>l.foldr (fun p k=>p.lkw.un k) .none
 |.seq a b=>(PC.lk a).un (PC.lk b)
 |.ite c _ _ a b=>c.lk.un ((PC.lk a).un (PC.lk b))
 |.block _ _ _ a=>PC.lk a
 |.loop lr lo a=>(⟨bits lr,lo⟩:Lk).un (PC.lk a)
 |.ret e=>e.lk
 |.each e _ lo rt a=>e.lk.un ((match rt with|some e=>e.lk|none=>.none).un ((⟨0,lo⟩:Lk).un (PC.lk a)))
 |.meach J _ _ lo a=>(⟨0,J::lo⟩:Lk).un (PC.lk a)
structure Off (K:Lk) (b η η':Env):Prop where
 al:Alike K η η'
 r:∀t,ar K.r t=false→η'.r t=b.r t
 o:∀j,j∉K.o→η'.o j=b.o j
def p5 (K:Lk)(b:Env):Out→Out→Prop
 |.next η,x=>∃η',x=.next η'∧Off K b η η'
 |.exit i η,x=>∃η',x=.exit i η'∧Off K b η η'
 |.ret d,x=>x=.ret d
theorem Off.uniq {K:Lk}{b η η' η2:Env}(h:Off K b η η')(k:Off K b η η2):η2=η':=by
 have h1:∀t,η2.r t=η'.r t:=fun t=>by
  cases hb:ar K.r t with
  |true=>rw[k.al.r t hb,h.al.r t hb]
  |false=>rw[k.r t hb,h.r t hb]
 have h2:∀t,η2.o t=η'.o t:=fun t=>by
  by_cases hb:t∈K.o
  ·rw[k.al.o t hb,h.al.o t hb]
  ·rw[k.o t hb,h.o t hb]
 cases η2;cases η'
 congr
 ·exact funext h1
 ·exact funext h2
theorem p5.uniq {K:Lk}{b:Env}{x y z:Out}(h:p5 K b x y)(k:p5 K b x z):z=y:=by
 cases x with
 |next η=>obtain⟨a,rfl,h⟩:=h;obtain⟨c,rfl,k⟩:=k;rw[h.uniq k]
 |exit i η=>obtain⟨a,rfl,h⟩:=h;obtain⟨c,rfl,k⟩:=k;rw[h.uniq k]
 |ret d=>rw[h,k]
theorem Off.setR {K:Lk}{b η η':Env}(h:Off K b η η'){t:Nat}(ht:ar K.r t=true)(d:D):Off K b (η.setR t d) (η'.setR t d):=
 ⟨h.al.setR t d,fun u hu=>by rw[Env.setR_r,if_neg (fun e=>by rw[e,ht] at hu;cases hu)];exact h.r u hu,h.o⟩
theorem Off.setO {K:Lk}{b η η':Env}(h:Off K b η η'){t:Nat}(ht:t∈K.o)(d:D):Off K b (η.setO t d) (η'.setO t d):=
 ⟨h.al.setO t d,h.r,fun u hu=>by rw[Env.setO_o,if_neg (fun e=>hu (by rw[e];exact ht))];exact h.o u hu⟩
theorem Off.join {K:Lk}{b η η' ζ ζ':Env}(h:Off K b η η')(k:Off K b ζ ζ')(lr lo:List Nat):Off K b (η.join lr lo ζ) (η'.join lr lo ζ'):=
 ⟨h.al.join k.al lr lo,fun u hu=>by rw[Env.join_r];split;exact k.r u hu;exact h.r u hu,fun u hu=>by rw[Env.join_o];split;exact k.o u hu;exact h.o u hu⟩
theorem Om {f:Nat→D}{b:D}{u:Nat}(h:f u=b):∀(ts:List Nat) (xs:List D),u∉ts→putL f ts xs u=b
 |[],xs,_=>by rw[Hu];exact h
 |t::ts,[],_=>by simp only[putL];exact h
 |t::ts,x::xs,hu=>by rw[Ht,if_neg (fun e=>hu (by simp[e]))];exact Om h ts xs (fun e=>hu (by simp[e]))
theorem Off.put {K:Lk}{b η η':Env}(h:Off K b η η'){lr lo:List Nat}(hr:∀t,t∈lr→ar K.r t=true)(ho:∀t,t∈lo→t∈K.o)(vr vo:List D):Off K b (η.put lr vr lo vo) (η'.put lr vr lo vo):=
 ⟨h.al.put lr lo vr vo,fun u hu=>Om (h.r u hu) lr vr (fun e=>by rw[hr u e] at hu;cases hu),fun u hu=>Om (h.o u hu) lo vo (fun e=>hu (ho u e))⟩
theorem PI.run_off {Φ:aL}{K:Lk}{b ρ ρ' η:Env}{p:PI}(hp:p.lkw.Le K)(h:Off K b ρ ρ')(hr:p.run Φ ρ=some η):∃η',p.run Φ ρ'=some η'∧Off K b η η':=by
 have sv:p.lk.Le K:=by cases p<;>first|exact hp|exact hp.of_un.1
 rw[PI.run_eff,PI.eff_alike p (h.al.le sv)];rw[PI.run_eff] at hr;cases he:p.eff Φ ρ with
 |none=>rw[he] at hr;cases hr
 |some x=>
  rw[he] at hr;simp only[Option.map_some,Option.some.injEq] at hr;subst hr;refine⟨_,rfl,?_⟩;have hb:∀{t:Nat} {a:Lk},(a.un ⟨dc t,[]⟩).Le K→ar K.r t=true:=fun h=>h.of_un.2.1 _ (nq _);have ho:∀{t:Nat} {a:Lk},(a.un ⟨0,[t]⟩).Le K→t∈K.o:=fun h=>h.of_un.2.2 _ (by simp);cases p with
  |setR t e=>simp only[PI.eff,Option.some.injEq] at he;subst he;exact h.setR (hb hp) _
  |setO t e=>simp only[PI.eff,Option.some.injEq] at he;subst he;exact h.setO (ho hp) _
  |chk e=>simp only[PI.eff] at he;cases sd:(e.ev ρ).b<;>rw[sd] at he<;>cases he;exact h
  |call gs d f aa=>
   simp only[PI.eff] at he;cases sd:holds gs ρ<;>simp only[sd,cond_true,cond_false,Option.some.injEq,Option.map_eq_some_iff] at he
   ·subst he;exact h
   ·obtain⟨y,_,rfl⟩:=he;exact h.setR (hb hp) _
  |callc gs d e aa=>
   simp only[PI.eff] at he;cases sd:holds gs ρ<;>simp only[sd,cond_true,cond_false,Option.some.injEq] at he
   ·subst he;exact h
   ·split at he
    ·simp only[Option.map_eq_some_iff] at he;obtain⟨y,_,rfl⟩:=he;exact h.setR (hb hp) _
    ·cases he
  |mcall j f aa=>simp only[PI.eff,Option.map_eq_some_iff] at he;obtain⟨y,_,rfl⟩:=he;exact h.setO (ho hp) _
theorem PI.runs_off {Φ:aL}{K:Lk}{b:Env}:∀{l:List PI} {ρ ρ' η:Env},(l.foldr (fun p k=>p.lkw.un k) Lk.none).Le K→Off K b ρ ρ'→PI.runs Φ l ρ=some η→∃η',PI.runs Φ l ρ'=some η'∧Off K b η η'
 |[],ρ,ρ',η,_,h,hr=>by simp only[PI.runs,Option.some.injEq] at hr ⊢;subst hr;exact⟨_,rfl,h⟩
 |p::l,ρ,ρ',η,hl,h,hr=>by
  simp only[PI.runs,Option.bind_eq_some_iff] at hr;obtain⟨ρ1,h1,h2⟩:=hr;obtain⟨ρ2,h3,h4⟩:=PI.run_off hl.of_un.1 h h1;obtain⟨η',h5,h6⟩:=PI.runs_off (l:=l) hl.of_un.2 h4 h2;exact⟨η',by simp only[PI.runs,h3,Option.bind_some,h5],h6⟩
theorem sX {K:Lk}{b η η':Env}(h:Off K b η η'){lo:List Nat}(ho:∀t,t∈lo→t∈K.o):lo.map η'.o=lo.map η.o:=List.map_congr_left fun t ht=>h.al.o t (ho t ht)
theorem WR {K:Lk}{b η η':Env}(h:Off K b η η'){lr:List Nat}(hr:∀t,t∈lr→ar K.r t=true):lr.map η'.r=lr.map η.r:=List.map_congr_left fun t ht=>h.al.r t (hr t ht)
theorem PC.ev_off {Φ:aL}{n:Nat}{K:Lk}:∀(c:PC),c.lk.Le K→∀{b ρ ρ':Env} {x:Out},Off K b ρ ρ'→c.ev Φ n ρ=some x→∃x',c.ev Φ n ρ'=some x'∧p5 K b x x':=by
 intro c
 induction c with
 |skip=>intro _ b ρ ρ' x h hr;simp only[PC.ev,Option.some.injEq] at hr ⊢;subst hr;exact⟨_,rfl,_,rfl,h⟩
 |exit id=>intro _ b ρ ρ' x h hr;simp only[PC.ev,Option.some.injEq] at hr ⊢;subst hr;exact⟨_,rfl,_,rfl,h⟩
 |ret e=>intro hk B ρ ρ' x h hr;simp only[PC.ev,Option.some.injEq] at hr ⊢;subst hr;exact⟨_,rfl,by rw[PE.ev_alike e (h.al.le hk)];rfl⟩
 |is l=>
  intro hk B ρ ρ' x h hr;simp only[PC.ev,Option.map_eq_some_iff] at hr;obtain⟨η,h1,rfl⟩:=hr;obtain⟨η',h2,h3⟩:=PI.runs_off hk h h1;exact⟨.next η',by simp only[PC.ev,h2,Option.map_some],η',rfl,h3⟩
 |seq a b aY cR=>
  intro hk B ρ ρ' x h hr;simp only[PC.ev] at hr ⊢;cases ha:a.ev Φ n ρ with
  |none=>rw[ha] at hr;cases hr
  |some y=>
   obtain⟨y',h1,h2⟩:=aY hk.of_un.1 h ha;rw[ha] at hr;rw[h1];cases y with
   |next η=>obtain⟨η',rfl,h3⟩:=h2;exact cR hk.of_un.2 h3 hr
   |exit i η=>obtain⟨η',rfl,h3⟩:=h2;cases hr;exact⟨_,rfl,η',rfl,h3⟩
   |ret d=>cases h2;cases hr;exact⟨_,rfl,rfl⟩
 |ite c lr lo a b aY cR=>
  intro hk B ρ ρ' x h hr;have hc:(c.ev ρ').b=(c.ev ρ).b:=by rw[PE.ev_alike c (h.al.le hk.of_un.1)]
  have key:∀(d:PC),(∀{ρ ρ':Env} {x:Out},Off K B ρ ρ'→d.ev Φ n ρ=some x→∃x',d.ev Φ n ρ'=some x'∧p5 K B x x')→(match d.ev Φ n ρ with|some (.next η)=>some (.next (ρ.join lr lo η))|x=>x)=some x→
      ∃x',(match d.ev Φ n ρ' with|some (.next η)=>some (.next (ρ'.join lr lo η))|x=>x)=some x'∧p5 K B x x':=by
   intro d ih hr;cases ha:d.ev Φ n ρ with
   |none=>rw[ha] at hr;cases hr
   |some y=>
    obtain⟨y',h1,h2⟩:=ih h ha;rw[ha] at hr;rw[h1];cases y with
    |next η=>obtain⟨η',rfl,h3⟩:=h2;cases hr;exact⟨_,rfl,_,rfl,h.join h3 lr lo⟩
    |exit i η=>obtain⟨η',rfl,h3⟩:=h2;cases hr;exact⟨_,rfl,η',rfl,h3⟩
    |ret d=>cases h2;cases hr;exact⟨_,rfl,rfl⟩
  simp only[PC.ev,hc] at hr ⊢;cases gg:(c.ev ρ).b<;>simp only[gg,cond_true,cond_false] at hr ⊢
  ·exact key b (fun h1 h2=>cR hk.of_un.2.of_un.2 h1 h2) hr
  ·exact key a (fun h1 h2=>aY hk.of_un.2.of_un.1 h1 h2) hr
 |block id lr lo a aY=>
  intro hk B ρ ρ' x h hr;simp only[PC.ev] at hr ⊢;cases ha:a.ev Φ n ρ with
  |none=>rw[ha] at hr;cases hr
  |some y=>
   obtain⟨y',h1,h2⟩:=aY hk h ha;rw[ha] at hr;rw[h1];cases y with
   |next η=>obtain⟨η',rfl,h3⟩:=h2;cases hr;exact⟨_,rfl,_,rfl,h.join h3 lr lo⟩
   |exit i η=>
    obtain⟨η',rfl,h3⟩:=h2;simp only at hr ⊢;cases hb:Nat.beq i id<;>simp only[hb,cond_true,cond_false] at hr ⊢<;>cases hr
    ·exact⟨_,rfl,η',rfl,h3⟩
    ·exact⟨_,rfl,_,rfl,h.join h3 lr lo⟩
   |ret d=>cases h2;cases hr;exact⟨_,rfl,rfl⟩
 |loop lr lo a aY=>
  intro hk B ρ ρ' x h hr;have gi:∀t,t∈lr→ar K.r t=true:=fun t ht=>hk.of_un.1.1 t (JQ ht);have gS:∀t,t∈lo→t∈K.o:=fun t ht=>hk.of_un.1.2 t ht;have key:∀(m:Nat) (vr vo:List D),eH (a.ev Φ n) ρ lr lo m vr vo=some x→∃x',eH (a.ev Φ n) ρ' lr lo m vr vo=some x'∧p5 K B x x':=by
   intro m
   induction m with
   |zero=>intro vr vo h;simp[eH] at h
   |succ m L9=>
    intro vr vo hr;simp only[eH] at hr ⊢;cases ha:a.ev Φ n (ρ.put lr vr lo vo) with
    |none=>rw[ha] at hr;cases hr
    |some y=>
     obtain⟨y',h1,h2⟩:=aY hk.of_un.2 (h.put gi gS vr vo) ha;rw[ha] at hr;rw[h1];cases y with
     |next η=>obtain⟨η',rfl,h3⟩:=h2;simp only[sX h3 gS,WR h3 gi];exact L9 _ _ hr
     |exit i η=>obtain⟨η',rfl,h3⟩:=h2;cases hr;exact⟨_,rfl,η',rfl,h3⟩
     |ret d=>cases h2;cases hr;exact⟨_,rfl,rfl⟩
  simp only[PC.ev] at hr ⊢;rw[sX h gS,WR h gi];exact key n _ _ hr
 |each e ps lo rt a aY=>
  intro hk B ρ ρ' x h hr;obtain⟨bB,cD⟩:=hk.of_un;obtain⟨cD,u9⟩:=cD.of_un;obtain⟨u9,K5⟩:=u9.of_un;have gS:∀t,t∈lo→t∈K.o:=fun t ht=>u9.2 t ht;have key:∀(xs vo:List D),ff (a.ev Φ n) ρ ps lo rt xs vo=some x→∃x',ff (a.ev Φ n) ρ' ps lo rt xs vo=some x'∧p5 K B x x':=by
   intro xs
   induction xs with
   |nil=>intro vo hr;simp only[ff,Option.some.injEq] at hr ⊢;subst hr;exact⟨_,rfl,_,rfl,h.put (fun _ h=>by cases h) gS _ _⟩
   |cons y xs gD=>
    intro vo hr;simp only[ff] at hr ⊢;cases ha:a.ev Φ n (ρ.put ps (partsOf ps y) lo vo) with
    |none=>rw[ha] at hr;cases hr
    |some z=>
     have gB:Off K (ρ'.put ps (partsOf ps y) lo vo) (ρ.put ps (partsOf ps y) lo vo) (ρ'.put ps (partsOf ps y) lo vo):=⟨h.al.put ps lo _ _,fun _ _=>rfl,fun _ _=>rfl⟩
     obtain⟨z',h1,h2⟩:=aY K5 gB ha;rw[ha] at hr;rw[h1];cases z with
     |next η=>obtain⟨η',rfl,h3⟩:=h2;simp only[sX h3 gS];exact gD _ hr
     |exit i η=>
      obtain⟨η',rfl,h3⟩:=h2;simp only[sX h3 gS] at hr ⊢;have hp:=h.put (lr:=[]) (fun _ h=>by cases h) gS [] (lo.map η.o);cases hb:Nat.beq i cl<;>simp only[hb,cond_true,cond_false] at hr ⊢
      ·cases hr;exact⟨_,rfl,_,rfl,hp⟩
      ·cases rt with
       |none=>cases hr
       |some e2=>cases hr;exact⟨_,rfl,by show Out.ret _=Out.ret _;rw[PE.ev_alike e2 (hp.al.le cD)]⟩
     |ret d=>cases hr
  simp only[PC.ev] at hr ⊢;rw[PE.ev_alike e (h.al.le bB),sX h gS];exact key _ _ hr
 |meach J ps cm lo a aY=>
  intro hk B ρ ρ' x h hr;obtain⟨u9,K5⟩:=hk.of_un;have gS:∀t,t∈lo→t∈K.o:=fun t ht=>u9.2 t (List.mem_cons_of_mem _ ht);have hJ:ρ'.o J=ρ.o J:=h.al.o J (u9.2 J (List.mem_cons_self ..));have key:∀(es:D) (xs done vo kB:List D),jH (a.ev Φ n) ρ J es ps cm lo xs done vo=some kB→jH (a.ev Φ n) ρ' J es ps cm lo xs done vo=some kB:=by
   intro es xs
   induction xs with
   |nil=>intro done vo kB h;exact h
   |cons y xs gD=>
    intro done vo kB hr;simp only[jH] at hr ⊢;cases ha:a.ev Φ n ((ρ.put ps (cm.map y.tget) lo vo).setO J (.tup [.list (done++[y]),es])) with
    |none=>rw[ha] at hr;cases hr
    |some z=>
     have gB:Off K ((ρ'.put ps (cm.map y.tget) lo vo).setO J (.tup [.list (done++[y]),es])) ((ρ.put ps (cm.map y.tget) lo vo).setO J (.tup [.list (done++[y]),es])) ((ρ'.put ps (cm.map y.tget) lo vo).setO J (.tup [.list (done++[y]),es])):=
          ⟨(h.al.put ps lo _ _).setO J _,fun _ _=>rfl,fun _ _=>rfl⟩
     obtain⟨z',h1,h2⟩:=aY K5 gB ha;rw[ha] at hr;rw[h1];cases z with
     |next η=>obtain⟨η',rfl,h3⟩:=h2;simp only[sX h3 gS];exact gD _ _ _ hr
     |exit i η=>cases hr
     |ret d=>cases hr
  simp only[PC.ev,tt] at hr;obtain⟨vo,⟨h1,h2⟩,rfl⟩:=hr;refine⟨.next (ρ'.put [] [] lo vo),?_,_,rfl,h.put (fun _ h=>by cases h) gS _ _⟩;simp only[PC.ev,tt];refine⟨vo,⟨by rw[hJ];exact h1,fun ys hy=>?_⟩,rfl⟩;rw[hJ] at hy ⊢;rw[sX h gS];exact key _ _ _ _ _ (h2 ys hy)
def lz:List Nat→PC→Bool
 |l,.exit id=>eg l id
 |l,.seq a b=>lz l a&&lz l b
 |l,.ite _ _ _ a b=>lz l a&&lz l b
 |l,.block id _ _ a=>lz (id::l) a
 |l,.loop _ _ a=>lz l a
 |l,.each _ _ _ _ a=>lz (cl::l) a
 |_,_=>true
theorem ajf {Φ:aL}{n:Nat}:∀(c:PC) {l:List Nat},lz l c=true→∀{ρ:Env} {i:Nat} {η:Env},c.ev Φ n ρ=some (.exit i η)→i∈l:=by
 intro c
 induction c with
 |skip=>intro l _ ρ i η h;simp[PC.ev] at h
 |exit id=>intro l hl ρ i η h;simp only[PC.ev,Option.some.injEq] at h;injection h with h1 h2;subst h1;exact(mQ _ _).1 hl
 |ret e=>intro l _ ρ i η h;simp[PC.ev] at h
 |is _=>intro l _ ρ i η h;simp[PC.ev] at h
 |seq a b aY cR=>
  intro l hl ρ i η h;simp only[lz,Bool.and_eq_true] at hl;simp only[PC.ev] at h;split at h
  ·exact cR hl.2 h
  ·exact aY hl.1 h
 |ite c lr lo a b aY cR=>
  intro l hl ρ i η h;simp only[lz,Bool.and_eq_true] at hl;simp only[PC.ev] at h;cases hc:(c.ev ρ).b<;>simp only[hc,cond_true,cond_false] at h
  ·split at h
   ·cases h
   ·exact cR hl.2 h
  ·split at h
   ·cases h
   ·exact aY hl.1 h
 |block id lr lo a aY=>
  intro l hl ρ i η h;simp only[PC.ev] at h;split at h
  ·cases h
  ·rename_i bF ρ2 ha;cases hb:Nat.beq bF id<;>simp only[hb,cond_true,cond_false] at h<;>cases h;rcases List.mem_cons.1 (aY hl ha) with e|e
   ·subst e;rw[Nat.beq_refl] at hb;cases hb
   ·exact e
  ·rename_i h1 h2;exact absurd h (h2 _ _)
 |loop lr lo a aY=>
  intro l hl ρ i η h;have key:∀(m:Nat) (vr vo:List D),eH (a.ev Φ n) ρ lr lo m vr vo=some (.exit i η)→i∈l:=by
   intro m
   induction m with
   |zero=>intro vr vo h;simp[eH] at h
   |succ m L9=>
    intro vr vo h;simp only[eH] at h;split at h
    ·exact L9 _ _ h
    ·exact aY hl h
  exact key _ _ _ h
 |each e ps lo rt a aY=>
  intro l hl ρ i η h;have key:∀(xs vo:List D),ff (a.ev Φ n) ρ ps lo rt xs vo=some (.exit i η)→i∈l:=by
   intro xs
   induction xs with
   |nil=>intro vo h;simp[ff] at h
   |cons x xs gD=>
    intro vo h;simp only[ff] at h;split at h
    ·exact gD _ h
    ·rename_i bF ρ2 ha;cases hb:Nat.beq bF cl<;>simp only[hb,cond_true,cond_false] at h
     ·injection h with h;injection h with h1 h2;subst h1
      rcases List.mem_cons.1 (aY hl ha) with e|e
      ·subst e;rw[Nat.beq_refl] at hb;cases hb
      ·exact e
     ·cases rt<;>simp at h
    ·cases h
  exact key _ _ h
 |meach J ps cm lo a _=>
  intro l _ ρ i η h;simp only[PC.ev,tt] at h;obtain⟨vo,_,h⟩:=h;cases h
def We (t:Nat):PE→Bool
 |.r u=>Nat.beq u t
 |_=>false
def Wf (t:Nat):PE→Bool
 |.o u=>Nat.beq u t
 |_=>false
def fk (lM:Nat→PE→Bool)(p:Nat→Bool):List Nat→List (Nat×PE)→List (Nat×PE)
 |_,[]=>[]
 |seen,x::l=>bif p x.1&& !eg seen x.1 then(bif lM x.1 x.2 then fk lM p (x.1::seen) l else x::fk lM p (x.1::seen) l) else fk lM p seen l
theorem DH {lM:Nat→PE→Bool}{p:Nat→Bool}:∀{l:List (Nat×PE)} {seen:List Nat} {t:Nat},eg seen t=true→ae (fk lM p seen l) t=none
 |[],_,_,_=>rfl
 |x::l,seen,t,h=>by
  have h':eg (x.1::seen) t=true:=by rw[mQ] at h ⊢;exact List.mem_cons_of_mem _ h
  simp only[fk];cases hb:(p x.1&& !eg seen x.1) with
  |false=>exact DH h
  |true=>
   simp only[cond_true];cases lM x.1 x.2 with
   |true=>exact DH h'
   |false=>
    simp only[cond_false,ae];have:Nat.beq x.1 t=false:=by
      cases e:Nat.beq x.1 t with
      |false=>rfl
      |true=>rw[cq e,h] at hb;simp at hb
    rw[this];exact DH h'
theorem y7 {lM:Nat→PE→Bool}{p:Nat→Bool}{dflt:Nat→PE}(cf:∀t e,lM t e=true→e=dflt t):∀{l:List (Nat×PE)} {seen:List Nat} {t:Nat},p t=true→eg seen t=false→
 (match ae (fk lM p seen l) t with|some e=>e|none=>dflt t)=(match ae l t with|some e=>e|none=>dflt t)
 |[],_,_,_,_=>rfl
 |x::l,seen,t,hp,hs=>by
  simp only[fk,ae];cases e:Nat.beq x.1 t with
  |true=>
   have e':=cq e;rw[e',hp,hs];simp only[Bool.not_false,Bool.and_self,cond_true];cases hi:lM t x.2 with
   |true=>simp only[cond_true];rw[DH (by rw[mQ];exact List.mem_cons_self ..)];exact(cf _ _ hi).symm
   |false=>simp only[cond_false,ae,e,cond_true]
  |false=>
   simp only[cond_false];cases hb:(p x.1&& !eg seen x.1) with
   |false=>exact y7 cf hp hs
   |true=>
    have dJ:eg (x.1::seen) t=false:=by
      cases hm:eg (x.1::seen) t with
      |false=>rfl
      |true=>
       rcases List.mem_cons.1 ((mQ _ _).1 hm) with h|h
       ·rw[h,Nat.beq_refl] at e;cases e
       ·rw[(mQ _ _).2 h] at hs;cases hs
    simp only[cond_true];cases lM x.1 x.2 with
    |true=>exact y7 cf hp dJ
    |false=>simp only[cond_false,ae,e];exact y7 cf hp dJ
def SE.cut (s:SE)(k:Lk):SE:=⟨fk We (ar k.r) [] s.r,fk Wf (eg k.o) [] s.o⟩
def MH (l:List (Nat×PE)):Lk:=l.foldr (fun x k=>x.2.lk.un k) .none
def SE.lks (s:SE):Lk:=(MH s.r).un (MH s.o)
theorem MI:∀{l:List (Nat×PE)} {t:Nat} {e:PE},ae l t=some e→e.lk.Le (MH l)
 |[],_,_,h=>by cases h
 |x::l,t,e,h=>by
  simp only[ae] at h;cases hb:Nat.beq x.1 t<;>simp only[hb,cond_true,cond_false] at h
  ·exact(MI h).trans (Lk.le_r _ _)
  ·cases h;exact Lk.le_l _ _
theorem SE.cut_al {s:SE}{L:Lk}{ρ1 ρ2:Env}(h:Alike (L.un (s.cut L).lks) ρ1 ρ2):Alike L ((s.cut L).ev ρ1) (s.ev ρ2):=by
 have hL:=h.le (Lk.le_l _ _);have hs:=h.le (Lk.le_r _ _);constructor
 ·intro t ht;show(s.getR t).ev ρ2=((s.cut L).getR t).ev ρ1;have e:(s.cut L).getR t=s.getR t:=y7 (dflt:=.r) (fun t e he=>by unfold We at he;split at he;rw[cq he];cases he) ht rfl;rw[←e];cases hl:ae (s.cut L).r t with
  |none=>have:(s.cut L).getR t=.r t:=by unfold SE.getR;rw[hl]
         rw[this];exact hL.r t ht
  |some x=>have:(s.cut L).getR t=x:=by unfold SE.getR;rw[hl]
           rw[this];exact PE.ev_alike x (hs.le ((MI hl).trans (Lk.le_l _ _)))
 ·intro t ht;show(s.getO t).ev ρ2=((s.cut L).getO t).ev ρ1;have e:(s.cut L).getO t=s.getO t:=y7 (dflt:=.o) (fun t e he=>by unfold Wf at he;split at he;rw[cq he];cases he) ((mQ _ _).2 ht) rfl;rw[←e];cases hl:ae (s.cut L).o t with
  |none=>have:(s.cut L).getO t=.o t:=by unfold SE.getO;rw[hl]
         rw[this];exact hL.o t ht
  |some x=>have:(s.cut L).getO t=x:=by unfold SE.getO;rw[hl]
           rw[this];exact PE.ev_alike x (hs.le ((MI hl).trans (Lk.le_r _ _)))
structure LC where
 next:Lk
 ov:List (Nat×Lk)
def LC.all (c:LC):Lk:=c.ov.foldr (fun x k=>x.2.un k) .none
def IZ (c:LC)(Q1 Q2:Out→Prop):Prop:=
 (∀ρ1 ρ2,Alike c.next ρ1 ρ2→Q1 (.next ρ1)→Q2 (.next ρ2))∧(∀id k ρ1 ρ2,ae c.ov id=some k→Alike k ρ1 ρ2→Q1 (.exit id ρ1)→Q2 (.exit id ρ2))∧∀d,Q1 (.ret d)→Q2 (.ret d)
def eL:LC→PT→Option (PT×Lk)
 |c,.next s=>some (.next (s.cut c.next),c.next.un (s.cut c.next).lks)
 |c,.exit id s=>(ae c.ov id).map fun k=>(.exit id (s.cut k),k.un (s.cut k).lks)
 |_,.ret e=>some (.ret e,e.lk)
 |c,.chk e k=>(eL c k).map fun r=>(.chk e r.1,e.lk.un r.2)
 |c,.ite e a b=>(eL c a).bind fun x=>(eL c b).map fun y=>(.ite e x.1 y.1,e.lk.un (x.2.un y.2))
 |c,.call s gs dst f args k=>(eL c k).map fun r=>(.call (s.cut (r.2.un (j0 gs))) gs dst f args r.1,(PE.lks args).un ((r.2.un (j0 gs)).un (s.cut (r.2.un (j0 gs))).lks))
 |c,.callc s gs dst e args k=>(eL c k).map fun r=>(.callc (s.cut (r.2.un (j0 gs))) gs dst e args r.1,(e.lk.un (PE.lks args)).un ((r.2.un (j0 gs)).un (s.cut (r.2.un (j0 gs))).lks))
 |c,.mcall s j f args k=>(eL c k).map fun r=>(.mcall (s.cut r.2) j f args r.1,(PE.lks args).un (r.2.un (s.cut r.2).lks))
 |c,.iteS s e lr lo a b k=>(eL c k).bind fun r=>(eL ⟨r.2,c.ov⟩ a).bind fun x=>(eL ⟨r.2,c.ov⟩ b).map fun y=>
    (.iteS (s.cut (r.2.un (x.2.un y.2))) e lr lo x.1 y.1 r.1,e.lk.un ((r.2.un (x.2.un y.2)).un (s.cut (r.2.un (x.2.un y.2))).lks))
 |c,.blockS s id lr lo a k=>(eL c k).bind fun r=>(eL ⟨r.2,(id,r.2)::c.ov⟩ a).map fun x=>(.blockS (s.cut (r.2.un x.2)) id lr lo x.1 r.1,(r.2.un x.2).un (s.cut (r.2.un x.2)).lks)
 |c,.brk s p k=>(eL c k).bind fun r=>bif lz (c.ov.map (·.1)) p then some (.brk (s.cut (p.lk.un (r.2.un c.all))) p r.1,(p.lk.un (r.2.un c.all)).un (s.cut (p.lk.un (r.2.un c.all))).lks) else none
theorem LC.all_le:∀{l:List (Nat×Lk)} {id:Nat} {k:Lk},ae l id=some k→k.Le (l.foldr (fun x k=>x.2.un k) .none)
 |[],_,_,h=>by cases h
 |x::l,t,e,h=>by
  simp only[ae] at h;cases hb:Nat.beq x.1 t<;>simp only[hb,cond_true,cond_false] at h
  ·exact(LC.all_le h).trans (Lk.le_r _ _)
  ·cases h;exact Lk.le_l _ _
theorem Wx:∀{l:List (Nat×Lk)} {id:Nat},id∈l.map (·.1)→∃k,ae l id=some k
 |[],_,h=>by cases h
 |x::l,id,h=>by
  simp only[ae];cases hb:Nat.beq x.1 id with
  |true=>exact⟨_,rfl⟩
  |false=>
   simp only[cond_false];rcases List.mem_cons.1 h with e|h
   ·rw[e,Nat.beq_refl] at hb;cases hb
   ·exact Wx h
theorem ato {T:cd}:∀(t:PT) {c:LC} {t':PT} {L:Lk},eL c t=some (t',L)→∀{Q1 Q2:Out→Prop} {ρ1 ρ2:Env},IZ c Q1 Q2→Alike L ρ1 ρ2→aG T t' ρ1 Q1→aG T t ρ2 Q2:=by
 intro t
 induction t with
 |next s=>
  intro c t' L hp Q1 Q2 ρ1 ρ2 hQ hA h;simp only[eL,Option.some.injEq,Prod.mk.injEq] at hp;obtain⟨rfl,rfl⟩:=hp;exact hQ.1 _ _ (SE.cut_al hA) h
 |exit id s=>
  intro c t' L hp Q1 Q2 ρ1 ρ2 hQ hA h;simp only[eL,Option.map_eq_some_iff,Prod.mk.injEq] at hp;obtain⟨k,hk,rfl,rfl⟩:=hp;exact hQ.2.1 _ k _ _ hk (SE.cut_al hA) h
 |ret e=>
  intro c t' L hp Q1 Q2 ρ1 ρ2 hQ hA h;simp only[eL,Option.some.injEq,Prod.mk.injEq] at hp;obtain⟨rfl,rfl⟩:=hp;show Q2 (.ret (e.ev ρ2));rw[PE.ev_alike e hA];exact hQ.2.2 _ h
 |chk e k ih=>
  intro c t' L hp Q1 Q2 ρ1 ρ2 hQ hA h;simp only[eL,Option.map_eq_some_iff,Prod.mk.injEq] at hp;obtain⟨r,hr,rfl,rfl⟩:=hp;exact⟨by rw[PE.ev_alike e (hA.le (Lk.le_l _ _))];exact h.1,ih hr hQ (hA.le (Lk.le_r _ _)) h.2⟩
 |ite e a b aY cR=>
  intro c t' L hp Q1 Q2 ρ1 ρ2 hQ hA h;simp only[eL,Option.bind_eq_some_iff,Option.map_eq_some_iff,Prod.mk.injEq] at hp;obtain⟨x,hx,y,hy,rfl,rfl⟩:=hp;have h2:=hA.le (Lk.le_r _ _);simp only[aG] at h ⊢;rw[PE.ev_alike e (hA.le (Lk.le_l _ _))];split
  ·rename_i hc;rw[if_pos hc] at h;exact aY hx hQ (h2.le (Lk.le_l _ _)) h
  ·rename_i hc;rw[if_neg hc] at h;exact cR hy hQ (h2.le (Lk.le_r _ _)) h
 |call s gs dst f args k ih=>
  intro c t' L hp Q1 Q2 ρ1 ρ2 hQ hA h;simp only[eL,Option.map_eq_some_iff,Prod.mk.injEq] at hp;obtain⟨r,hr,rfl,rfl⟩:=hp;have hS:=SE.cut_al (hA.le (Lk.le_r _ _));simp only[aG] at h ⊢;rw[PE.evs_alike args (hA.le (Lk.le_l _ _)),ve (hS.le (Lk.le_r _ _))];split
  ·rename_i hc;rw[if_pos hc] at h;obtain⟨d,hd,h⟩:=h;exact⟨d,hd,ih hr hQ ((hS.le (Lk.le_l _ _)).setR dst d) h⟩
  ·rename_i hc;rw[if_neg hc] at h;exact ih hr hQ (hS.le (Lk.le_l _ _)) h
 |callc s gs dst e args k ih=>
  intro c t' L hp Q1 Q2 ρ1 ρ2 hQ hA h;simp only[eL,Option.map_eq_some_iff,Prod.mk.injEq] at hp;obtain⟨r,hr,rfl,rfl⟩:=hp;have hS:=SE.cut_al (hA.le (Lk.le_r _ _));have hE:=hA.le (Lk.le_l _ _);simp only[aG] at h ⊢;rw[PE.ev_alike e (hE.le (Lk.le_l _ _)),PE.evs_alike args (hE.le (Lk.le_r _ _)),ve (hS.le (Lk.le_r _ _))];split
  ·rename_i hc;rw[if_pos hc] at h;obtain⟨f,caps,d,he,hd,h⟩:=h;exact⟨f,caps,d,he,hd,ih hr hQ ((hS.le (Lk.le_l _ _)).setR dst d) h⟩
  ·rename_i hc;rw[if_neg hc] at h;exact ih hr hQ (hS.le (Lk.le_l _ _)) h
 |mcall s j f args k ih=>
  intro c t' L hp Q1 Q2 ρ1 ρ2 hQ hA h;simp only[eL,Option.map_eq_some_iff,Prod.mk.injEq] at hp;obtain⟨r,hr,rfl,rfl⟩:=hp;have hS:=SE.cut_al (hA.le (Lk.le_r _ _));simp only[aG] at h ⊢;rw[PE.evs_alike args (hA.le (Lk.le_l _ _))];obtain⟨d,hd,h⟩:=h;exact⟨d,hd,ih hr hQ (hS.setO j d) h⟩
 |iteS s e lr lo a b k aY cR iy=>
  intro c t' L hp Q1 Q2 ρ1 ρ2 hQ hA h;simp only[eL,Option.bind_eq_some_iff,Option.map_eq_some_iff,Prod.mk.injEq] at hp;obtain⟨r,hr,x,hx,y,hy,rfl,rfl⟩:=hp;have hS:=SE.cut_al (hA.le (Lk.le_r _ _));have DX:=hS.le (Lk.le_l _ _);have zi:=hS.le ((Lk.le_l _ _).trans (Lk.le_r _ _));have hSy:=hS.le ((Lk.le_r _ _).trans (Lk.le_r _ _))
  have rel:IZ ⟨r.2,c.ov⟩ (jh ((s.cut (r.2.un (x.2.un y.2))).ev ρ1) lr lo (fF (fun ρ'=>aG T r.1 ρ' Q1) Q1)) (jh (s.ev ρ2) lr lo (fF (fun ρ'=>aG T k ρ' Q2) Q2)):=
   ⟨fun η1 η2 ha hq=>iy hr hQ (DX.join ha lr lo) hq,fun id k' η1 η2 hk ha hq=>hQ.2.1 id k' _ _ hk ha hq,fun d hq=>hQ.2.2 d hq⟩
  simp only[aG] at h ⊢;rw[PE.ev_alike e (hA.le (Lk.le_l _ _))];split
  ·rename_i hc;rw[if_pos hc] at h;exact aY hx rel zi h
  ·rename_i hc;rw[if_neg hc] at h;exact cR hy rel hSy h
 |blockS s id lr lo a k aY iy=>
  intro c t' L hp Q1 Q2 ρ1 ρ2 hQ hA h;simp only[eL,Option.bind_eq_some_iff,Option.map_eq_some_iff,Prod.mk.injEq] at hp;obtain⟨r,hr,x,hx,rfl,rfl⟩:=hp;have hS:=SE.cut_al hA;have DX:=hS.le (Lk.le_l _ _);refine aY hx (Q1:=jY ((s.cut (r.2.un x.2)).ev ρ1) id lr lo (fF (fun ρ'=>aG T r.1 ρ' Q1) Q1)) ⟨fun η1 η2 ha hq=>iy hr hQ (DX.join ha lr lo) hq,fun bF k' η1 η2 hk ha hq=>?_,fun d hq=>hQ.2.2 d hq⟩ (hS.le (Lk.le_r _ _)) h;simp only[jY] at hq ⊢;simp only[ae] at hk;by_cases e:bF=id
  ·subst e;simp only[Nat.beq_refl,cond_true,Option.some.injEq] at hk;subst hk;rw[if_pos rfl] at hq ⊢;exact iy hr hQ (DX.join ha lr lo) hq
  ·rw[if_neg e] at hq ⊢;rw[dI (fun h=>e h.symm),cond_false] at hk;exact hQ.2.1 bF k' _ _ hk ha hq
 |brk s p k iy=>
  intro c t' L hp Q1 Q2 ρ1 ρ2 hQ hA h;simp only[eL,Option.bind_eq_some_iff] at hp;obtain⟨r,hr,hp⟩:=hp;cases hx:lz (c.ov.map (·.1)) p<;>simp only[hx,cond_true,cond_false,Option.some.injEq,Prod.mk.injEq] at hp
  ·cases hp
  obtain⟨rfl,rfl⟩:=hp;have hS:=SE.cut_al hA;have gB:Off (p.lk.un (r.2.un c.all)) (s.ev ρ2) ((s.cut (p.lk.un (r.2.un c.all))).ev ρ1) (s.ev ρ2):=⟨hS,fun _ _=>rfl,fun _ _=>rfl⟩
  obtain⟨x,hq,n0,hn⟩:=h;have step:=fun n (hle:n0≤n)=>PC.ev_off p (Lk.le_l _ _) gB (hn n hle);obtain⟨x',h1,h2⟩:=step n0 (Nat.le_refl _);refine⟨x',?_,n0,fun n hle=>?_⟩
  ·cases x with
   |next η=>obtain⟨η',rfl,h3⟩:=h2;exact iy hr hQ (h3.al.le ((Lk.le_l _ _).trans (Lk.le_r _ _))) hq
   |exit i η=>
    obtain⟨η',rfl,h3⟩:=h2;obtain⟨k',bn⟩:=Wx (ajf p hx (hn n0 (Nat.le_refl _)));exact hQ.2.1 i k' _ _ bn (h3.al.le ((LC.all_le bn).trans ((Lk.le_r _ _).trans (Lk.le_r _ _)))) hq
   |ret d=>cases h2;exact hQ.2.2 d hq
  ·obtain⟨x2,h3,h4⟩:=step n hle;rw[h3,h2.uniq h4]
def AJ (c:LC)(t:PT):PT:=match eL c t with|some r=>r.1|none=>t
theorem Hs {T:cd}{c:LC}{t:PT}{Q:Out→Prop}{ρ:Env}(hQ:IZ c Q Q)(h:aG T (AJ c t) ρ Q):aG T t ρ Q:=by
 unfold AJ at h;split at h
 ·rename_i r hr;exact ato t hr hQ ⟨fun _ _=>rfl,fun _ _=>rfl⟩ h
 ·exact h
def ab4 (c:PC):PT:=sx c [] .id (fun _ s=>.next s) (fun _ id s=>.exit id s)
theorem ab5 {T:cd}{c:PC}{ρ:Env}{Q:Out→Prop}(h:aG T (ab4 c) ρ Q):aT T c ρ Q:=
 It (s:=.id) c (bG.ok_nil _) h (fun ρ' ab s _ _ h=>h) (fun ρ' ab id s _ _ h=>h) (fun _ _ _ h=>h) (fun _ h=>h)
def tree (c:PC):PT:=AJ ⟨.none,[]⟩ (ab4 c)
theorem IJ {T:cd}{c:PC}{ρ:Env}{d:D}(h:aG T (tree c) ρ fun x=>x=.ret d):aT T c ρ fun x=>x=.ret d:=
 ab5 (Hs ⟨fun _ _ _ h=>(by cases h),fun _ _ _ _ _ _ h=>(by cases h),fun _ h=>h⟩ h)
def SE.keep (s:SE)(lr lo:List Nat):SE:=⟨lr.map fun t=>(t,s.getR t),lo.map fun t=>(t,s.getO t)⟩
theorem SE.keep_r (s:SE)(lr lo:List Nat)(ρ:Env):lr.map ((s.keep lr lo).ev ρ).r=lr.map (s.ev ρ).r:=by
 apply List.map_congr_left;intro t ht;show((s.keep lr lo).getR t).ev ρ=(s.getR t).ev ρ;have:=sU (f:=fun t=>s.getR t) (l:=[]) (u:=t) lr;rw[List.append_nil,if_pos ht] at this;have e:(s.keep lr lo).getR t=s.getR t:=by unfold SE.getR SE.keep;simp only[];rw[this];rfl
 rw[e]
theorem SE.keep_o (s:SE)(lr lo:List Nat)(ρ:Env):lo.map ((s.keep lr lo).ev ρ).o=lo.map (s.ev ρ).o:=by
 apply List.map_congr_left;intro t ht;show((s.keep lr lo).getO t).ev ρ=(s.getO t).ev ρ;have:=sU (f:=fun t=>s.getO t) (l:=[]) (u:=t) lo;rw[List.append_nil,if_pos ht] at this;have e:(s.keep lr lo).getO t=s.getO t:=by unfold SE.getO SE.keep;simp only[];rw[this];rfl
 rw[e]
def abu (id:Nat)(bp bo lr lo:List Nat)(a:PC):PT:=
 sx a [] .id (fun _ s=>.next (s.keep lr lo)) (fun _ bF s=>bif Nat.beq bF id then .exit id (s.keep bp bo) else .exit bF s)
def dR (ρ:Env)(id:Nat)(bp bo lr lo:List Nat)(K:List D→List D→Prop)(Q:Out→Prop):Out→Prop
 |.next ρ'=>K (lr.map ρ'.r) (lo.map ρ'.o)
 |.exit bF ρ'=>if bF=id then Q (.next (ρ.put bp (bp.map ρ'.r) bo (bo.map ρ'.o))) else Q (.exit bF ρ')
 |.ret d=>Q (.ret d)
def round (id:Nat)(bp bo lr lo:List Nat)(a:PC):PT:=AJ ⟨⟨bits lr,lo⟩,[(id,⟨bits bp,bo⟩)]⟩ (abu id bp bo lr lo a)
theorem WQ {k:Lk}{lr:List Nat}{ρ1 ρ2:Env}(h:Alike k ρ1 ρ2)(hk:∀t,t∈lr→ar k.r t=true):lr.map ρ2.r=lr.map ρ1.r:=List.map_congr_left fun t ht=>h.r t (hk t ht)
theorem EW {k:Lk}{lo:List Nat}{ρ1 ρ2:Env}(h:Alike k ρ1 ρ2)(hk:∀t,t∈lo→t∈k.o):lo.map ρ2.o=lo.map ρ1.o:=List.map_congr_left fun t ht=>h.o t (hk t ht)
theorem auo {T:cd}{id:Nat}{bp bo lr lo:List Nat}{a:PC}{ρ ρ0:Env}{K:List D→List D→Prop}{Q:Out→Prop}(h:aG T (round id bp bo lr lo a) ρ (dR ρ0 id bp bo lr lo K Q)):aG T (abu id bp bo lr lo a) ρ (dR ρ0 id bp bo lr lo K Q):=by
 refine Hs ⟨fun ρ1 ρ2 ha hq=>?_,fun bF k ρ1 ρ2 hk ha hq=>?_,fun d hq=>hq⟩ h
 ·simp only[dR] at hq ⊢;rw[WQ ha fun t ht=>JQ ht,EW ha fun t ht=>ht];exact hq
 ·simp only[ae] at hk;cases hb:Nat.beq id bF<;>simp only[hb,cond_true,cond_false] at hk
  ·cases hk
  ·cases hk;have:=cq hb;subst this;simp only[dR,if_true] at hq ⊢;rw[WQ ha fun t ht=>JQ ht,EW ha fun t ht=>ht];exact hq
theorem aT.forLoop {T:cd}{id:Nat}{bp bo lr lo:List Nat}{a:PC}{ρ:Env}{Q:Out→Prop}{α:Type}(inv:α→List D→List D→Prop)(qU:α→Nat)(s0:α)(h0:inv s0 (lr.map ρ.r) (lo.map ρ.o))
 (step:∀s vr vo,inv s vr vo→aG T (round id bp bo lr lo a) (ρ.put lr vr lo vo) (dR ρ id bp bo lr lo (fun vr vo=>∃s',qU s'<qU s∧inv s' vr vo) Q)):aT T (.block id bp bo (.loop lr lo a)) ρ Q:=by
 refine .block (.loop inv qU s0 h0 fun s vr vo hi=>?_);have h:=auo (step s vr vo hi);refine It (s:=.id) a (bG.ok_nil _) h (fun ρ' ab s' _ _ h=>?_) (fun ρ' ab bF s' _ _ h=>?_) (fun _ bF ρ' h=>?_) (fun d h=>h)
 ·simp only[aG,dR] at h;rw[SE.keep_r,SE.keep_o] at h;exact h
 ·simp only[fF,jY];by_cases cf:bF=id
  ·subst cf;simp only[Nat.beq_refl,cond_true,aG,dR,if_true] at h;rw[SE.keep_r,SE.keep_o] at h;rw[if_pos rfl];exact h
  ·rw[dI cf,cond_false] at h;simp only[aG,dR] at h;rw[if_neg cf] at h ⊢;exact h
 ·simp only[fF,jY];simp only[dR] at h;split
  ·rename_i e;rw[if_pos e] at h;exact h
  ·rename_i e;rw[if_neg e] at h;exact h
def abv (lo:List Nat)(a:PC):PT:=sx a [] .id (fun _ s=>.next (s.keep [] lo)) (fun _ id s=>.exit id (s.keep [] lo))
def nf (lo:List Nat)(a:PC):PT:=AJ ⟨⟨0,lo⟩,[(cl,⟨0,lo⟩)]⟩ (abv lo a)
theorem abw {T:cd}{lo:List Nat}{a:PC}{ρ:Env}{Q:Out→Prop}(hn:∀ρ1 ρ2,lo.map ρ2.o=lo.map ρ1.o→Q (.next ρ1)→Q (.next ρ2))(hx:∀ρ1 ρ2,lo.map ρ2.o=lo.map ρ1.o→Q (.exit cl ρ1)→Q (.exit cl ρ2))(h:aG T (nf lo a) ρ Q):aG T (abv lo a) ρ Q:=by
 refine Hs ⟨fun ρ1 ρ2 ha hq=>hn ρ1 ρ2 (EW ha fun t ht=>ht) hq,fun bF k ρ1 ρ2 hk ha hq=>?_,fun d hq=>hq⟩ h;simp only[ae] at hk;cases hb:Nat.beq cl bF<;>simp only[hb,cond_true,cond_false] at hk
 ·cases hk
 ·cases hk;have:=cq hb;subst this;exact hx ρ1 ρ2 (EW ha fun t ht=>ht) hq
theorem aT.eachR {T:cd}{e:PE}{ps lo:List Nat}{rt:Option PE}{a:PC}{ρ:Env}{Q:Out→Prop}(xs:List D)(he:(e.ev ρ).l=xs)(inv:Nat→List D→Prop)(h0:inv 0 (lo.map ρ.o))
 (step:∀k x vo,xs[k]?=some x→inv k vo→aG T (nf lo a) (ρ.put ps (partsOf ps x) lo vo) (qj ρ lo rt (inv (k+1)) Q)) (done:∀vo,inv xs.length vo→Q (.next (ρ.put [] [] lo vo))):aT T (.each e ps lo rt a) ρ Q:=by
 refine .each xs he inv h0 (fun k x vo hx hi=>?_) done;have h:=abw (fun ρ1 ρ2 e hq=>by simp only[qj] at hq ⊢;rw[e];exact hq) (fun ρ1 ρ2 e hq=>by simp only[qj,if_true] at hq ⊢;rw[e];exact hq) (step k x vo hx hi);refine It (s:=.id) a (bG.ok_nil _) h (fun ρ' ab s' _ _ h=>?_) (fun ρ' ab bF s' _ _ h=>?_) (fun _ bF ρ' h=>h) (fun d h=>h)
 ·simp only[aG,qj] at h;rw[SE.keep_o] at h;exact h
 ·simp only[aG,qj] at h;rw[SE.keep_o] at h;exact h
theorem aT.meachR {T:cd}{J:Nat}{ps cm lo:List Nat}{a:PC}{ρ:Env}{Q:Out→Prop}(es:List (D×D))(he:ρ.o J=.tup [.list [],.map es])(inv:List D→List D→Prop)(h0:inv [] (lo.map ρ.o))
 (step:∀done x rest vo,(done++x::rest).Perm (fW (.map es))→inv done vo→aG T (nf lo a) ((ρ.put ps (cm.map x.tget) lo vo).setO J (.tup [.list (done++[x]),.map es])) (fun y=>∃ρ',y=.next ρ'∧inv (done++[x]) (lo.map ρ'.o)))
 (last:∃vo,(∀done,done.Perm (fW (.map es))→∀kB,inv done kB→kB=vo)∧Q (.next (ρ.put [] [] lo vo))):aT T (.meach J ps cm lo a) ρ Q:=by
 refine .meach es he inv h0 (fun done x rest vo hp hi=>?_) last;have h:=abw (fun ρ1 ρ2 e ⟨ρ',e1,hq⟩=>by cases e1;exact⟨_,rfl,by rw[e];exact hq⟩) (fun ρ1 ρ2 e ⟨ρ',e1,hq⟩=>by cases e1) (step done x rest vo hp hi);refine It (s:=.id) a (bG.ok_nil _) h (fun ρ' ab s' _ _ h=>?_) (fun ρ' ab bF s' _ _ h=>?_) (fun _ bF ρ' h=>?_) (fun d h=>?_)
 ·simp only[aG] at h;obtain⟨ρ2,e,h⟩:=h;injection e with e;subst e;rw[SE.keep_o] at h;exact⟨_,rfl,h⟩
 ·simp only[aG] at h;obtain⟨ρ2,e,h⟩:=h;cases e
 ·obtain⟨ρ2,e,_⟩:=h;cases e
 ·obtain⟨ρ2,e,_⟩:=h;cases e
theorem ub {T:cd}:∀(t:PT) {ρ:Env} {Q Q':Out→Prop},(∀x,Q x→Q' x)→aG T t ρ Q→aG T t ρ Q':=by
 intro t
 induction t with
 |next s=>intro ρ Q Q' h hx;exact h _ hx
 |exit id s=>intro ρ Q Q' h hx;exact h _ hx
 |ret e=>intro ρ Q Q' h hx;exact h _ hx
 |chk e k ih=>intro ρ Q Q' h hx;exact⟨hx.1,ih h hx.2⟩
 |ite c a b aY cR=>
  intro ρ Q Q' h hx;simp only[aG] at hx ⊢;split
  ·rename_i hc;rw[if_pos hc] at hx;exact aY h hx
  ·rename_i hc;rw[if_neg hc] at hx;exact cR h hx
 |call s gs dst f args k ih=>
  intro ρ Q Q' h hx;simp only[aG] at hx ⊢;split
  ·rename_i hc;rw[if_pos hc] at hx;obtain⟨d,hd,hx⟩:=hx;exact⟨d,hd,ih h hx⟩
  ·rename_i hc;rw[if_neg hc] at hx;exact ih h hx
 |callc s gs dst e args k ih=>
  intro ρ Q Q' h hx;simp only[aG] at hx ⊢;split
  ·rename_i hc;rw[if_pos hc] at hx;obtain⟨f,c,d,he,hd,hx⟩:=hx;exact⟨f,c,d,he,hd,ih h hx⟩
  ·rename_i hc;rw[if_neg hc] at hx;exact ih h hx
 |mcall s j f args k ih=>intro ρ Q Q' h hx;obtain⟨d,hd,hx⟩:=hx;exact⟨d,hd,ih h hx⟩
 |iteS s c lr lo a b k aY cR iy=>
  intro ρ Q Q' h hx
  have hq:∀x,jh (s.ev ρ) lr lo (fF (fun ρ'=>aG T k ρ' Q) Q) x→jh (s.ev ρ) lr lo (fF (fun ρ'=>aG T k ρ' Q') Q') x:=by
   intro x hx;cases x with
   |next ρ'=>exact iy h hx
   |exit id ρ'=>exact h _ hx
   |ret d=>exact h _ hx
  simp only[aG] at hx ⊢;split
  ·rename_i hc;rw[if_pos hc] at hx;exact aY hq hx
  ·rename_i hc;rw[if_neg hc] at hx;exact cR hq hx
 |blockS s id lr lo a k aY iy=>
  intro ρ Q Q' h hx;refine aY (fun x hx=>?_) hx;cases x with
  |next ρ'=>exact iy h hx
  |exit bF ρ'=>
   simp only[jY] at hx ⊢;split
   ·rename_i e;rw[if_pos e] at hx;exact iy h hx
   ·rename_i e;rw[if_neg e] at hx;exact h _ hx
  |ret d=>exact h _ hx
 |brk s c k ih=>
  intro ρ Q Q' h hx;refine aT.mono hx fun x hx=>?_;cases x with
  |next ρ'=>exact ih h hx
  |exit id ρ'=>exact h _ hx
  |ret d=>exact h _ hx
theorem aT.forRounds {T:cd}{id:Nat}{bp bo lr lo:List Nat}{a:PC}{ρ:Env}{Q:Out→Prop}(N:Nat)(str ez:Nat→List D)(h0:lr.map ρ.r=str 0∧lo.map ρ.o=ez 0)
 (step:∀k,k<N→aG T (round id bp bo lr lo a) (ρ.put lr (str k) lo (ez k)) (dR ρ id bp bo lr lo (fun vr vo=>vr=str (k+1)∧vo=ez (k+1)) Q))
 (last:aG T (round id bp bo lr lo a) (ρ.put lr (str N) lo (ez N)) (dR ρ id bp bo lr lo (fun _ _=>False) Q)):aT T (.block id bp bo (.loop lr lo a)) ρ Q:=by
 refine .forLoop (α:=Nat) (fun k vr vo=>k≤N∧vr=str k∧vo=ez k) (fun k=>N-k) 0 ⟨Nat.zero_le _,h0.1,h0.2⟩ ?_;rintro k vr vo ⟨hk,rfl,rfl⟩;have mono:∀{K K':List D→List D→Prop},(∀a b,K a b→K' a b)→∀x,dR ρ id bp bo lr lo K Q x→dR ρ id bp bo lr lo K' Q x:=by
  intro K K' h x hx;cases x with
  |next ρ'=>exact h _ _ hx
  |exit bF ρ'=>exact hx
  |ret d=>exact hx
 by_cases ah:k<N
 ·exact ub _ (mono fun a b ⟨h1,h2⟩=>⟨k+1,by omega,by omega,h1,h2⟩) (step k ah)
 ·obtain rfl:k=N:=by omega
  exact ub _ (mono fun a b h=>h.elim) last
theorem PM {ρ:Env}{id:Nat}{bp bo lr lo:List Nat}{K K':List D→List D→Prop}{Q:Out→Prop}(h:∀a b,K a b→K' a b):∀x,dR ρ id bp bo lr lo K Q x→dR ρ id bp bo lr lo K' Q x:=by
 intro x hx;cases x with
 |next ρ'=>exact h _ _ hx
 |exit bF ρ'=>exact hx
 |ret d=>exact hx
theorem aT.scan {T:cd}{id:Nat}{bp bo lr lo:List Nat}{a:PC}{ρ:Env}{Q:Out→Prop}(N:Nat)(ok:Nat→Prop)(str ez:Nat→List D)(h0:lr.map ρ.r=str 0∧lo.map ρ.o=ez 0)
 (step:∀k,k<N→(∀j,j<k→ok j)→ok k→aG T (round id bp bo lr lo a) (ρ.put lr (str k) lo (ez k)) (dR ρ id bp bo lr lo (fun vr vo=>vr=str (k+1)∧vo=ez (k+1)) Q))
 (bad:∀k,k<N→(∀j,j<k→ok j)→¬ok k→aG T (round id bp bo lr lo a) (ρ.put lr (str k) lo (ez k)) (dR ρ id bp bo lr lo (fun _ _=>False) Q))
 (last:(∀j,j<N→ok j)→aG T (round id bp bo lr lo a) (ρ.put lr (str N) lo (ez N)) (dR ρ id bp bo lr lo (fun _ _=>False) Q)):aT T (.block id bp bo (.loop lr lo a)) ρ Q:=by
 refine .forLoop (α:=Nat) (fun k vr vo=>k≤N∧(∀j,j<k→ok j)∧vr=str k∧vo=ez k) (fun k=>N-k) 0 ⟨Nat.zero_le _,fun j hj=>by omega,h0.1,h0.2⟩ ?_;rintro k vr vo ⟨hk,hj,rfl,rfl⟩;by_cases ah:k<N
 ·by_cases ax:ok k
  ·refine ub _ (PM fun a b ⟨h1,h2⟩=>⟨k+1,by omega,by omega,fun j Eh=>?_,h1,h2⟩) (step k ah hj ax);by_cases e:j=k
   ·subst e;exact ax
   ·exact hj j (by omega)
  ·exact ub _ (PM fun a b h=>h.elim) (bad k ah hj ax)
 ·obtain rfl:k=N:=by omega
  exact ub _ (PM fun a b h=>h.elim) (last hj)
def au (n:Nat)(e:PE):PE:=.mk ((List.range n).map fun i=>.cell e i)
def iO (n:Nat)(d:D):D:=.agg ((List.range n).flatMap fun i=>(d.c i).cells)
theorem ajd (ρ:Env)(n:Nat)(e:PE):(au n e).ev ρ=iO n (e.ev ρ):=by
 have key:∀l:List Nat,PE.evc ρ (l.map fun i=>.cell e i)=l.flatMap fun i=>((e.ev ρ).c i).cells:=by
  intro l
  induction l with
  |nil=>rfl
  |cons i l ih=>simp only[List.map_cons,PE.evc,PE.ev,List.flatMap_cons,ih]
 show D.agg _=_;rw[key];rfl
end Cx
namespace Cx
open Go Go.RowKit
def aV (n:Int):Prop:=-9223372036854775808≤n∧n≤9223372036854775807
def ints (l:List Int):D:=.list (l.map .int)
theorem cC {n:Int}(h:-9223372036854775808≤n∧n≤9223372036854775807):IntKind.i64.wrap n=n:=by
 simp only[IntKind.wrap,IntKind.signed,IntKind.bits];simp;split<;>omega
theorem DTy.int_inv {k:IntKind}{d:D}(h:DTy (.int k) d):∃n,d=.v (.int k n)∧k.min≤n∧n≤k.max:=by
 cases h with
 |int k n h1 h2=>exact⟨n,rfl,h1,h2⟩
 |other t d h=>exact h.elim
theorem DTy.i64_inv {d:D}(h:DTy (.int .i64) d):∃n,d=.int n∧aV n:=by
 obtain⟨n,rfl,h1,h2⟩:=h.int_inv;exact⟨n,rfl,by simpa [IntKind.min,IntKind.max,IntKind.signed,IntKind.bits] using h1,by simpa [IntKind.min,IntKind.max,IntKind.signed,IntKind.bits] using h2⟩
theorem DTy.bool_inv {d:D}(h:DTy .bool d):∃b,d=.bool b:=by
 cases h with
 |bool b=>exact⟨b,rfl⟩
 |other t d h=>exact h.elim
theorem DTy.slice_inv {e:Ty}{d:D}(h:DTy (.slice e) d):∃xs,d=.list xs∧xs.length≤maxLen∧∀x,x∈xs→DTy e.unf x:=by
 cases h with
 |slice e xs hm h=>exact⟨xs,rfl,hm,h⟩
 |other t d h=>exact h.elim
theorem DTy.agg_inv {ts:List Ty}{d:D}(h:DTy (.agg ts) d):∃ds,d=.agg ds∧DTys ts ds:=by
 cases h with
 |agg ts ds h=>exact⟨ds,rfl,h⟩
 |other t d h=>exact h.elim
theorem DTys.cons_inv {t:Ty}{ts:List Ty}{ds:List D}(h:DTys (t::ts) ds):∃d ds',ds=d::ds'∧DTy t d∧DTys ts ds':=by
 cases h with
 |cons h hs=>exact⟨_,_,rfl,h,hs⟩
theorem DTys.nil_inv {ds:List D}(h:DTys [] ds):ds=[]:=by cases h;rfl
theorem iz {α:Type}{enc:α→D}{P:α→Prop}{xs:List D}(h:∀x,x∈xs→∃a,x=enc a∧P a):∃l:List α,xs=l.map enc∧∀a,a∈l→P a:=by
 induction xs with
 |nil=>exact⟨[],rfl,fun _ h=>nomatch h⟩
 |cons x xs ih=>
  obtain⟨l,hl,hp⟩:=ih fun y hy=>h y (List.mem_cons_of_mem _ hy);obtain⟨a,ha,pa⟩:=h x (List.mem_cons_self ..)
  exact⟨a::l,by rw[hl,ha];rfl,fun b hb=>by
   rcases List.mem_cons.1 hb with e|hb
   ·rw[e];exact pa
   ·exact hp b hb⟩
theorem DTy.ints_inv {d:D}(h:DTy (.slice (.int .i64)) d):∃l:List Int,d=ints l∧l.length≤maxLen∧∀x,x∈l→aV x:=by
 obtain⟨xs,rfl,hm,hx⟩:=h.slice_inv;obtain⟨l,rfl,hl⟩:=iz (enc:=D.int) (P:=aV) fun x hh=>(hx x hh).i64_inv;exact⟨l,rfl,by simpa using hm,hl⟩
section
variable (ρ:Env) (T:cd)
@[simp] theorem aAZ (t:Nat):PE.ev ρ (.r t)=ρ.r t:=_root_.id rfl
@[simp] theorem aAW (t:Nat):PE.ev ρ (.o t)=ρ.o t:=_root_.id rfl
@[simp] theorem aAI (d:D):PE.ev ρ (.con d)=d:=_root_.id rfl
@[simp] theorem aAF (e:PE)(i:Nat):PE.ev ρ (.cell e i)=(PE.ev ρ e).c i:=_root_.id rfl
@[simp] theorem aA9 (e:PE)(a n:Nat):PE.ev ρ (.sub e a n)=.agg (((PE.ev ρ e).cells.drop a).take n):=_root_.id rfl
@[simp] theorem aA2 (e x:PE)(n:Nat):PE.ev ρ (.setc e n x)=.agg (dF (PE.ev ρ e).cells n (PE.ev ρ x).cells):=_root_.id rfl
@[simp] theorem aAP (es:List PE):PE.ev ρ (.mk es)=.agg (PE.evc ρ es):=_root_.id rfl
@[simp] theorem aAA (op:BinOp)(k:IntKind)(x y:PE):PE.ev ρ (.ai op k x y)=.v (.int k (dP op k (PE.ev ρ x).i (PE.ev ρ y).i)):=_root_.id rfl
@[simp] theorem aAG (op:BinOp)(x y:PE):PE.ev ρ (.ci op x y)=.v (.bool (ga op (PE.ev ρ x).i (PE.ev ρ y).i)):=_root_.id rfl
@[simp] theorem aAE (op:BinOp)(x y:PE):PE.ev ρ (.cb op x y)=.v (.bool (rN op (PE.ev ρ x).b (PE.ev ρ y).b)):=_root_.id rfl
@[simp] theorem aAK (op:BinOp)(x y:PE):PE.ev ρ (.cs op x y)=.v (.bool (rO op (PE.ev ρ x).s (PE.ev ρ y).s)):=_root_.id rfl
@[simp] theorem aAU (x:PE):PE.ev ρ (.nt x)=.v (.bool (!(PE.ev ρ x).b)):=_root_.id rfl
@[simp] theorem aAJ (k:IntKind)(x:PE):PE.ev ρ (.conv k x)=.v (.int k (k.wrap (PE.ev ρ x).i)):=_root_.id rfl
@[simp] theorem aAX (c a b:PE):PE.ev ρ (.pick c a b)=if(PE.ev ρ c).b=true then PE.ev ρ a else PE.ev ρ b:=by
  simp only[PE.ev];cases(PE.ev ρ c).b<;>rfl
@[simp] theorem aAQ (n:Nat)(e:PE):PE.ev ρ (au n e)=iO n (PE.ev ρ e):=ajd ρ n e
@[simp] theorem aAD (x:PE):PE.ev ρ (.bytes x)=.list ((PE.ev ρ x).s.data.toList.map fun b=>.v (.int .u8 b.toNat)):=_root_.id rfl
@[simp] theorem aAN (x:PE):PE.ev ρ (.llen x)=.v (.int .i64 (PE.ev ρ x).l.length):=_root_.id rfl
@[simp] theorem aA6 (x:PE):PE.ev ρ (.slen x)=.v (.int .i64 (PE.ev ρ x).s.size):=_root_.id rfl
@[simp] theorem aAR (x:PE):PE.ev ρ (.mlen x)=.v (.int .i64 (PE.ev ρ x).m.length):=_root_.id rfl
@[simp] theorem aAV (x i:PE):PE.ev ρ (.nth x i)=(PE.ev ρ x).l.getD (PE.ev ρ i).i.toNat .none:=_root_.id rfl
@[simp] theorem aAM (x i:PE):PE.ev ρ (.idx x i)=.v (.bool (decide (0≤(PE.ev ρ i).i∧(PE.ev ρ i).i<(PE.ev ρ x).l.length))):=_root_.id rfl
@[simp] theorem aA3 (x i y:PE)(n:Nat):PE.ev ρ (.setn x i n y)=.list ((PE.ev ρ x).l.set (PE.ev ρ i).i.toNat (ru ((PE.ev ρ x).l.getD (PE.ev ρ i).i.toNat .none) n (PE.ev ρ y))):=_root_.id rfl
@[simp] theorem aAC (x y:PE):PE.ev ρ (.app x y)=.list ((PE.ev ρ x).l++(PE.ev ρ y).l):=_root_.id rfl
@[simp] theorem aAO (es:List PE):PE.ev ρ (.lst es)=.list (PE.evs ρ es):=_root_.id rfl
@[simp] theorem aA1 (x y:PE):PE.ev ρ (.rep x y)=.list (List.replicate (PE.ev ρ x).i.toNat (PE.ev ρ y)):=_root_.id rfl
@[simp] theorem aA5 (x a b:PE):PE.ev ρ (.slc x a b)=.list (((PE.ev ρ x).l.take (PE.ev ρ b).i.toNat).drop (PE.ev ρ a).i.toNat):=_root_.id rfl
@[simp] theorem aA7 (x a b:PE):PE.ev ρ (.slok x a b)=.v (.bool (decide (0≤(PE.ev ρ a).i∧(PE.ev ρ a).i≤(PE.ev ρ b).i∧(PE.ev ρ b).i≤(PE.ev ρ x).l.length))):=_root_.id rfl
@[simp] theorem aA0 (x:PE):PE.ev ρ (.ref x)=.ref (PE.ev ρ x):=_root_.id rfl
@[simp] theorem aAL (x:PE):PE.ev ρ (.deref x)=(PE.ev ρ x).deref:=_root_.id rfl
@[simp] theorem aAY (m k v:PE):PE.ev ρ (.put m k v)=.map (jm (PE.ev ρ k) (PE.ev ρ v) (PE.ev ρ m).m):=_root_.id rfl
@[simp] theorem aAS (x y:PE):PE.ev ρ (.mn x y)=if(PE.ev ρ y).i<(PE.ev ρ x).i then PE.ev ρ y else PE.ev ρ x:=by
  simp only[PE.ev];by_cases h:(PE.ev ρ y).i<(PE.ev ρ x).i<;>simp[h]
@[simp] theorem aAT (x y:PE):PE.ev ρ (.mx x y)=if(PE.ev ρ y).i>(PE.ev ρ x).i then PE.ev ρ y else PE.ev ρ x:=by
  simp only[PE.ev];by_cases h:(PE.ev ρ y).i>(PE.ev ρ x).i<;>simp[h]
@[simp] theorem aBb (es:List PE):PE.ev ρ (.tup es)=.tup (PE.evs ρ es):=_root_.id rfl
@[simp] theorem aBa (x:PE)(i:Nat):PE.ev ρ (.tget x i)=(PE.ev ρ x).tget i:=_root_.id rfl
@[simp] theorem aAH (f:Nat)(es:List PE):PE.ev ρ (.clo f es)=.clo f (PE.evs ρ es):=_root_.id rfl
@[simp] theorem aAB (x y:PE):PE.ev ρ (.an x y)=.v (.bool ((PE.ev ρ x).b&&(PE.ev ρ y).b)):=_root_.id rfl
@[simp] theorem aBf:PE.evs ρ []=[]:=_root_.id rfl
@[simp] theorem aBe (e:PE)(es:List PE):PE.evs ρ (e::es)=PE.ev ρ e::PE.evs ρ es:=_root_.id rfl
@[simp] theorem aBd:PE.evc ρ []=[]:=_root_.id rfl
@[simp] theorem aBc (e:PE)(es:List PE):PE.evc ρ (e::es)=(PE.ev ρ e).cells++PE.evc ρ es:=_root_.id rfl
@[simp] theorem aAg (x:Bool):(D.bool x).b=x:=_root_.id rfl
@[simp] theorem aAv (k:IntKind)(n:Int):(D.v (.int k n)).i=n:=_root_.id rfl
@[simp] theorem aif (n:Int):(D.int n).i=n:=_root_.id rfl
@[simp] theorem aAq (x:List D):(D.list x).l=x:=_root_.id rfl
@[simp] theorem aAo (l:List Int):(ints l).l=l.map .int:=_root_.id rfl
@[simp] theorem aAr (x:List (D×D)):(D.map x).m=x:=_root_.id rfl
@[simp] theorem aAe (x:List D)(i:Nat):(D.agg x).c i=x.getD i .none:=_root_.id rfl
@[simp] theorem aAf (x:List D):(D.agg x).cells=x:=_root_.id rfl
@[simp] theorem aAp (x:List D):(D.list x).cells=[.list x]:=_root_.id rfl
@[simp] theorem aAn (x:List Int):(ints x).cells=[ints x]:=_root_.id rfl
@[simp] theorem aAk (n:Int):(D.int n).cells=[.int n]:=_root_.id rfl
@[simp] theorem aAh (n:Bool):(D.bool n).cells=[.bool n]:=_root_.id rfl
@[simp] theorem aAu (x:Value):(D.v x).cells=[.v x]:=_root_.id rfl
@[simp] theorem aAt (x:List D)(i:Nat):(D.tup x).tget i=x.getD i .none:=_root_.id rfl
@[simp] theorem aAs (x:D):(D.ref x).deref=x:=_root_.id rfl
@[simp] theorem aDr (s:SE)(t:Nat):(s.ev ρ).r t=PE.ev ρ (s.getR t):=_root_.id rfl
@[simp] theorem aDq (s:SE)(t:Nat):(s.ev ρ).o t=PE.ev ρ (s.getO t):=_root_.id rfl
@[simp] theorem aBo (o:List (Nat×PE))(u:Nat):SE.getR ⟨[],o⟩ u=.r u:=_root_.id rfl
@[simp] theorem aBn (t:Nat)(e:PE)(r o:List (Nat×PE))(u:Nat):SE.getR ⟨(t,e)::r,o⟩ u=if t=u then e else SE.getR ⟨r,o⟩ u:=by
  simp only[SE.getR,ae];by_cases h:t=u
  ·subst h;simp
  ·simp[dI h,h]
@[simp] theorem aBm (r:List (Nat×PE))(u:Nat):SE.getO ⟨r,[]⟩ u=.o u:=_root_.id rfl
@[simp] theorem aBl (t:Nat)(e:PE)(r o:List (Nat×PE))(u:Nat):SE.getO ⟨r,(t,e)::o⟩ u=if t=u then e else SE.getO ⟨r,o⟩ u:=by
  simp only[SE.getO,ae];by_cases h:t=u
  ·subst h;simp
  ·simp[dI h,h]
@[simp] theorem setR_r (t u:Nat)(d:D):(ρ.setR t d).r u=if u=t then d else ρ.r u:=Env.setR_r ρ t u d
@[simp] theorem aDx (t u:Nat)(d:D):(ρ.setR t d).o u=ρ.o u:=_root_.id rfl
@[simp] theorem setO_o (t u:Nat)(d:D):(ρ.setO t d).o u=if u=t then d else ρ.o u:=Env.setO_o ρ t u d
@[simp] theorem aDw (t u:Nat)(d:D):(ρ.setO t d).r u=ρ.r u:=_root_.id rfl
@[simp] theorem aC6 (lr lo:List Nat)(vr vo:List D)(u:Nat):(ρ.put lr vr lo vo).r u=putL ρ.r lr vr u:=_root_.id rfl
@[simp] theorem aC5 (lr lo:List Nat)(vr vo:List D)(u:Nat):(ρ.put lr vr lo vo).o u=putL ρ.o lo vo u:=_root_.id rfl
@[simp] theorem join_r (ρ':Env)(lr lo:List Nat)(u:Nat):(ρ.join lr lo ρ').r u=if u∈lr then ρ'.r u else ρ.r u:=Env.join_r ρ ρ' lr lo u
@[simp] theorem join_o (ρ':Env)(lr lo:List Nat)(u:Nat):(ρ.join lr lo ρ').o u=if u∈lo then ρ'.o u else ρ.o u:=Env.join_o ρ ρ' lr lo u
@[simp] theorem aC3 (f:Nat→D)(i:Nat)(is:List Nat)(x:D)(xs:List D)(u:Nat):putL f (i::is) (x::xs) u=if u=i then x else putL f is xs u:=Ht f i is x xs u
@[simp] theorem aC4 (f:Nat→D)(xs:List D)(u:Nat):putL f [] xs u=f u:=Hu f xs u
@[simp] theorem aAx (ds:List D)(u:Nat):(iQ ds).r u=ds.getD u .none:=_root_.id rfl
@[simp] theorem aBR:holds [] ρ=true:=_root_.id rfl
@[simp] theorem aBQ (g:Nat×Bool)(gs:List (Nat×Bool)):holds (g::gs) ρ=((ρ.r g.1).b==g.2&&holds gs ρ):=_root_.id rfl
variable (Q:Out→Prop)
@[simp] theorem aD6 (s:SE):aG T (.next s) ρ Q=Q (.next (s.ev ρ)):=_root_.id rfl
@[simp] theorem aD3 (id:Nat)(s:SE):aG T (.exit id s) ρ Q=Q (.exit id (s.ev ρ)):=_root_.id rfl
@[simp] theorem aD7 (e:PE):aG T (.ret e) ρ Q=Q (.ret (e.ev ρ)):=_root_.id rfl
@[simp] theorem aD2 (e:PE)(k:PT):aG T (.chk e k) ρ Q=((e.ev ρ).b=true∧aG T k ρ Q):=_root_.id rfl
@[simp] theorem aD4 (c:PE)(a b:PT):aG T (.ite c a b) ρ Q=if(c.ev ρ).b=true then aG T a ρ Q else aG T b ρ Q:=_root_.id rfl
@[simp] theorem aD0 (s:SE)(gs:List (Nat×Bool))(dst f:Nat)(args:List PE)(k:PT):aG T (.call s gs dst f args k) ρ Q=if holds gs (s.ev ρ)=true then ∃d,ao T f (PE.evs ρ args) d∧aG T k ((s.ev ρ).setR dst d) Q else aG T k (s.ev ρ) Q:=_root_.id rfl
@[simp] theorem aD5 (s:SE)(c:PE)(lr lo:List Nat)(a b k:PT):aG T (.iteS s c lr lo a b k) ρ Q=if(c.ev ρ).b=true then aG T a (s.ev ρ) (jh (s.ev ρ) lr lo (fF (fun ρ'=>aG T k ρ' Q) Q)) else aG T b (s.ev ρ) (jh (s.ev ρ) lr lo (fF (fun ρ'=>aG T k ρ' Q) Q)):=_root_.id rfl
@[simp] theorem aDY (s:SE)(id:Nat)(lr lo:List Nat)(a k:PT):aG T (.blockS s id lr lo a k) ρ Q=aG T a (s.ev ρ) (jY (s.ev ρ) id lr lo (fF (fun ρ'=>aG T k ρ' Q) Q)):=_root_.id rfl
@[simp] theorem aDZ (s:SE)(c:PC)(k:PT):aG T (.brk s c k) ρ Q=aT T c (s.ev ρ) (fF (fun ρ'=>aG T k ρ' Q) Q):=_root_.id rfl
variable (K:Env→Prop) (id:Nat) (lr lo bp bo:List Nat) (K2:List D→List D→Prop)
@[simp] theorem aDu (ρ':Env):fF K Q (.next ρ')=K ρ':=_root_.id rfl
@[simp] theorem aDt (i:Nat)(ρ':Env):fF K Q (.exit i ρ')=Q (.exit i ρ'):=_root_.id rfl
@[simp] theorem aDv (d:D):fF K Q (.ret d)=Q (.ret d):=_root_.id rfl
@[simp] theorem aCa (ρ':Env):jh ρ lr lo Q (.next ρ')=Q (.next (ρ.join lr lo ρ')):=_root_.id rfl
@[simp] theorem aCb (d:D):jh ρ lr lo Q (.ret d)=Q (.ret d):=_root_.id rfl
@[simp] theorem azW (ρ':Env):jY ρ id lr lo Q (.next ρ')=Q (.next (ρ.join lr lo ρ')):=_root_.id rfl
@[simp] theorem azV (i:Nat)(ρ':Env):jY ρ id lr lo Q (.exit i ρ')=if i=id then Q (.next (ρ.join lr lo ρ')) else Q (.exit i ρ'):=_root_.id rfl
@[simp] theorem azX (d:D):jY ρ id lr lo Q (.ret d)=Q (.ret d):=_root_.id rfl
@[simp] theorem aDn (ρ':Env):dR ρ id bp bo lr lo K2 Q (.next ρ')=K2 (lr.map ρ'.r) (lo.map ρ'.o):=_root_.id rfl
@[simp] theorem aDm (i:Nat)(ρ':Env):dR ρ id bp bo lr lo K2 Q (.exit i ρ')=if i=id then Q (.next (ρ.put bp (bp.map ρ'.r) bo (bo.map ρ'.o))) else Q (.exit i ρ'):=_root_.id rfl
@[simp] theorem aDo (d:D):dR ρ id bp bo lr lo K2 Q (.ret d)=Q (.ret d):=_root_.id rfl
@[simp] theorem aD1 (s:SE)(gs:List (Nat×Bool))(dst:Nat)(e:PE)(args:List PE)(k:PT):aG T (.callc s gs dst e args k) ρ Q=if holds gs (s.ev ρ)=true then ∃f caps d,e.ev ρ=.clo f caps∧ao T f (PE.evs ρ args++caps) d∧aG T k ((s.ev ρ).setR dst d) Q else aG T k (s.ev ρ) Q:=_root_.id rfl
@[simp] theorem aAw (rt:Option PE)(K3:List D→Prop)(i:Nat)(ρ':Env):qj ρ lo rt K3 Q (.exit i ρ')=if i=cl then ∃e,rt=some e∧Q (.ret (e.ev (ρ.put [] [] lo (lo.map ρ'.o)))) else Q (.exit i (ρ.put [] [] lo (lo.map ρ'.o))):=_root_.id rfl
@[simp] theorem aAy (J:Nat)(ds:List D)(u:Nat):(uB J ds).r u=(D.none::ds).getD u .none:=_root_.id rfl
theorem aja (J:Nat)(ds:List D)(u:Nat):(uB J ds).o u=if u=J then .list [] else .none:=by
 show(bif Nat.beq u J then D.list [] else .none)=_;by_cases h:u=J
 ·subst h;simp
 ·simp[dI h,h]
@[simp] theorem aC1 (p:Nat)(x:D):partsOf [p] x=[x.tget 0]:=_root_.id rfl
end
section
variable (k:IntKind) (a b:Int)
@[simp] theorem azO:dP .add k a b=k.wrap (a+b):=_root_.id rfl
@[simp] theorem azS:dP .sub k a b=k.wrap (a-b):=_root_.id rfl
@[simp] theorem azP:dP .mul k a b=k.wrap (a*b):=_root_.id rfl
@[simp] theorem azQ:dP .quo k a b=k.wrap (a.tdiv b):=_root_.id rfl
@[simp] theorem azR:dP .rem k a b=a.tmod b:=_root_.id rfl
@[simp] theorem az6:ga .eql a b=(a==b):=_root_.id rfl
@[simp] theorem aAb:ga .neq a b=(a !=b):=_root_.id rfl
@[simp] theorem aAa:ga .lss a b=decide (a<b):=_root_.id rfl
@[simp] theorem az9:ga .leq a b=decide (a≤b):=_root_.id rfl
@[simp] theorem az8:ga .gtr a b=decide (a>b):=_root_.id rfl
@[simp] theorem az7:ga .geq a b=decide (a≥b):=_root_.id rfl
variable (x y:Bool)
@[simp] theorem azZ:rN .eql x y=(x==y):=_root_.id rfl
@[simp] theorem az0:rN .neq x y=(!(x==y)):=_root_.id rfl
end
theorem ao.of_tree {tab:Nat→Option PC}{ext:Nat→Option (aL→List D→Option D)}{f:Nat}{pc:PC}{t:PT}{ds:List D}{d:D}(hx:ext f=none)(ht:tab f=some pc)(he:tree pc=t)(h:aG (cv tab ext) t (iQ ds) (fun x=>x=.ret d)):ao (cv tab ext) f ds d:=
 .of_pc hx ht (IJ (he▸h))
@[simp] theorem aAm (n:Int):D.v (.int .i64 n)=D.int n:=_root_.id rfl
@[simp] theorem aAj (b:Bool):D.v (.bool b)=D.bool b:=_root_.id rfl
@[simp] theorem aAl (a b:Int):(D.int a=D.int b)=(a=b):=by
  apply propext;constructor
  ·intro h;injection h with h;injection h
  ·intro h;rw[h]
@[simp] theorem aAi (a b:Bool):(D.bool a=D.bool b)=(a=b):=by
  apply propext;constructor
  ·intro h;injection h with h;injection h
  ·intro h;rw[h]
section
variable (c:Prop) [Decidable c] (x y:D)
@[simp] theorem aB7:(if c then x else y).b=if c then x.b else y.b:=by split<;>rfl
@[simp] theorem aB8:(if c then x else y).i=if c then x.i else y.i:=by split<;>rfl
end
@[simp] theorem aD8:IntKind.i64.wrap 0=0:=cC (by omega)
end Cx
namespace Cx
open Go
inductive Tm where
 |mk (op n:Int) (args:List Tm)
instance:Inhabited Tm:=⟨.mk 0 0 []⟩
namespace Tm
def op:Tm→Int|.mk o _ _=>o
def n:Tm→Int|.mk _ n _=>n
def args:Tm→List Tm|.mk _ _ aa=>aa
end Tm
mutual
def de:Tm→D
 |.mk o n aa=>.agg [.int o,.int n,.list (Dz aa)]
def Dz:List Tm→List D
 |[]=>[]
 |t::ts=>de t::Dz ts
end
theorem Kg:∀l:List Tm,Dz l=l.map de
 |[]=>rfl
 |t::l=>by rw[Dz,Kg l];rfl
theorem yY (t:Tm):de t=.agg [.int t.op,.int t.n,.list (t.args.map de)]:=by
 cases t with
 |mk o n aa=>rw[de,Kg];rfl
inductive Tm.OK:Tm→Prop where
 |mk (o n:Int) (aa:List Tm) (h1:aV o) (h2:aV n) (h3:aa.length≤maxLen) (h:∀a,a∈aa→Tm.OK a):Tm.OK (.mk o n aa)
theorem DTy.trm_inv {d:D}(h:DTy .trmA d):∃t:Tm,d=de t∧t.OK:=by
 suffices hs:∀(m:Nat) (d:D),sizeOf d≤m→DTy .trmA d→∃t:Tm,d=de t∧t.OK from hs _ d (Nat.le_refl _) h
 intro m
 induction m with
 |zero=>
  intro d hm h;cases d<;>simp at hm
 |succ m ih=>
  intro d hm h;obtain⟨ds,rfl,hs⟩:=DTy.agg_inv h;obtain⟨d1,ds,rfl,h1,hs⟩:=hs.cons_inv;obtain⟨d2,ds,rfl,h2,hs⟩:=hs.cons_inv;obtain⟨d3,ds,rfl,h3,hs⟩:=hs.cons_inv;obtain rfl:=hs.nil_inv;obtain⟨o,rfl,b1⟩:=h1.i64_inv;obtain⟨n,rfl,b2⟩:=h2.i64_inv;obtain⟨xs,rfl,hl,hx⟩:=h3.slice_inv
  obtain⟨l,rfl,ax⟩:=iz (enc:=de) (P:=Tm.OK) fun x hh=>ih x (by
   have:=List.sizeOf_lt_of_mem hh;simp at hm;omega) (hx x hh)
  exact⟨.mk o n l,by rw[de,Kg],.mk o n l b1 b2 (by simpa using hl) ax⟩
theorem DTy.trms_inv {d:D}(h:DTy (.slice .trm) d):∃l:List Tm,d=.list (l.map de)∧l.length≤maxLen∧∀t,t∈l→t.OK:=by
 obtain⟨xs,rfl,hl,hx⟩:=h.slice_inv;obtain⟨l,rfl,ax⟩:=iz (enc:=de) (P:=Tm.OK) fun x hh=>DTy.trm_inv (hx x hh);exact⟨l,rfl,by simpa using hl,ax⟩
end Cx
namespace Cx
open Go
def P0 (g:Nat)(zs:List Int):Nat→Option (Ty×D):=fun k=>bif Nat.beq k g then some (.agg (zs.map fun _=>.int .i64),.agg (zs.map fun z=>.v (.int .i64 z))) else none
theorem auT {C:Ctx}{g:Nat}{zs:List Int}{name:String}{W:World}(hC:C.glob=P0 g zs)(hg:C.P.globalNamed name=some g)(hz:zs.all (fun z=>decide (IntKind.i64.min≤z)&&decide (z≤IntKind.i64.max))=true)
 (h:Lib.TabIs C.P W name .i64 zs):CtxOK C (kV W):=by
 refine⟨fun k x hx=>?_⟩;rw[hC] at hx;unfold P0 at hx;cases hk:Nat.beq k g<;>simp only[hk,cond_true,cond_false] at hx
 ·cases hx
 cases hx;obtain rfl:=Nat.eq_of_beq_eq_true hk
 have z7:Rep C.cap (kV W) (.agg (zs.map fun _=>.int .i64)) (.agg (zs.map fun z=>Value.int .i64 z).toArray) (.agg (zs.map fun z=>.v (.int .i64 z))):=by
  refine .agg _ _ _ (by simp) (by simp) (fun i t ht=>?_) (fun i t ht=>?_)
  ·rw[List.getElem?_map,Option.map_eq_some_iff] at ht;obtain⟨z,sN,rfl⟩:=ht;rw[List.getD_eq_getElem?_getD,List.getD_eq_getElem?_getD,List.getElem?_map,List.getElem?_map,sN];have:=List.all_eq_true.1 hz z (List.mem_of_getElem? sN);simp only[Bool.and_eq_true,decide_eq_true_eq] at this;exact .int _ _ this.1 this.2
  ·rw[List.getElem?_map,Option.map_eq_some_iff] at ht;obtain⟨z,_,rfl⟩:=ht;rfl
 refine .ref _ k 0 _ _ z7 fun j u hu=>?_;simp only[Value.cells,List.getElem?_toArray,List.getElem?_map,Option.map_eq_some_iff] at hu;obtain⟨z,sN,rfl⟩:=hu;have ah:=(List.getElem?_eq_some_iff.1 sN).1;have:=h.cell hg j ah;show W.cell? ⟨k,0+j,none⟩=_;rw[Nat.zero_add,this,List.getD_eq_getElem?_getD,sN];rfl
end Cx
namespace Cx
open Go Go.RowKit
def loops:PC→List PC
 |.seq a b=>loops a++loops b
 |.ite _ _ _ a b=>loops a++loops b
 |.block id lr lo (.loop MO MJ a)=>loops a++[.block id lr lo (.loop MO MJ a)]
 |.block _ _ _ a=>loops a
 |.loop _ _ a=>loops a
 |.each e ps lo rt a=>loops a++[.each e ps lo rt a]
 |.meach J ps cm lo a=>loops a++[.meach J ps cm lo a]
 |_=>[]
def JR:PC→PC
 |.block _ _ _ (.loop _ _ a)=>a
 |.each _ _ _ _ a=>a
 |.meach _ _ _ _ a=>a
 |_=>.skip
def EV (c:PC)(k:Nat):PC:=(loops c).getD k .skip
def rnd:PC→PT
 |.block id lr lo (.loop MO MJ a)=>round id lr lo MO MJ a
 |.each _ _ lo _ a=>nf lo a
 |.meach _ _ _ lo a=>nf lo a
 |_=>.next .id
inductive Shp where
 |lp (id:Nat) (bp bo lr lo:List Nat)
 |ea (lo:List Nat)
 |no
def wO:PC→Shp
 |.block id bp bo (.loop lr lo _)=>.lp id bp bo lr lo
 |.each _ _ lo _ _=>.ea lo
 |.meach _ _ _ lo _=>.ea lo
 |_=>.no
def told (c:PC):PT×List (Shp×PT):=(tree c,(loops c).map fun l=>(wO l,rnd l))
theorem Ix {o:Option PC}{t:PT}{l:List (Shp×PT)}(h:o.map told=some (t,l)):o=some (o.getD .skip)∧tree (o.getD .skip)=t∧∀k x,l[k]?=some x→(wO (EV (o.getD .skip) k),rnd (EV (o.getD .skip) k))=x:=by
 cases o with
 |none=>cases h
 |some c=>
  have h1:told c=(t,l):=by injection h
  unfold told at h1;injection h1 with h1 h2
  refine⟨rfl,h1,fun k x hx=>?_⟩;subst h2;simp only[List.getElem?_map,Option.map_eq_some_iff] at hx;obtain⟨y,hy,rfl⟩:=hx;have:EV ((some c:Option PC).getD .skip) k=y:=by
   show(loops c).getD k .skip=y;rw[List.getD_eq_getElem?_getD,hy];rfl
  rw[this]
theorem atT {c:PC}{id:Nat}{bp bo lr lo:List Nat}{t:PT}(h:(wO c,rnd c)=(.lp id bp bo lr lo,t)):round id bp bo lr lo (JR c)=t:=by
 injection h with h1 h2
 subst h2;unfold wO at h1;split at h1
 ·cases h1;rfl
 all_goals cases h1
theorem aiY {c:PC}{lo:List Nat}{t:PT}(h:(wO c,rnd c)=(.ea lo,t)):nf lo (JR c)=t:=by
 injection h with h1 h2
 subst h2;unfold wO at h1;split at h1
 ·cases h1
 ·cases h1;rfl
 ·cases h1;rfl
 ·cases h1
noncomputable def cf {α:Type}(x:α):α:=Classical.choose (⟨x,rfl⟩:∃y,y=x)
theorem zA {α:Type}(x:α):cf x=x:=Classical.choose_spec (⟨x,rfl⟩:∃y,y=x)
noncomputable def av (o:Option PC):Nat→PC:=fun k=>JR (EV (o.getD .skip) k)
noncomputable abbrev ay (o:Option PC):PC:=cf (o.getD .skip)
noncomputable abbrev bz (o:Option PC):Nat→PC:=cf (av o)
section
variable {o:Option PC} {F:(Nat→PC)→PT×List (Shp×PT)}
theorem aC (h:o.map told=some (F (av o))):o=some (ay o):=by unfold ay;rw[zA];exact(Ix (t:=(F (av o)).1) (l:=(F (av o)).2) h).1
theorem aJ (h:o.map told=some (F (av o))):tree (ay o)=(F (bz o)).1:=by unfold ay bz;rw[zA,zA];exact(Ix (t:=(F (av o)).1) (l:=(F (av o)).2) h).2.1
theorem br (h:o.map told=some (F (av o)))(k:Nat){id:Nat}{bp bo lr lo:List Nat}{t:(Nat→PC)→PT}(hk:∀b,(F b).2[k]?=some (.lp id bp bo lr lo,t b)):round id bp bo lr lo (bz o k)=t (bz o):=by
 unfold bz;rw[zA];exact atT ((Ix (t:=(F (av o)).1) (l:=(F (av o)).2) h).2.2 k _ (hk _))
theorem P6 (h:o.map told=some (F (av o)))(k:Nat){lo:List Nat}{t:(Nat→PC)→PT}(hk:∀b,(F b).2[k]?=some (.ea lo,t b)):nf lo (bz o k)=t (bz o):=by
 unfold bz;rw[zA];exact aiY ((Ix (t:=(F (av o)).1) (l:=(F (av o)).2) h).2.2 k _ (hk _))
end
theorem aD {α:Type}{R:Nat→α→Prop}{f:Nat}{x:α}{l:List (Nat×α)}(h:R f x)(k:Cd R l):Cd R ((f,x)::l):=⟨h,k⟩
theorem aE {α:Type}:∀{l:List (Nat×α)},(l.map (·.1)).Nodup→∀{k f:Nat} {x:α},l[k]?=some (f,x)→ae l f=some x
 |[],_,k,f,x,h=>by simp at h
 |y::l,hn,0,f,x,h=>by
  simp only[List.getElem?_cons_zero,Option.some.injEq] at h;subst h;simp[ae]
 |y::l,hn,k+1,f,x,h=>by
  simp only[List.getElem?_cons_succ] at h;rw[List.map_cons,List.nodup_cons] at hn;have hm:f∈l.map (·.1):=List.mem_map.2 ⟨(f,x),List.mem_of_getElem? h,rfl⟩;have hb:Nat.beq y.1 f=false:=by
   cases e:Nat.beq y.1 f with
   |false=>rfl
   |true=>rw[cq e] at hn;exact absurd hm hn.1
  simp only[ae,hb,cond_false];exact aE hn.2 h
abbrev pT:PE:=.con (.bool true)
abbrev pF:PE:=.con (.bool false)
abbrev pN:PE:=.con .none
abbrev pL:PE:=.con (.list [])
abbrev pi (n:Int):PE:=.con (.int n)
abbrev aH (a b:PE):PE:=.ai .add .i64 a b
abbrev bh (a b:PE):PE:=.ai .sub .i64 a b
abbrev aw (a b:PE):PE:=.ci .eql a b
abbrev aO (a b:PE):PE:=.ci .neq a b
abbrev ak (a b:PE):PE:=.ci .lss a b
abbrev bM (a b:PE):PE:=.ci .leq a b
abbrev be (a b:PE):PE:=.ci .gtr a b
abbrev bt (a b:PE):PE:=.ci .geq a b
abbrev pc (a:PE)(i:Nat):PE:=.cell a i
abbrev pn (a b:PE):PE:=.nth a b
abbrev aq (a b:PE):PE:=.idx a b
abbrev z2:PE:=.con (.agg [(.int 0),(.int 0)])
abbrev z3:PE:=.con (.agg [(.int 0),(.int 0),(.int 0)])
abbrev z4:PE:=.con (.agg [(.int 0),(.int 0),(.int 0),(.int 0)])
abbrev z5:PE:=.con (.agg [(.int 0),(.int 0),(.int 0),(.int 0),(.int 0)])
abbrev z6:PE:=.con (.agg [(.int 0),(.int 0),(.int 0),(.int 0),(.int 0),(.int 0)])
abbrev z9:PE:=.con (.agg [(.int 0),(.int 0),(.int 0),(.int 0),(.int 0),(.int 0),(.int 0),(.int 0),(.int 0)])
abbrev IT:PE:=.con (.agg [(.int 0),(.int 0),(.int 0),(.int 0),(.int 0),(.int 0),(.int 0),(.int 0),(.int 0),(.int 0),(.int 0),(.int 0),(.int 0),(.int 0),(.int 0)])
abbrev r0:PE:=.r 0
abbrev r1:PE:=.r 1
abbrev r2:PE:=.r 2
abbrev r3:PE:=.r 3
abbrev r4:PE:=.r 4
abbrev r5:PE:=.r 5
abbrev r6:PE:=.r 6
abbrev r7:PE:=.r 7
abbrev r8:PE:=.r 8
abbrev r9:PE:=.r 9
abbrev dj:PE:=.r 10
abbrev aU:PE:=.r 11
abbrev bT:PE:=.r 12
abbrev dx:PE:=.r 13
abbrev cS:PE:=.r 14
abbrev gm:PE:=.r 15
abbrev bU:PE:=.r 16
abbrev jL:PE:=.r 17
abbrev gZ:PE:=.r 18
abbrev fX:PE:=.r 19
abbrev dD:PE:=.r 20
abbrev jn:PE:=.r 21
abbrev HK:PE:=.r 22
abbrev kp:PE:=.r 23
abbrev m0:PE:=.r 24
abbrev gI:PE:=.r 25
abbrev kq:PE:=.r 26
abbrev eX:PE:=.r 27
abbrev pK:PE:=.r 28
abbrev m4:PE:=.r 29
abbrev wv:PE:=.r 30
abbrev q5:PE:=.r 31
abbrev AY:PE:=.r 32
abbrev q6:PE:=.r 33
abbrev r34:PE:=.r 34
abbrev wx:PE:=.r 35
abbrev iL:PE:=.r 36
abbrev m5:PE:=.r 37
abbrev gJ:PE:=.r 38
abbrev AZ:PE:=.r 39
abbrev oa:PE:=.r 40
abbrev pM:PE:=.r 41
abbrev A0:PE:=.r 42
abbrev q7:PE:=.r 43
abbrev tF:PE:=.r 44
abbrev oc:PE:=.r 45
abbrev m6:PE:=.r 46
abbrev r47:PE:=.r 47
abbrev od:PE:=.r 48
abbrev pO:PE:=.r 49
abbrev lW:PE:=.r 50
abbrev HL:PE:=.r 51
abbrev HM:PE:=.r 52
abbrev r53:PE:=.r 53
abbrev pP:PE:=.r 54
abbrev wy:PE:=.r 55
abbrev lX:PE:=.r 56
abbrev OJ:PE:=.r 57
abbrev HN:PE:=.r 58
abbrev OL:PE:=.r 59
abbrev r60:PE:=.r 60
abbrev A1:PE:=.r 61
abbrev tG:PE:=.r 62
abbrev OM:PE:=.r 63
abbrev HO:PE:=.r 64
abbrev r65:PE:=.r 65
abbrev ON:PE:=.r 66
abbrev q8:PE:=.r 67
abbrev r68:PE:=.r 68
abbrev pQ:PE:=.r 69
abbrev r70:PE:=.r 70
abbrev r71:PE:=.r 71
abbrev HP:PE:=.r 72
abbrev OO:PE:=.r 73
abbrev A2:PE:=.r 74
abbrev wz:PE:=.r 75
abbrev m8:PE:=.r 76
abbrev r77:PE:=.r 77
abbrev OP:PE:=.r 78
abbrev r79:PE:=.r 79
abbrev wA:PE:=.r 80
abbrev pR:PE:=.r 81
abbrev jo:PE:=.r 82
abbrev r84:PE:=.r 84
abbrev wB:PE:=.r 85
abbrev r86:PE:=.r 86
abbrev r87:PE:=.r 87
abbrev HQ:PE:=.r 88
abbrev r89:PE:=.r 89
abbrev r90:PE:=.r 90
abbrev r91:PE:=.r 91
abbrev wC:PE:=.r 92
abbrev A3:PE:=.r 93
abbrev r94:PE:=.r 94
abbrev r95:PE:=.r 95
abbrev r96:PE:=.r 96
abbrev r97:PE:=.r 97
abbrev r98:PE:=.r 98
abbrev oe:PE:=.r 99
abbrev aC7:PE:=.r 101
abbrev aaI:PE:=.r 102
abbrev HI:PE:=.r 103
abbrev OE:PE:=.r 104
abbrev aaJ:PE:=.r 105
abbrev aaK:PE:=.r 106
abbrev aC8:PE:=.r 107
abbrev OF:PE:=.r 108
abbrev aC9:PE:=.r 109
abbrev aDa:PE:=.r 110
abbrev OG:PE:=.r 112
abbrev aDb:PE:=.r 113
abbrev aDc:PE:=.r 119
abbrev aDd:PE:=.r 120
abbrev aDe:PE:=.r 121
abbrev aDf:PE:=.r 126
abbrev HJ:PE:=.r 127
abbrev o0:PE:=.o 0
abbrev o1:PE:=.o 1
abbrev o2:PE:=.o 2
abbrev o3:PE:=.o 3
abbrev o4:PE:=.o 4
abbrev o5:PE:=.o 5
abbrev o6:PE:=.o 6
abbrev o7:PE:=.o 7
abbrev o8:PE:=.o 8
abbrev o9:PE:=.o 9
abbrev bk:PE:=.o 10
abbrev o11:PE:=.o 11
abbrev kl:PE:=.o 12
abbrev Ns:PE:=.o 13
abbrev o14:PE:=.o 14
abbrev o15:PE:=.o 15
abbrev o16:PE:=.o 16
abbrev o17:PE:=.o 17
abbrev o19:PE:=.o 19
abbrev o20:PE:=.o 20
abbrev o21:PE:=.o 21
abbrev o22:PE:=.o 22
abbrev E9:PE:=.o 45
end Cx
