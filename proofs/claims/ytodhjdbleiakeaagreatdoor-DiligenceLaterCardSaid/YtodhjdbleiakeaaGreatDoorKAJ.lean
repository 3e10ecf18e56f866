/-
  Shared texts of this claim.
-/
import Derived.Test.YtodhjdbleiakeaaGreatDoorKAI
import Derived.Lib.LaidTab
set_option linter.unusedSimpArgs false
set_option linter.unusedVariables false
namespace Cx
open Go Go.RowKit
structure SE where
 r:List (Nat×PE)
 o:List (Nat×PE)
def SE.getR (s:SE)(t:Nat):PE:=match ab s.r t with|some e=>e|none=>.r t
def SE.getO (s:SE)(t:Nat):PE:=match ab s.o t with|some e=>e|none=>.o t
def SE.setR (s:SE)(t:Nat)(e:PE):SE:=⟨(t,e)::s.r,s.o⟩
def SE.setO (s:SE)(t:Nat)(e:PE):SE:=⟨s.r,(t,e)::s.o⟩
def SE.id:SE:=⟨[],[]⟩
def SE.ev (s:SE)(ρ:Env):Env:=⟨fun t=>(s.getR t).ev ρ,fun t=>(s.getO t).ev ρ⟩
def SE.join (s:SE)(lr lo:List Nat)(s':SE):SE:=⟨lr.map (fun t=>(t,s'.getR t))++s.r,lo.map (fun t=>(t,s'.getO t))++s.o⟩
theorem SE.setR_ev (s:SE)(t:Nat)(e:PE)(ρ:Env):(s.setR t e).ev ρ=(s.ev ρ).setR t (e.ev ρ):=by
 have h:(fun u=>((s.setR t e).getR u).ev ρ)=bQ (fun u=>(s.getR u).ev ρ) t (e.ev ρ):=by
  funext u;simp only[SE.getR,SE.setR,ab,fq];by_cases h:t=u
  ·subst h;simp
  ·have h':¬u=t:=fun e=>h e.symm;simp[dR h,h']
 simp only[SE.ev,Env.setR];rw[h];rfl
theorem SE.setO_ev (s:SE)(t:Nat)(e:PE)(ρ:Env):(s.setO t e).ev ρ=(s.ev ρ).setO t (e.ev ρ):=by
 have h:(fun u=>((s.setO t e).getO u).ev ρ)=bQ (fun u=>(s.getO u).ev ρ) t (e.ev ρ):=by
  funext u;simp only[SE.getO,SE.setO,ab,fq];by_cases h:t=u
  ·subst h;simp
  ·have h':¬u=t:=fun e=>h e.symm;simp[dR h,h']
 simp only[SE.ev,Env.setO];rw[h];rfl
theorem uy {f:Nat→PE}{l:List (Nat×PE)}{u:Nat}:∀(lr:List Nat),ab (lr.map (fun t=>(t,f t))++l) u=if u∈lr then some (f u) else ab l u
 |[]=>by simp
 |t::lr=>by
  simp only[List.map_cons,List.cons_append,ab,uy lr,List.mem_cons];by_cases h:t=u
  ·subst h;simp
  ·have h':¬u=t:=fun e=>h e.symm;simp[dR h,h']
theorem SE.join_ev (s s':SE)(lr lo:List Nat)(ρ:Env):(s.join lr lo s').ev ρ=(s.ev ρ).join lr lo (s'.ev ρ):=by
 have h1:∀u,((s.join lr lo s').getR u).ev ρ=((s.ev ρ).join lr lo (s'.ev ρ)).r u:=by
  intro u;rw[Env.join_r];have e:ab (s.join lr lo s').r u=if u∈lr then some (s'.getR u) else ab s.r u:=uy lr;unfold SE.getR;rw[e];by_cases h:u∈lr
  ·simp only[h,if_true];rfl
  ·simp only[h,if_false];rfl
 have h2:∀u,((s.join lr lo s').getO u).ev ρ=((s.ev ρ).join lr lo (s'.ev ρ)).o u:=by
  intro u;rw[Env.join_o];have e:ab (s.join lr lo s').o u=if u∈lo then some (s'.getO u) else ab s.o u:=uy lo;unfold SE.getO;rw[e];by_cases h:u∈lo
  ·simp only[h,if_true];rfl
  ·simp only[h,if_false];rfl
 have e1:(fun u=>((s.join lr lo s').getR u).ev ρ)=((s.ev ρ).join lr lo (s'.ev ρ)).r:=funext h1;have e2:(fun u=>((s.join lr lo s').getO u).ev ρ)=((s.ev ρ).join lr lo (s'.ev ρ)).o:=funext h2;show Env.mk _ _=_;rw[e1,e2]
abbrev bJ:=List (PE×Bool)
def bJ.ok (ae:bJ)(ρ:Env):Prop:=∀x,x∈ae→(x.1.ev ρ).b=x.2
def D0 (e:PE):bJ→Option Bool
 |[]=>none
 |x::l=>bif PE.beq x.1 e then some x.2 else D0 e l
theorem VC {e:PE}{ρ:Env}{b:Bool}:∀{ae:bJ},ae.ok ρ→D0 e ae=some b→(e.ev ρ).b=b
 |[],_,h=>by cases h
 |x::l,aA,h=>by
  simp only[D0] at h;cases hb:PE.beq x.1 e<;>simp only[hb,cond_true,cond_false] at h
  ·exact VC (fun y hy=>aA y (List.mem_cons_of_mem _ hy)) h
  ·cases h;rw[←PE.beq_eq _ _ hb];exact aA x (List.mem_cons_self ..)
def sQ (ae:bJ):PE→Option Bool
 |.con (.v (.bool b))=>some b
 |.nt x=>(sQ ae x).map (!·)
 |e=>D0 e ae
theorem vt {ae:bJ}{ρ:Env}(h:ae.ok ρ):∀{e:PE} {b:Bool},sQ ae e=some b→(e.ev ρ).b=b
 |.con (.v (.bool b)),b',he=>by simp only[sQ,Option.some.injEq] at he;subst he;rfl
 |.nt x,b',he=>by
  simp only[sQ,Option.map_eq_some_iff] at he;obtain⟨c,hc,rfl⟩:=he;simp only[PE.ev,D.b_bool,vt h hc]
 |e,b',he=>by
  unfold sQ at he;split at he
  ·cases he;rfl
  ·rename_i x;simp only[Option.map_eq_some_iff] at he;obtain⟨c,hc,rfl⟩:=he;simp only[PE.ev,D.b_bool,vt h hc]
  ·exact VC h he
def qI (ae:bJ)(c a b:PE):PE:=match sQ ae c with|some true=>a|some false=>b|none=>.pick c a b
theorem QG {ae:bJ}{ρ:Env}(h:ae.ok ρ)(c a b:PE):(qI ae c a b).ev ρ=(PE.pick c a b).ev ρ:=by
 unfold qI;split
 ·rename_i ht;simp[PE.ev,vt h ht]
 ·rename_i ht;simp[PE.ev,vt h ht]
 ·rfl
def MQ:PE→PE
 |.ref x=>x
 |x=>.deref x
theorem ama (x:PE)(ρ:Env):(MQ x).ev ρ=(PE.deref x).ev ρ:=by unfold MQ;split<;>rfl
def Sy:PE→Nat→PE
 |.tup es,i=>es.getD i (.con .none)
 |x,i=>.tget x i
theorem ayr (x:PE)(i:Nat)(ρ:Env):(Sy x i).ev ρ=(PE.tget x i).ev ρ:=by
 unfold Sy;split
 ·rename_i es;simp only[PE.ev,D.tget_tup,PE.evs_eq,List.getD_eq_getElem?_getD,List.getElem?_map];cases es[i]?<;>rfl
 ·rfl
def B1:PE→Bool
 |.ai ..|.ci ..|.cb ..|.cs ..|.sadd ..|.nt _|.conv ..|.llen _|.bytes _|.slen _|.mlen _|.idx ..|.sidx ..|.sok ..|.slok ..|.lst _|.app ..|.setn ..|.rep ..|.slc ..|.ref _|.has ..|.put ..|.an ..|.imp ..|.tup _|.clo ..=>true
 |.con (.v _)|.con (.list _)|.con (.map _)=>true
 |_=>false
theorem avC {e:PE}(h:B1 e=true)(ρ:Env):(e.ev ρ).cells=[e.ev ρ]:=by
 unfold B1 at h;split at h<;>first|rfl|cases h
def ME:PE→Nat→PE
 |.mk es,i=>bif es.all B1 then es.getD i (.con .none) else .cell (.mk es) i
 |x,i=>.cell x i
theorem Wz {ρ:Env}:∀{es:List PE},es.all B1=true→PE.evc ρ es=PE.evs ρ es
 |[],_=>rfl
 |e::es,h=>by
  simp only[List.all_cons,Bool.and_eq_true] at h;simp only[PE.evc,PE.evs,avC h.1,Wz h.2];rfl
theorem ai7 (x:PE)(i:Nat)(ρ:Env):(ME x i).ev ρ=(PE.cell x i).ev ρ:=by
 unfold ME;split
 ·rename_i es;cases hc:es.all B1
  ·rfl
  ·simp only[cond_true,PE.ev,Wz hc,D.c_agg,PE.evs_eq,List.getD_eq_getElem?_getD,List.getElem?_map];cases es[i]?<;>rfl
 ·rfl
def AM (s:SE):List (Nat×Bool)→PE
 |[]=>.con (.v (.bool true))
 |g::gs=>.an (bif g.2 then s.getR g.1 else .nt (s.getR g.1)) (AM s gs)
theorem W3 (s:SE)(ρ:Env):∀gs,((AM s gs).ev ρ).b=holds gs (s.ev ρ)
 |[]=>rfl
 |g::gs=>by
  have ih:=W3 s ρ gs;rw[asb,←ih];have e:((s.ev ρ).r g.1)=(s.getR g.1).ev ρ:=rfl;rw[e];cases hg:g.2
  ·simp only[AM,hg,cond_false,PE.ev,D.b_bool];cases((s.getR g.1).ev ρ).b<;>rfl
  ·simp only[AM,hg,cond_true,PE.ev,D.b_bool];cases((s.getR g.1).ev ρ).b<;>rfl
mutual
def PE.sub' (ae:bJ)(s:SE):PE→PE
 |.r t=>s.getR t
 |.o j=>s.getO j
 |.con d=>.con d
 |.cell e i=>ME (PE.sub' ae s e) i
 |.sub e a b=>.sub (PE.sub' ae s e) a b
 |.setc e q x=>.setc (PE.sub' ae s e) q (PE.sub' ae s x)
 |.mk es=>.mk (PE.subs' ae s es)
 |.ai op k x y=>.ai op k (PE.sub' ae s x) (PE.sub' ae s y)
 |.ci op x y=>.ci op (PE.sub' ae s x) (PE.sub' ae s y)
 |.cb op x y=>.cb op (PE.sub' ae s x) (PE.sub' ae s y)
 |.cs op x y=>.cs op (PE.sub' ae s x) (PE.sub' ae s y)
 |.sadd x y=>.sadd (PE.sub' ae s x) (PE.sub' ae s y)
 |.nt x=>.nt (PE.sub' ae s x)
 |.conv k x=>.conv k (PE.sub' ae s x)
 |.pick c a b=>qI ae (PE.sub' ae s c) (PE.sub' ae s a) (PE.sub' ae s b)
 |.llen x=>.llen (PE.sub' ae s x)
 |.bytes x=>.bytes (PE.sub' ae s x)
 |.slen x=>.slen (PE.sub' ae s x)
 |.mlen x=>.mlen (PE.sub' ae s x)
 |.nth x y=>.nth (PE.sub' ae s x) (PE.sub' ae s y)
 |.idx x y=>.idx (PE.sub' ae s x) (PE.sub' ae s y)
 |.sidx x y=>.sidx (PE.sub' ae s x) (PE.sub' ae s y)
 |.sok x y=>.sok (PE.sub' ae s x) (PE.sub' ae s y)
 |.setn x y n z=>.setn (PE.sub' ae s x) (PE.sub' ae s y) n (PE.sub' ae s z)
 |.app x y=>.app (PE.sub' ae s x) (PE.sub' ae s y)
 |.lst es=>.lst (PE.subs' ae s es)
 |.rep x y=>.rep (PE.sub' ae s x) (PE.sub' ae s y)
 |.slc x y z=>.slc (PE.sub' ae s x) (PE.sub' ae s y) (PE.sub' ae s z)
 |.slok x y z=>.slok (PE.sub' ae s x) (PE.sub' ae s y) (PE.sub' ae s z)
 |.ref x=>.ref (PE.sub' ae s x)
 |.deref x=>MQ (PE.sub' ae s x)
 |.look x y z=>.look (PE.sub' ae s x) (PE.sub' ae s y) (PE.sub' ae s z)
 |.has x y=>.has (PE.sub' ae s x) (PE.sub' ae s y)
 |.put x y z=>.put (PE.sub' ae s x) (PE.sub' ae s y) (PE.sub' ae s z)
 |.mn x y=>.mn (PE.sub' ae s x) (PE.sub' ae s y)
 |.mx x y=>.mx (PE.sub' ae s x) (PE.sub' ae s y)
 |.tup es=>.tup (PE.subs' ae s es)
 |.tget x i=>Sy (PE.sub' ae s x) i
 |.clo f es=>.clo f (PE.subs' ae s es)
 |.an x y=>.an (PE.sub' ae s x) (PE.sub' ae s y)
 |.imp c x=>.nt (.an (AM s c) (.nt (PE.sub' ae s x)))
def PE.subs' (ae:bJ)(s:SE):List PE→List PE
 |[]=>[]
 |e::es=>PE.sub' ae s e::PE.subs' ae s es
end
mutual
theorem PE.sub_ev {ae:bJ}{ρ:Env}(h:ae.ok ρ)(s:SE):∀(e:PE),(PE.sub' ae s e).ev ρ=e.ev (s.ev ρ)
 |.r t=>rfl
 |.o j=>rfl
 |.con d=>rfl
 |.cell e i=>by simp only[PE.sub',ai7,PE.ev,PE.sub_ev h s e]
 |.sub e a b=>by simp only[PE.sub',PE.ev,PE.sub_ev h s e]
 |.setc e q x=>by simp only[PE.sub',PE.ev,PE.sub_ev h s e,PE.sub_ev h s x]
 |.mk es=>by simp only[PE.sub',PE.ev,PE.subc_ev h s es]
 |.ai op k x y=>by simp only[PE.sub',PE.ev,PE.sub_ev h s x,PE.sub_ev h s y]
 |.ci op x y=>by simp only[PE.sub',PE.ev,PE.sub_ev h s x,PE.sub_ev h s y]
 |.cb op x y=>by simp only[PE.sub',PE.ev,PE.sub_ev h s x,PE.sub_ev h s y]
 |.cs op x y=>by simp only[PE.sub',PE.ev,PE.sub_ev h s x,PE.sub_ev h s y]
 |.sadd x y=>by simp only[PE.sub',PE.ev,PE.sub_ev h s x,PE.sub_ev h s y]
 |.nt x=>by simp only[PE.sub',PE.ev,PE.sub_ev h s x]
 |.conv k x=>by simp only[PE.sub',PE.ev,PE.sub_ev h s x]
 |.pick c a b=>by simp only[PE.sub',QG h,PE.ev,PE.sub_ev h s c,PE.sub_ev h s a,PE.sub_ev h s b]
 |.llen x=>by simp only[PE.sub',PE.ev,PE.sub_ev h s x]
 |.bytes x=>by simp only[PE.sub',PE.ev,PE.sub_ev h s x]
 |.slen x=>by simp only[PE.sub',PE.ev,PE.sub_ev h s x]
 |.mlen x=>by simp only[PE.sub',PE.ev,PE.sub_ev h s x]
 |.nth x y=>by simp only[PE.sub',PE.ev,PE.sub_ev h s x,PE.sub_ev h s y]
 |.idx x y=>by simp only[PE.sub',PE.ev,PE.sub_ev h s x,PE.sub_ev h s y]
 |.sidx x y=>by simp only[PE.sub',PE.ev,PE.sub_ev h s x,PE.sub_ev h s y]
 |.sok x y=>by simp only[PE.sub',PE.ev,PE.sub_ev h s x,PE.sub_ev h s y]
 |.setn x y n z=>by simp only[PE.sub',PE.ev,PE.sub_ev h s x,PE.sub_ev h s y,PE.sub_ev h s z]
 |.app x y=>by simp only[PE.sub',PE.ev,PE.sub_ev h s x,PE.sub_ev h s y]
 |.lst es=>by simp only[PE.sub',PE.ev,PE.subs_ev h s es]
 |.rep x y=>by simp only[PE.sub',PE.ev,PE.sub_ev h s x,PE.sub_ev h s y]
 |.slc x y z=>by simp only[PE.sub',PE.ev,PE.sub_ev h s x,PE.sub_ev h s y,PE.sub_ev h s z]
 |.slok x y z=>by simp only[PE.sub',PE.ev,PE.sub_ev h s x,PE.sub_ev h s y,PE.sub_ev h s z]
 |.ref x=>by simp only[PE.sub',PE.ev,PE.sub_ev h s x]
 |.deref x=>by simp only[PE.sub',ama,PE.ev,PE.sub_ev h s x]
 |.look x y z=>by simp only[PE.sub',PE.ev,PE.sub_ev h s x,PE.sub_ev h s y,PE.sub_ev h s z]
 |.has x y=>by simp only[PE.sub',PE.ev,PE.sub_ev h s x,PE.sub_ev h s y]
 |.put x y z=>by simp only[PE.sub',PE.ev,PE.sub_ev h s x,PE.sub_ev h s y,PE.sub_ev h s z]
 |.mn x y=>by simp only[PE.sub',PE.ev,PE.sub_ev h s x,PE.sub_ev h s y]
 |.mx x y=>by simp only[PE.sub',PE.ev,PE.sub_ev h s x,PE.sub_ev h s y]
 |.tup es=>by simp only[PE.sub',PE.ev,PE.subs_ev h s es]
 |.tget x i=>by simp only[PE.sub',ayr,PE.ev,PE.sub_ev h s x]
 |.clo f es=>by simp only[PE.sub',PE.ev,PE.subs_ev h s es]
 |.an x y=>by simp only[PE.sub',PE.ev,PE.sub_ev h s x,PE.sub_ev h s y]
 |.imp c x=>by
  simp only[PE.sub',PE.ev,D.b_bool,W3,PE.sub_ev h s x];cases holds c (s.ev ρ)<;>cases(x.ev (s.ev ρ)).b<;>rfl
theorem PE.subs_ev {ae:bJ}{ρ:Env}(h:ae.ok ρ)(s:SE):∀(es:List PE),PE.evs ρ (PE.subs' ae s es)=PE.evs (s.ev ρ) es
 |[]=>rfl
 |e::es=>by simp only[PE.subs',PE.evs,PE.sub_ev h s e,PE.subs_ev h s es]
theorem PE.subc_ev {ae:bJ}{ρ:Env}(h:ae.ok ρ)(s:SE):∀(es:List PE),PE.evc ρ (PE.subs' ae s es)=PE.evc (s.ev ρ) es
 |[]=>rfl
 |e::es=>by simp only[PE.subs',PE.evc,PE.sub_ev h s e,PE.subc_ev h s es]
end
inductive PT where
 |next (s:SE)
 |exit (id:Nat) (s:SE)
 |ret (e:PE)
 |chk (e:PE) (k:PT)
 |ite (c:PE) (a b:PT)
 |call (s:SE) (gs:List (Nat×Bool)) (dst f:Nat) (args:List PE) (k:PT)
 |callc (s:SE) (gs:List (Nat×Bool)) (dst:Nat) (e:PE) (args:List PE) (k:PT)
 |mcall (s:SE) (j f:Nat) (args:List PE) (k:PT)
 |iteS (s:SE) (c:PE) (lr lo:List Nat) (a b k:PT)
 |blockS (s:SE) (id:Nat) (lr lo:List Nat) (a k:PT)
 |brk (s:SE) (c:PC) (k:PT)
def aJ (T:cf):PT→Env→(Out→Prop)→Prop
 |.next s,ρ,Q=>Q (.next (s.ev ρ))
 |.exit id s,ρ,Q=>Q (.exit id (s.ev ρ))
 |.ret e,ρ,Q=>Q (.ret (e.ev ρ))
 |.chk e k,ρ,Q=>(e.ev ρ).b=true∧aJ T k ρ Q
 |.ite c a b,ρ,Q=>if(c.ev ρ).b=true then aJ T a ρ Q else aJ T b ρ Q
 |.call s gs dst f args k,ρ,Q=>if holds gs (s.ev ρ)=true then ∃d,ak T f (PE.evs ρ args) d∧aJ T k ((s.ev ρ).setR dst d) Q else aJ T k (s.ev ρ) Q
 |.callc s gs dst e args k,ρ,Q=>if holds gs (s.ev ρ)=true then ∃f caps d,e.ev ρ=.clo f caps∧ak T f (PE.evs ρ args++caps) d∧aJ T k ((s.ev ρ).setR dst d) Q else aJ T k (s.ev ρ) Q
 |.mcall s j f args k,ρ,Q=>∃d,ak T f (PE.evs ρ args) d∧aJ T k ((s.ev ρ).setO j d) Q
 |.iteS s c lr lo a b k,ρ,Q=>if(c.ev ρ).b=true then aJ T a (s.ev ρ) (jM (s.ev ρ) lr lo (fR (fun ρ'=>aJ T k ρ' Q) Q)) else aJ T b (s.ev ρ) (jM (s.ev ρ) lr lo (fR (fun ρ'=>aJ T k ρ' Q) Q))
 |.blockS s id lr lo a k,ρ,Q=>aJ T a (s.ev ρ) (kG (s.ev ρ) id lr lo (fR (fun ρ'=>aJ T k ρ' Q) Q))
 |.brk s c k,ρ,Q=>aO T c (s.ev ρ) (fR (fun ρ'=>aJ T k ρ' Q) Q)
def mX:PI→Bool
 |.setR ..|.setO ..|.chk _=>true
 |_=>false
def dw:PC→Bool
 |.loop ..=>false
 |.each ..=>false
 |.meach ..=>false
 |.seq a b=>dw a&&dw b
 |.ite _ _ _ a b=>dw a&&dw b
 |.block _ _ _ a=>dw a
 |.is l=>l.all mX
 |_=>true
abbrev Kn:=bJ→SE→PT
abbrev Kx:=bJ→Nat→SE→PT
def mh:List PI→bJ→SE→Kn→PT
 |[],ae,s,k=>k ae s
 |.setR t e::l,ae,s,k=>mh l ae (s.setR t (e.sub' ae s)) k
 |.setO t e::l,ae,s,k=>mh l ae (s.setO t (e.sub' ae s)) k
 |.chk e::l,ae,s,k=>
  match sQ ae (e.sub' ae s) with
  |some true=>mh l ae s k
  |_=>.chk (e.sub' ae s) (mh l ((e.sub' ae s,true)::ae) s k)
 |.call gs dst f args::l,ae,s,k=>.call s gs dst f (PE.subs' ae s args) (mh l [] .id k)
 |.callc gs dst e args::l,ae,s,k=>.callc s gs dst (e.sub' ae s) (PE.subs' ae s args) (mh l [] .id k)
 |.mcall j f args::l,ae,s,k=>.mcall s j f (PE.subs' ae s args) (mh l [] .id k)
def SE.merge (s:SE)(ae:bJ)(lr lo:List Nat)(c:PE)(a b:SE):SE:=⟨lr.map (fun t=>(t,qI ae c (a.getR t) (b.getR t)))++s.r,lo.map (fun t=>(t,qI ae c (a.getO t) (b.getO t)))++s.o⟩
def oa:List PI→bJ→SE→Option SE
 |[],_,s=>some s
 |.setR t e::l,ae,s=>oa l ae (s.setR t (e.sub' ae s))
 |.setO t e::l,ae,s=>oa l ae (s.setO t (e.sub' ae s))
 |_::_,_,_=>none
def plain:PC→bJ→SE→Option SE
 |.skip,_,s=>some s
 |.is l,ae,s=>oa l ae s
 |.seq a b,ae,s=>(plain a ae s).bind fun s=>plain b ae s
 |.ite c lr lo a b,ae,s=>(plain a ae s).bind fun sa=>(plain b ae s).map fun sb=>s.merge ae lr lo (c.sub' ae s) sa sb
 |_,_,_=>none
def YH:PC→Bool
 |.loop ..=>true
 |_=>false
def sx:PC→bJ→SE→Kn→Kx→PT
 |.skip,ae,s,k,_=>k ae s
 |.is l,ae,s,k,_=>mh l ae s k
 |.seq a b,ae,s,k,kx=>sx a ae s (fun ae s=>sx b ae s k kx) kx
 |.ite c lr lo a b,ae,s,k,kx=>
  match sQ ae (c.sub' ae s) with
  |some true=>bif dw a then sx a ae s (fun ae s'=>k ae (s.join lr lo s')) kx else .iteS s (c.sub' ae s) lr lo (sx a [] .id (fun _ s=>.next s) (fun _ id s=>.exit id s)) (sx b [] .id (fun _ s=>.next s) (fun _ id s=>.exit id s)) (k [] .id)
  |some false=>bif dw b then sx b ae s (fun ae s'=>k ae (s.join lr lo s')) kx else .iteS s (c.sub' ae s) lr lo (sx a [] .id (fun _ s=>.next s) (fun _ id s=>.exit id s)) (sx b [] .id (fun _ s=>.next s) (fun _ id s=>.exit id s)) (k [] .id)
  |none=>
   match plain a ae s,plain b ae s with
   |some sa,some sb=>k ae (s.merge ae lr lo (c.sub' ae s) sa sb)
   |_,_=>
   bif dw a&&dw b then
    .ite (c.sub' ae s) (sx a ((c.sub' ae s,true)::ae) s (fun ae s'=>k ae (s.join lr lo s')) kx) (sx b ((c.sub' ae s,false)::ae) s (fun ae s'=>k ae (s.join lr lo s')) kx)
   else .iteS s (c.sub' ae s) lr lo (sx a [] .id (fun _ s=>.next s) (fun _ id s=>.exit id s)) (sx b [] .id (fun _ s=>.next s) (fun _ id s=>.exit id s)) (k [] .id)
 |.block id lr lo a,ae,s,k,kx=>
  bif dw a then sx a ae s (fun ae s'=>k ae (s.join lr lo s')) (fun ae bH s'=>bif Nat.beq bH id then k ae (s.join lr lo s') else kx ae bH s')
  else bif YH a then .brk s (.block id lr lo a) (k [] .id)
  else .blockS s id lr lo (sx a [] .id (fun _ s=>.next s) (fun _ id s=>.exit id s)) (k [] .id)
 |.loop lr lo a,_,s,k,_=>.brk s (.loop lr lo a) (k [] .id)
 |.each e ps lo rt a,_,s,k,_=>.brk s (.each e ps lo rt a) (k [] .id)
 |.meach J ps cH lo a,_,s,k,_=>.brk s (.meach J ps cH lo a) (k [] .id)
 |.exit id,ae,s,_,kx=>kx ae id s
 |.ret e,ae,s,_,_=>.ret (e.sub' ae s)
theorem bJ.ok_nil (ρ:Env):bJ.ok [] ρ:=fun _ h=>nomatch h
theorem bJ.ok_cons {ae:bJ}{ρ:Env}{e:PE}{b:Bool}(h:ae.ok ρ)(he:(e.ev ρ).b=b):bJ.ok ((e,b)::ae) ρ:=fun x hx=>by
 rcases List.mem_cons.1 hx with e'|hx
 ·rw[e'];exact he
 ·exact h x hx
theorem pO {T:cf}{Q:Out→Prop}{K:Env→Prop}{k:Kn}:∀{l:List PI} {ae:bJ} {s:SE} {ρ:Env},ae.ok ρ→aJ T (mh l ae s k) ρ Q→
 (∀ρ' ae s,(l.all mX=true→ρ'=ρ)→ae.ok ρ'→aJ T (k ae s) ρ' Q→K (s.ev ρ'))→fS T l (s.ev ρ) K
 |[],ae,s,ρ,ha,h,hk=>hk ρ ae s (fun _=>rfl) ha h
 |.setR t e::l,ae,s,ρ,ha,h,hk=>by
  simp only[fS];rw[←PE.sub_ev ha s e,←SE.setR_ev];exact pO ha h fun ρ' ae s hp=>hk ρ' ae s fun hl=>hp (by simpa [mX] using hl)
 |.setO t e::l,ae,s,ρ,ha,h,hk=>by
  simp only[fS];rw[←PE.sub_ev ha s e,←SE.setO_ev];exact pO ha h fun ρ' ae s hp=>hk ρ' ae s fun hl=>hp (by simpa [mX] using hl)
 |.chk e::l,ae,s,ρ,ha,h,hk=>by
  simp only[fS];rw[←PE.sub_ev ha s e];simp only[mh] at h;split at h
  ·rename_i ht;exact⟨vt ha ht,pO ha h fun ρ' ae s hp=>hk ρ' ae s fun hl=>hp (by simpa [mX] using hl)⟩
  ·exact⟨h.1,pO (bJ.ok_cons ha h.1) h.2 fun ρ' ae s hp=>hk ρ' ae s fun hl=>hp (by simpa [mX] using hl)⟩
 |.call gs dst f args::l,ae,s,ρ,ha,h,hk=>by
  simp only[fS];simp only[mh,aJ,PE.subs_ev ha,PE.sub_ev ha] at h;have aY:∀{ρ0:Env},∀ρ' ae s,(l.all mX=true→ρ'=ρ0)→ae.ok ρ'→aJ T (k ae s) ρ' Q→K (s.ev ρ'):=fun ρ' ae s _=>hk ρ' ae s fun hl=>by simp[mX] at hl
  split at h
  ·rename_i hg;rw[if_pos hg];obtain⟨d,hd,h⟩:=h;exact⟨d,hd,pO (s:=.id) (bJ.ok_nil _) h aY⟩
  ·rename_i hg;rw[if_neg hg];exact pO (s:=.id) (bJ.ok_nil _) h aY
 |.callc gs dst e args::l,ae,s,ρ,ha,h,hk=>by
  simp only[fS];simp only[mh,aJ,PE.subs_ev ha,PE.sub_ev ha] at h;have aY:∀{ρ0:Env},∀ρ' ae s,(l.all mX=true→ρ'=ρ0)→ae.ok ρ'→aJ T (k ae s) ρ' Q→K (s.ev ρ'):=fun ρ' ae s _=>hk ρ' ae s fun hl=>by simp[mX] at hl
  split at h
  ·rename_i hg;rw[if_pos hg];obtain⟨f,caps,d,he,hd,h⟩:=h;exact⟨f,caps,d,he,hd,pO (s:=.id) (bJ.ok_nil _) h aY⟩
  ·rename_i hg;rw[if_neg hg];exact pO (s:=.id) (bJ.ok_nil _) h aY
 |.mcall j f args::l,ae,s,ρ,ha,h,hk=>by
  simp only[fS];simp only[mh,aJ,PE.subs_ev ha,PE.sub_ev ha] at h;have aY:∀{ρ0:Env},∀ρ' ae s,(l.all mX=true→ρ'=ρ0)→ae.ok ρ'→aJ T (k ae s) ρ' Q→K (s.ev ρ'):=fun ρ' ae s _=>hk ρ' ae s fun hl=>by simp[mX] at hl
  obtain⟨d,hd,h⟩:=h;exact⟨d,hd,pO (s:=.id) (bJ.ok_nil _) h aY⟩
theorem SE.merge_ev {ae:bJ}{ρ:Env}(h:ae.ok ρ)(s a b:SE)(lr lo:List Nat)(c:PE):(s.merge ae lr lo c a b).ev ρ=(s.ev ρ).join lr lo (if(c.ev ρ).b=true then a.ev ρ else b.ev ρ):=by
 have h1:∀u,((s.merge ae lr lo c a b).getR u).ev ρ=((s.ev ρ).join lr lo (if(c.ev ρ).b=true then a.ev ρ else b.ev ρ)).r u:=by
  intro u;rw[Env.join_r];have e:ab (s.merge ae lr lo c a b).r u=if u∈lr then some (qI ae c (a.getR u) (b.getR u)) else ab s.r u:=uy lr;have e2:(s.merge ae lr lo c a b).getR u=if u∈lr then qI ae c (a.getR u) (b.getR u) else s.getR u:=by
   unfold SE.getR;rw[e];by_cases h:u∈lr<;>simp[h,SE.getR]
  rw[e2];by_cases hu:u∈lr
  ·simp only[hu,if_true,QG h,PE.ev];cases hc:(c.ev ρ).b<;>simp[SE.ev]
  ·simp only[hu,if_false];rfl
 have h2:∀u,((s.merge ae lr lo c a b).getO u).ev ρ=((s.ev ρ).join lr lo (if(c.ev ρ).b=true then a.ev ρ else b.ev ρ)).o u:=by
  intro u;rw[Env.join_o];have e:ab (s.merge ae lr lo c a b).o u=if u∈lo then some (qI ae c (a.getO u) (b.getO u)) else ab s.o u:=uy lo;have e2:(s.merge ae lr lo c a b).getO u=if u∈lo then qI ae c (a.getO u) (b.getO u) else s.getO u:=by
   unfold SE.getO;rw[e];by_cases h:u∈lo<;>simp[h,SE.getO]
  rw[e2];by_cases hu:u∈lo
  ·simp only[hu,if_true,QG h,PE.ev];cases hc:(c.ev ρ).b<;>simp[SE.ev]
  ·simp only[hu,if_false];rfl
 have e1:(fun u=>((s.merge ae lr lo c a b).getR u).ev ρ)=((s.ev ρ).join lr lo (if(c.ev ρ).b=true then a.ev ρ else b.ev ρ)).r:=funext h1;have e2:(fun u=>((s.merge ae lr lo c a b).getO u).ev ρ)=((s.ev ρ).join lr lo (if(c.ev ρ).b=true then a.ev ρ else b.ev ρ)).o:=funext h2;show Env.mk _ _=_;rw[e1,e2]
theorem QJ {T:cf}{ae:bJ}{ρ:Env}(ha:ae.ok ρ):∀{l:List PI} {s s':SE},oa l ae s=some s'→∀{K:Env→Prop},K (s'.ev ρ)→fS T l (s.ev ρ) K
 |[],s,s',h,K,hk=>by simp only[oa,Option.some.injEq] at h;subst h;exact hk
 |.setR t e::l,s,s',h,K,hk=>by simp only[fS];rw[←PE.sub_ev ha s e,←SE.setR_ev];exact QJ (l:=l) ha (show oa l ae _=some s' from h) hk
 |.setO t e::l,s,s',h,K,hk=>by simp only[fS];rw[←PE.sub_ev ha s e,←SE.setO_ev];exact QJ (l:=l) ha (show oa l ae _=some s' from h) hk
 |.chk _::_,_,_,h,_,_=>by simp[oa] at h
 |.call ..::_,_,_,h,_,_=>by simp[oa] at h
 |.callc ..::_,_,_,h,_,_=>by simp[oa] at h
 |.mcall ..::_,_,_,h,_,_=>by simp[oa] at h
theorem awy {T:cf}{ae:bJ}{ρ:Env}(ha:ae.ok ρ):∀(c:PC) {s s':SE},plain c ae s=some s'→∀{Q:Out→Prop},Q (.next (s'.ev ρ))→aO T c (s.ev ρ) Q:=by
 intro c
 induction c with
 |skip=>intro s s' h Q hq;simp only[plain,Option.some.injEq] at h;subst h;exact .skip hq
 |is l=>intro s s' h Q hq;exact .is (QJ ha h hq)
 |seq a b bx dH=>
  intro s s' h Q hq;simp only[plain,Option.bind_eq_some_iff] at h;obtain⟨s1,h1,h2⟩:=h;exact .seq (bx h1 (dH h2 hq))
 |ite c lr lo a b bx dH=>
  intro s s' h Q hq;simp only[plain,Option.bind_eq_some_iff,Option.map_eq_some_iff] at h;obtain⟨sa,h1,sb,h2,rfl⟩:=h;rw[SE.merge_ev ha,PE.sub_ev ha] at hq;refine .ite ?_;split
  ·rename_i hc;rw[if_pos hc] at hq;exact bx h1 hq
  ·rename_i hc;rw[if_neg hc] at hq;exact dH h2 hq
 |_=>intro s s' h;simp[plain] at h
theorem Li {T:cf}:∀(c:PC) {ae:bJ} {s:SE} {k:Kn} {kx:Kx} {ρ:Env} {Q Q':Out→Prop},ae.ok ρ→aJ T (sx c ae s k kx) ρ Q→
 (∀ρ' ae s,(dw c=true→ρ'=ρ)→ae.ok ρ'→aJ T (k ae s) ρ' Q→Q' (.next (s.ev ρ')))→
 (∀ρ' ae id s,(dw c=true→ρ'=ρ)→ae.ok ρ'→aJ T (kx ae id s) ρ' Q→Q' (.exit id (s.ev ρ')))→(dw c=false→∀id ρ',Q (.exit id ρ')→Q' (.exit id ρ'))→(∀d,Q (.ret d)→Q' (.ret d))→aO T c (s.ev ρ) Q':=by
 intro c;have alone:∀(a:PC),(∀{ae:bJ} {s:SE} {k:Kn} {kx:Kx} {ρ:Env} {Q Q':Out→Prop},ae.ok ρ→aJ T (sx a ae s k kx) ρ Q→
  (∀ρ' ae s,(dw a=true→ρ'=ρ)→ae.ok ρ'→aJ T (k ae s) ρ' Q→Q' (.next (s.ev ρ')))→
  (∀ρ' ae id s,(dw a=true→ρ'=ρ)→ae.ok ρ'→aJ T (kx ae id s) ρ' Q→Q' (.exit id (s.ev ρ')))→(dw a=false→∀id ρ',Q (.exit id ρ')→Q' (.exit id ρ'))→(∀d,Q (.ret d)→Q' (.ret d))→aO T a (s.ev ρ) Q')→
  ∀{ρ:Env} {Q:Out→Prop},aJ T (sx a [] .id (fun _ s=>.next s) (fun _ id s=>.exit id s)) ρ Q→aO T a ρ Q:=by
  intro a ih ρ Q h;exact ih (s:=.id) (bJ.ok_nil _) h (fun ρ' ae s _ _ h=>h) (fun ρ' ae id s _ _ h=>h) (fun _ _ _ h=>h) (fun _ h=>h)
 induction c with
 |skip=>intro ae s k kx ρ Q Q' ha h hk _ _ _;exact .skip (hk ρ ae s (fun _=>rfl) ha h)
 |is l=>intro ae s k kx ρ Q Q' ha h hk _ _ _;exact .is (pO (K:=fun ρ'=>Q' (.next ρ')) ha h hk)
 |seq a b bx dH=>
  intro ae s k kx ρ Q Q' ha h hk hx jk hr;refine .seq (bx ha h (Q':=fR (fun ρ'=>aO T b ρ' Q') Q') (fun ρ' ae s hp tJ h'=>?_) (fun ρ' ae id s hp tJ h'=>?_) (fun hp=>?_) hr)
  ·refine dH tJ h' (fun ρ2 ae s eF=>hk ρ2 ae s fun hl=>?_) (fun ρ2 ae id s eF=>hx ρ2 ae id s fun hl=>?_) (fun eF=>?_) hr
   ·simp only[dw,Bool.and_eq_true] at hl;rw[eF hl.2,hp hl.1]
   ·simp only[dw,Bool.and_eq_true] at hl;rw[eF hl.2,hp hl.1]
   ·exact jk (by simp[dw,eF])
  ·exact hx ρ' ae id s (fun hl=>by simp only[dw,Bool.and_eq_true] at hl;exact hp hl.1) tJ h'
  ·exact jk (by simp[dw,hp])
 |ite c lr lo a b bx dH=>
  intro ae s k kx ρ Q Q' ha h hk hx jk hr;have bF:((c.sub' ae s).ev ρ).b=(c.ev (s.ev ρ)).b:=by rw[PE.sub_ev ha]
  have struct:(dw a&&dw b)=false→aJ T (.iteS s (c.sub' ae s) lr lo (sx a [] .id (fun _ s=>.next s) (fun _ id s=>.exit id s)) (sx b [] .id (fun _ s=>.next s) (fun _ id s=>.exit id s)) (k [] .id)) ρ Q→aO T (.ite c lr lo a b) (s.ev ρ) Q':=by
   intro Br h;have oZ:dw (.ite c lr lo a b)=false:=Br;simp only[aJ,bF] at h
   have conv:∀x,jM (s.ev ρ) lr lo (fR (fun ρ'=>aJ T (k [] .id) ρ' Q) Q) x→jM (s.ev ρ) lr lo Q' x:=by
      intro x cQ;cases x with
      |next ρ'=>exact hk _ [] .id (fun hl=>by rw[oZ] at hl;cases hl) (bJ.ok_nil _) cQ
      |exit id ρ'=>exact jk oZ id ρ' cQ
      |ret d=>exact hr d cQ
   refine .ite ?_;split at h
   ·rename_i hc;rw[if_pos hc];exact(alone a bx h).mono conv
   ·rename_i hc;rw[if_neg hc];exact(alone b dH h).mono conv
  have Yz:∀tg,tg.ok ρ→dw a=true→aJ T (sx a tg s (fun ae s'=>k ae (s.join lr lo s')) kx) ρ Q→aO T a (s.ev ρ) (jM (s.ev ρ) lr lo Q'):=by
   intro tg tJ dE h';refine bx tJ h' (fun ρ' ae s' hp mD jB=>?_) (fun ρ' ae id s' hp mD jB=>?_) (fun hp=>by rw[dE] at hp;cases hp) hr
   ·have e:=hp dE;subst e;show Q' (.next _);rw[←SE.join_ev];exact hk ρ' ae _ (fun _=>rfl) mD jB
   ·have e:=hp dE;subst e;exact hx ρ' ae id s' (fun _=>rfl) mD jB
  have aw:∀tg,tg.ok ρ→dw b=true→aJ T (sx b tg s (fun ae s'=>k ae (s.join lr lo s')) kx) ρ Q→aO T b (s.ev ρ) (jM (s.ev ρ) lr lo Q'):=by
   intro tg tJ dE h';refine dH tJ h' (fun ρ' ae s' hp mD jB=>?_) (fun ρ' ae id s' hp mD jB=>?_) (fun hp=>by rw[dE] at hp;cases hp) hr
   ·have e:=hp dE;subst e;show Q' (.next _);rw[←SE.join_ev];exact hk ρ' ae _ (fun _=>rfl) mD jB
   ·have e:=hp dE;subst e;exact hx ρ' ae id s' (fun _=>rfl) mD jB
  simp only[sx] at h;split at h
  ·rename_i ht;cases dE:dw a<;>simp only[dE,cond_true,cond_false] at h
   ·exact struct (by simp[dE]) h
   ·refine .ite ?_;rw[if_pos (by rw[←bF];exact vt ha ht)];exact Yz ae ha dE h
  ·rename_i ht;cases dE:dw b<;>simp only[dE,cond_true,cond_false] at h
   ·exact struct (by simp[dE]) h
   ·refine .ite ?_;rw[if_neg (by rw[←bF,vt ha ht];simp)];exact aw ae ha dE h
  ·split at h
   ·rename_i sa sb GP jj;have eU:plain (.ite c lr lo a b) ae s=some (s.merge ae lr lo (c.sub' ae s) sa sb):=by simp[plain,GP,jj]
    exact awy ha _ eU (hk ρ ae _ (fun _=>rfl) ha h)
   cases dE:(dw a&&dw b)<;>simp only[dE,cond_true,cond_false] at h
   ·exact struct dE h
   ·simp only[Bool.and_eq_true] at dE;simp only[aJ] at h;refine .ite ?_;rw[←bF];split at h
    ·rename_i hc;rw[if_pos hc];exact Yz _ (bJ.ok_cons ha hc) dE.1 h
    ·rename_i hc;rw[if_neg hc];exact aw _ (bJ.ok_cons ha (by simpa using hc)) dE.2 h
 |block id lr lo a bx=>
  intro ae s k kx ρ Q Q' ha h hk hx jk hr;simp only[sx] at h;cases dE:dw a<;>simp only[dE,cond_true,cond_false] at h
  ·have oZ:dw (.block id lr lo a)=false:=dE;cases hl:YH a<;>simp only[hl,cond_true,cond_false] at h
   case true=>
        simp only[aJ] at h;refine aO.mono h fun x cQ=>?_;cases x with
        |next ρ'=>exact hk _ [] .id (fun hl=>by rw[oZ] at hl;cases hl) (bJ.ok_nil _) cQ
        |exit id ρ'=>exact jk oZ id ρ' cQ
        |ret d=>exact hr d cQ
   simp only[aJ] at h;refine .block ((alone a bx h).mono fun x cQ=>?_);cases x with
   |next ρ'=>exact hk _ [] .id (fun hl=>by rw[oZ] at hl;cases hl) (bJ.ok_nil _) cQ
   |exit bH ρ'=>
    simp only[kG] at cQ ⊢;split
    ·rename_i e;rw[if_pos e] at cQ;exact hk _ [] .id (fun hl=>by rw[oZ] at hl;cases hl) (bJ.ok_nil _) cQ
    ·rename_i e;rw[if_neg e] at cQ;exact jk oZ bH ρ' cQ
   |ret d=>exact hr d cQ
  ·refine .block (bx ha h (fun ρ' ae s' hp mD jB=>?_) (fun ρ' ae bH s' hp mD jB=>?_) (fun hp=>by rw[dE] at hp;cases hp) hr)
   ·have e:=hp dE;subst e;show Q' (.next _);rw[←SE.join_ev];exact hk ρ' ae _ (fun _=>rfl) mD jB
   ·have e:=hp dE;subst e;simp only[kG];by_cases cj:bH=id
    ·subst cj;simp only[Nat.beq_refl,cond_true] at jB;rw[if_pos rfl,←SE.join_ev];exact hk ρ' ae _ (fun _=>rfl) mD jB
    ·rw[dR cj,cond_false] at jB;rw[if_neg cj];exact hx ρ' ae bH s' (fun _=>rfl) mD jB
 |loop lr lo a bx=>
  intro ae s k kx ρ Q Q' ha h hk hx jk hr;simp only[sx,aJ] at h;refine aO.mono h fun x cQ=>?_;cases x with
  |next ρ'=>exact hk _ [] .id (fun hl=>by cases hl) (bJ.ok_nil _) cQ
  |exit id ρ'=>exact jk rfl id ρ' cQ
  |ret d=>exact hr d cQ
 |each e ps lo rt a bx=>
  intro ae s k kx ρ Q Q' ha h hk hx jk hr;simp only[sx,aJ] at h;refine aO.mono h fun x cQ=>?_;cases x with
  |next ρ'=>exact hk _ [] .id (fun hl=>by cases hl) (bJ.ok_nil _) cQ
  |exit id ρ'=>exact jk rfl id ρ' cQ
  |ret d=>exact hr d cQ
 |meach J ps cH lo a bx=>
  intro ae s k kx ρ Q Q' ha h hk hx jk hr;simp only[sx,aJ] at h;refine aO.mono h fun x cQ=>?_;cases x with
  |next ρ'=>exact hk _ [] .id (fun hl=>by cases hl) (bJ.ok_nil _) cQ
  |exit id ρ'=>exact jk rfl id ρ' cQ
  |ret d=>exact hr d cQ
 |exit id=>intro ae s k kx ρ Q Q' ha h _ hx _ _;exact .exit (hx ρ ae id s (fun _=>rfl) ha h)
 |ret e=>
  intro ae s k kx ρ Q Q' ha h _ _ _ hr;simp only[sx,aJ] at h;refine .ret (hr _ ?_);rw[PE.sub_ev ha] at h;exact h
def Lk.un (a b:Lk):Lk:=⟨Nat.lor a.r b.r,ic a.o b.o⟩
def bits (l:List Nat):Nat:=l.foldr (fun t m=>Nat.lor (dq t) m) 0
theorem Mx {l:List Nat}{t:Nat}(h:t∈l):av (bits l) t=true:=by
 induction l with
 |nil=>cases h
 |cons x l ih=>
  show av (Nat.lor (dq x) (bits l)) t=true;rw[eA];rcases List.mem_cons.1 h with e|h
  ·subst e;rw[oL];rfl
  ·rw[ih h,Bool.or_true]
theorem U7:∀{a b:List Nat} {x:Nat},x∈ic a b↔x∈a∨x∈b
 |[],b,x=>by simp[ic]
 |y::a,b,x=>by
  have ih:=U7 (a:=a) (b:=bif eG b y then b else y::b) (x:=x);show x∈ic a _↔_;rw[ih];cases hb:eG b y with
  |true=>simp only[cond_true,List.mem_cons];have:=(nU b y).1 hb;constructor
         ·rintro(h|h);exact .inl (.inr h);exact .inr h
         ·rintro((rfl|h)|h);exact .inr this;exact .inl h;exact .inr h
  |false=>simp only[cond_false,List.mem_cons];constructor
          ·rintro(h|h|h);exact .inl (.inr h);exact .inl (.inl h);exact .inr h
          ·rintro((h|h)|h);exact .inr (.inl h);exact .inl h;exact .inr (.inr h)
def Lk.Le (a K:Lk):Prop:=(∀t,av a.r t=true→av K.r t=true)∧∀j,j∈a.o→j∈K.o
theorem Lk.le_l (a b:Lk):a.Le (a.un b):=⟨fun t h=>by simp only[Lk.un,eA,h,Bool.true_or],fun j h=>U7.2 (.inl h)⟩
theorem Lk.le_r (a b:Lk):b.Le (a.un b):=⟨fun t h=>by simp only[Lk.un,eA,h,Bool.or_true],fun j h=>U7.2 (.inr h)⟩
theorem Lk.Le.trans {a b c:Lk}(h:a.Le b)(k:b.Le c):a.Le c:=⟨fun t ht=>k.1 t (h.1 t ht),fun j hj=>k.2 j (h.2 j hj)⟩
theorem Alike.le {a K:Lk}{ρ ρ':Env}(h:Alike K ρ ρ')(k:a.Le K):Alike a ρ ρ':=⟨fun t ht=>h.r t (k.1 t ht),fun j hj=>h.o j (k.2 j hj)⟩
theorem Lk.Le.of_un {a b K:Lk}(h:(a.un b).Le K):a.Le K∧b.Le K:=⟨(Lk.le_l a b).trans h,(Lk.le_r a b).trans h⟩
theorem Alike.setR {K:Lk}{ρ ρ':Env}(h:Alike K ρ ρ')(t:Nat)(d:D):Alike K (ρ.setR t d) (ρ'.setR t d):=⟨fun u hu=>by rw[Env.setR_r,Env.setR_r];split;rfl;exact h.r u hu,h.o⟩
theorem Alike.setO {K:Lk}{ρ ρ':Env}(h:Alike K ρ ρ')(t:Nat)(d:D):Alike K (ρ.setO t d) (ρ'.setO t d):=⟨h.r,fun u hu=>by rw[Env.setO_o,Env.setO_o];split;rfl;exact h.o u hu⟩
theorem Alike.join {K:Lk}{ρ ρ' η η':Env}(h:Alike K ρ ρ')(k:Alike K η η')(lr lo:List Nat):Alike K (ρ.join lr lo η) (ρ'.join lr lo η'):=
 ⟨fun u hu=>by rw[Env.join_r,Env.join_r];split;exact k.r u hu;exact h.r u hu,fun u hu=>by rw[Env.join_o,Env.join_o];split;exact k.o u hu;exact h.o u hu⟩
theorem QO {f g:Nat→D}{u:Nat}(h:g u=f u):∀(ts:List Nat) (xs:List D),putL g ts xs u=putL f ts xs u
 |[],xs=>by rw[Kh,Kh];exact h
 |t::ts,[]=>by simp only[putL];exact h
 |t::ts,x::xs=>by rw[Kg,Kg];split;rfl;exact QO h ts xs
theorem Alike.put {K:Lk}{ρ ρ':Env}(h:Alike K ρ ρ')(lr lo:List Nat)(vr vo:List D):Alike K (ρ.put lr vr lo vo) (ρ'.put lr vr lo vo):=⟨fun u hu=>QO (h.r u hu) lr vr,fun u hu=>QO (h.o u hu) lo vo⟩
def PI.lkw:PI→Lk
 |.setR t e=>e.lk.un ⟨dq t,[]⟩
 |.setO j e=>e.lk.un ⟨0,[j]⟩
 |.chk e=>e.lk
 |.call gs dst f aa=>(PI.call gs dst f aa).lk.un ⟨dq dst,[]⟩
 |.callc gs dst e aa=>(PI.callc gs dst e aa).lk.un ⟨dq dst,[]⟩
 |.mcall j f aa=>(PI.mcall j f aa).lk.un ⟨0,[j]⟩
def PC.lk:PC→Lk
 |.skip=>.none
 |.exit _=>.none
 |.is l=>l.foldr (fun p k=>p.lkw.un k) .none
 |.seq a b=>(PC.lk a).un (PC.lk b)
 |.ite c _ _ a b=>c.lk.un ((PC.lk a).un (PC.lk b))
 |.block _ _ _ a=>PC.lk a
 |.loop lr lo a=>(⟨bits lr,lo⟩:Lk).un (PC.lk a)
 |.ret e=>e.lk
 |.each e _ lo rt a=>e.lk.un ((match rt with|some e=>e.lk|none=>.none).un ((⟨0,lo⟩:Lk).un (PC.lk a)))
 |.meach J _ _ lo a=>(⟨0,J::lo⟩:Lk).un (PC.lk a)
structure Off (K:Lk) (b η η':Env):Prop where
 al:Alike K η η'
 r:∀t,av K.r t=false→η'.r t=b.r t
 o:∀j,j∉K.o→η'.o j=b.o j
def q6 (K:Lk)(b:Env):Out→Out→Prop
 |.next η,x=>∃η',x=.next η'∧Off K b η η'
 |.exit i η,x=>∃η',x=.exit i η'∧Off K b η η'
 |.ret d,x=>x=.ret d
theorem Off.uniq {K:Lk}{b η η' η2:Env}(h:Off K b η η')(k:Off K b η η2):η2=η':=by
 have h1:∀t,η2.r t=η'.r t:=fun t=>by
  cases hb:av K.r t with
  |true=>rw[k.al.r t hb,h.al.r t hb]
  |false=>rw[k.r t hb,h.r t hb]
 have h2:∀t,η2.o t=η'.o t:=fun t=>by
  by_cases hb:t∈K.o
  ·rw[k.al.o t hb,h.al.o t hb]
  ·rw[k.o t hb,h.o t hb]
 cases η2;cases η'
 congr
 ·exact funext h1
 ·exact funext h2
theorem q6.uniq {K:Lk}{b:Env}{x y z:Out}(h:q6 K b x y)(k:q6 K b x z):z=y:=by
 cases x with
 |next η=>obtain⟨a,rfl,h⟩:=h;obtain⟨c,rfl,k⟩:=k;rw[h.uniq k]
 |exit i η=>obtain⟨a,rfl,h⟩:=h;obtain⟨c,rfl,k⟩:=k;rw[h.uniq k]
 |ret d=>rw[h,k]
theorem Off.setR {K:Lk}{b η η':Env}(h:Off K b η η'){t:Nat}(ht:av K.r t=true)(d:D):Off K b (η.setR t d) (η'.setR t d):=
 ⟨h.al.setR t d,fun u hu=>by rw[Env.setR_r,if_neg (fun e=>by rw[e,ht] at hu;cases hu)];exact h.r u hu,h.o⟩
theorem Off.setO {K:Lk}{b η η':Env}(h:Off K b η η'){t:Nat}(ht:t∈K.o)(d:D):Off K b (η.setO t d) (η'.setO t d):=
 ⟨h.al.setO t d,h.r,fun u hu=>by rw[Env.setO_o,if_neg (fun e=>hu (by rw[e];exact ht))];exact h.o u hu⟩
theorem Off.join {K:Lk}{b η η' ζ ζ':Env}(h:Off K b η η')(k:Off K b ζ ζ')(lr lo:List Nat):Off K b (η.join lr lo ζ) (η'.join lr lo ζ'):=
 ⟨h.al.join k.al lr lo,fun u hu=>by rw[Env.join_r];split;exact k.r u hu;exact h.r u hu,fun u hu=>by rw[Env.join_o];split;exact k.o u hu;exact h.o u hu⟩
theorem QR {f:Nat→D}{b:D}{u:Nat}(h:f u=b):∀(ts:List Nat) (xs:List D),u∉ts→putL f ts xs u=b
 |[],xs,_=>by rw[Kh];exact h
 |t::ts,[],_=>by simp only[putL];exact h
 |t::ts,x::xs,hu=>by rw[Kg,if_neg (fun e=>hu (by simp[e]))];exact QR h ts xs (fun e=>hu (by simp[e]))
theorem Off.put {K:Lk}{b η η':Env}(h:Off K b η η'){lr lo:List Nat}(hr:∀t,t∈lr→av K.r t=true)(ho:∀t,t∈lo→t∈K.o)(vr vo:List D):Off K b (η.put lr vr lo vo) (η'.put lr vr lo vo):=
 ⟨h.al.put lr lo vr vo,fun u hu=>QR (h.r u hu) lr vr (fun e=>by rw[hr u e] at hu;cases hu),fun u hu=>QR (h.o u hu) lo vo (fun e=>hu (ho u e))⟩
theorem PI.run_off {Φ:aT}{K:Lk}{b ρ ρ' η:Env}{p:PI}(hp:p.lkw.Le K)(h:Off K b ρ ρ')(hr:p.run Φ ρ=some η):∃η',p.run Φ ρ'=some η'∧Off K b η η':=by
 have tW:p.lk.Le K:=by cases p<;>first|exact hp|exact hp.of_un.1
 rw[PI.run_eff,PI.eff_alike p (h.al.le tW)];rw[PI.run_eff] at hr;cases he:p.eff Φ ρ with
 |none=>rw[he] at hr;cases hr
 |some x=>
  rw[he] at hr;simp only[Option.map_some,Option.some.injEq] at hr;subst hr;refine⟨_,rfl,?_⟩;have hb:∀{t:Nat} {a:Lk},(a.un ⟨dq t,[]⟩).Le K→av K.r t=true:=fun h=>h.of_un.2.1 _ (oL _);have ho:∀{t:Nat} {a:Lk},(a.un ⟨0,[t]⟩).Le K→t∈K.o:=fun h=>h.of_un.2.2 _ (by simp);cases p with
  |setR t e=>simp only[PI.eff,Option.some.injEq] at he;subst he;exact h.setR (hb hp) _
  |setO t e=>simp only[PI.eff,Option.some.injEq] at he;subst he;exact h.setO (ho hp) _
  |chk e=>simp only[PI.eff] at he;cases tL:(e.ev ρ).b<;>rw[tL] at he<;>cases he;exact h
  |call gs d f aa=>
   simp only[PI.eff] at he;cases tL:holds gs ρ<;>simp only[tL,cond_true,cond_false,Option.some.injEq,Option.map_eq_some_iff] at he
   ·subst he;exact h
   ·obtain⟨y,_,rfl⟩:=he;exact h.setR (hb hp) _
  |callc gs d e aa=>
   simp only[PI.eff] at he;cases tL:holds gs ρ<;>simp only[tL,cond_true,cond_false,Option.some.injEq] at he
   ·subst he;exact h
   ·split at he
    ·simp only[Option.map_eq_some_iff] at he;obtain⟨y,_,rfl⟩:=he;exact h.setR (hb hp) _
    ·cases he
  |mcall j f aa=>simp only[PI.eff,Option.map_eq_some_iff] at he;obtain⟨y,_,rfl⟩:=he;exact h.setO (ho hp) _
theorem PI.runs_off {Φ:aT}{K:Lk}{b:Env}:∀{l:List PI} {ρ ρ' η:Env},(l.foldr (fun p k=>p.lkw.un k) Lk.none).Le K→Off K b ρ ρ'→PI.runs Φ l ρ=some η→∃η',PI.runs Φ l ρ'=some η'∧Off K b η η'
 |[],ρ,ρ',η,_,h,hr=>by simp only[PI.runs,Option.some.injEq] at hr ⊢;subst hr;exact⟨_,rfl,h⟩
 |p::l,ρ,ρ',η,hl,h,hr=>by
  simp only[PI.runs,Option.bind_eq_some_iff] at hr;obtain⟨ρ1,h1,h2⟩:=hr;obtain⟨ρ2,h3,h4⟩:=PI.run_off hl.of_un.1 h h1;obtain⟨η',h5,h6⟩:=PI.runs_off (l:=l) hl.of_un.2 h4 h2;exact⟨η',by simp only[PI.runs,h3,Option.bind_some,h5],h6⟩
theorem uB {K:Lk}{b η η':Env}(h:Off K b η η'){lo:List Nat}(ho:∀t,t∈lo→t∈K.o):lo.map η'.o=lo.map η.o:=List.map_congr_left fun t ht=>h.al.o t (ho t ht)
theorem Zq {K:Lk}{b η η':Env}(h:Off K b η η'){lr:List Nat}(hr:∀t,t∈lr→av K.r t=true):lr.map η'.r=lr.map η.r:=List.map_congr_left fun t ht=>h.al.r t (hr t ht)
theorem PC.ev_off {Φ:aT}{n:Nat}{K:Lk}:∀(c:PC),c.lk.Le K→∀{b ρ ρ':Env} {x:Out},Off K b ρ ρ'→c.ev Φ n ρ=some x→∃x',c.ev Φ n ρ'=some x'∧q6 K b x x':=by
 intro c
 induction c with
 |skip=>intro _ b ρ ρ' x h hr;simp only[PC.ev,Option.some.injEq] at hr ⊢;subst hr;exact⟨_,rfl,_,rfl,h⟩
 |exit id=>intro _ b ρ ρ' x h hr;simp only[PC.ev,Option.some.injEq] at hr ⊢;subst hr;exact⟨_,rfl,_,rfl,h⟩
 |ret e=>intro hk B ρ ρ' x h hr;simp only[PC.ev,Option.some.injEq] at hr ⊢;subst hr;exact⟨_,rfl,by rw[PE.ev_alike e (h.al.le hk)];rfl⟩
 |is l=>
  intro hk B ρ ρ' x h hr;simp only[PC.ev,Option.map_eq_some_iff] at hr;obtain⟨η,h1,rfl⟩:=hr;obtain⟨η',h2,h3⟩:=PI.runs_off hk h h1;exact⟨.next η',by simp only[PC.ev,h2,Option.map_some],η',rfl,h3⟩
 |seq a b bx dH=>
  intro hk B ρ ρ' x h hr;simp only[PC.ev] at hr ⊢;cases ha:a.ev Φ n ρ with
  |none=>rw[ha] at hr;cases hr
  |some y=>
   obtain⟨y',h1,h2⟩:=bx hk.of_un.1 h ha;rw[ha] at hr;rw[h1];cases y with
   |next η=>obtain⟨η',rfl,h3⟩:=h2;exact dH hk.of_un.2 h3 hr
   |exit i η=>obtain⟨η',rfl,h3⟩:=h2;cases hr;exact⟨_,rfl,η',rfl,h3⟩
   |ret d=>cases h2;cases hr;exact⟨_,rfl,rfl⟩
 |ite c lr lo a b bx dH=>
  intro hk B ρ ρ' x h hr;have hc:(c.ev ρ').b=(c.ev ρ).b:=by rw[PE.ev_alike c (h.al.le hk.of_un.1)]
  have key:∀(d:PC),(∀{ρ ρ':Env} {x:Out},Off K B ρ ρ'→d.ev Φ n ρ=some x→∃x',d.ev Φ n ρ'=some x'∧q6 K B x x')→(match d.ev Φ n ρ with|some (.next η)=>some (.next (ρ.join lr lo η))|x=>x)=some x→
      ∃x',(match d.ev Φ n ρ' with|some (.next η)=>some (.next (ρ'.join lr lo η))|x=>x)=some x'∧q6 K B x x':=by
   intro d ih hr;cases ha:d.ev Φ n ρ with
   |none=>rw[ha] at hr;cases hr
   |some y=>
    obtain⟨y',h1,h2⟩:=ih h ha;rw[ha] at hr;rw[h1];cases y with
    |next η=>obtain⟨η',rfl,h3⟩:=h2;cases hr;exact⟨_,rfl,_,rfl,h.join h3 lr lo⟩
    |exit i η=>obtain⟨η',rfl,h3⟩:=h2;cases hr;exact⟨_,rfl,η',rfl,h3⟩
    |ret d=>cases h2;cases hr;exact⟨_,rfl,rfl⟩
  simp only[PC.ev,hc] at hr ⊢;cases gw:(c.ev ρ).b<;>simp only[gw,cond_true,cond_false] at hr ⊢
  ·exact key b (fun h1 h2=>dH hk.of_un.2.of_un.2 h1 h2) hr
  ·exact key a (fun h1 h2=>bx hk.of_un.2.of_un.1 h1 h2) hr
 |block id lr lo a bx=>
  intro hk B ρ ρ' x h hr;simp only[PC.ev] at hr ⊢;cases ha:a.ev Φ n ρ with
  |none=>rw[ha] at hr;cases hr
  |some y=>
   obtain⟨y',h1,h2⟩:=bx hk h ha;rw[ha] at hr;rw[h1];cases y with
   |next η=>obtain⟨η',rfl,h3⟩:=h2;cases hr;exact⟨_,rfl,_,rfl,h.join h3 lr lo⟩
   |exit i η=>
    obtain⟨η',rfl,h3⟩:=h2;simp only at hr ⊢;cases hb:Nat.beq i id<;>simp only[hb,cond_true,cond_false] at hr ⊢<;>cases hr
    ·exact⟨_,rfl,η',rfl,h3⟩
    ·exact⟨_,rfl,_,rfl,h.join h3 lr lo⟩
   |ret d=>cases h2;cases hr;exact⟨_,rfl,rfl⟩
 |loop lr lo a bx=>
  intro hk B ρ ρ' x h hr;have gz:∀t,t∈lr→av K.r t=true:=fun t ht=>hk.of_un.1.1 t (Mx ht);have iL:∀t,t∈lo→t∈K.o:=fun t ht=>hk.of_un.1.2 t ht;have key:∀(m:Nat) (vr vo:List D),gj (a.ev Φ n) ρ lr lo m vr vo=some x→∃x',gj (a.ev Φ n) ρ' lr lo m vr vo=some x'∧q6 K B x x':=by
   intro m
   induction m with
   |zero=>intro vr vo h;simp[gj] at h
   |succ m O6=>
    intro vr vo hr;simp only[gj] at hr ⊢;cases ha:a.ev Φ n (ρ.put lr vr lo vo) with
    |none=>rw[ha] at hr;cases hr
    |some y=>
     obtain⟨y',h1,h2⟩:=bx hk.of_un.2 (h.put gz iL vr vo) ha;rw[ha] at hr;rw[h1];cases y with
     |next η=>obtain⟨η',rfl,h3⟩:=h2;simp only[uB h3 iL,Zq h3 gz];exact O6 _ _ hr
     |exit i η=>obtain⟨η',rfl,h3⟩:=h2;cases hr;exact⟨_,rfl,η',rfl,h3⟩
     |ret d=>cases h2;cases hr;exact⟨_,rfl,rfl⟩
  simp only[PC.ev] at hr ⊢;rw[uB h iL,Zq h gz];exact key n _ _ hr
 |each e ps lo rt a bx=>
  intro hk B ρ ρ' x h hr;obtain⟨bt,cq⟩:=hk.of_un;obtain⟨cq,kL⟩:=cq.of_un;obtain⟨kL,wF⟩:=kL.of_un;have iL:∀t,t∈lo→t∈K.o:=fun t ht=>kL.2 t ht;have key:∀(xs vo:List D),gu (a.ev Φ n) ρ ps lo rt xs vo=some x→∃x',gu (a.ev Φ n) ρ' ps lo rt xs vo=some x'∧q6 K B x x':=by
   intro xs
   induction xs with
   |nil=>intro vo hr;simp only[gu,Option.some.injEq] at hr ⊢;subst hr;exact⟨_,rfl,_,rfl,h.put (fun _ h=>by cases h) iL _ _⟩
   |cons y xs gT=>
    intro vo hr;simp only[gu] at hr ⊢;cases ha:a.ev Φ n (ρ.put ps (partsOf ps y) lo vo) with
    |none=>rw[ha] at hr;cases hr
    |some z=>
     have gP:Off K (ρ'.put ps (partsOf ps y) lo vo) (ρ.put ps (partsOf ps y) lo vo) (ρ'.put ps (partsOf ps y) lo vo):=⟨h.al.put ps lo _ _,fun _ _=>rfl,fun _ _=>rfl⟩
     obtain⟨z',h1,h2⟩:=bx wF gP ha;rw[ha] at hr;rw[h1];cases z with
     |next η=>obtain⟨η',rfl,h3⟩:=h2;simp only[uB h3 iL];exact gT _ hr
     |exit i η=>
      obtain⟨η',rfl,h3⟩:=h2;simp only[uB h3 iL] at hr ⊢;have hp:=h.put (lr:=[]) (fun _ h=>by cases h) iL [] (lo.map η.o);cases hb:Nat.beq i ct<;>simp only[hb,cond_true,cond_false] at hr ⊢
      ·cases hr;exact⟨_,rfl,_,rfl,hp⟩
      ·cases rt with
       |none=>cases hr
       |some e2=>cases hr;exact⟨_,rfl,by show Out.ret _=Out.ret _;rw[PE.ev_alike e2 (hp.al.le cq)]⟩
     |ret d=>cases hr
  simp only[PC.ev] at hr ⊢;rw[PE.ev_alike e (h.al.le bt),uB h iL];exact key _ _ hr
 |meach J ps cH lo a bx=>
  intro hk B ρ ρ' x h hr;obtain⟨kL,wF⟩:=hk.of_un;have iL:∀t,t∈lo→t∈K.o:=fun t ht=>kL.2 t (List.mem_cons_of_mem _ ht);have hJ:ρ'.o J=ρ.o J:=h.al.o J (kL.2 J (List.mem_cons_self ..));have key:∀(es:D) (xs done vo pR:List D),mW (a.ev Φ n) ρ J es ps cH lo xs done vo=some pR→mW (a.ev Φ n) ρ' J es ps cH lo xs done vo=some pR:=by
   intro es xs
   induction xs with
   |nil=>intro done vo pR h;exact h
   |cons y xs gT=>
    intro done vo pR hr;simp only[mW] at hr ⊢;cases ha:a.ev Φ n ((ρ.put ps (cH.map y.tget) lo vo).setO J (.tup [.list (done++[y]),es])) with
    |none=>rw[ha] at hr;cases hr
    |some z=>
     have gP:Off K ((ρ'.put ps (cH.map y.tget) lo vo).setO J (.tup [.list (done++[y]),es])) ((ρ.put ps (cH.map y.tget) lo vo).setO J (.tup [.list (done++[y]),es])) ((ρ'.put ps (cH.map y.tget) lo vo).setO J (.tup [.list (done++[y]),es])):=
          ⟨(h.al.put ps lo _ _).setO J _,fun _ _=>rfl,fun _ _=>rfl⟩
     obtain⟨z',h1,h2⟩:=bx wF gP ha;rw[ha] at hr;rw[h1];cases z with
     |next η=>obtain⟨η',rfl,h3⟩:=h2;simp only[uB h3 iL];exact gT _ _ _ hr
     |exit i η=>cases hr
     |ret d=>cases hr
  simp only[PC.ev,xC] at hr;obtain⟨vo,⟨h1,h2⟩,rfl⟩:=hr;refine⟨.next (ρ'.put [] [] lo vo),?_,_,rfl,h.put (fun _ h=>by cases h) iL _ _⟩;simp only[PC.ev,xC];refine⟨vo,⟨by rw[hJ];exact h1,fun ys hy=>?_⟩,rfl⟩;rw[hJ] at hy ⊢;rw[uB h iL];exact key _ _ _ _ _ (h2 ys hy)
def mA:List Nat→PC→Bool
 |l,.exit id=>eG l id
 |l,.seq a b=>mA l a&&mA l b
 |l,.ite _ _ _ a b=>mA l a&&mA l b
 |l,.block id _ _ a=>mA (id::l) a
 |l,.loop _ _ a=>mA l a
 |l,.each _ _ _ _ a=>mA (ct::l) a
 |_,_=>true
theorem anj {Φ:aT}{n:Nat}:∀(c:PC) {l:List Nat},mA l c=true→∀{ρ:Env} {i:Nat} {η:Env},c.ev Φ n ρ=some (.exit i η)→i∈l:=by
 intro c
 induction c with
 |skip=>intro l _ ρ i η h;simp[PC.ev] at h
 |exit id=>intro l hl ρ i η h;simp only[PC.ev,Option.some.injEq] at h;injection h with h1 h2;subst h1;exact(nU _ _).1 hl
 |ret e=>intro l _ ρ i η h;simp[PC.ev] at h
 |is _=>intro l _ ρ i η h;simp[PC.ev] at h
 |seq a b bx dH=>
  intro l hl ρ i η h;simp only[mA,Bool.and_eq_true] at hl;simp only[PC.ev] at h;split at h
  ·exact dH hl.2 h
  ·exact bx hl.1 h
 |ite c lr lo a b bx dH=>
  intro l hl ρ i η h;simp only[mA,Bool.and_eq_true] at hl;simp only[PC.ev] at h;cases hc:(c.ev ρ).b<;>simp only[hc,cond_true,cond_false] at h
  ·split at h
   ·cases h
   ·exact dH hl.2 h
  ·split at h
   ·cases h
   ·exact bx hl.1 h
 |block id lr lo a bx=>
  intro l hl ρ i η h;simp only[PC.ev] at h;split at h
  ·cases h
  ·rename_i bH ρ2 ha;cases hb:Nat.beq bH id<;>simp only[hb,cond_true,cond_false] at h<;>cases h;rcases List.mem_cons.1 (bx hl ha) with e|e
   ·subst e;rw[Nat.beq_refl] at hb;cases hb
   ·exact e
  ·rename_i h1 h2;exact absurd h (h2 _ _)
 |loop lr lo a bx=>
  intro l hl ρ i η h;have key:∀(m:Nat) (vr vo:List D),gj (a.ev Φ n) ρ lr lo m vr vo=some (.exit i η)→i∈l:=by
   intro m
   induction m with
   |zero=>intro vr vo h;simp[gj] at h
   |succ m O6=>
    intro vr vo h;simp only[gj] at h;split at h
    ·exact O6 _ _ h
    ·exact bx hl h
  exact key _ _ _ h
 |each e ps lo rt a bx=>
  intro l hl ρ i η h;have key:∀(xs vo:List D),gu (a.ev Φ n) ρ ps lo rt xs vo=some (.exit i η)→i∈l:=by
   intro xs
   induction xs with
   |nil=>intro vo h;simp[gu] at h
   |cons x xs gT=>
    intro vo h;simp only[gu] at h;split at h
    ·exact gT _ h
    ·rename_i bH ρ2 ha;cases hb:Nat.beq bH ct<;>simp only[hb,cond_true,cond_false] at h
     ·injection h with h;injection h with h1 h2;subst h1
      rcases List.mem_cons.1 (bx hl ha) with e|e
      ·subst e;rw[Nat.beq_refl] at hb;cases hb
      ·exact e
     ·cases rt<;>simp at h
    ·cases h
  exact key _ _ h
 |meach J ps cH lo a _=>
  intro l _ ρ i η h;simp only[PC.ev,xC] at h;obtain⟨vo,_,h⟩:=h;cases h
def YD (t:Nat):PE→Bool
 |.r u=>Nat.beq u t
 |_=>false
def YE (t:Nat):PE→Bool
 |.o u=>Nat.beq u t
 |_=>false
def fk (mO:Nat→PE→Bool)(p:Nat→Bool):List Nat→List (Nat×PE)→List (Nat×PE)
 |_,[]=>[]
 |seen,x::l=>bif p x.1&& !eG seen x.1 then(bif mO x.1 x.2 then fk mO p (x.1::seen) l else x::fk mO p (x.1::seen) l) else fk mO p seen l
theorem FU {mO:Nat→PE→Bool}{p:Nat→Bool}:∀{l:List (Nat×PE)} {seen:List Nat} {t:Nat},eG seen t=true→ab (fk mO p seen l) t=none
 |[],_,_,_=>rfl
 |x::l,seen,t,h=>by
  have h':eG (x.1::seen) t=true:=by rw[nU] at h ⊢;exact List.mem_cons_of_mem _ h
  simp only[fk];cases hb:(p x.1&& !eG seen x.1) with
  |false=>exact FU h
  |true=>
   simp only[cond_true];cases mO x.1 x.2 with
   |true=>exact FU h'
   |false=>
    simp only[cond_false,ab];have:Nat.beq x.1 t=false:=by
      cases e:Nat.beq x.1 t with
      |false=>rfl
      |true=>rw[cA e,h] at hb;simp at hb
    rw[this];exact FU h'
theorem AD {mO:Nat→PE→Bool}{p:Nat→Bool}{dflt:Nat→PE}(cj:∀t e,mO t e=true→e=dflt t):∀{l:List (Nat×PE)} {seen:List Nat} {t:Nat},p t=true→eG seen t=false→
 (match ab (fk mO p seen l) t with|some e=>e|none=>dflt t)=(match ab l t with|some e=>e|none=>dflt t)
 |[],_,_,_,_=>rfl
 |x::l,seen,t,hp,hs=>by
  simp only[fk,ab];cases e:Nat.beq x.1 t with
  |true=>
   have e':=cA e;rw[e',hp,hs];simp only[Bool.not_false,Bool.and_self,cond_true];cases hi:mO t x.2 with
   |true=>simp only[cond_true];rw[FU (by rw[nU];exact List.mem_cons_self ..)];exact(cj _ _ hi).symm
   |false=>simp only[cond_false,ab,e,cond_true]
  |false=>
   simp only[cond_false];cases hb:(p x.1&& !eG seen x.1) with
   |false=>exact AD cj hp hs
   |true=>
    have dU:eG (x.1::seen) t=false:=by
      cases hm:eG (x.1::seen) t with
      |false=>rfl
      |true=>
       rcases List.mem_cons.1 ((nU _ _).1 hm) with h|h
       ·rw[h,Nat.beq_refl] at e;cases e
       ·rw[(nU _ _).2 h] at hs;cases hs
    simp only[cond_true];cases mO x.1 x.2 with
    |true=>exact AD cj hp dU
    |false=>simp only[cond_false,ab,e];exact AD cj hp dU
def SE.cut (s:SE)(k:Lk):SE:=⟨fk YD (av k.r) [] s.r,fk YE (eG k.o) [] s.o⟩
def Pg (l:List (Nat×PE)):Lk:=l.foldr (fun x k=>x.2.lk.un k) .none
def SE.lks (s:SE):Lk:=(Pg s.r).un (Pg s.o)
theorem Ph:∀{l:List (Nat×PE)} {t:Nat} {e:PE},ab l t=some e→e.lk.Le (Pg l)
 |[],_,_,h=>by cases h
 |x::l,t,e,h=>by
  simp only[ab] at h;cases hb:Nat.beq x.1 t<;>simp only[hb,cond_true,cond_false] at h
  ·exact(Ph h).trans (Lk.le_r _ _)
  ·cases h;exact Lk.le_l _ _
theorem SE.cut_al {s:SE}{L:Lk}{ρ1 ρ2:Env}(h:Alike (L.un (s.cut L).lks) ρ1 ρ2):Alike L ((s.cut L).ev ρ1) (s.ev ρ2):=by
 have hL:=h.le (Lk.le_l _ _);have hs:=h.le (Lk.le_r _ _);constructor
 ·intro t ht;show(s.getR t).ev ρ2=((s.cut L).getR t).ev ρ1;have e:(s.cut L).getR t=s.getR t:=AD (dflt:=.r) (fun t e he=>by unfold YD at he;split at he;rw[cA he];cases he) ht rfl;rw[←e];cases hl:ab (s.cut L).r t with
  |none=>have:(s.cut L).getR t=.r t:=by unfold SE.getR;rw[hl]
         rw[this];exact hL.r t ht
  |some x=>have:(s.cut L).getR t=x:=by unfold SE.getR;rw[hl]
           rw[this];exact PE.ev_alike x (hs.le ((Ph hl).trans (Lk.le_l _ _)))
 ·intro t ht;show(s.getO t).ev ρ2=((s.cut L).getO t).ev ρ1;have e:(s.cut L).getO t=s.getO t:=AD (dflt:=.o) (fun t e he=>by unfold YE at he;split at he;rw[cA he];cases he) ((nU _ _).2 ht) rfl;rw[←e];cases hl:ab (s.cut L).o t with
  |none=>have:(s.cut L).getO t=.o t:=by unfold SE.getO;rw[hl]
         rw[this];exact hL.o t ht
  |some x=>have:(s.cut L).getO t=x:=by unfold SE.getO;rw[hl]
           rw[this];exact PE.ev_alike x (hs.le ((Ph hl).trans (Lk.le_r _ _)))
structure LC where
 next:Lk
 ov:List (Nat×Lk)
def LC.all (c:LC):Lk:=c.ov.foldr (fun x k=>x.2.un k) .none
def LN (c:LC)(Q1 Q2:Out→Prop):Prop:=
 (∀ρ1 ρ2,Alike c.next ρ1 ρ2→Q1 (.next ρ1)→Q2 (.next ρ2))∧(∀id k ρ1 ρ2,ab c.ov id=some k→Alike k ρ1 ρ2→Q1 (.exit id ρ1)→Q2 (.exit id ρ2))∧∀d,Q1 (.ret d)→Q2 (.ret d)
def eZ:LC→PT→Option (PT×Lk)
 |c,.next s=>some (.next (s.cut c.next),c.next.un (s.cut c.next).lks)
 |c,.exit id s=>(ab c.ov id).map fun k=>(.exit id (s.cut k),k.un (s.cut k).lks)
 |_,.ret e=>some (.ret e,e.lk)
 |c,.chk e k=>(eZ c k).map fun r=>(.chk e r.1,e.lk.un r.2)
 |c,.ite e a b=>(eZ c a).bind fun x=>(eZ c b).map fun y=>(.ite e x.1 y.1,e.lk.un (x.2.un y.2))
 |c,.call s gs dst f args k=>(eZ c k).map fun r=>(.call (s.cut (r.2.un (kJ gs))) gs dst f args r.1,(PE.lks args).un ((r.2.un (kJ gs)).un (s.cut (r.2.un (kJ gs))).lks))
 |c,.callc s gs dst e args k=>(eZ c k).map fun r=>(.callc (s.cut (r.2.un (kJ gs))) gs dst e args r.1,(e.lk.un (PE.lks args)).un ((r.2.un (kJ gs)).un (s.cut (r.2.un (kJ gs))).lks))
 |c,.mcall s j f args k=>(eZ c k).map fun r=>(.mcall (s.cut r.2) j f args r.1,(PE.lks args).un (r.2.un (s.cut r.2).lks))
 |c,.iteS s e lr lo a b k=>(eZ c k).bind fun r=>(eZ ⟨r.2,c.ov⟩ a).bind fun x=>(eZ ⟨r.2,c.ov⟩ b).map fun y=>
    (.iteS (s.cut (r.2.un (x.2.un y.2))) e lr lo x.1 y.1 r.1,e.lk.un ((r.2.un (x.2.un y.2)).un (s.cut (r.2.un (x.2.un y.2))).lks))
 |c,.blockS s id lr lo a k=>(eZ c k).bind fun r=>(eZ ⟨r.2,(id,r.2)::c.ov⟩ a).map fun x=>(.blockS (s.cut (r.2.un x.2)) id lr lo x.1 r.1,(r.2.un x.2).un (s.cut (r.2.un x.2)).lks)
 |c,.brk s p k=>(eZ c k).bind fun r=>bif mA (c.ov.map (·.1)) p then some (.brk (s.cut (p.lk.un (r.2.un c.all))) p r.1,(p.lk.un (r.2.un c.all)).un (s.cut (p.lk.un (r.2.un c.all))).lks) else none
theorem LC.all_le:∀{l:List (Nat×Lk)} {id:Nat} {k:Lk},ab l id=some k→k.Le (l.foldr (fun x k=>x.2.un k) .none)
 |[],_,_,h=>by cases h
 |x::l,t,e,h=>by
  simp only[ab] at h;cases hb:Nat.beq x.1 t<;>simp only[hb,cond_true,cond_false] at h
  ·exact(LC.all_le h).trans (Lk.le_r _ _)
  ·cases h;exact Lk.le_l _ _
theorem YY:∀{l:List (Nat×Lk)} {id:Nat},id∈l.map (·.1)→∃k,ab l id=some k
 |[],_,h=>by cases h
 |x::l,id,h=>by
  simp only[ab];cases hb:Nat.beq x.1 id with
  |true=>exact⟨_,rfl⟩
  |false=>
   simp only[cond_false];rcases List.mem_cons.1 h with e|h
   ·rw[e,Nat.beq_refl] at hb;cases hb
   ·exact YY h
theorem awH {T:cf}:∀(t:PT) {c:LC} {t':PT} {L:Lk},eZ c t=some (t',L)→∀{Q1 Q2:Out→Prop} {ρ1 ρ2:Env},LN c Q1 Q2→Alike L ρ1 ρ2→aJ T t' ρ1 Q1→aJ T t ρ2 Q2:=by
 intro t
 induction t with
 |next s=>
  intro c t' L hp Q1 Q2 ρ1 ρ2 hQ hA h;simp only[eZ,Option.some.injEq,Prod.mk.injEq] at hp;obtain⟨rfl,rfl⟩:=hp;exact hQ.1 _ _ (SE.cut_al hA) h
 |exit id s=>
  intro c t' L hp Q1 Q2 ρ1 ρ2 hQ hA h;simp only[eZ,Option.map_eq_some_iff,Prod.mk.injEq] at hp;obtain⟨k,hk,rfl,rfl⟩:=hp;exact hQ.2.1 _ k _ _ hk (SE.cut_al hA) h
 |ret e=>
  intro c t' L hp Q1 Q2 ρ1 ρ2 hQ hA h;simp only[eZ,Option.some.injEq,Prod.mk.injEq] at hp;obtain⟨rfl,rfl⟩:=hp;show Q2 (.ret (e.ev ρ2));rw[PE.ev_alike e hA];exact hQ.2.2 _ h
 |chk e k ih=>
  intro c t' L hp Q1 Q2 ρ1 ρ2 hQ hA h;simp only[eZ,Option.map_eq_some_iff,Prod.mk.injEq] at hp;obtain⟨r,hr,rfl,rfl⟩:=hp;exact⟨by rw[PE.ev_alike e (hA.le (Lk.le_l _ _))];exact h.1,ih hr hQ (hA.le (Lk.le_r _ _)) h.2⟩
 |ite e a b bx dH=>
  intro c t' L hp Q1 Q2 ρ1 ρ2 hQ hA h;simp only[eZ,Option.bind_eq_some_iff,Option.map_eq_some_iff,Prod.mk.injEq] at hp;obtain⟨x,hx,y,hy,rfl,rfl⟩:=hp;have h2:=hA.le (Lk.le_r _ _);simp only[aJ] at h ⊢;rw[PE.ev_alike e (hA.le (Lk.le_l _ _))];split
  ·rename_i hc;rw[if_pos hc] at h;exact bx hx hQ (h2.le (Lk.le_l _ _)) h
  ·rename_i hc;rw[if_neg hc] at h;exact dH hy hQ (h2.le (Lk.le_r _ _)) h
 |call s gs dst f args k ih=>
  intro c t' L hp Q1 Q2 ρ1 ρ2 hQ hA h;simp only[eZ,Option.map_eq_some_iff,Prod.mk.injEq] at hp;obtain⟨r,hr,rfl,rfl⟩:=hp;have hS:=SE.cut_al (hA.le (Lk.le_r _ _));simp only[aJ] at h ⊢;rw[PE.evs_alike args (hA.le (Lk.le_l _ _)),wK (hS.le (Lk.le_r _ _))];split
  ·rename_i hc;rw[if_pos hc] at h;obtain⟨d,hd,h⟩:=h;exact⟨d,hd,ih hr hQ ((hS.le (Lk.le_l _ _)).setR dst d) h⟩
  ·rename_i hc;rw[if_neg hc] at h;exact ih hr hQ (hS.le (Lk.le_l _ _)) h
 |callc s gs dst e args k ih=>
  intro c t' L hp Q1 Q2 ρ1 ρ2 hQ hA h;simp only[eZ,Option.map_eq_some_iff,Prod.mk.injEq] at hp;obtain⟨r,hr,rfl,rfl⟩:=hp;have hS:=SE.cut_al (hA.le (Lk.le_r _ _));have hE:=hA.le (Lk.le_l _ _);simp only[aJ] at h ⊢;rw[PE.ev_alike e (hE.le (Lk.le_l _ _)),PE.evs_alike args (hE.le (Lk.le_r _ _)),wK (hS.le (Lk.le_r _ _))];split
  ·rename_i hc;rw[if_pos hc] at h;obtain⟨f,caps,d,he,hd,h⟩:=h;exact⟨f,caps,d,he,hd,ih hr hQ ((hS.le (Lk.le_l _ _)).setR dst d) h⟩
  ·rename_i hc;rw[if_neg hc] at h;exact ih hr hQ (hS.le (Lk.le_l _ _)) h
 |mcall s j f args k ih=>
  intro c t' L hp Q1 Q2 ρ1 ρ2 hQ hA h;simp only[eZ,Option.map_eq_some_iff,Prod.mk.injEq] at hp;obtain⟨r,hr,rfl,rfl⟩:=hp;have hS:=SE.cut_al (hA.le (Lk.le_r _ _));simp only[aJ] at h ⊢;rw[PE.evs_alike args (hA.le (Lk.le_l _ _))];obtain⟨d,hd,h⟩:=h;exact⟨d,hd,ih hr hQ (hS.setO j d) h⟩
 |iteS s e lr lo a b k bx dH jn=>
  intro c t' L hp Q1 Q2 ρ1 ρ2 hQ hA h;simp only[eZ,Option.bind_eq_some_iff,Option.map_eq_some_iff,Prod.mk.injEq] at hp;obtain⟨r,hr,x,hx,y,hy,rfl,rfl⟩:=hp;have hS:=SE.cut_al (hA.le (Lk.le_r _ _));have Gb:=hS.le (Lk.le_l _ _);have AP:=hS.le ((Lk.le_l _ _).trans (Lk.le_r _ _));have hSy:=hS.le ((Lk.le_r _ _).trans (Lk.le_r _ _))
  have rel:LN ⟨r.2,c.ov⟩ (jM ((s.cut (r.2.un (x.2.un y.2))).ev ρ1) lr lo (fR (fun ρ'=>aJ T r.1 ρ' Q1) Q1)) (jM (s.ev ρ2) lr lo (fR (fun ρ'=>aJ T k ρ' Q2) Q2)):=
   ⟨fun η1 η2 ha hq=>jn hr hQ (Gb.join ha lr lo) hq,fun id k' η1 η2 hk ha hq=>hQ.2.1 id k' _ _ hk ha hq,fun d hq=>hQ.2.2 d hq⟩
  simp only[aJ] at h ⊢;rw[PE.ev_alike e (hA.le (Lk.le_l _ _))];split
  ·rename_i hc;rw[if_pos hc] at h;exact bx hx rel AP h
  ·rename_i hc;rw[if_neg hc] at h;exact dH hy rel hSy h
 |blockS s id lr lo a k bx jn=>
  intro c t' L hp Q1 Q2 ρ1 ρ2 hQ hA h;simp only[eZ,Option.bind_eq_some_iff,Option.map_eq_some_iff,Prod.mk.injEq] at hp;obtain⟨r,hr,x,hx,rfl,rfl⟩:=hp;have hS:=SE.cut_al hA;have Gb:=hS.le (Lk.le_l _ _);refine bx hx (Q1:=kG ((s.cut (r.2.un x.2)).ev ρ1) id lr lo (fR (fun ρ'=>aJ T r.1 ρ' Q1) Q1)) ⟨fun η1 η2 ha hq=>jn hr hQ (Gb.join ha lr lo) hq,fun bH k' η1 η2 hk ha hq=>?_,fun d hq=>hQ.2.2 d hq⟩ (hS.le (Lk.le_r _ _)) h;simp only[kG] at hq ⊢;simp only[ab] at hk;by_cases e:bH=id
  ·subst e;simp only[Nat.beq_refl,cond_true,Option.some.injEq] at hk;subst hk;rw[if_pos rfl] at hq ⊢;exact jn hr hQ (Gb.join ha lr lo) hq
  ·rw[if_neg e] at hq ⊢;rw[dR (fun h=>e h.symm),cond_false] at hk;exact hQ.2.1 bH k' _ _ hk ha hq
 |brk s p k jn=>
  intro c t' L hp Q1 Q2 ρ1 ρ2 hQ hA h;simp only[eZ,Option.bind_eq_some_iff] at hp;obtain⟨r,hr,hp⟩:=hp;cases hx:mA (c.ov.map (·.1)) p<;>simp only[hx,cond_true,cond_false,Option.some.injEq,Prod.mk.injEq] at hp
  ·cases hp
  obtain⟨rfl,rfl⟩:=hp;have hS:=SE.cut_al hA;have gP:Off (p.lk.un (r.2.un c.all)) (s.ev ρ2) ((s.cut (p.lk.un (r.2.un c.all))).ev ρ1) (s.ev ρ2):=⟨hS,fun _ _=>rfl,fun _ _=>rfl⟩
  obtain⟨x,hq,n0,hn⟩:=h;have step:=fun n (hle:n0≤n)=>PC.ev_off p (Lk.le_l _ _) gP (hn n hle);obtain⟨x',h1,h2⟩:=step n0 (Nat.le_refl _);refine⟨x',?_,n0,fun n hle=>?_⟩
  ·cases x with
   |next η=>obtain⟨η',rfl,h3⟩:=h2;exact jn hr hQ (h3.al.le ((Lk.le_l _ _).trans (Lk.le_r _ _))) hq
   |exit i η=>
    obtain⟨η',rfl,h3⟩:=h2;obtain⟨k',aY⟩:=YY (anj p hx (hn n0 (Nat.le_refl _)));exact hQ.2.1 i k' _ _ aY (h3.al.le ((LC.all_le aY).trans ((Lk.le_r _ _).trans (Lk.le_r _ _)))) hq
   |ret d=>cases h2;exact hQ.2.2 d hq
  ·obtain⟨x2,h3,h4⟩:=step n hle;rw[h3,h2.uniq h4]
def B8 (c:LC)(t:PT):PT:=match eZ c t with|some r=>r.1|none=>t
theorem Kf {T:cf}{c:LC}{t:PT}{Q:Out→Prop}{ρ:Env}(hQ:LN c Q Q)(h:aJ T (B8 c t) ρ Q):aJ T t ρ Q:=by
 unfold B8 at h;split at h
 ·rename_i r hr;exact awH t hr hQ ⟨fun _ _=>rfl,fun _ _=>rfl⟩ h
 ·exact h
def afs (c:PC):PT:=sx c [] .id (fun _ s=>.next s) (fun _ id s=>.exit id s)
theorem afu {T:cf}{c:PC}{ρ:Env}{Q:Out→Prop}(h:aJ T (afs c) ρ Q):aO T c ρ Q:=
 Li (s:=.id) c (bJ.ok_nil _) h (fun ρ' ae s _ _ h=>h) (fun ρ' ae id s _ _ h=>h) (fun _ _ _ h=>h) (fun _ h=>h)
def tree (c:PC):PT:=B8 ⟨.none,[]⟩ (afs c)
theorem LB {T:cf}{c:PC}{ρ:Env}{d:D}(h:aJ T (tree c) ρ fun x=>x=.ret d):aO T c ρ fun x=>x=.ret d:=
 afu (Kf ⟨fun _ _ _ h=>(by cases h),fun _ _ _ _ _ _ h=>(by cases h),fun _ h=>h⟩ h)
def SE.keep (s:SE)(lr lo:List Nat):SE:=⟨lr.map fun t=>(t,s.getR t),lo.map fun t=>(t,s.getO t)⟩
theorem SE.keep_r (s:SE)(lr lo:List Nat)(ρ:Env):lr.map ((s.keep lr lo).ev ρ).r=lr.map (s.ev ρ).r:=by
 apply List.map_congr_left;intro t ht;show((s.keep lr lo).getR t).ev ρ=(s.getR t).ev ρ;have:=uy (f:=fun t=>s.getR t) (l:=[]) (u:=t) lr;rw[List.append_nil,if_pos ht] at this;have e:(s.keep lr lo).getR t=s.getR t:=by unfold SE.getR SE.keep;simp only[];rw[this];rfl
 rw[e]
theorem SE.keep_o (s:SE)(lr lo:List Nat)(ρ:Env):lo.map ((s.keep lr lo).ev ρ).o=lo.map (s.ev ρ).o:=by
 apply List.map_congr_left;intro t ht;show((s.keep lr lo).getO t).ev ρ=(s.getO t).ev ρ;have:=uy (f:=fun t=>s.getO t) (l:=[]) (u:=t) lo;rw[List.append_nil,if_pos ht] at this;have e:(s.keep lr lo).getO t=s.getO t:=by unfold SE.getO SE.keep;simp only[];rw[this];rfl
 rw[e]
def aeP (id:Nat)(bq bp lr lo:List Nat)(a:PC):PT:=
 sx a [] .id (fun _ s=>.next (s.keep lr lo)) (fun _ bH s=>bif Nat.beq bH id then .exit id (s.keep bq bp) else .exit bH s)
def eu (ρ:Env)(id:Nat)(bq bp lr lo:List Nat)(K:List D→List D→Prop)(Q:Out→Prop):Out→Prop
 |.next ρ'=>K (lr.map ρ'.r) (lo.map ρ'.o)
 |.exit bH ρ'=>if bH=id then Q (.next (ρ.put bq (bq.map ρ'.r) bp (bp.map ρ'.o))) else Q (.exit bH ρ')
 |.ret d=>Q (.ret d)
def round (id:Nat)(bq bp lr lo:List Nat)(a:PC):PT:=B8 ⟨⟨bits lr,lo⟩,[(id,⟨bits bq,bp⟩)]⟩ (aeP id bq bp lr lo a)
theorem Zp {k:Lk}{lr:List Nat}{ρ1 ρ2:Env}(h:Alike k ρ1 ρ2)(hk:∀t,t∈lr→av k.r t=true):lr.map ρ2.r=lr.map ρ1.r:=List.map_congr_left fun t ht=>h.r t (hk t ht)
theorem G8 {k:Lk}{lo:List Nat}{ρ1 ρ2:Env}(h:Alike k ρ1 ρ2)(hk:∀t,t∈lo→t∈k.o):lo.map ρ2.o=lo.map ρ1.o:=List.map_congr_left fun t ht=>h.o t (hk t ht)
theorem axJ {T:cf}{id:Nat}{bq bp lr lo:List Nat}{a:PC}{ρ ρ0:Env}{K:List D→List D→Prop}{Q:Out→Prop}(h:aJ T (round id bq bp lr lo a) ρ (eu ρ0 id bq bp lr lo K Q)):aJ T (aeP id bq bp lr lo a) ρ (eu ρ0 id bq bp lr lo K Q):=by
 refine Kf ⟨fun ρ1 ρ2 ha hq=>?_,fun bH k ρ1 ρ2 hk ha hq=>?_,fun d hq=>hq⟩ h
 ·simp only[eu] at hq ⊢;rw[Zp ha fun t ht=>Mx ht,G8 ha fun t ht=>ht];exact hq
 ·simp only[ab] at hk;cases hb:Nat.beq id bH<;>simp only[hb,cond_true,cond_false] at hk
  ·cases hk
  ·cases hk;have:=cA hb;subst this;simp only[eu,if_true] at hq ⊢;rw[Zp ha fun t ht=>Mx ht,G8 ha fun t ht=>ht];exact hq
theorem aO.forLoop {T:cf}{id:Nat}{bq bp lr lo:List Nat}{a:PC}{ρ:Env}{Q:Out→Prop}{α:Type}(inv:α→List D→List D→Prop)(sd:α→Nat)(s0:α)(h0:inv s0 (lr.map ρ.r) (lo.map ρ.o))
 (step:∀s vr vo,inv s vr vo→aJ T (round id bq bp lr lo a) (ρ.put lr vr lo vo) (eu ρ id bq bp lr lo (fun vr vo=>∃s',sd s'<sd s∧inv s' vr vo) Q)):aO T (.block id bq bp (.loop lr lo a)) ρ Q:=by
 refine .block (.loop inv sd s0 h0 fun s vr vo hi=>?_);have h:=axJ (step s vr vo hi);refine Li (s:=.id) a (bJ.ok_nil _) h (fun ρ' ae s' _ _ h=>?_) (fun ρ' ae bH s' _ _ h=>?_) (fun _ bH ρ' h=>?_) (fun d h=>h)
 ·simp only[aJ,eu] at h;rw[SE.keep_r,SE.keep_o] at h;exact h
 ·simp only[fR,kG];by_cases cj:bH=id
  ·subst cj;simp only[Nat.beq_refl,cond_true,aJ,eu,if_true] at h;rw[SE.keep_r,SE.keep_o] at h;rw[if_pos rfl];exact h
  ·rw[dR cj,cond_false] at h;simp only[aJ,eu] at h;rw[if_neg cj] at h ⊢;exact h
 ·simp only[fR,kG];simp only[eu] at h;split
  ·rename_i e;rw[if_pos e] at h;exact h
  ·rename_i e;rw[if_neg e] at h;exact h
def aeQ (lo:List Nat)(a:PC):PT:=sx a [] .id (fun _ s=>.next (s.keep [] lo)) (fun _ id s=>.exit id (s.keep [] lo))
def oz (lo:List Nat)(a:PC):PT:=B8 ⟨⟨0,lo⟩,[(ct,⟨0,lo⟩)]⟩ (aeQ lo a)
theorem aeR {T:cf}{lo:List Nat}{a:PC}{ρ:Env}{Q:Out→Prop}(hn:∀ρ1 ρ2,lo.map ρ2.o=lo.map ρ1.o→Q (.next ρ1)→Q (.next ρ2))(hx:∀ρ1 ρ2,lo.map ρ2.o=lo.map ρ1.o→Q (.exit ct ρ1)→Q (.exit ct ρ2))(h:aJ T (oz lo a) ρ Q):aJ T (aeQ lo a) ρ Q:=by
 refine Kf ⟨fun ρ1 ρ2 ha hq=>hn ρ1 ρ2 (G8 ha fun t ht=>ht) hq,fun bH k ρ1 ρ2 hk ha hq=>?_,fun d hq=>hq⟩ h;simp only[ab] at hk;cases hb:Nat.beq ct bH<;>simp only[hb,cond_true,cond_false] at hk
 ·cases hk
 ·cases hk;have:=cA hb;subst this;exact hx ρ1 ρ2 (G8 ha fun t ht=>ht) hq
theorem aO.eachR {T:cf}{e:PE}{ps lo:List Nat}{rt:Option PE}{a:PC}{ρ:Env}{Q:Out→Prop}(xs:List D)(he:(e.ev ρ).l=xs)(inv:Nat→List D→Prop)(h0:inv 0 (lo.map ρ.o))
 (step:∀k x vo,xs[k]?=some x→inv k vo→aJ T (oz lo a) (ρ.put ps (partsOf ps x) lo vo) (rn ρ lo rt (inv (k+1)) Q)) (done:∀vo,inv xs.length vo→Q (.next (ρ.put [] [] lo vo))):aO T (.each e ps lo rt a) ρ Q:=by
 refine .each xs he inv h0 (fun k x vo hx hi=>?_) done;have h:=aeR (fun ρ1 ρ2 e hq=>by simp only[rn] at hq ⊢;rw[e];exact hq) (fun ρ1 ρ2 e hq=>by simp only[rn,if_true] at hq ⊢;rw[e];exact hq) (step k x vo hx hi);refine Li (s:=.id) a (bJ.ok_nil _) h (fun ρ' ae s' _ _ h=>?_) (fun ρ' ae bH s' _ _ h=>?_) (fun _ bH ρ' h=>h) (fun d h=>h)
 ·simp only[aJ,rn] at h;rw[SE.keep_o] at h;exact h
 ·simp only[aJ,rn] at h;rw[SE.keep_o] at h;exact h
theorem aO.meachR {T:cf}{J:Nat}{ps cH lo:List Nat}{a:PC}{ρ:Env}{Q:Out→Prop}(es:List (D×D))(he:ρ.o J=.tup [.list [],.map es])(inv:List D→List D→Prop)(h0:inv [] (lo.map ρ.o))
 (step:∀done x rest vo,(done++x::rest).Perm (gl (.map es))→inv done vo→aJ T (oz lo a) ((ρ.put ps (cH.map x.tget) lo vo).setO J (.tup [.list (done++[x]),.map es])) (fun y=>∃ρ',y=.next ρ'∧inv (done++[x]) (lo.map ρ'.o)))
 (last:∃vo,(∀done,done.Perm (gl (.map es))→∀pR,inv done pR→pR=vo)∧Q (.next (ρ.put [] [] lo vo))):aO T (.meach J ps cH lo a) ρ Q:=by
 refine .meach es he inv h0 (fun done x rest vo hp hi=>?_) last;have h:=aeR (fun ρ1 ρ2 e ⟨ρ',e1,hq⟩=>by cases e1;exact⟨_,rfl,by rw[e];exact hq⟩) (fun ρ1 ρ2 e ⟨ρ',e1,hq⟩=>by cases e1) (step done x rest vo hp hi);refine Li (s:=.id) a (bJ.ok_nil _) h (fun ρ' ae s' _ _ h=>?_) (fun ρ' ae bH s' _ _ h=>?_) (fun _ bH ρ' h=>?_) (fun d h=>?_)
 ·simp only[aJ] at h;obtain⟨ρ2,e,h⟩:=h;injection e with e;subst e;rw[SE.keep_o] at h;exact⟨_,rfl,h⟩
 ·simp only[aJ] at h;obtain⟨ρ2,e,h⟩:=h;cases e
 ·obtain⟨ρ2,e,_⟩:=h;cases e
 ·obtain⟨ρ2,e,_⟩:=h;cases e
theorem vF {T:cf}:∀(t:PT) {ρ:Env} {Q Q':Out→Prop},(∀x,Q x→Q' x)→aJ T t ρ Q→aJ T t ρ Q':=by
 intro t
 induction t with
 |next s=>intro ρ Q Q' h hx;exact h _ hx
 |exit id s=>intro ρ Q Q' h hx;exact h _ hx
 |ret e=>intro ρ Q Q' h hx;exact h _ hx
 |chk e k ih=>intro ρ Q Q' h hx;exact⟨hx.1,ih h hx.2⟩
 |ite c a b bx dH=>
  intro ρ Q Q' h hx;simp only[aJ] at hx ⊢;split
  ·rename_i hc;rw[if_pos hc] at hx;exact bx h hx
  ·rename_i hc;rw[if_neg hc] at hx;exact dH h hx
 |call s gs dst f args k ih=>
  intro ρ Q Q' h hx;simp only[aJ] at hx ⊢;split
  ·rename_i hc;rw[if_pos hc] at hx;obtain⟨d,hd,hx⟩:=hx;exact⟨d,hd,ih h hx⟩
  ·rename_i hc;rw[if_neg hc] at hx;exact ih h hx
 |callc s gs dst e args k ih=>
  intro ρ Q Q' h hx;simp only[aJ] at hx ⊢;split
  ·rename_i hc;rw[if_pos hc] at hx;obtain⟨f,c,d,he,hd,hx⟩:=hx;exact⟨f,c,d,he,hd,ih h hx⟩
  ·rename_i hc;rw[if_neg hc] at hx;exact ih h hx
 |mcall s j f args k ih=>intro ρ Q Q' h hx;obtain⟨d,hd,hx⟩:=hx;exact⟨d,hd,ih h hx⟩
 |iteS s c lr lo a b k bx dH jn=>
  intro ρ Q Q' h hx
  have hq:∀x,jM (s.ev ρ) lr lo (fR (fun ρ'=>aJ T k ρ' Q) Q) x→jM (s.ev ρ) lr lo (fR (fun ρ'=>aJ T k ρ' Q') Q') x:=by
   intro x hx;cases x with
   |next ρ'=>exact jn h hx
   |exit id ρ'=>exact h _ hx
   |ret d=>exact h _ hx
  simp only[aJ] at hx ⊢;split
  ·rename_i hc;rw[if_pos hc] at hx;exact bx hq hx
  ·rename_i hc;rw[if_neg hc] at hx;exact dH hq hx
 |blockS s id lr lo a k bx jn=>
  intro ρ Q Q' h hx;refine bx (fun x hx=>?_) hx;cases x with
  |next ρ'=>exact jn h hx
  |exit bH ρ'=>
   simp only[kG] at hx ⊢;split
   ·rename_i e;rw[if_pos e] at hx;exact jn h hx
   ·rename_i e;rw[if_neg e] at hx;exact h _ hx
  |ret d=>exact h _ hx
 |brk s c k ih=>
  intro ρ Q Q' h hx;refine aO.mono hx fun x hx=>?_;cases x with
  |next ρ'=>exact ih h hx
  |exit id ρ'=>exact h _ hx
  |ret d=>exact h _ hx
theorem aO.forRounds {T:cf}{id:Nat}{bq bp lr lo:List Nat}{a:PC}{ρ:Env}{Q:Out→Prop}(N:Nat)(str eM:Nat→List D)(h0:lr.map ρ.r=str 0∧lo.map ρ.o=eM 0)
 (step:∀k,k<N→aJ T (round id bq bp lr lo a) (ρ.put lr (str k) lo (eM k)) (eu ρ id bq bp lr lo (fun vr vo=>vr=str (k+1)∧vo=eM (k+1)) Q))
 (last:aJ T (round id bq bp lr lo a) (ρ.put lr (str N) lo (eM N)) (eu ρ id bq bp lr lo (fun _ _=>False) Q)):aO T (.block id bq bp (.loop lr lo a)) ρ Q:=by
 refine .forLoop (α:=Nat) (fun k vr vo=>k≤N∧vr=str k∧vo=eM k) (fun k=>N-k) 0 ⟨Nat.zero_le _,h0.1,h0.2⟩ ?_;rintro k vr vo ⟨hk,rfl,rfl⟩;have mono:∀{K K':List D→List D→Prop},(∀a b,K a b→K' a b)→∀x,eu ρ id bq bp lr lo K Q x→eu ρ id bq bp lr lo K' Q x:=by
  intro K K' h x hx;cases x with
  |next ρ'=>exact h _ _ hx
  |exit bH ρ'=>exact hx
  |ret d=>exact hx
 by_cases ah:k<N
 ·exact vF _ (mono fun a b ⟨h1,h2⟩=>⟨k+1,by omega,by omega,h1,h2⟩) (step k ah)
 ·obtain rfl:k=N:=by omega
  exact vF _ (mono fun a b h=>h.elim) last
theorem Sc {ρ:Env}{id:Nat}{bq bp lr lo:List Nat}{K K':List D→List D→Prop}{Q:Out→Prop}(h:∀a b,K a b→K' a b):∀x,eu ρ id bq bp lr lo K Q x→eu ρ id bq bp lr lo K' Q x:=by
 intro x hx;cases x with
 |next ρ'=>exact h _ _ hx
 |exit bH ρ'=>exact hx
 |ret d=>exact hx
theorem aO.scan {T:cf}{id:Nat}{bq bp lr lo:List Nat}{a:PC}{ρ:Env}{Q:Out→Prop}(N:Nat)(ok:Nat→Prop)(str eM:Nat→List D)(h0:lr.map ρ.r=str 0∧lo.map ρ.o=eM 0)
 (step:∀k,k<N→(∀j,j<k→ok j)→ok k→aJ T (round id bq bp lr lo a) (ρ.put lr (str k) lo (eM k)) (eu ρ id bq bp lr lo (fun vr vo=>vr=str (k+1)∧vo=eM (k+1)) Q))
 (bad:∀k,k<N→(∀j,j<k→ok j)→¬ok k→aJ T (round id bq bp lr lo a) (ρ.put lr (str k) lo (eM k)) (eu ρ id bq bp lr lo (fun _ _=>False) Q))
 (last:(∀j,j<N→ok j)→aJ T (round id bq bp lr lo a) (ρ.put lr (str N) lo (eM N)) (eu ρ id bq bp lr lo (fun _ _=>False) Q)):aO T (.block id bq bp (.loop lr lo a)) ρ Q:=by
 refine .forLoop (α:=Nat) (fun k vr vo=>k≤N∧(∀j,j<k→ok j)∧vr=str k∧vo=eM k) (fun k=>N-k) 0 ⟨Nat.zero_le _,fun j hj=>by omega,h0.1,h0.2⟩ ?_;rintro k vr vo ⟨hk,hj,rfl,rfl⟩;by_cases ah:k<N
 ·by_cases aA:ok k
  ·refine vF _ (Sc fun a b ⟨h1,h2⟩=>⟨k+1,by omega,by omega,fun j Gv=>?_,h1,h2⟩) (step k ah hj aA);by_cases e:j=k
   ·subst e;exact aA
   ·exact hj j (by omega)
  ·exact vF _ (Sc fun a b h=>h.elim) (bad k ah hj aA)
 ·obtain rfl:k=N:=by omega
  exact vF _ (Sc fun a b h=>h.elim) (last hj)
def ar (n:Nat)(e:PE):PE:=.mk ((List.range n).map fun i=>.cell e i)
def iu (n:Nat)(d:D):D:=.agg ((List.range n).flatMap fun i=>(d.c i).cells)
theorem anh (ρ:Env)(n:Nat)(e:PE):(ar n e).ev ρ=iu n (e.ev ρ):=by
 have key:∀l:List Nat,PE.evc ρ (l.map fun i=>.cell e i)=l.flatMap fun i=>((e.ev ρ).c i).cells:=by
  intro l
  induction l with
  |nil=>rfl
  |cons i l ih=>simp only[List.map_cons,PE.evc,PE.ev,List.flatMap_cons,ih]
 show D.agg _=_;rw[key];rfl
end Cx
namespace Cx
open Go Go.RowKit
def aX (n:Int):Prop:=-9223372036854775808≤n∧n≤9223372036854775807
def ints (l:List Int):D:=.list (l.map .int)
theorem bD {n:Int}(h:-9223372036854775808≤n∧n≤9223372036854775807):IntKind.i64.wrap n=n:=by
 simp only[IntKind.wrap,IntKind.signed,IntKind.bits];simp;split<;>omega
theorem DTy.int_inv {k:IntKind}{d:D}(h:DTy (.int k) d):∃n,d=.v (.int k n)∧k.min≤n∧n≤k.max:=by
 cases h with
 |int k n h1 h2=>exact⟨n,rfl,h1,h2⟩
 |other t d h=>exact h.elim
theorem DTy.i64_inv {d:D}(h:DTy (.int .i64) d):∃n,d=.int n∧aX n:=by
 obtain⟨n,rfl,h1,h2⟩:=h.int_inv;exact⟨n,rfl,by simpa [IntKind.min,IntKind.max,IntKind.signed,IntKind.bits] using h1,by simpa [IntKind.min,IntKind.max,IntKind.signed,IntKind.bits] using h2⟩
theorem DTy.bool_inv {d:D}(h:DTy .bool d):∃b,d=.bool b:=by
 cases h with
 |bool b=>exact⟨b,rfl⟩
 |other t d h=>exact h.elim
theorem DTy.slice_inv {e:Ty}{d:D}(h:DTy (.slice e) d):∃xs,d=.list xs∧xs.length≤maxLen∧∀x,x∈xs→DTy e.unf x:=by
 cases h with
 |slice e xs hm h=>exact⟨xs,rfl,hm,h⟩
 |other t d h=>exact h.elim
theorem DTy.agg_inv {ts:List Ty}{d:D}(h:DTy (.agg ts) d):∃ds,d=.agg ds∧DTys ts ds:=by
 cases h with
 |agg ts ds h=>exact⟨ds,rfl,h⟩
 |other t d h=>exact h.elim
theorem DTys.cons_inv {t:Ty}{ts:List Ty}{ds:List D}(h:DTys (t::ts) ds):∃d ds',ds=d::ds'∧DTy t d∧DTys ts ds':=by
 cases h with
 |cons h hs=>exact⟨_,_,rfl,h,hs⟩
theorem DTys.nil_inv {ds:List D}(h:DTys [] ds):ds=[]:=by cases h;rfl
theorem jq {α:Type}{enc:α→D}{P:α→Prop}{xs:List D}(h:∀x,x∈xs→∃a,x=enc a∧P a):∃l:List α,xs=l.map enc∧∀a,a∈l→P a:=by
 induction xs with
 |nil=>exact⟨[],rfl,fun _ h=>nomatch h⟩
 |cons x xs ih=>
  obtain⟨l,hl,hp⟩:=ih fun y hy=>h y (List.mem_cons_of_mem _ hy);obtain⟨a,ha,pa⟩:=h x (List.mem_cons_self ..)
  exact⟨a::l,by rw[hl,ha];rfl,fun b hb=>by
   rcases List.mem_cons.1 hb with e|hb
   ·rw[e];exact pa
   ·exact hp b hb⟩
theorem DTy.ints_inv {d:D}(h:DTy (.slice (.int .i64)) d):∃l:List Int,d=ints l∧l.length≤maxLen∧∀x,x∈l→aX x:=by
 obtain⟨xs,rfl,hm,hx⟩:=h.slice_inv;obtain⟨l,rfl,hl⟩:=jq (enc:=D.int) (P:=aX) fun x hh=>(hx x hh).i64_inv;exact⟨l,rfl,by simpa using hm,hl⟩
section
variable (ρ:Env) (T:cf)
@[simp] theorem aFh (t:Nat):PE.ev ρ (.r t)=ρ.r t:=_root_.id rfl
@[simp] theorem aFe (t:Nat):PE.ev ρ (.o t)=ρ.o t:=_root_.id rfl
@[simp] theorem aE0 (d:D):PE.ev ρ (.con d)=d:=_root_.id rfl
@[simp] theorem aEX (e:PE)(i:Nat):PE.ev ρ (.cell e i)=(PE.ev ρ e).c i:=_root_.id rfl
@[simp] theorem aFr (e:PE)(a n:Nat):PE.ev ρ (.sub e a n)=.agg (((PE.ev ρ e).cells.drop a).take n):=_root_.id rfl
@[simp] theorem aFk (e x:PE)(n:Nat):PE.ev ρ (.setc e n x)=.agg (cM (PE.ev ρ e).cells n (PE.ev ρ x).cells):=_root_.id rfl
@[simp] theorem aE7 (es:List PE):PE.ev ρ (.mk es)=.agg (PE.evc ρ es):=_root_.id rfl
@[simp] theorem aES (op:BinOp)(k:IntKind)(x y:PE):PE.ev ρ (.ai op k x y)=.v (.int k (cY op k (PE.ev ρ x).i (PE.ev ρ y).i)):=_root_.id rfl
@[simp] theorem aEY (op:BinOp)(x y:PE):PE.ev ρ (.ci op x y)=.v (.bool (gr op (PE.ev ρ x).i (PE.ev ρ y).i)):=_root_.id rfl
@[simp] theorem aEW (op:BinOp)(x y:PE):PE.ev ρ (.cb op x y)=.v (.bool (tq op (PE.ev ρ x).b (PE.ev ρ y).b)):=_root_.id rfl
@[simp] theorem aE2 (op:BinOp)(x y:PE):PE.ev ρ (.cs op x y)=.v (.bool (tu op (PE.ev ρ x).s (PE.ev ρ y).s)):=_root_.id rfl
@[simp] theorem aFc (x:PE):PE.ev ρ (.nt x)=.v (.bool (!(PE.ev ρ x).b)):=_root_.id rfl
@[simp] theorem aE1 (k:IntKind)(x:PE):PE.ev ρ (.conv k x)=.v (.int k (k.wrap (PE.ev ρ x).i)):=_root_.id rfl
@[simp] theorem aFf (c a b:PE):PE.ev ρ (.pick c a b)=if(PE.ev ρ c).b=true then PE.ev ρ a else PE.ev ρ b:=by
  simp only[PE.ev];cases(PE.ev ρ c).b<;>rfl
@[simp] theorem aE8 (n:Nat)(e:PE):PE.ev ρ (ar n e)=iu n (PE.ev ρ e):=anh ρ n e
@[simp] theorem aEV (x:PE):PE.ev ρ (.bytes x)=.list ((PE.ev ρ x).s.data.toList.map fun b=>.v (.int .u8 b.toNat)):=_root_.id rfl
@[simp] theorem aE5 (x:PE):PE.ev ρ (.llen x)=.v (.int .i64 (PE.ev ρ x).l.length):=_root_.id rfl
@[simp] theorem aFo (x:PE):PE.ev ρ (.slen x)=.v (.int .i64 (PE.ev ρ x).s.size):=_root_.id rfl
@[simp] theorem aE9 (x:PE):PE.ev ρ (.mlen x)=.v (.int .i64 (PE.ev ρ x).m.length):=_root_.id rfl
@[simp] theorem aFd (x i:PE):PE.ev ρ (.nth x i)=(PE.ev ρ x).l.getD (PE.ev ρ i).i.toNat .none:=_root_.id rfl
@[simp] theorem aE4 (x i:PE):PE.ev ρ (.idx x i)=.v (.bool (decide (0≤(PE.ev ρ i).i∧(PE.ev ρ i).i<(PE.ev ρ x).l.length))):=_root_.id rfl
@[simp] theorem aFl (x i y:PE)(n:Nat):PE.ev ρ (.setn x i n y)=.list ((PE.ev ρ x).l.set (PE.ev ρ i).i.toNat (sL ((PE.ev ρ x).l.getD (PE.ev ρ i).i.toNat .none) n (PE.ev ρ y))):=_root_.id rfl
@[simp] theorem aEU (x y:PE):PE.ev ρ (.app x y)=.list ((PE.ev ρ x).l++(PE.ev ρ y).l):=_root_.id rfl
@[simp] theorem aE6 (es:List PE):PE.ev ρ (.lst es)=.list (PE.evs ρ es):=_root_.id rfl
@[simp] theorem aFj (x y:PE):PE.ev ρ (.rep x y)=.list (List.replicate (PE.ev ρ x).i.toNat (PE.ev ρ y)):=_root_.id rfl
@[simp] theorem aFn (x a b:PE):PE.ev ρ (.slc x a b)=.list (((PE.ev ρ x).l.take (PE.ev ρ b).i.toNat).drop (PE.ev ρ a).i.toNat):=_root_.id rfl
@[simp] theorem aFp (x a b:PE):PE.ev ρ (.slok x a b)=.v (.bool (decide (0≤(PE.ev ρ a).i∧(PE.ev ρ a).i≤(PE.ev ρ b).i∧(PE.ev ρ b).i≤(PE.ev ρ x).l.length))):=_root_.id rfl
@[simp] theorem aFi (x:PE):PE.ev ρ (.ref x)=.ref (PE.ev ρ x):=_root_.id rfl
@[simp] theorem aE3 (x:PE):PE.ev ρ (.deref x)=(PE.ev ρ x).deref:=_root_.id rfl
@[simp] theorem aFg (m k v:PE):PE.ev ρ (.put m k v)=.map (jQ (PE.ev ρ k) (PE.ev ρ v) (PE.ev ρ m).m):=_root_.id rfl
@[simp] theorem aFa (x y:PE):PE.ev ρ (.mn x y)=if(PE.ev ρ y).i<(PE.ev ρ x).i then PE.ev ρ y else PE.ev ρ x:=by
  simp only[PE.ev];by_cases h:(PE.ev ρ y).i<(PE.ev ρ x).i<;>simp[h]
@[simp] theorem aFb (x y:PE):PE.ev ρ (.mx x y)=if(PE.ev ρ y).i>(PE.ev ρ x).i then PE.ev ρ y else PE.ev ρ x:=by
  simp only[PE.ev];by_cases h:(PE.ev ρ y).i>(PE.ev ρ x).i<;>simp[h]
@[simp] theorem aFt (es:List PE):PE.ev ρ (.tup es)=.tup (PE.evs ρ es):=_root_.id rfl
@[simp] theorem aFs (x:PE)(i:Nat):PE.ev ρ (.tget x i)=(PE.ev ρ x).tget i:=_root_.id rfl
@[simp] theorem aEZ (f:Nat)(es:List PE):PE.ev ρ (.clo f es)=.clo f (PE.evs ρ es):=_root_.id rfl
@[simp] theorem aET (x y:PE):PE.ev ρ (.an x y)=.v (.bool ((PE.ev ρ x).b&&(PE.ev ρ y).b)):=_root_.id rfl
@[simp] theorem aFx:PE.evs ρ []=[]:=_root_.id rfl
@[simp] theorem aFw (e:PE)(es:List PE):PE.evs ρ (e::es)=PE.ev ρ e::PE.evs ρ es:=_root_.id rfl
@[simp] theorem aFv:PE.evc ρ []=[]:=_root_.id rfl
@[simp] theorem aFu (e:PE)(es:List PE):PE.evc ρ (e::es)=(PE.ev ρ e).cells++PE.evc ρ es:=_root_.id rfl
@[simp] theorem al9 (x:Bool):(D.bool x).b=x:=_root_.id rfl
@[simp] theorem aEN (k:IntKind)(n:Int):(D.v (.int k n)).i=n:=_root_.id rfl
@[simp] theorem FL (n:Int):(D.int n).i=n:=_root_.id rfl
@[simp] theorem aEI (x:List D):(D.list x).l=x:=_root_.id rfl
@[simp] theorem aEG (l:List Int):(ints l).l=l.map .int:=_root_.id rfl
@[simp] theorem aEJ (x:List (D×D)):(D.map x).m=x:=_root_.id rfl
@[simp] theorem aEy (x:List D)(i:Nat):(D.agg x).c i=x.getD i .none:=_root_.id rfl
@[simp] theorem aEz (x:List D):(D.agg x).cells=x:=_root_.id rfl
@[simp] theorem aEH (x:List D):(D.list x).cells=[.list x]:=_root_.id rfl
@[simp] theorem aEF (x:List Int):(ints x).cells=[ints x]:=_root_.id rfl
@[simp] theorem aED (n:Int):(D.int n).cells=[.int n]:=_root_.id rfl
@[simp] theorem aEA (n:Bool):(D.bool n).cells=[.bool n]:=_root_.id rfl
@[simp] theorem aEM (x:Value):(D.v x).cells=[.v x]:=_root_.id rfl
@[simp] theorem aEL (x:List D)(i:Nat):(D.tup x).tget i=x.getD i .none:=_root_.id rfl
@[simp] theorem aEK (x:D):(D.ref x).deref=x:=_root_.id rfl
@[simp] theorem aHJ (s:SE)(t:Nat):(s.ev ρ).r t=PE.ev ρ (s.getR t):=_root_.id rfl
@[simp] theorem aHI (s:SE)(t:Nat):(s.ev ρ).o t=PE.ev ρ (s.getO t):=_root_.id rfl
@[simp] theorem aFG (o:List (Nat×PE))(u:Nat):SE.getR ⟨[],o⟩ u=.r u:=_root_.id rfl
@[simp] theorem aFF (t:Nat)(e:PE)(r o:List (Nat×PE))(u:Nat):SE.getR ⟨(t,e)::r,o⟩ u=if t=u then e else SE.getR ⟨r,o⟩ u:=by
  simp only[SE.getR,ab];by_cases h:t=u
  ·subst h;simp
  ·simp[dR h,h]
@[simp] theorem aFE (r:List (Nat×PE))(u:Nat):SE.getO ⟨r,[]⟩ u=.o u:=_root_.id rfl
@[simp] theorem aFD (t:Nat)(e:PE)(r o:List (Nat×PE))(u:Nat):SE.getO ⟨r,(t,e)::o⟩ u=if t=u then e else SE.getO ⟨r,o⟩ u:=by
  simp only[SE.getO,ab];by_cases h:t=u
  ·subst h;simp
  ·simp[dR h,h]
@[simp] theorem setR_r (t u:Nat)(d:D):(ρ.setR t d).r u=if u=t then d else ρ.r u:=Env.setR_r ρ t u d
@[simp] theorem aHP (t u:Nat)(d:D):(ρ.setR t d).o u=ρ.o u:=_root_.id rfl
@[simp] theorem setO_o (t u:Nat)(d:D):(ρ.setO t d).o u=if u=t then d else ρ.o u:=Env.setO_o ρ t u d
@[simp] theorem aHO (t u:Nat)(d:D):(ρ.setO t d).r u=ρ.r u:=_root_.id rfl
@[simp] theorem aHq (lr lo:List Nat)(vr vo:List D)(u:Nat):(ρ.put lr vr lo vo).r u=putL ρ.r lr vr u:=_root_.id rfl
@[simp] theorem aHp (lr lo:List Nat)(vr vo:List D)(u:Nat):(ρ.put lr vr lo vo).o u=putL ρ.o lo vo u:=_root_.id rfl
@[simp] theorem join_r (ρ':Env)(lr lo:List Nat)(u:Nat):(ρ.join lr lo ρ').r u=if u∈lr then ρ'.r u else ρ.r u:=Env.join_r ρ ρ' lr lo u
@[simp] theorem join_o (ρ':Env)(lr lo:List Nat)(u:Nat):(ρ.join lr lo ρ').o u=if u∈lo then ρ'.o u else ρ.o u:=Env.join_o ρ ρ' lr lo u
@[simp] theorem aHn (f:Nat→D)(i:Nat)(is:List Nat)(x:D)(xs:List D)(u:Nat):putL f (i::is) (x::xs) u=if u=i then x else putL f is xs u:=Kg f i is x xs u
@[simp] theorem aHo (f:Nat→D)(xs:List D)(u:Nat):putL f [] xs u=f u:=Kh f xs u
@[simp] theorem aEP (ds:List D)(u:Nat):(j7 ds).r u=ds.getD u .none:=_root_.id rfl
@[simp] theorem aF9:holds [] ρ=true:=_root_.id rfl
@[simp] theorem aF8 (g:Nat×Bool)(gs:List (Nat×Bool)):holds (g::gs) ρ=((ρ.r g.1).b==g.2&&holds gs ρ):=_root_.id rfl
variable (Q:Out→Prop)
@[simp] theorem aIq (s:SE):aJ T (.next s) ρ Q=Q (.next (s.ev ρ)):=_root_.id rfl
@[simp] theorem aIn (id:Nat)(s:SE):aJ T (.exit id s) ρ Q=Q (.exit id (s.ev ρ)):=_root_.id rfl
@[simp] theorem aIr (e:PE):aJ T (.ret e) ρ Q=Q (.ret (e.ev ρ)):=_root_.id rfl
@[simp] theorem aIm (e:PE)(k:PT):aJ T (.chk e k) ρ Q=((e.ev ρ).b=true∧aJ T k ρ Q):=_root_.id rfl
@[simp] theorem aIo (c:PE)(a b:PT):aJ T (.ite c a b) ρ Q=if(c.ev ρ).b=true then aJ T a ρ Q else aJ T b ρ Q:=_root_.id rfl
@[simp] theorem aIk (s:SE)(gs:List (Nat×Bool))(dst f:Nat)(args:List PE)(k:PT):aJ T (.call s gs dst f args k) ρ Q=if holds gs (s.ev ρ)=true then ∃d,ak T f (PE.evs ρ args) d∧aJ T k ((s.ev ρ).setR dst d) Q else aJ T k (s.ev ρ) Q:=_root_.id rfl
@[simp] theorem aIp (s:SE)(c:PE)(lr lo:List Nat)(a b k:PT):aJ T (.iteS s c lr lo a b k) ρ Q=if(c.ev ρ).b=true then aJ T a (s.ev ρ) (jM (s.ev ρ) lr lo (fR (fun ρ'=>aJ T k ρ' Q) Q)) else aJ T b (s.ev ρ) (jM (s.ev ρ) lr lo (fR (fun ρ'=>aJ T k ρ' Q) Q)):=_root_.id rfl
@[simp] theorem aIi (s:SE)(id:Nat)(lr lo:List Nat)(a k:PT):aJ T (.blockS s id lr lo a k) ρ Q=aJ T a (s.ev ρ) (kG (s.ev ρ) id lr lo (fR (fun ρ'=>aJ T k ρ' Q) Q)):=_root_.id rfl
@[simp] theorem aIj (s:SE)(c:PC)(k:PT):aJ T (.brk s c k) ρ Q=aO T c (s.ev ρ) (fR (fun ρ'=>aJ T k ρ' Q) Q):=_root_.id rfl
variable (K:Env→Prop) (id:Nat) (lr lo bq bp:List Nat) (K2:List D→List D→Prop)
@[simp] theorem aHM (ρ':Env):fR K Q (.next ρ')=K ρ':=_root_.id rfl
@[simp] theorem aHL (i:Nat)(ρ':Env):fR K Q (.exit i ρ')=Q (.exit i ρ'):=_root_.id rfl
@[simp] theorem aHN (d:D):fR K Q (.ret d)=Q (.ret d):=_root_.id rfl
@[simp] theorem aGr (ρ':Env):jM ρ lr lo Q (.next ρ')=Q (.next (ρ.join lr lo ρ')):=_root_.id rfl
@[simp] theorem aGs (d:D):jM ρ lr lo Q (.ret d)=Q (.ret d):=_root_.id rfl
@[simp] theorem aEg (ρ':Env):kG ρ id lr lo Q (.next ρ')=Q (.next (ρ.join lr lo ρ')):=_root_.id rfl
@[simp] theorem aEf (i:Nat)(ρ':Env):kG ρ id lr lo Q (.exit i ρ')=if i=id then Q (.next (ρ.join lr lo ρ')) else Q (.exit i ρ'):=_root_.id rfl
@[simp] theorem aEh (d:D):kG ρ id lr lo Q (.ret d)=Q (.ret d):=_root_.id rfl
@[simp] theorem aHF (ρ':Env):eu ρ id bq bp lr lo K2 Q (.next ρ')=K2 (lr.map ρ'.r) (lo.map ρ'.o):=_root_.id rfl
@[simp] theorem aHE (i:Nat)(ρ':Env):eu ρ id bq bp lr lo K2 Q (.exit i ρ')=if i=id then Q (.next (ρ.put bq (bq.map ρ'.r) bp (bp.map ρ'.o))) else Q (.exit i ρ'):=_root_.id rfl
@[simp] theorem aHG (d:D):eu ρ id bq bp lr lo K2 Q (.ret d)=Q (.ret d):=_root_.id rfl
@[simp] theorem aIl (s:SE)(gs:List (Nat×Bool))(dst:Nat)(e:PE)(args:List PE)(k:PT):aJ T (.callc s gs dst e args k) ρ Q=if holds gs (s.ev ρ)=true then ∃f caps d,e.ev ρ=.clo f caps∧ak T f (PE.evs ρ args++caps) d∧aJ T k ((s.ev ρ).setR dst d) Q else aJ T k (s.ev ρ) Q:=_root_.id rfl
@[simp] theorem aEO (rt:Option PE)(K3:List D→Prop)(i:Nat)(ρ':Env):rn ρ lo rt K3 Q (.exit i ρ')=if i=ct then ∃e,rt=some e∧Q (.ret (e.ev (ρ.put [] [] lo (lo.map ρ'.o)))) else Q (.exit i (ρ.put [] [] lo (lo.map ρ'.o))):=_root_.id rfl
@[simp] theorem aEQ (J:Nat)(ds:List D)(u:Nat):(vX J ds).r u=(D.none::ds).getD u .none:=_root_.id rfl
theorem anf (J:Nat)(ds:List D)(u:Nat):(vX J ds).o u=if u=J then .list [] else .none:=by
 show(bif Nat.beq u J then D.list [] else .none)=_;by_cases h:u=J
 ·subst h;simp
 ·simp[dR h,h]
@[simp] theorem aHl (p:Nat)(x:D):partsOf [p] x=[x.tget 0]:=_root_.id rfl
end
section
variable (k:IntKind) (a b:Int)
@[simp] theorem aD8:cY .add k a b=k.wrap (a+b):=_root_.id rfl
@[simp] theorem aEc:cY .sub k a b=k.wrap (a-b):=_root_.id rfl
@[simp] theorem aD9:cY .mul k a b=k.wrap (a*b):=_root_.id rfl
@[simp] theorem aEa:cY .quo k a b=k.wrap (a.tdiv b):=_root_.id rfl
@[simp] theorem aEb:cY .rem k a b=a.tmod b:=_root_.id rfl
@[simp] theorem aEq:gr .eql a b=(a==b):=_root_.id rfl
@[simp] theorem aEv:gr .neq a b=(a !=b):=_root_.id rfl
@[simp] theorem aEu:gr .lss a b=decide (a<b):=_root_.id rfl
@[simp] theorem aEt:gr .leq a b=decide (a≤b):=_root_.id rfl
@[simp] theorem aEs:gr .gtr a b=decide (a>b):=_root_.id rfl
@[simp] theorem aEr:gr .geq a b=decide (a≥b):=_root_.id rfl
variable (x y:Bool)
@[simp] theorem aEj:tq .eql x y=(x==y):=_root_.id rfl
@[simp] theorem aEk:tq .neq x y=(!(x==y)):=_root_.id rfl
end
theorem ak.of_tree {tab:Nat→Option PC}{ext:Nat→Option (aT→List D→Option D)}{f:Nat}{pc:PC}{t:PT}{ds:List D}{d:D}(hx:ext f=none)(ht:tab f=some pc)(he:tree pc=t)(h:aJ (cN tab ext) t (j7 ds) (fun x=>x=.ret d)):ak (cN tab ext) f ds d:=
 .of_pc hx ht (LB (he▸h))
@[simp] theorem aEE (n:Int):D.v (.int .i64 n)=D.int n:=_root_.id rfl
@[simp] theorem aEC (b:Bool):D.v (.bool b)=D.bool b:=_root_.id rfl
@[simp] theorem amk (a b:Int):(D.int a=D.int b)=(a=b):=by
  apply propext;constructor
  ·intro h;injection h with h;injection h
  ·intro h;rw[h]
@[simp] theorem aEB (a b:Bool):(D.bool a=D.bool b)=(a=b):=by
  apply propext;constructor
  ·intro h;injection h with h;injection h
  ·intro h;rw[h]
section
variable (c:Prop) [Decidable c] (x y:D)
@[simp] theorem aGp:(if c then x else y).b=if c then x.b else y.b:=by split<;>rfl
@[simp] theorem aGq:(if c then x else y).i=if c then x.i else y.i:=by split<;>rfl
end
@[simp] theorem aIs:IntKind.i64.wrap 0=0:=bD (by omega)
end Cx
namespace Cx
open Go
inductive Tm where
 |mk (op n:Int) (args:List Tm)
instance:Inhabited Tm:=⟨.mk 0 0 []⟩
namespace Tm
def op:Tm→Int|.mk o _ _=>o
def n:Tm→Int|.mk _ n _=>n
def args:Tm→List Tm|.mk _ _ aa=>aa
end Tm
mutual
def dt:Tm→D
 |.mk o n aa=>.agg [.int o,.int n,.list (FN aa)]
def FN:List Tm→List D
 |[]=>[]
 |t::ts=>dt t::FN ts
end
theorem M1:∀l:List Tm,FN l=l.map dt
 |[]=>rfl
 |t::l=>by rw[FN,M1 l];rfl
theorem Ar (t:Tm):dt t=.agg [.int t.op,.int t.n,.list (t.args.map dt)]:=by
 cases t with
 |mk o n aa=>rw[dt,M1];rfl
inductive Tm.OK:Tm→Prop where
 |mk (o n:Int) (aa:List Tm) (h1:aX o) (h2:aX n) (h3:aa.length≤maxLen) (h:∀a,a∈aa→Tm.OK a):Tm.OK (.mk o n aa)
theorem DTy.trm_inv {d:D}(h:DTy .trmA d):∃t:Tm,d=dt t∧t.OK:=by
 suffices hs:∀(m:Nat) (d:D),sizeOf d≤m→DTy .trmA d→∃t:Tm,d=dt t∧t.OK from hs _ d (Nat.le_refl _) h
 intro m
 induction m with
 |zero=>
  intro d hm h;cases d<;>simp at hm
 |succ m ih=>
  intro d hm h;obtain⟨ds,rfl,hs⟩:=DTy.agg_inv h;obtain⟨d1,ds,rfl,h1,hs⟩:=hs.cons_inv;obtain⟨d2,ds,rfl,h2,hs⟩:=hs.cons_inv;obtain⟨d3,ds,rfl,h3,hs⟩:=hs.cons_inv;obtain rfl:=hs.nil_inv;obtain⟨o,rfl,b1⟩:=h1.i64_inv;obtain⟨n,rfl,b2⟩:=h2.i64_inv;obtain⟨xs,rfl,hl,hx⟩:=h3.slice_inv
  obtain⟨l,rfl,aA⟩:=jq (enc:=dt) (P:=Tm.OK) fun x hh=>ih x (by
   have:=List.sizeOf_lt_of_mem hh;simp at hm;omega) (hx x hh)
  exact⟨.mk o n l,by rw[dt,M1],.mk o n l b1 b2 (by simpa using hl) aA⟩
theorem DTy.trms_inv {d:D}(h:DTy (.slice .trm) d):∃l:List Tm,d=.list (l.map dt)∧l.length≤maxLen∧∀t,t∈l→t.OK:=by
 obtain⟨xs,rfl,hl,hx⟩:=h.slice_inv;obtain⟨l,rfl,aA⟩:=jq (enc:=dt) (P:=Tm.OK) fun x hh=>DTy.trm_inv (hx x hh);exact⟨l,rfl,by simpa using hl,aA⟩
end Cx
namespace Cx
open Go
def Ss (g:Nat)(zs:List Int):Nat→Option (Ty×D):=fun k=>bif Nat.beq k g then some (.agg (zs.map fun _=>.int .i64),.agg (zs.map fun z=>.v (.int .i64 z))) else none
theorem ayg {C:Ctx}{g:Nat}{zs:List Int}{name:String}{W:World}(hC:C.glob=Ss g zs)(hg:C.P.globalNamed name=some g)(hz:zs.all (fun z=>decide (IntKind.i64.min≤z)&&decide (z≤IntKind.i64.max))=true)
 (h:Lib.TabIs C.P W name .i64 zs):CtxOK C (lU W):=by
 refine⟨fun k x hx=>?_⟩;rw[hC] at hx;unfold Ss at hx;cases hk:Nat.beq k g<;>simp only[hk,cond_true,cond_false] at hx
 ·cases hx
 cases hx;obtain rfl:=Nat.eq_of_beq_eq_true hk
 have Bv:Rep C.cap (lU W) (.agg (zs.map fun _=>.int .i64)) (.agg (zs.map fun z=>Value.int .i64 z).toArray) (.agg (zs.map fun z=>.v (.int .i64 z))):=by
  refine .agg _ _ _ (by simp) (by simp) (fun i t ht=>?_) (fun i t ht=>?_)
  ·rw[List.getElem?_map,Option.map_eq_some_iff] at ht;obtain⟨z,uq,rfl⟩:=ht;rw[List.getD_eq_getElem?_getD,List.getD_eq_getElem?_getD,List.getElem?_map,List.getElem?_map,uq];have:=List.all_eq_true.1 hz z (List.mem_of_getElem? uq);simp only[Bool.and_eq_true,decide_eq_true_eq] at this;exact .int _ _ this.1 this.2
  ·rw[List.getElem?_map,Option.map_eq_some_iff] at ht;obtain⟨z,_,rfl⟩:=ht;rfl
 refine .ref _ k 0 _ _ Bv fun j u hu=>?_;simp only[Value.cells,List.getElem?_toArray,List.getElem?_map,Option.map_eq_some_iff] at hu;obtain⟨z,uq,rfl⟩:=hu;have ah:=(List.getElem?_eq_some_iff.1 uq).1;have:=h.cell hg j ah;show W.cell? ⟨k,0+j,none⟩=_;rw[Nat.zero_add,this,List.getD_eq_getElem?_getD,uq];rfl
end Cx
namespace Cx
open Go Go.RowKit
def loops:PC→List PC
 |.seq a b=>loops a++loops b
 |.ite _ _ _ a b=>loops a++loops b
 |.block id lr lo (.loop Pp Pj a)=>loops a++[.block id lr lo (.loop Pp Pj a)]
 |.block _ _ _ a=>loops a
 |.loop _ _ a=>loops a
 |.each e ps lo rt a=>loops a++[.each e ps lo rt a]
 |.meach J ps cH lo a=>loops a++[.meach J ps cH lo a]
 |_=>[]
def My:PC→PC
 |.block _ _ _ (.loop _ _ a)=>a
 |.each _ _ _ _ a=>a
 |.meach _ _ _ _ a=>a
 |_=>.skip
def G7 (c:PC)(k:Nat):PC:=(loops c).getD k .skip
def rnd:PC→PT
 |.block id lr lo (.loop Pp Pj a)=>round id lr lo Pp Pj a
 |.each _ _ lo _ a=>oz lo a
 |.meach _ _ _ lo a=>oz lo a
 |_=>.next .id
inductive Shp where
 |lp (id:Nat) (bq bp lr lo:List Nat)
 |ea (lo:List Nat)
 |no
def ye:PC→Shp
 |.block id bq bp (.loop lr lo _)=>.lp id bq bp lr lo
 |.each _ _ lo _ _=>.ea lo
 |.meach _ _ _ lo _=>.ea lo
 |_=>.no
def told (c:PC):PT×List (Shp×PT):=(tree c,(loops c).map fun l=>(ye l,rnd l))
theorem Ln {o:Option PC}{t:PT}{l:List (Shp×PT)}(h:o.map told=some (t,l)):o=some (o.getD .skip)∧tree (o.getD .skip)=t∧∀k x,l[k]?=some x→(ye (G7 (o.getD .skip) k),rnd (G7 (o.getD .skip) k))=x:=by
 cases o with
 |none=>cases h
 |some c=>
  have h1:told c=(t,l):=by injection h
  unfold told at h1;injection h1 with h1 h2
  refine⟨rfl,h1,fun k x hx=>?_⟩;subst h2;simp only[List.getElem?_map,Option.map_eq_some_iff] at hx;obtain⟨y,hy,rfl⟩:=hx;have:G7 ((some c:Option PC).getD .skip) k=y:=by
   show(loops c).getD k .skip=y;rw[List.getD_eq_getElem?_getD,hy];rfl
  rw[this]
theorem axj {c:PC}{id:Nat}{bq bp lr lo:List Nat}{t:PT}(h:(ye c,rnd c)=(.lp id bq bp lr lo,t)):round id bq bp lr lo (My c)=t:=by
 injection h with h1 h2
 subst h2;unfold ye at h1;split at h1
 ·cases h1;rfl
 all_goals cases h1
theorem am2 {c:PC}{lo:List Nat}{t:PT}(h:(ye c,rnd c)=(.ea lo,t)):oz lo (My c)=t:=by
 injection h with h1 h2
 subst h2;unfold ye at h1;split at h1
 ·cases h1
 ·cases h1;rfl
 ·cases h1;rfl
 ·cases h1
noncomputable def cj {α:Type}(x:α):α:=Classical.choose (⟨x,rfl⟩:∃y,y=x)
theorem A7 {α:Type}(x:α):cj x=x:=Classical.choose_spec (⟨x,rfl⟩:∃y,y=x)
noncomputable def ax (o:Option PC):Nat→PC:=fun k=>My (G7 (o.getD .skip) k)
noncomputable abbrev ay (o:Option PC):PC:=cj (o.getD .skip)
noncomputable abbrev bn (o:Option PC):Nat→PC:=cj (ax o)
section
variable {o:Option PC} {F:(Nat→PC)→PT×List (Shp×PT)}
theorem aB (h:o.map told=some (F (ax o))):o=some (ay o):=by unfold ay;rw[A7];exact(Ln (t:=(F (ax o)).1) (l:=(F (ax o)).2) h).1
theorem aC (h:o.map told=some (F (ax o))):tree (ay o)=(F (bn o)).1:=by unfold ay bn;rw[A7,A7];exact(Ln (t:=(F (ax o)).1) (l:=(F (ax o)).2) h).2.1
theorem be (h:o.map told=some (F (ax o)))(k:Nat){id:Nat}{bq bp lr lo:List Nat}{t:(Nat→PC)→PT}(hk:∀b,(F b).2[k]?=some (.lp id bq bp lr lo,t b)):round id bq bp lr lo (bn o k)=t (bn o):=by
 unfold bn;rw[A7];exact axj ((Ln (t:=(F (ax o)).1) (l:=(F (ax o)).2) h).2.2 k _ (hk _))
theorem SC (h:o.map told=some (F (ax o)))(k:Nat){lo:List Nat}{t:(Nat→PC)→PT}(hk:∀b,(F b).2[k]?=some (.ea lo,t b)):oz lo (bn o k)=t (bn o):=by
 unfold bn;rw[A7];exact am2 ((Ln (t:=(F (ax o)).1) (l:=(F (ax o)).2) h).2.2 k _ (hk _))
end
theorem aF {α:Type}{R:Nat→α→Prop}{f:Nat}{x:α}{l:List (Nat×α)}(h:R f x)(k:DP R l):DP R ((f,x)::l):=⟨h,k⟩
theorem aE {α:Type}:∀{l:List (Nat×α)},(l.map (·.1)).Nodup→∀{k f:Nat} {x:α},l[k]?=some (f,x)→ab l f=some x
 |[],_,k,f,x,h=>by simp at h
 |y::l,hn,0,f,x,h=>by
  simp only[List.getElem?_cons_zero,Option.some.injEq] at h;subst h;simp[ab]
 |y::l,hn,k+1,f,x,h=>by
  simp only[List.getElem?_cons_succ] at h;rw[List.map_cons,List.nodup_cons] at hn;have hm:f∈l.map (·.1):=List.mem_map.2 ⟨(f,x),List.mem_of_getElem? h,rfl⟩;have hb:Nat.beq y.1 f=false:=by
   cases e:Nat.beq y.1 f with
   |false=>rfl
   |true=>rw[cA e] at hn;exact absurd hm hn.1
  simp only[ab,hb,cond_false];exact aE hn.2 h
abbrev pT:PE:=.con (.bool true)
abbrev pF:PE:=.con (.bool false)
abbrev pN:PE:=.con .none
abbrev pL:PE:=.con (.list [])
abbrev pi (n:Int):PE:=.con (.int n)
abbrev aN (a b:PE):PE:=.ai .add .i64 a b
abbrev bz (a b:PE):PE:=.ai .sub .i64 a b
abbrev aq (a b:PE):PE:=.ci .eql a b
abbrev aU (a b:PE):PE:=.ci .neq a b
abbrev aj (a b:PE):PE:=.ci .lss a b
abbrev br (a b:PE):PE:=.ci .leq a b
abbrev aV (a b:PE):PE:=.ci .gtr a b
abbrev cm (a b:PE):PE:=.ci .geq a b
abbrev pc (a:PE)(i:Nat):PE:=.cell a i
abbrev pn (a b:PE):PE:=.nth a b
abbrev au (a b:PE):PE:=.idx a b
abbrev z2:PE:=.con (.agg [(.int 0),(.int 0)])
abbrev z3:PE:=.con (.agg [(.int 0),(.int 0),(.int 0)])
abbrev z4:PE:=.con (.agg [(.int 0),(.int 0),(.int 0),(.int 0)])
abbrev z5:PE:=.con (.agg [(.int 0),(.int 0),(.int 0),(.int 0),(.int 0)])
abbrev z6:PE:=.con (.agg [(.int 0),(.int 0),(.int 0),(.int 0),(.int 0),(.int 0)])
abbrev z9:PE:=.con (.agg [(.int 0),(.int 0),(.int 0),(.int 0),(.int 0),(.int 0),(.int 0),(.int 0),(.int 0)])
abbrev DO:PE:=.con (.agg [(.int 0),(.int 0),(.int 0),(.int 0),(.int 0),(.int 0),(.int 0),(.int 0),(.int 0),(.int 0),(.int 0),(.int 0),(.int 0),(.int 0),(.int 0)])
abbrev r0:PE:=.r 0
abbrev r1:PE:=.r 1
abbrev r2:PE:=.r 2
abbrev r3:PE:=.r 3
abbrev r4:PE:=.r 4
abbrev r5:PE:=.r 5
abbrev r6:PE:=.r 6
abbrev r7:PE:=.r 7
abbrev r8:PE:=.r 8
abbrev r9:PE:=.r 9
abbrev cE:PE:=.r 10
abbrev bI:PE:=.r 11
abbrev bM:PE:=.r 12
abbrev dz:PE:=.r 13
abbrev cL:PE:=.r 14
abbrev fP:PE:=.r 15
abbrev dc:PE:=.r 16
abbrev iT:PE:=.r 17
abbrev gm:PE:=.r 18
abbrev jx:PE:=.r 19
abbrev dL:PE:=.r 20
abbrev jU:PE:=.r 21
abbrev qQ:PE:=.r 22
abbrev iU:PE:=.r 23
abbrev om:PE:=.r 24
abbrev iV:PE:=.r 25
abbrev kl:PE:=.r 26
abbrev ed:PE:=.r 27
abbrev gE:PE:=.r 28
abbrev km:PE:=.r 29
abbrev ma:PE:=.r 30
abbrev oo:PE:=.r 31
abbrev Ck:PE:=.r 32
abbrev uW:PE:=.r 33
abbrev r34:PE:=.r 34
abbrev uX:PE:=.r 35
abbrev jV:PE:=.r 36
abbrev kX:PE:=.r 37
abbrev iW:PE:=.r 38
abbrev uY:PE:=.r 39
abbrev oq:PE:=.r 40
abbrev ot:PE:=.r 41
abbrev r42:PE:=.r 42
abbrev qT:PE:=.r 43
abbrev uZ:PE:=.r 44
abbrev m4:PE:=.r 45
abbrev Cl:PE:=.r 46
abbrev Cm:PE:=.r 47
abbrev ko:PE:=.r 48
abbrev mc:PE:=.r 49
abbrev fQ:PE:=.r 50
abbrev kY:PE:=.r 51
abbrev Cn:PE:=.r 52
abbrev Co:PE:=.r 53
abbrev qU:PE:=.r 54
abbrev u7:PE:=.r 55
abbrev pH:PE:=.r 56
abbrev Cp:PE:=.r 57
abbrev Cq:PE:=.r 58
abbrev r59:PE:=.r 59
abbrev Cr:PE:=.r 60
abbrev sv:PE:=.r 61
abbrev kp:PE:=.r 62
abbrev xP:PE:=.r 63
abbrev kZ:PE:=.r 64
abbrev xQ:PE:=.r 65
abbrev r66:PE:=.r 66
abbrev sw:PE:=.r 67
abbrev Ky:PE:=.r 68
abbrev u9:PE:=.r 69
abbrev r70:PE:=.r 70
abbrev r71:PE:=.r 71
abbrev Cs:PE:=.r 72
abbrev xR:PE:=.r 73
abbrev Rc:PE:=.r 74
abbrev Kz:PE:=.r 75
abbrev qV:PE:=.r 76
abbrev r77:PE:=.r 77
abbrev r78:PE:=.r 78
abbrev r79:PE:=.r 79
abbrev va:PE:=.r 80
abbrev vb:PE:=.r 81
abbrev jW:PE:=.r 82
abbrev r84:PE:=.r 84
abbrev Ct:PE:=.r 85
abbrev r86:PE:=.r 86
abbrev r87:PE:=.r 87
abbrev KA:PE:=.r 88
abbrev r89:PE:=.r 89
abbrev r90:PE:=.r 90
abbrev r91:PE:=.r 91
abbrev Rd:PE:=.r 92
abbrev KB:PE:=.r 93
abbrev r94:PE:=.r 94
abbrev r95:PE:=.r 95
abbrev r96:PE:=.r 96
abbrev r97:PE:=.r 97
abbrev r98:PE:=.r 98
abbrev r99:PE:=.r 99
abbrev aHr:PE:=.r 101
abbrev aHs:PE:=.r 102
abbrev ad5:PE:=.r 103
abbrev awW:PE:=.r 104
abbrev aHt:PE:=.r 105
abbrev Q9:PE:=.r 106
abbrev aHu:PE:=.r 107
abbrev Ra:PE:=.r 108
abbrev awX:PE:=.r 109
abbrev aHv:PE:=.r 110
abbrev Rb:PE:=.r 112
abbrev aHw:PE:=.r 113
abbrev aHx:PE:=.r 119
abbrev aHy:PE:=.r 120
abbrev awY:PE:=.r 121
abbrev aHz:PE:=.r 126
abbrev awZ:PE:=.r 127
abbrev o0:PE:=.o 0
abbrev o1:PE:=.o 1
abbrev o2:PE:=.o 2
abbrev o3:PE:=.o 3
abbrev o4:PE:=.o 4
abbrev o5:PE:=.o 5
abbrev o6:PE:=.o 6
abbrev o7:PE:=.o 7
abbrev o8:PE:=.o 8
abbrev o9:PE:=.o 9
abbrev bP:PE:=.o 10
abbrev BX:PE:=.o 11
abbrev uG:PE:=.o 12
abbrev PX:PE:=.o 13
abbrev BY:PE:=.o 14
abbrev o15:PE:=.o 15
abbrev Hr:PE:=.o 16
abbrev o17:PE:=.o 17
abbrev o19:PE:=.o 19
abbrev o20:PE:=.o 20
abbrev o21:PE:=.o 21
abbrev o22:PE:=.o 22
abbrev Hs:PE:=.o 45
end Cx
