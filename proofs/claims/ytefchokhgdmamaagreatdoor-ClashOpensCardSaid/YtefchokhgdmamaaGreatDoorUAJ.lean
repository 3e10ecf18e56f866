/-
  Shared texts of this claim.
-/
import Derived.Test.YtefchokhgdmamaaGreatDoorUAI
import Derived.Lib.LaidTab
import Derived.Test.YtefchokhgdmamaaGreatDoorProg
set_option linter.unusedSimpArgs false
set_option linter.unusedVariables false
noncomputable section
namespace Cx
open Go Go.RowKit
structure SE where
 r:List (Nat×PE)
 o:List (Nat×PE)
def SE.getR (s:SE)(t:Nat):PE:=match bm s.r t with|some e=>e|none=>.r t
def SE.getO (s:SE)(t:Nat):PE:=match bm s.o t with|some e=>e|none=>.o t
def SE.setR (s:SE)(t:Nat)(e:PE):SE:=⟨(t,e)::s.r,s.o⟩
def SE.setO (s:SE)(t:Nat)(e:PE):SE:=⟨s.r,(t,e)::s.o⟩
def SE.id:SE:=⟨[],[]⟩
def SE.ev (s:SE)(ρ:Env):Env:=⟨fun t=>(s.getR t).ev ρ,fun t=>(s.getO t).ev ρ⟩
def SE.join (s:SE)(lr lo:List Nat)(s':SE):SE:=⟨lr.map (fun t=>(t,s'.getR t))++s.r,lo.map (fun t=>(t,s'.getO t))++s.o⟩
theorem SE.setR_ev (s:SE)(t:Nat)(e:PE)(ρ:Env):(s.setR t e).ev ρ=(s.ev ρ).setR t (e.ev ρ):=by
 have h:(fun u=>((s.setR t e).getR u).ev ρ)=bV (fun u=>(s.getR u).ev ρ) t (e.ev ρ):=by
  funext u;simp only[SE.getR,SE.setR,bm,fK];by_cases h:t=u
  ·subst h;simp
  ·have h':¬u=t:=fun e=>h e.symm;simp[fu h,h']
 simp only[SE.ev,Env.setR];rw[h];rfl
theorem SE.setO_ev (s:SE)(t:Nat)(e:PE)(ρ:Env):(s.setO t e).ev ρ=(s.ev ρ).setO t (e.ev ρ):=by
 have h:(fun u=>((s.setO t e).getO u).ev ρ)=bV (fun u=>(s.getO u).ev ρ) t (e.ev ρ):=by
  funext u;simp only[SE.getO,SE.setO,bm,fK];by_cases h:t=u
  ·subst h;simp
  ·have h':¬u=t:=fun e=>h e.symm;simp[fu h,h']
 simp only[SE.ev,Env.setO];rw[h];rfl
theorem xc {f:Nat→PE}{l:List (Nat×PE)}{u:Nat}:∀(lr:List Nat),bm (lr.map (fun t=>(t,f t))++l) u=if u∈lr then some (f u) else bm l u
 |[]=>by simp
 |t::lr=>by
  simp only[gG,FG,bm,xc lr,cW];by_cases h:t=u
  ·subst h;simp
  ·have h':¬u=t:=fun e=>h e.symm;simp[fu h,h']
theorem SE.join_ev (s s':SE)(lr lo:List Nat)(ρ:Env):(s.join lr lo s').ev ρ=(s.ev ρ).join lr lo (s'.ev ρ):=by
 have h1:∀u,((s.join lr lo s').getR u).ev ρ=((s.ev ρ).join lr lo (s'.ev ρ)).r u:=by
  intro u;rw[Env.join_r];have e:bm (s.join lr lo s').r u=if u∈lr then some (s'.getR u) else bm s.r u:=xc lr;unfold SE.getR;rw[e];by_cases h:u∈lr
  ·simp only[h,if_true];rfl
  ·simp only[h,if_false];rfl
 have h2:∀u,((s.join lr lo s').getO u).ev ρ=((s.ev ρ).join lr lo (s'.ev ρ)).o u:=by
  intro u;rw[Env.join_o];have e:bm (s.join lr lo s').o u=if u∈lo then some (s'.getO u) else bm s.o u:=xc lo;unfold SE.getO;rw[e];by_cases h:u∈lo
  ·simp only[h,if_true];rfl
  ·simp only[h,if_false];rfl
 have e1:(fun u=>((s.join lr lo s').getR u).ev ρ)=((s.ev ρ).join lr lo (s'.ev ρ)).r:=funext h1;have e2:(fun u=>((s.join lr lo s').getO u).ev ρ)=((s.ev ρ).join lr lo (s'.ev ρ)).o:=funext h2;show Env.mk _ _=_;rw[e1,e2]
abbrev cq:=List (PE×Bool)
def cq.ok (ab:cq)(ρ:Env):Prop:=∀x,x∈ab→(x.1.ev ρ).b=x.2
def F3 (e:PE):cq→Option Bool
 |[]=>none
 |x::l=>bif PE.beq x.1 e then some x.2 else F3 e l
theorem UE {e:PE}{ρ:Env}{b:Bool}:∀{ab:cq},ab.ok ρ→F3 e ab=some b→(e.ev ρ).b=b
 |[],_,h=>by cases h
 |x::l,az,h=>by
  simp only[F3] at h;cases hb:PE.beq x.1 e<;>simp only[hb,cond_true,cond_false] at h
  ·exact UE (fun y hy=>az y (dK _ hy)) h
  ·cases h;rw[←PE.beq_eq _ _ hb];exact az x (dR ..)
def vA (ab:cq):PE→Option Bool
 |.con (.v (.bool b))=>some b
 |.nt x=>(vA ab x).map (!·)
 |e=>F3 e ab
theorem xN {ab:cq}{ρ:Env}(h:ab.ok ρ):∀{e:PE} {b:Bool},vA ab e=some b→(e.ev ρ).b=b
 |.con (.v (.bool b)),b',he=>by simp only[vA,aR] at he;subst he;rfl
 |.nt x,b',he=>by
  simp only[vA,ax] at he;obtain⟨c,hc,rfl⟩:=he;simp only[PE.ev,D.b_bool,xN h hc]
 |e,b',he=>by
  unfold vA at he;split at he
  ·cases he;rfl
  ·rename_i x;simp only[ax] at he;obtain⟨c,hc,rfl⟩:=he;simp only[PE.ev,D.b_bool,xN h hc]
  ·exact UE h he
def tj (ab:cq)(c a b:PE):PE:=match vA ab c with|some true=>a|some false=>b|none=>.pick c a b
theorem PR {ab:cq}{ρ:Env}(h:ab.ok ρ)(c a b:PE):(tj ab c a b).ev ρ=(PE.pick c a b).ev ρ:=by
 unfold tj;split
 ·rename_i ht;simp[PE.ev,xN h ht]
 ·rename_i ht;simp[PE.ev,xN h ht]
 ·rfl
def Mg:PE→PE
 |.ref x=>x
 |x=>.deref x
theorem aeY (x:PE)(ρ:Env):(Mg x).ev ρ=(PE.deref x).ev ρ:=by unfold Mg;split<;>rfl
def RA:PE→Nat→PE
 |.tup es,i=>es.getD i (.con .none)
 |x,i=>.tget x i
theorem apl (x:PE)(i:Nat)(ρ:Env):(RA x i).ev ρ=(PE.tget x i).ev ρ:=by
 unfold RA;split
 ·rename_i es;simp only[PE.ev,D.tget_tup,PE.evs_eq,aH,cK];cases es[i]?<;>rfl
 ·rfl
def DZ:PE→Bool
 |.ai ..|.ci ..|.cb ..|.cs ..|.sadd ..|.nt _|.conv ..|.llen _|.bytes _|.slen _|.mlen _|.idx ..|.sidx ..|.sok ..|.slok ..|.lst _|.app ..|.setn ..|.rep ..|.slc ..|.ref _|.has ..|.put ..|.an ..|.imp ..|.tup _|.clo ..=>true
 |.con (.v _)|.con (.list _)|.con (.map _)=>true
 |_=>false
theorem amC {e:PE}(h:DZ e=true)(ρ:Env):(e.ev ρ).cells=[e.ev ρ]:=by
 unfold DZ at h;split at h<;>first|rfl|cases h
def L5:PE→Nat→PE
 |.mk es,i=>bif es.all DZ then es.getD i (.con .none) else .cell (.mk es) i
 |x,i=>.cell x i
theorem Vy {ρ:Env}:∀{es:List PE},es.all DZ=true→PE.evc ρ es=PE.evs ρ es
 |[],_=>rfl
 |e::es,h=>by
  simp only[qJ,aj] at h;simp only[PE.evc,PE.evs,amC h.1,Vy h.2];rfl
theorem ad1 (x:PE)(i:Nat)(ρ:Env):(L5 x i).ev ρ=(PE.cell x i).ev ρ:=by
 unfold L5;split
 ·rename_i es;cases hc:es.all DZ
  ·rfl
  ·simp only[cond_true,PE.ev,Vy hc,D.c_agg,PE.evs_eq,aH,cK];cases es[i]?<;>rfl
 ·rfl
def Cs (s:SE):List (Nat×Bool)→PE
 |[]=>.con (.v (.bool true))
 |g::gs=>.an (bif g.2 then s.getR g.1 else .nt (s.getR g.1)) (Cs s gs)
theorem V2 (s:SE)(ρ:Env):∀gs,((Cs s gs).ev ρ).b=holds gs (s.ev ρ)
 |[]=>rfl
 |g::gs=>by
  have ih:=V2 s ρ gs;rw[ajy,←ih];have e:((s.ev ρ).r g.1)=(s.getR g.1).ev ρ:=rfl;rw[e];cases hg:g.2
  ·simp only[Cs,hg,cond_false,PE.ev,D.b_bool];cases((s.getR g.1).ev ρ).b<;>rfl
  ·simp only[Cs,hg,cond_true,PE.ev,D.b_bool];cases((s.getR g.1).ev ρ).b<;>rfl
mutual
def PE.sub' (ab:cq)(s:SE):PE→PE
 |.r t=>s.getR t
 |.o j=>s.getO j
 |.con d=>.con d
 |.cell e i=>L5 (PE.sub' ab s e) i
 |.sub e a b=>.sub (PE.sub' ab s e) a b
 |.setc e q x=>.setc (PE.sub' ab s e) q (PE.sub' ab s x)
 |.mk es=>.mk (PE.subs' ab s es)
 |.ai op k x y=>.ai op k (PE.sub' ab s x) (PE.sub' ab s y)
 |.ci op x y=>.ci op (PE.sub' ab s x) (PE.sub' ab s y)
 |.cb op x y=>.cb op (PE.sub' ab s x) (PE.sub' ab s y)
 |.cs op x y=>.cs op (PE.sub' ab s x) (PE.sub' ab s y)
 |.sadd x y=>.sadd (PE.sub' ab s x) (PE.sub' ab s y)
 |.nt x=>.nt (PE.sub' ab s x)
 |.conv k x=>.conv k (PE.sub' ab s x)
 |.pick c a b=>tj ab (PE.sub' ab s c) (PE.sub' ab s a) (PE.sub' ab s b)
 |.llen x=>.llen (PE.sub' ab s x)
 |.bytes x=>.bytes (PE.sub' ab s x)
 |.slen x=>.slen (PE.sub' ab s x)
 |.mlen x=>.mlen (PE.sub' ab s x)
 |.nth x y=>.nth (PE.sub' ab s x) (PE.sub' ab s y)
 |.idx x y=>.idx (PE.sub' ab s x) (PE.sub' ab s y)
 |.sidx x y=>.sidx (PE.sub' ab s x) (PE.sub' ab s y)
 |.sok x y=>.sok (PE.sub' ab s x) (PE.sub' ab s y)
 |.setn x y n z=>.setn (PE.sub' ab s x) (PE.sub' ab s y) n (PE.sub' ab s z)
 |.app x y=>.app (PE.sub' ab s x) (PE.sub' ab s y)
 |.lst es=>.lst (PE.subs' ab s es)
 |.rep x y=>.rep (PE.sub' ab s x) (PE.sub' ab s y)
 |.slc x y z=>.slc (PE.sub' ab s x) (PE.sub' ab s y) (PE.sub' ab s z)
 |.slok x y z=>.slok (PE.sub' ab s x) (PE.sub' ab s y) (PE.sub' ab s z)
 |.ref x=>.ref (PE.sub' ab s x)
 |.deref x=>Mg (PE.sub' ab s x)
 |.look x y z=>.look (PE.sub' ab s x) (PE.sub' ab s y) (PE.sub' ab s z)
 |.has x y=>.has (PE.sub' ab s x) (PE.sub' ab s y)
 |.put x y z=>.put (PE.sub' ab s x) (PE.sub' ab s y) (PE.sub' ab s z)
 |.mn x y=>.mn (PE.sub' ab s x) (PE.sub' ab s y)
 |.mx x y=>.mx (PE.sub' ab s x) (PE.sub' ab s y)
 |.tup es=>.tup (PE.subs' ab s es)
 |.tget x i=>RA (PE.sub' ab s x) i
 |.clo f es=>.clo f (PE.subs' ab s es)
 |.an x y=>.an (PE.sub' ab s x) (PE.sub' ab s y)
 |.imp c x=>.nt (.an (Cs s c) (.nt (PE.sub' ab s x)))
def PE.subs' (ab:cq)(s:SE):List PE→List PE
 |[]=>[]
 |e::es=>PE.sub' ab s e::PE.subs' ab s es
end
mutual
theorem PE.sub_ev {ab:cq}{ρ:Env}(h:ab.ok ρ)(s:SE):∀(e:PE),(PE.sub' ab s e).ev ρ=e.ev (s.ev ρ)
 |.r t=>rfl
 |.o j=>rfl
 |.con d=>rfl
 |.cell e i=>by simp only[PE.sub',ad1,PE.ev,PE.sub_ev h s e]
 |.sub e a b=>by simp only[PE.sub',PE.ev,PE.sub_ev h s e]
 |.setc e q x=>by simp only[PE.sub',PE.ev,PE.sub_ev h s e,PE.sub_ev h s x]
 |.mk es=>by simp only[PE.sub',PE.ev,PE.subc_ev h s es]
 |.ai op k x y=>by simp only[PE.sub',PE.ev,PE.sub_ev h s x,PE.sub_ev h s y]
 |.ci op x y=>by simp only[PE.sub',PE.ev,PE.sub_ev h s x,PE.sub_ev h s y]
 |.cb op x y=>by simp only[PE.sub',PE.ev,PE.sub_ev h s x,PE.sub_ev h s y]
 |.cs op x y=>by simp only[PE.sub',PE.ev,PE.sub_ev h s x,PE.sub_ev h s y]
 |.sadd x y=>by simp only[PE.sub',PE.ev,PE.sub_ev h s x,PE.sub_ev h s y]
 |.nt x=>by simp only[PE.sub',PE.ev,PE.sub_ev h s x]
 |.conv k x=>by simp only[PE.sub',PE.ev,PE.sub_ev h s x]
 |.pick c a b=>by simp only[PE.sub',PR h,PE.ev,PE.sub_ev h s c,PE.sub_ev h s a,PE.sub_ev h s b]
 |.llen x=>by simp only[PE.sub',PE.ev,PE.sub_ev h s x]
 |.bytes x=>by simp only[PE.sub',PE.ev,PE.sub_ev h s x]
 |.slen x=>by simp only[PE.sub',PE.ev,PE.sub_ev h s x]
 |.mlen x=>by simp only[PE.sub',PE.ev,PE.sub_ev h s x]
 |.nth x y=>by simp only[PE.sub',PE.ev,PE.sub_ev h s x,PE.sub_ev h s y]
 |.idx x y=>by simp only[PE.sub',PE.ev,PE.sub_ev h s x,PE.sub_ev h s y]
 |.sidx x y=>by simp only[PE.sub',PE.ev,PE.sub_ev h s x,PE.sub_ev h s y]
 |.sok x y=>by simp only[PE.sub',PE.ev,PE.sub_ev h s x,PE.sub_ev h s y]
 |.setn x y n z=>by simp only[PE.sub',PE.ev,PE.sub_ev h s x,PE.sub_ev h s y,PE.sub_ev h s z]
 |.app x y=>by simp only[PE.sub',PE.ev,PE.sub_ev h s x,PE.sub_ev h s y]
 |.lst es=>by simp only[PE.sub',PE.ev,PE.subs_ev h s es]
 |.rep x y=>by simp only[PE.sub',PE.ev,PE.sub_ev h s x,PE.sub_ev h s y]
 |.slc x y z=>by simp only[PE.sub',PE.ev,PE.sub_ev h s x,PE.sub_ev h s y,PE.sub_ev h s z]
 |.slok x y z=>by simp only[PE.sub',PE.ev,PE.sub_ev h s x,PE.sub_ev h s y,PE.sub_ev h s z]
 |.ref x=>by simp only[PE.sub',PE.ev,PE.sub_ev h s x]
 |.deref x=>by simp only[PE.sub',aeY,PE.ev,PE.sub_ev h s x]
 |.look x y z=>by simp only[PE.sub',PE.ev,PE.sub_ev h s x,PE.sub_ev h s y,PE.sub_ev h s z]
 |.has x y=>by simp only[PE.sub',PE.ev,PE.sub_ev h s x,PE.sub_ev h s y]
 |.put x y z=>by simp only[PE.sub',PE.ev,PE.sub_ev h s x,PE.sub_ev h s y,PE.sub_ev h s z]
 |.mn x y=>by simp only[PE.sub',PE.ev,PE.sub_ev h s x,PE.sub_ev h s y]
 |.mx x y=>by simp only[PE.sub',PE.ev,PE.sub_ev h s x,PE.sub_ev h s y]
 |.tup es=>by simp only[PE.sub',PE.ev,PE.subs_ev h s es]
 |.tget x i=>by simp only[PE.sub',apl,PE.ev,PE.sub_ev h s x]
 |.clo f es=>by simp only[PE.sub',PE.ev,PE.subs_ev h s es]
 |.an x y=>by simp only[PE.sub',PE.ev,PE.sub_ev h s x,PE.sub_ev h s y]
 |.imp c x=>by
  simp only[PE.sub',PE.ev,D.b_bool,V2,PE.sub_ev h s x];cases holds c (s.ev ρ)<;>cases(x.ev (s.ev ρ)).b<;>rfl
theorem PE.subs_ev {ab:cq}{ρ:Env}(h:ab.ok ρ)(s:SE):∀(es:List PE),PE.evs ρ (PE.subs' ab s es)=PE.evs (s.ev ρ) es
 |[]=>rfl
 |e::es=>by simp only[PE.subs',PE.evs,PE.sub_ev h s e,PE.subs_ev h s es]
theorem PE.subc_ev {ab:cq}{ρ:Env}(h:ab.ok ρ)(s:SE):∀(es:List PE),PE.evc ρ (PE.subs' ab s es)=PE.evc (s.ev ρ) es
 |[]=>rfl
 |e::es=>by simp only[PE.subs',PE.evc,PE.sub_ev h s e,PE.subc_ev h s es]
end
inductive PT where
 |next (s:SE)
 |exit (id:Nat) (s:SE)
 |ret (e:PE)
 |chk (e:PE) (k:PT)
 |ite (c:PE) (a b:PT)
 |call (s:SE) (gs:List (Nat×Bool)) (dst f:Nat) (args:List PE) (k:PT)
 |callc (s:SE) (gs:List (Nat×Bool)) (dst:Nat) (e:PE) (args:List PE) (k:PT)
 |mcall (s:SE) (j f:Nat) (args:List PE) (k:PT)
 |iteS (s:SE) (c:PE) (lr lo:List Nat) (a b k:PT)
 |blockS (s:SE) (id:Nat) (lr lo:List Nat) (a k:PT)
 |brk (s:SE) (c:PC) (k:PT)
def aG (T:dz):PT→Env→(Out→Prop)→Prop
 |.next s,ρ,Q=>Q (.next (s.ev ρ))
 |.exit id s,ρ,Q=>Q (.exit id (s.ev ρ))
 |.ret e,ρ,Q=>Q (.ret (e.ev ρ))
 |.chk e k,ρ,Q=>(e.ev ρ).b=true∧aG T k ρ Q
 |.ite c a b,ρ,Q=>if(c.ev ρ).b=true then aG T a ρ Q else aG T b ρ Q
 |.call s gs dst f args k,ρ,Q=>if holds gs (s.ev ρ)=true then ∃d,av T f (PE.evs ρ args) d∧aG T k ((s.ev ρ).setR dst d) Q else aG T k (s.ev ρ) Q
 |.callc s gs dst e args k,ρ,Q=>if holds gs (s.ev ρ)=true then ∃f caps d,e.ev ρ=.clo f caps∧av T f (PE.evs ρ args++caps) d∧aG T k ((s.ev ρ).setR dst d) Q else aG T k (s.ev ρ) Q
 |.mcall s j f args k,ρ,Q=>∃d,av T f (PE.evs ρ args) d∧aG T k ((s.ev ρ).setO j d) Q
 |.iteS s c lr lo a b k,ρ,Q=>if(c.ev ρ).b=true then aG T a (s.ev ρ) (lC (s.ev ρ) lr lo (iw (fun ρ'=>aG T k ρ' Q) Q)) else aG T b (s.ev ρ) (lC (s.ev ρ) lr lo (iw (fun ρ'=>aG T k ρ' Q) Q))
 |.blockS s id lr lo a k,ρ,Q=>aG T a (s.ev ρ) (mD (s.ev ρ) id lr lo (iw (fun ρ'=>aG T k ρ' Q) Q))
 |.brk s c k,ρ,Q=>aU T c (s.ev ρ) (iw (fun ρ'=>aG T k ρ' Q) Q)
def oU:PI→Bool
 |.setR ..|.setO ..|.chk _=>true
 |_=>false
def ew:PC→Bool
 |.loop ..=>false
 |.each ..=>false
 |.meach ..=>false
 |.seq a b=>ew a&&ew b
 |.ite _ _ _ a b=>ew a&&ew b
 |.block _ _ _ a=>ew a
 |.is l=>l.all oU
 |_=>true
abbrev Kn:=cq→SE→PT
abbrev Kx:=cq→Nat→SE→PT
def nU:List PI→cq→SE→Kn→PT
 |[],ab,s,k=>k ab s
 |.setR t e::l,ab,s,k=>nU l ab (s.setR t (e.sub' ab s)) k
 |.setO t e::l,ab,s,k=>nU l ab (s.setO t (e.sub' ab s)) k
 |.chk e::l,ab,s,k=>
  match vA ab (e.sub' ab s) with
  |some true=>nU l ab s k
  |_=>.chk (e.sub' ab s) (nU l ((e.sub' ab s,true)::ab) s k)
 |.call gs dst f args::l,ab,s,k=>.call s gs dst f (PE.subs' ab s args) (nU l [] .id k)
 |.callc gs dst e args::l,ab,s,k=>.callc s gs dst (e.sub' ab s) (PE.subs' ab s args) (nU l [] .id k)
 |.mcall j f args::l,ab,s,k=>.mcall s j f (PE.subs' ab s args) (nU l [] .id k)
def SE.merge (s:SE)(ab:cq)(lr lo:List Nat)(c:PE)(a b:SE):SE:=⟨lr.map (fun t=>(t,tj ab c (a.getR t) (b.getR t)))++s.r,lo.map (fun t=>(t,tj ab c (a.getO t) (b.getO t)))++s.o⟩
def qp:List PI→cq→SE→Option SE
 |[],_,s=>some s
 |.setR t e::l,ab,s=>qp l ab (s.setR t (e.sub' ab s))
 |.setO t e::l,ab,s=>qp l ab (s.setO t (e.sub' ab s))
 |_::_,_,_=>none
def plain:PC→cq→SE→Option SE
 |.skip,_,s=>some s
 |.is l,ab,s=>qp l ab s
 |.seq a b,ab,s=>(plain a ab s).bind fun s=>plain b ab s
 |.ite c lr lo a b,ab,s=>(plain a ab s).bind fun sa=>(plain b ab s).map fun sb=>s.merge ab lr lo (c.sub' ab s) sa sb
 |_,_,_=>none
def XY:PC→Bool
 |.loop ..=>true
 |_=>false
def sx:PC→cq→SE→Kn→Kx→PT
 |.skip,ab,s,k,_=>k ab s
 |.is l,ab,s,k,_=>nU l ab s k
 |.seq a b,ab,s,k,kx=>sx a ab s (fun ab s=>sx b ab s k kx) kx
 |.ite c lr lo a b,ab,s,k,kx=>
  match vA ab (c.sub' ab s) with
  |some true=>bif ew a then sx a ab s (fun ab s'=>k ab (s.join lr lo s')) kx else .iteS s (c.sub' ab s) lr lo (sx a [] .id (fun _ s=>.next s) (fun _ id s=>.exit id s)) (sx b [] .id (fun _ s=>.next s) (fun _ id s=>.exit id s)) (k [] .id)
  |some false=>bif ew b then sx b ab s (fun ab s'=>k ab (s.join lr lo s')) kx else .iteS s (c.sub' ab s) lr lo (sx a [] .id (fun _ s=>.next s) (fun _ id s=>.exit id s)) (sx b [] .id (fun _ s=>.next s) (fun _ id s=>.exit id s)) (k [] .id)
  |none=>
   match plain a ab s,plain b ab s with
   |some sa,some sb=>k ab (s.merge ab lr lo (c.sub' ab s) sa sb)
   |_,_=>
   bif ew a&&ew b then
    .ite (c.sub' ab s) (sx a ((c.sub' ab s,true)::ab) s (fun ab s'=>k ab (s.join lr lo s')) kx) (sx b ((c.sub' ab s,false)::ab) s (fun ab s'=>k ab (s.join lr lo s')) kx)
   else .iteS s (c.sub' ab s) lr lo (sx a [] .id (fun _ s=>.next s) (fun _ id s=>.exit id s)) (sx b [] .id (fun _ s=>.next s) (fun _ id s=>.exit id s)) (k [] .id)
 |.block id lr lo a,ab,s,k,kx=>
  bif ew a then sx a ab s (fun ab s'=>k ab (s.join lr lo s')) (fun ab cd s'=>bif Nat.beq cd id then k ab (s.join lr lo s') else kx ab cd s')
  else bif XY a then .brk s (.block id lr lo a) (k [] .id)
  else .blockS s id lr lo (sx a [] .id (fun _ s=>.next s) (fun _ id s=>.exit id s)) (k [] .id)
 |.loop lr lo a,_,s,k,_=>.brk s (.loop lr lo a) (k [] .id)
 |.each e ps lo rt a,_,s,k,_=>.brk s (.each e ps lo rt a) (k [] .id)
 |.meach J ps dt lo a,_,s,k,_=>.brk s (.meach J ps dt lo a) (k [] .id)
 |.exit id,ab,s,_,kx=>kx ab id s
 |.ret e,ab,s,_,_=>.ret (e.sub' ab s)
theorem cq.ok_nil (ρ:Env):cq.ok [] ρ:=fun _ h=>nomatch h
theorem cq.ok_cons {ab:cq}{ρ:Env}{e:PE}{b:Bool}(h:ab.ok ρ)(he:(e.ev ρ).b=b):cq.ok ((e,b)::ab) ρ:=fun x hx=>by
 rcases cW.1 hx with e'|hx
 ·rw[e'];exact he
 ·exact h x hx
theorem rO {T:dz}{Q:Out→Prop}{K:Env→Prop}{k:Kn}:∀{l:List PI} {ab:cq} {s:SE} {ρ:Env},ab.ok ρ→aG T (nU l ab s k) ρ Q→
 (∀ρ' ab s,(l.all oU=true→ρ'=ρ)→ab.ok ρ'→aG T (k ab s) ρ' Q→K (s.ev ρ'))→ix T l (s.ev ρ) K
 |[],ab,s,ρ,ha,h,hk=>hk ρ ab s (fun _=>rfl) ha h
 |.setR t e::l,ab,s,ρ,ha,h,hk=>by
  simp only[ix];rw[←PE.sub_ev ha s e,←SE.setR_ev];exact rO ha h fun ρ' ab s hp=>hk ρ' ab s fun hl=>hp (by simpa [oU] using hl)
 |.setO t e::l,ab,s,ρ,ha,h,hk=>by
  simp only[ix];rw[←PE.sub_ev ha s e,←SE.setO_ev];exact rO ha h fun ρ' ab s hp=>hk ρ' ab s fun hl=>hp (by simpa [oU] using hl)
 |.chk e::l,ab,s,ρ,ha,h,hk=>by
  simp only[ix];rw[←PE.sub_ev ha s e];simp only[nU] at h;split at h
  ·rename_i ht;exact⟨xN ha ht,rO ha h fun ρ' ab s hp=>hk ρ' ab s fun hl=>hp (by simpa [oU] using hl)⟩
  ·exact⟨h.1,rO (cq.ok_cons ha h.1) h.2 fun ρ' ab s hp=>hk ρ' ab s fun hl=>hp (by simpa [oU] using hl)⟩
 |.call gs dst f args::l,ab,s,ρ,ha,h,hk=>by
  simp only[ix];simp only[nU,aG,PE.subs_ev ha,PE.sub_ev ha] at h;have cj:∀{ρ0:Env},∀ρ' ab s,(l.all oU=true→ρ'=ρ0)→ab.ok ρ'→aG T (k ab s) ρ' Q→K (s.ev ρ'):=fun ρ' ab s _=>hk ρ' ab s fun hl=>by simp[oU] at hl
  split at h
  ·rename_i hg;rw[if_pos hg];obtain⟨d,hd,h⟩:=h;exact⟨d,hd,rO (s:=.id) (cq.ok_nil _) h cj⟩
  ·rename_i hg;rw[if_neg hg];exact rO (s:=.id) (cq.ok_nil _) h cj
 |.callc gs dst e args::l,ab,s,ρ,ha,h,hk=>by
  simp only[ix];simp only[nU,aG,PE.subs_ev ha,PE.sub_ev ha] at h;have cj:∀{ρ0:Env},∀ρ' ab s,(l.all oU=true→ρ'=ρ0)→ab.ok ρ'→aG T (k ab s) ρ' Q→K (s.ev ρ'):=fun ρ' ab s _=>hk ρ' ab s fun hl=>by simp[oU] at hl
  split at h
  ·rename_i hg;rw[if_pos hg];obtain⟨f,caps,d,he,hd,h⟩:=h;exact⟨f,caps,d,he,hd,rO (s:=.id) (cq.ok_nil _) h cj⟩
  ·rename_i hg;rw[if_neg hg];exact rO (s:=.id) (cq.ok_nil _) h cj
 |.mcall j f args::l,ab,s,ρ,ha,h,hk=>by
  simp only[ix];simp only[nU,aG,PE.subs_ev ha,PE.sub_ev ha] at h;have cj:∀{ρ0:Env},∀ρ' ab s,(l.all oU=true→ρ'=ρ0)→ab.ok ρ'→aG T (k ab s) ρ' Q→K (s.ev ρ'):=fun ρ' ab s _=>hk ρ' ab s fun hl=>by simp[oU] at hl
  obtain⟨d,hd,h⟩:=h;exact⟨d,hd,rO (s:=.id) (cq.ok_nil _) h cj⟩
theorem SE.merge_ev {ab:cq}{ρ:Env}(h:ab.ok ρ)(s a b:SE)(lr lo:List Nat)(c:PE):(s.merge ab lr lo c a b).ev ρ=(s.ev ρ).join lr lo (if(c.ev ρ).b=true then a.ev ρ else b.ev ρ):=by
 have h1:∀u,((s.merge ab lr lo c a b).getR u).ev ρ=((s.ev ρ).join lr lo (if(c.ev ρ).b=true then a.ev ρ else b.ev ρ)).r u:=by
  intro u;rw[Env.join_r];have e:bm (s.merge ab lr lo c a b).r u=if u∈lr then some (tj ab c (a.getR u) (b.getR u)) else bm s.r u:=xc lr;have e2:(s.merge ab lr lo c a b).getR u=if u∈lr then tj ab c (a.getR u) (b.getR u) else s.getR u:=by
   unfold SE.getR;rw[e];by_cases h:u∈lr<;>simp[h,SE.getR]
  rw[e2];by_cases hu:u∈lr
  ·simp only[hu,if_true,PR h,PE.ev];cases hc:(c.ev ρ).b<;>simp[SE.ev]
  ·simp only[hu,if_false];rfl
 have h2:∀u,((s.merge ab lr lo c a b).getO u).ev ρ=((s.ev ρ).join lr lo (if(c.ev ρ).b=true then a.ev ρ else b.ev ρ)).o u:=by
  intro u;rw[Env.join_o];have e:bm (s.merge ab lr lo c a b).o u=if u∈lo then some (tj ab c (a.getO u) (b.getO u)) else bm s.o u:=xc lo;have e2:(s.merge ab lr lo c a b).getO u=if u∈lo then tj ab c (a.getO u) (b.getO u) else s.getO u:=by
   unfold SE.getO;rw[e];by_cases h:u∈lo<;>simp[h,SE.getO]
  rw[e2];by_cases hu:u∈lo
  ·simp only[hu,if_true,PR h,PE.ev];cases hc:(c.ev ρ).b<;>simp[SE.ev]
  ·simp only[hu,if_false];rfl
 have e1:(fun u=>((s.merge ab lr lo c a b).getR u).ev ρ)=((s.ev ρ).join lr lo (if(c.ev ρ).b=true then a.ev ρ else b.ev ρ)).r:=funext h1;have e2:(fun u=>((s.merge ab lr lo c a b).getO u).ev ρ)=((s.ev ρ).join lr lo (if(c.ev ρ).b=true then a.ev ρ else b.ev ρ)).o:=funext h2;show Env.mk _ _=_;rw[e1,e2]
theorem PW {T:dz}{ab:cq}{ρ:Env}(ha:ab.ok ρ):∀{l:List PI} {s s':SE},qp l ab s=some s'→∀{K:Env→Prop},K (s'.ev ρ)→ix T l (s.ev ρ) K
 |[],s,s',h,K,hk=>by simp only[qp,aR] at h;subst h;exact hk
 |.setR t e::l,s,s',h,K,hk=>by simp only[ix];rw[←PE.sub_ev ha s e,←SE.setR_ev];exact PW (l:=l) ha (show qp l ab _=some s' from h) hk
 |.setO t e::l,s,s',h,K,hk=>by simp only[ix];rw[←PE.sub_ev ha s e,←SE.setO_ev];exact PW (l:=l) ha (show qp l ab _=some s' from h) hk
 |.chk _::_,_,_,h,_,_=>by simp[qp] at h
 |.call ..::_,_,_,h,_,_=>by simp[qp] at h
 |.callc ..::_,_,_,h,_,_=>by simp[qp] at h
 |.mcall ..::_,_,_,h,_,_=>by simp[qp] at h
theorem anz {T:dz}{ab:cq}{ρ:Env}(ha:ab.ok ρ):∀(c:PC) {s s':SE},plain c ab s=some s'→∀{Q:Out→Prop},Q (.next (s'.ev ρ))→aU T c (s.ev ρ) Q:=by
 intro c
 induction c with
 |skip=>intro s s' h Q hq;simp only[plain,aR] at h;subst h;exact .skip hq
 |is l=>intro s s' h Q hq;exact .is (PW ha h hq)
 |seq a b bD eM=>
  intro s s' h Q hq;simp only[plain,ao] at h;obtain⟨s1,h1,h2⟩:=h;exact .seq (bD h1 (eM h2 hq))
 |ite c lr lo a b bD eM=>
  intro s s' h Q hq;simp only[plain,ao,ax] at h;obtain⟨sa,h1,sb,h2,rfl⟩:=h;rw[SE.merge_ev ha,PE.sub_ev ha] at hq;refine .ite ?_;split
  ·rename_i hc;rw[if_pos hc] at hq;exact bD h1 hq
  ·rename_i hc;rw[if_neg hc] at hq;exact eM h2 hq
 |_=>intro s s' h;simp[plain] at h
theorem Ru {T:dz}:∀(c:PC) {ab:cq} {s:SE} {k:Kn} {kx:Kx} {ρ:Env} {Q Q':Out→Prop},ab.ok ρ→aG T (sx c ab s k kx) ρ Q→
 (∀ρ' ab s,(ew c=true→ρ'=ρ)→ab.ok ρ'→aG T (k ab s) ρ' Q→Q' (.next (s.ev ρ')))→
 (∀ρ' ab id s,(ew c=true→ρ'=ρ)→ab.ok ρ'→aG T (kx ab id s) ρ' Q→Q' (.exit id (s.ev ρ')))→(ew c=false→∀id ρ',Q (.exit id ρ')→Q' (.exit id ρ'))→(∀d,Q (.ret d)→Q' (.ret d))→aU T c (s.ev ρ) Q':=by
 intro c;have alone:∀(a:PC),(∀{ab:cq} {s:SE} {k:Kn} {kx:Kx} {ρ:Env} {Q Q':Out→Prop},ab.ok ρ→aG T (sx a ab s k kx) ρ Q→
  (∀ρ' ab s,(ew a=true→ρ'=ρ)→ab.ok ρ'→aG T (k ab s) ρ' Q→Q' (.next (s.ev ρ')))→
  (∀ρ' ab id s,(ew a=true→ρ'=ρ)→ab.ok ρ'→aG T (kx ab id s) ρ' Q→Q' (.exit id (s.ev ρ')))→(ew a=false→∀id ρ',Q (.exit id ρ')→Q' (.exit id ρ'))→(∀d,Q (.ret d)→Q' (.ret d))→aU T a (s.ev ρ) Q')→
  ∀{ρ:Env} {Q:Out→Prop},aG T (sx a [] .id (fun _ s=>.next s) (fun _ id s=>.exit id s)) ρ Q→aU T a ρ Q:=by
  intro a ih ρ Q h;exact ih (s:=.id) (cq.ok_nil _) h (fun ρ' ab s _ _ h=>h) (fun ρ' ab id s _ _ h=>h) (fun _ _ _ h=>h) (fun _ h=>h)
 induction c with
 |skip=>intro ab s k kx ρ Q Q' ha h hk _ _ _;exact .skip (hk ρ ab s (fun _=>rfl) ha h)
 |is l=>intro ab s k kx ρ Q Q' ha h hk _ _ _;exact .is (rO (K:=fun ρ'=>Q' (.next ρ')) ha h hk)
 |seq a b bD eM=>
  intro ab s k kx ρ Q Q' ha h hk hx kC hr;refine .seq (bD ha h (Q':=iw (fun ρ'=>aU T b ρ' Q') Q') (fun ρ' ab s hp nz h'=>?_) (fun ρ' ab id s hp nz h'=>?_) (fun hp=>?_) hr)
  ·refine eM nz h' (fun ρ2 ab s fR=>hk ρ2 ab s fun hl=>?_) (fun ρ2 ab id s fR=>hx ρ2 ab id s fun hl=>?_) (fun fR=>?_) hr
   ·simp only[ew,aj] at hl;rw[fR hl.2,hp hl.1]
   ·simp only[ew,aj] at hl;rw[fR hl.2,hp hl.1]
   ·exact kC (by simp[ew,fR])
  ·exact hx ρ' ab id s (fun hl=>by simp only[ew,aj] at hl;exact hp hl.1) nz h'
  ·exact kC (by simp[ew,hp])
 |ite c lr lo a b bD eM=>
  intro ab s k kx ρ Q Q' ha h hk hx kC hr;have bI:((c.sub' ab s).ev ρ).b=(c.ev (s.ev ρ)).b:=by rw[PE.sub_ev ha]
  have struct:(ew a&&ew b)=false→aG T (.iteS s (c.sub' ab s) lr lo (sx a [] .id (fun _ s=>.next s) (fun _ id s=>.exit id s)) (sx b [] .id (fun _ s=>.next s) (fun _ id s=>.exit id s)) (k [] .id)) ρ Q→aU T (.ite c lr lo a b) (s.ev ρ) Q':=by
   intro Di h;have rj:ew (.ite c lr lo a b)=false:=Di;simp only[aG,bI] at h
   have conv:∀x,lC (s.ev ρ) lr lo (iw (fun ρ'=>aG T (k [] .id) ρ' Q) Q) x→lC (s.ev ρ) lr lo Q' x:=by
      intro x dD;cases x with
      |next ρ'=>exact hk _ [] .id (fun hl=>by rw[rj] at hl;cases hl) (cq.ok_nil _) dD
      |exit id ρ'=>exact kC rj id ρ' dD
      |ret d=>exact hr d dD
   refine .ite ?_;split at h
   ·rename_i hc;rw[if_pos hc];exact(alone a bD h).mono conv
   ·rename_i hc;rw[if_neg hc];exact(alone b eM h).mono conv
  have XO:∀vY,vY.ok ρ→ew a=true→aG T (sx a vY s (fun ab s'=>k ab (s.join lr lo s')) kx) ρ Q→aU T a (s.ev ρ) (lC (s.ev ρ) lr lo Q'):=by
   intro vY nz fE h';refine bD nz h' (fun ρ' ab s' hp oy j2=>?_) (fun ρ' ab id s' hp oy j2=>?_) (fun hp=>by rw[fE] at hp;cases hp) hr
   ·have e:=hp fE;subst e;show Q' (.next _);rw[←SE.join_ev];exact hk ρ' ab _ (fun _=>rfl) oy j2
   ·have e:=hp fE;subst e;exact hx ρ' ab id s' (fun _=>rfl) oy j2
  have aD:∀vY,vY.ok ρ→ew b=true→aG T (sx b vY s (fun ab s'=>k ab (s.join lr lo s')) kx) ρ Q→aU T b (s.ev ρ) (lC (s.ev ρ) lr lo Q'):=by
   intro vY nz fE h';refine eM nz h' (fun ρ' ab s' hp oy j2=>?_) (fun ρ' ab id s' hp oy j2=>?_) (fun hp=>by rw[fE] at hp;cases hp) hr
   ·have e:=hp fE;subst e;show Q' (.next _);rw[←SE.join_ev];exact hk ρ' ab _ (fun _=>rfl) oy j2
   ·have e:=hp fE;subst e;exact hx ρ' ab id s' (fun _=>rfl) oy j2
  simp only[sx] at h;split at h
  ·rename_i ht;cases fE:ew a<;>simp only[fE,cond_true,cond_false] at h
   ·exact struct (by simp[fE]) h
   ·refine .ite ?_;rw[if_pos (by rw[←bI];exact xN ha ht)];exact XO ab ha fE h
  ·rename_i ht;cases fE:ew b<;>simp only[fE,cond_true,cond_false] at h
   ·exact struct (by simp[fE]) h
   ·refine .ite ?_;rw[if_neg (by rw[←bI,xN ha ht];simp)];exact aD ab ha fE h
  ·split at h
   ·rename_i sa sb N8 jM;have fF:plain (.ite c lr lo a b) ab s=some (s.merge ab lr lo (c.sub' ab s) sa sb):=by simp[plain,N8,jM]
    exact anz ha _ fF (hk ρ ab _ (fun _=>rfl) ha h)
   cases fE:(ew a&&ew b)<;>simp only[fE,cond_true,cond_false] at h
   ·exact struct fE h
   ·simp only[aj] at fE;simp only[aG] at h;refine .ite ?_;rw[←bI];split at h
    ·rename_i hc;rw[if_pos hc];exact XO _ (cq.ok_cons ha hc) fE.1 h
    ·rename_i hc;rw[if_neg hc];exact aD _ (cq.ok_cons ha (by simpa using hc)) fE.2 h
 |block id lr lo a bD=>
  intro ab s k kx ρ Q Q' ha h hk hx kC hr;simp only[sx] at h;cases fE:ew a<;>simp only[fE,cond_true,cond_false] at h
  ·have rj:ew (.block id lr lo a)=false:=fE;cases hl:XY a<;>simp only[hl,cond_true,cond_false] at h
   case true=>
        simp only[aG] at h;refine aU.mono h fun x dD=>?_;cases x with
        |next ρ'=>exact hk _ [] .id (fun hl=>by rw[rj] at hl;cases hl) (cq.ok_nil _) dD
        |exit id ρ'=>exact kC rj id ρ' dD
        |ret d=>exact hr d dD
   simp only[aG] at h;refine .block ((alone a bD h).mono fun x dD=>?_);cases x with
   |next ρ'=>exact hk _ [] .id (fun hl=>by rw[rj] at hl;cases hl) (cq.ok_nil _) dD
   |exit cd ρ'=>
    simp only[mD] at dD ⊢;split
    ·rename_i e;rw[if_pos e] at dD;exact hk _ [] .id (fun hl=>by rw[rj] at hl;cases hl) (cq.ok_nil _) dD
    ·rename_i e;rw[if_neg e] at dD;exact kC rj cd ρ' dD
   |ret d=>exact hr d dD
  ·refine .block (bD ha h (fun ρ' ab s' hp oy j2=>?_) (fun ρ' ab cd s' hp oy j2=>?_) (fun hp=>by rw[fE] at hp;cases hp) hr)
   ·have e:=hp fE;subst e;show Q' (.next _);rw[←SE.join_ev];exact hk ρ' ab _ (fun _=>rfl) oy j2
   ·have e:=hp fE;subst e;simp only[mD];by_cases de:cd=id
    ·subst de;simp only[iI,cond_true] at j2;rw[if_pos rfl,←SE.join_ev];exact hk ρ' ab _ (fun _=>rfl) oy j2
    ·rw[fu de,cond_false] at j2;rw[if_neg de];exact hx ρ' ab cd s' (fun _=>rfl) oy j2
 |loop lr lo a bD=>
  intro ab s k kx ρ Q Q' ha h hk hx kC hr;simp only[sx,aG] at h;refine aU.mono h fun x dD=>?_;cases x with
  |next ρ'=>exact hk _ [] .id (fun hl=>by cases hl) (cq.ok_nil _) dD
  |exit id ρ'=>exact kC rfl id ρ' dD
  |ret d=>exact hr d dD
 |each e ps lo rt a bD=>
  intro ab s k kx ρ Q Q' ha h hk hx kC hr;simp only[sx,aG] at h;refine aU.mono h fun x dD=>?_;cases x with
  |next ρ'=>exact hk _ [] .id (fun hl=>by cases hl) (cq.ok_nil _) dD
  |exit id ρ'=>exact kC rfl id ρ' dD
  |ret d=>exact hr d dD
 |meach J ps dt lo a bD=>
  intro ab s k kx ρ Q Q' ha h hk hx kC hr;simp only[sx,aG] at h;refine aU.mono h fun x dD=>?_;cases x with
  |next ρ'=>exact hk _ [] .id (fun hl=>by cases hl) (cq.ok_nil _) dD
  |exit id ρ'=>exact kC rfl id ρ' dD
  |ret d=>exact hr d dD
 |exit id=>intro ab s k kx ρ Q Q' ha h _ hx _ _;exact .exit (hx ρ ab id s (fun _=>rfl) ha h)
 |ret e=>
  intro ab s k kx ρ Q Q' ha h _ _ _ hr;simp only[sx,aG] at h;refine .ret (hr _ ?_);rw[PE.sub_ev ha] at h;exact h
def Lk.un (a b:Lk):Lk:=⟨Nat.lor a.r b.r,jT a.o b.o⟩
def bits (l:List Nat):Nat:=l.foldr (fun t m=>Nat.lor (ed t) m) 0
theorem LX {l:List Nat}{t:Nat}(h:t∈l):au (bits l) t=true:=by
 induction l with
 |nil=>cases h
 |cons x l ih=>
  show au (Nat.lor (ed x) (bits l)) t=true;rw[fN];rcases cW.1 h with e|h
  ·subst e;rw[qP];rfl
  ·rw[ih h,nY]
theorem TB:∀{a b:List Nat} {x:Nat},x∈jT a b↔x∈a∨x∈b
 |[],b,x=>by simp[jT]
 |y::a,b,x=>by
  have ih:=TB (a:=a) (b:=bif fU b y then b else y::b) (x:=x);show x∈jT a _↔_;rw[ih];cases hb:fU b y with
  |true=>simp only[cond_true,cW];have:=(qk b y).1 hb;constructor
         ·rintro(h|h);exact .inl (.inr h);exact .inr h
         ·rintro((rfl|h)|h);exact .inr this;exact .inl h;exact .inr h
  |false=>simp only[cond_false,cW];constructor
          ·rintro(h|h|h);exact .inl (.inr h);exact .inl (.inl h);exact .inr h
          ·rintro((h|h)|h);exact .inr (.inl h);exact .inl h;exact .inr (.inr h)
def Lk.Le (a K:Lk):Prop:=(∀t,au a.r t=true→au K.r t=true)∧∀j,j∈a.o→j∈K.o
theorem Lk.le_l (a b:Lk):a.Le (a.un b):=⟨fun t h=>by simp only[Lk.un,fN,h,xV],fun j h=>TB.2 (.inl h)⟩
theorem Lk.le_r (a b:Lk):b.Le (a.un b):=⟨fun t h=>by simp only[Lk.un,fN,h,nY],fun j h=>TB.2 (.inr h)⟩
theorem Lk.Le.trans {a b c:Lk}(h:a.Le b)(k:b.Le c):a.Le c:=⟨fun t ht=>k.1 t (h.1 t ht),fun j hj=>k.2 j (h.2 j hj)⟩
theorem Alike.le {a K:Lk}{ρ ρ':Env}(h:Alike K ρ ρ')(k:a.Le K):Alike a ρ ρ':=⟨fun t ht=>h.r t (k.1 t ht),fun j hj=>h.o j (k.2 j hj)⟩
theorem Lk.Le.of_un {a b K:Lk}(h:(a.un b).Le K):a.Le K∧b.Le K:=⟨(Lk.le_l a b).trans h,(Lk.le_r a b).trans h⟩
theorem Alike.setR {K:Lk}{ρ ρ':Env}(h:Alike K ρ ρ')(t:Nat)(d:D):Alike K (ρ.setR t d) (ρ'.setR t d):=⟨fun u hu=>by rw[Env.setR_r,Env.setR_r];split;rfl;exact h.r u hu,h.o⟩
theorem Alike.setO {K:Lk}{ρ ρ':Env}(h:Alike K ρ ρ')(t:Nat)(d:D):Alike K (ρ.setO t d) (ρ'.setO t d):=⟨h.r,fun u hu=>by rw[Env.setO_o,Env.setO_o];split;rfl;exact h.o u hu⟩
theorem Alike.join {K:Lk}{ρ ρ' η η':Env}(h:Alike K ρ ρ')(k:Alike K η η')(lr lo:List Nat):Alike K (ρ.join lr lo η) (ρ'.join lr lo η'):=
 ⟨fun u hu=>by rw[Env.join_r,Env.join_r];split;exact k.r u hu;exact h.r u hu,fun u hu=>by rw[Env.join_o,Env.join_o];split;exact k.o u hu;exact h.o u hu⟩
theorem PY {f g:Nat→D}{u:Nat}(h:g u=f u):∀(ts:List Nat) (xs:List D),putL g ts xs u=putL f ts xs u
 |[],xs=>by rw[Jw,Jw];exact h
 |t::ts,[]=>by simp only[putL];exact h
 |t::ts,x::xs=>by rw[Jv,Jv];split;rfl;exact PY h ts xs
theorem Alike.put {K:Lk}{ρ ρ':Env}(h:Alike K ρ ρ')(lr lo:List Nat)(vr vo:List D):Alike K (ρ.put lr vr lo vo) (ρ'.put lr vr lo vo):=⟨fun u hu=>PY (h.r u hu) lr vr,fun u hu=>PY (h.o u hu) lo vo⟩
def PI.lkw:PI→Lk
 |.setR t e=>e.lk.un ⟨ed t,[]⟩
 |.setO j e=>e.lk.un ⟨0,[j]⟩
 |.chk e=>e.lk
 |.call gs dst f aa=>(PI.call gs dst f aa).lk.un ⟨ed dst,[]⟩
 |.callc gs dst e aa=>(PI.callc gs dst e aa).lk.un ⟨ed dst,[]⟩
 |.mcall j f aa=>(PI.mcall j f aa).lk.un ⟨0,[j]⟩
def PC.lk:PC→Lk
 |.skip=>.none
 |.exit _=>.none
 |.is l=>l.foldr (fun p k=>p.lkw.un k) .none
 |.seq a b=>(PC.lk a).un (PC.lk b)
 |.ite c _ _ a b=>c.lk.un ((PC.lk a).un (PC.lk b))
 |.block _ _ _ a=>PC.lk a
 |.loop lr lo a=>(⟨bits lr,lo⟩:Lk).un (PC.lk a)
 |.ret e=>e.lk
 |.each e _ lo rt a=>e.lk.un ((match rt with|some e=>e.lk|none=>.none).un ((⟨0,lo⟩:Lk).un (PC.lk a)))
 |.meach J _ _ lo a=>(⟨0,J::lo⟩:Lk).un (PC.lk a)
structure Off (K:Lk) (b η η':Env):Prop where
 al:Alike K η η'
 r:∀t,au K.r t=false→η'.r t=b.r t
 o:∀j,j∉K.o→η'.o j=b.o j
def tT (K:Lk)(b:Env):Out→Out→Prop
 |.next η,x=>∃η',x=.next η'∧Off K b η η'
 |.exit i η,x=>∃η',x=.exit i η'∧Off K b η η'
 |.ret d,x=>x=.ret d
theorem Off.uniq {K:Lk}{b η η' η2:Env}(h:Off K b η η')(k:Off K b η η2):η2=η':=by
 have h1:∀t,η2.r t=η'.r t:=fun t=>by
  cases hb:au K.r t with
  |true=>rw[k.al.r t hb,h.al.r t hb]
  |false=>rw[k.r t hb,h.r t hb]
 have h2:∀t,η2.o t=η'.o t:=fun t=>by
  by_cases hb:t∈K.o
  ·rw[k.al.o t hb,h.al.o t hb]
  ·rw[k.o t hb,h.o t hb]
 cases η2;cases η'
 congr
 ·exact funext h1
 ·exact funext h2
theorem tT.uniq {K:Lk}{b:Env}{x y z:Out}(h:tT K b x y)(k:tT K b x z):z=y:=by
 cases x with
 |next η=>obtain⟨a,rfl,h⟩:=h;obtain⟨c,rfl,k⟩:=k;rw[h.uniq k]
 |exit i η=>obtain⟨a,rfl,h⟩:=h;obtain⟨c,rfl,k⟩:=k;rw[h.uniq k]
 |ret d=>rw[h,k]
theorem Off.setR {K:Lk}{b η η':Env}(h:Off K b η η'){t:Nat}(ht:au K.r t=true)(d:D):Off K b (η.setR t d) (η'.setR t d):=
 ⟨h.al.setR t d,fun u hu=>by rw[Env.setR_r,if_neg (fun e=>by rw[e,ht] at hu;cases hu)];exact h.r u hu,h.o⟩
theorem Off.setO {K:Lk}{b η η':Env}(h:Off K b η η'){t:Nat}(ht:t∈K.o)(d:D):Off K b (η.setO t d) (η'.setO t d):=
 ⟨h.al.setO t d,h.r,fun u hu=>by rw[Env.setO_o,if_neg (fun e=>hu (by rw[e];exact ht))];exact h.o u hu⟩
theorem Off.join {K:Lk}{b η η' ζ ζ':Env}(h:Off K b η η')(k:Off K b ζ ζ')(lr lo:List Nat):Off K b (η.join lr lo ζ) (η'.join lr lo ζ'):=
 ⟨h.al.join k.al lr lo,fun u hu=>by rw[Env.join_r];split;exact k.r u hu;exact h.r u hu,fun u hu=>by rw[Env.join_o];split;exact k.o u hu;exact h.o u hu⟩
theorem P1 {f:Nat→D}{b:D}{u:Nat}(h:f u=b):∀(ts:List Nat) (xs:List D),u∉ts→putL f ts xs u=b
 |[],xs,_=>by rw[Jw];exact h
 |t::ts,[],_=>by simp only[putL];exact h
 |t::ts,x::xs,hu=>by rw[Jv,if_neg (fun e=>hu (by simp[e]))];exact P1 h ts xs (fun e=>hu (by simp[e]))
theorem Off.put {K:Lk}{b η η':Env}(h:Off K b η η'){lr lo:List Nat}(hr:∀t,t∈lr→au K.r t=true)(ho:∀t,t∈lo→t∈K.o)(vr vo:List D):Off K b (η.put lr vr lo vo) (η'.put lr vr lo vo):=
 ⟨h.al.put lr lo vr vo,fun u hu=>P1 (h.r u hu) lr vr (fun e=>by rw[hr u e] at hu;cases hu),fun u hu=>P1 (h.o u hu) lo vo (fun e=>hu (ho u e))⟩
theorem PI.run_off {Φ:aV}{K:Lk}{b ρ ρ' η:Env}{p:PI}(hp:p.lkw.Le K)(h:Off K b ρ ρ')(hr:p.run Φ ρ=some η):∃η',p.run Φ ρ'=some η'∧Off K b η η':=by
 have wK:p.lk.Le K:=by cases p<;>first|exact hp|exact hp.of_un.1
 rw[PI.run_eff,PI.eff_alike p (h.al.le wK)];rw[PI.run_eff] at hr;cases he:p.eff Φ ρ with
 |none=>rw[he] at hr;cases hr
 |some x=>
  rw[he] at hr;simp only[kU,aR] at hr;subst hr;refine⟨_,rfl,?_⟩;have hb:∀{t:Nat} {a:Lk},(a.un ⟨ed t,[]⟩).Le K→au K.r t=true:=fun h=>h.of_un.2.1 _ (qP _);have ho:∀{t:Nat} {a:Lk},(a.un ⟨0,[t]⟩).Le K→t∈K.o:=fun h=>h.of_un.2.2 _ (by simp);cases p with
  |setR t e=>simp only[PI.eff,aR] at he;subst he;exact h.setR (hb hp) _
  |setO t e=>simp only[PI.eff,aR] at he;subst he;exact h.setO (ho hp) _
  |chk e=>simp only[PI.eff] at he;cases wA:(e.ev ρ).b<;>rw[wA] at he<;>cases he;exact h
  |call gs d f aa=>
   simp only[PI.eff] at he;cases wA:holds gs ρ<;>simp only[wA,cond_true,cond_false,aR,ax] at he
   ·subst he;exact h
   ·obtain⟨y,_,rfl⟩:=he;exact h.setR (hb hp) _
  |callc gs d e aa=>
   simp only[PI.eff] at he;cases wA:holds gs ρ<;>simp only[wA,cond_true,cond_false,aR] at he
   ·subst he;exact h
   ·split at he
    ·simp only[ax] at he;obtain⟨y,_,rfl⟩:=he;exact h.setR (hb hp) _
    ·cases he
  |mcall j f aa=>simp only[PI.eff,ax] at he;obtain⟨y,_,rfl⟩:=he;exact h.setO (ho hp) _
theorem PI.runs_off {Φ:aV}{K:Lk}{b:Env}:∀{l:List PI} {ρ ρ' η:Env},(l.foldr (fun p k=>p.lkw.un k) Lk.none).Le K→Off K b ρ ρ'→PI.runs Φ l ρ=some η→∃η',PI.runs Φ l ρ'=some η'∧Off K b η η'
 |[],ρ,ρ',η,_,h,hr=>by simp only[PI.runs,aR] at hr ⊢;subst hr;exact⟨_,rfl,h⟩
 |p::l,ρ,ρ',η,hl,h,hr=>by
  simp only[PI.runs,ao] at hr;obtain⟨ρ1,h1,h2⟩:=hr;obtain⟨ρ2,h3,h4⟩:=PI.run_off hl.of_un.1 h h1;obtain⟨η',h5,h6⟩:=PI.runs_off (l:=l) hl.of_un.2 h4 h2;exact⟨η',by simp only[PI.runs,h3,ko,h5],h6⟩
theorem xf {K:Lk}{b η η':Env}(h:Off K b η η'){lo:List Nat}(ho:∀t,t∈lo→t∈K.o):lo.map η'.o=lo.map η.o:=yc fun t ht=>h.al.o t (ho t ht)
theorem YB {K:Lk}{b η η':Env}(h:Off K b η η'){lr:List Nat}(hr:∀t,t∈lr→au K.r t=true):lr.map η'.r=lr.map η.r:=yc fun t ht=>h.al.r t (hr t ht)
theorem PC.ev_off {Φ:aV}{n:Nat}{K:Lk}:∀(c:PC),c.lk.Le K→∀{b ρ ρ':Env} {x:Out},Off K b ρ ρ'→c.ev Φ n ρ=some x→∃x',c.ev Φ n ρ'=some x'∧tT K b x x':=by
 intro c
 induction c with
 |skip=>intro _ b ρ ρ' x h hr;simp only[PC.ev,aR] at hr ⊢;subst hr;exact⟨_,rfl,_,rfl,h⟩
 |exit id=>intro _ b ρ ρ' x h hr;simp only[PC.ev,aR] at hr ⊢;subst hr;exact⟨_,rfl,_,rfl,h⟩
 |ret e=>intro hk B ρ ρ' x h hr;simp only[PC.ev,aR] at hr ⊢;subst hr;exact⟨_,rfl,by rw[PE.ev_alike e (h.al.le hk)];rfl⟩
 |is l=>
  intro hk B ρ ρ' x h hr;simp only[PC.ev,ax] at hr;obtain⟨η,h1,rfl⟩:=hr;obtain⟨η',h2,h3⟩:=PI.runs_off hk h h1;exact⟨.next η',by simp only[PC.ev,h2,kU],η',rfl,h3⟩
 |seq a b bD eM=>
  intro hk B ρ ρ' x h hr;simp only[PC.ev] at hr ⊢;cases ha:a.ev Φ n ρ with
  |none=>rw[ha] at hr;cases hr
  |some y=>
   obtain⟨y',h1,h2⟩:=bD hk.of_un.1 h ha;rw[ha] at hr;rw[h1];cases y with
   |next η=>obtain⟨η',rfl,h3⟩:=h2;exact eM hk.of_un.2 h3 hr
   |exit i η=>obtain⟨η',rfl,h3⟩:=h2;cases hr;exact⟨_,rfl,η',rfl,h3⟩
   |ret d=>cases h2;cases hr;exact⟨_,rfl,rfl⟩
 |ite c lr lo a b bD eM=>
  intro hk B ρ ρ' x h hr;have hc:(c.ev ρ').b=(c.ev ρ).b:=by rw[PE.ev_alike c (h.al.le hk.of_un.1)]
  have key:∀(d:PC),(∀{ρ ρ':Env} {x:Out},Off K B ρ ρ'→d.ev Φ n ρ=some x→∃x',d.ev Φ n ρ'=some x'∧tT K B x x')→(match d.ev Φ n ρ with|some (.next η)=>some (.next (ρ.join lr lo η))|x=>x)=some x→
      ∃x',(match d.ev Φ n ρ' with|some (.next η)=>some (.next (ρ'.join lr lo η))|x=>x)=some x'∧tT K B x x':=by
   intro d ih hr;cases ha:d.ev Φ n ρ with
   |none=>rw[ha] at hr;cases hr
   |some y=>
    obtain⟨y',h1,h2⟩:=ih h ha;rw[ha] at hr;rw[h1];cases y with
    |next η=>obtain⟨η',rfl,h3⟩:=h2;cases hr;exact⟨_,rfl,_,rfl,h.join h3 lr lo⟩
    |exit i η=>obtain⟨η',rfl,h3⟩:=h2;cases hr;exact⟨_,rfl,η',rfl,h3⟩
    |ret d=>cases h2;cases hr;exact⟨_,rfl,rfl⟩
  simp only[PC.ev,hc] at hr ⊢;cases lh:(c.ev ρ).b<;>simp only[lh,cond_true,cond_false] at hr ⊢
  ·exact key b (fun h1 h2=>eM hk.of_un.2.of_un.2 h1 h2) hr
  ·exact key a (fun h1 h2=>bD hk.of_un.2.of_un.1 h1 h2) hr
 |block id lr lo a bD=>
  intro hk B ρ ρ' x h hr;simp only[PC.ev] at hr ⊢;cases ha:a.ev Φ n ρ with
  |none=>rw[ha] at hr;cases hr
  |some y=>
   obtain⟨y',h1,h2⟩:=bD hk h ha;rw[ha] at hr;rw[h1];cases y with
   |next η=>obtain⟨η',rfl,h3⟩:=h2;cases hr;exact⟨_,rfl,_,rfl,h.join h3 lr lo⟩
   |exit i η=>
    obtain⟨η',rfl,h3⟩:=h2;simp only at hr ⊢;cases hb:Nat.beq i id<;>simp only[hb,cond_true,cond_false] at hr ⊢<;>cases hr
    ·exact⟨_,rfl,η',rfl,h3⟩
    ·exact⟨_,rfl,_,rfl,h.join h3 lr lo⟩
   |ret d=>cases h2;cases hr;exact⟨_,rfl,rfl⟩
 |loop lr lo a bD=>
  intro hk B ρ ρ' x h hr;have jm:∀t,t∈lr→au K.r t=true:=fun t ht=>hk.of_un.1.1 t (LX ht);have ka:∀t,t∈lo→t∈K.o:=fun t ht=>hk.of_un.1.2 t ht;have key:∀(m:Nat) (vr vo:List D),iU (a.ev Φ n) ρ lr lo m vr vo=some x→∃x',iU (a.ev Φ n) ρ' lr lo m vr vo=some x'∧tT K B x x':=by
   intro m
   induction m with
   |zero=>intro vr vo h;simp[iU] at h
   |succ m OB=>
    intro vr vo hr;simp only[iU] at hr ⊢;cases ha:a.ev Φ n (ρ.put lr vr lo vo) with
    |none=>rw[ha] at hr;cases hr
    |some y=>
     obtain⟨y',h1,h2⟩:=bD hk.of_un.2 (h.put jm ka vr vo) ha;rw[ha] at hr;rw[h1];cases y with
     |next η=>obtain⟨η',rfl,h3⟩:=h2;simp only[xf h3 ka,YB h3 jm];exact OB _ _ hr
     |exit i η=>obtain⟨η',rfl,h3⟩:=h2;cases hr;exact⟨_,rfl,η',rfl,h3⟩
     |ret d=>cases h2;cases hr;exact⟨_,rfl,rfl⟩
  simp only[PC.ev] at hr ⊢;rw[xf h ka,YB h jm];exact key n _ _ hr
 |each e ps lo rt a bD=>
  intro hk B ρ ρ' x h hr;obtain⟨bQ,bx⟩:=hk.of_un;obtain⟨bx,ic⟩:=bx.of_un;obtain⟨ic,mK⟩:=ic.of_un;have ka:∀t,t∈lo→t∈K.o:=fun t ht=>ic.2 t ht;have key:∀(xs vo:List D),kY (a.ev Φ n) ρ ps lo rt xs vo=some x→∃x',kY (a.ev Φ n) ρ' ps lo rt xs vo=some x'∧tT K B x x':=by
   intro xs
   induction xs with
   |nil=>intro vo hr;simp only[kY,aR] at hr ⊢;subst hr;exact⟨_,rfl,_,rfl,h.put (fun _ h=>by cases h) ka _ _⟩
   |cons y xs jN=>
    intro vo hr;simp only[kY] at hr ⊢;cases ha:a.ev Φ n (ρ.put ps (partsOf ps y) lo vo) with
    |none=>rw[ha] at hr;cases hr
    |some z=>
     have jJ:Off K (ρ'.put ps (partsOf ps y) lo vo) (ρ.put ps (partsOf ps y) lo vo) (ρ'.put ps (partsOf ps y) lo vo):=⟨h.al.put ps lo _ _,fun _ _=>rfl,fun _ _=>rfl⟩
     obtain⟨z',h1,h2⟩:=bD mK jJ ha;rw[ha] at hr;rw[h1];cases z with
     |next η=>obtain⟨η',rfl,h3⟩:=h2;simp only[xf h3 ka];exact jN _ hr
     |exit i η=>
      obtain⟨η',rfl,h3⟩:=h2;simp only[xf h3 ka] at hr ⊢;have hp:=h.put (lr:=[]) (fun _ h=>by cases h) ka [] (lo.map η.o);cases hb:Nat.beq i cZ<;>simp only[hb,cond_true,cond_false] at hr ⊢
      ·cases hr;exact⟨_,rfl,_,rfl,hp⟩
      ·cases rt with
       |none=>cases hr
       |some e2=>cases hr;exact⟨_,rfl,by show Out.ret _=Out.ret _;rw[PE.ev_alike e2 (hp.al.le bx)]⟩
     |ret d=>cases hr
  simp only[PC.ev] at hr ⊢;rw[PE.ev_alike e (h.al.le bQ),xf h ka];exact key _ _ hr
 |meach J ps dt lo a bD=>
  intro hk B ρ ρ' x h hr;obtain⟨ic,mK⟩:=hk.of_un;have ka:∀t,t∈lo→t∈K.o:=fun t ht=>ic.2 t (dK _ ht);have hJ:ρ'.o J=ρ.o J:=h.al.o J (ic.2 J (dR ..));have key:∀(es:D) (xs done vo rQ:List D),oT (a.ev Φ n) ρ J es ps dt lo xs done vo=some rQ→oT (a.ev Φ n) ρ' J es ps dt lo xs done vo=some rQ:=by
   intro es xs
   induction xs with
   |nil=>intro done vo rQ h;exact h
   |cons y xs jN=>
    intro done vo rQ hr;simp only[oT] at hr ⊢;cases ha:a.ev Φ n ((ρ.put ps (dt.map y.tget) lo vo).setO J (.tup [.list (done++[y]),es])) with
    |none=>rw[ha] at hr;cases hr
    |some z=>
     have jJ:Off K ((ρ'.put ps (dt.map y.tget) lo vo).setO J (.tup [.list (done++[y]),es])) ((ρ.put ps (dt.map y.tget) lo vo).setO J (.tup [.list (done++[y]),es])) ((ρ'.put ps (dt.map y.tget) lo vo).setO J (.tup [.list (done++[y]),es])):=
          ⟨(h.al.put ps lo _ _).setO J _,fun _ _=>rfl,fun _ _=>rfl⟩
     obtain⟨z',h1,h2⟩:=bD mK jJ ha;rw[ha] at hr;rw[h1];cases z with
     |next η=>obtain⟨η',rfl,h3⟩:=h2;simp only[xf h3 ka];exact jN _ _ _ hr
     |exit i η=>cases hr
     |ret d=>cases hr
  simp only[PC.ev,Ax] at hr;obtain⟨vo,⟨h1,h2⟩,rfl⟩:=hr;refine⟨.next (ρ'.put [] [] lo vo),?_,_,rfl,h.put (fun _ h=>by cases h) ka _ _⟩;simp only[PC.ev,Ax];refine⟨vo,⟨by rw[hJ];exact h1,fun ys hy=>?_⟩,rfl⟩;rw[hJ] at hy ⊢;rw[xf h ka];exact key _ _ _ _ _ (h2 ys hy)
def ot:List Nat→PC→Bool
 |l,.exit id=>fU l id
 |l,.seq a b=>ot l a&&ot l b
 |l,.ite _ _ _ a b=>ot l a&&ot l b
 |l,.block id _ _ a=>ot (id::l) a
 |l,.loop _ _ a=>ot l a
 |l,.each _ _ _ _ a=>ot (cZ::l) a
 |_,_=>true
theorem af1 {Φ:aV}{n:Nat}:∀(c:PC) {l:List Nat},ot l c=true→∀{ρ:Env} {i:Nat} {η:Env},c.ev Φ n ρ=some (.exit i η)→i∈l:=by
 intro c
 induction c with
 |skip=>intro l _ ρ i η h;simp[PC.ev] at h
 |exit id=>intro l hl ρ i η h;simp only[PC.ev,aR] at h;injection h with h1 h2;subst h1;exact(qk _ _).1 hl
 |ret e=>intro l _ ρ i η h;simp[PC.ev] at h
 |is _=>intro l _ ρ i η h;simp[PC.ev] at h
 |seq a b bD eM=>
  intro l hl ρ i η h;simp only[ot,aj] at hl;simp only[PC.ev] at h;split at h
  ·exact eM hl.2 h
  ·exact bD hl.1 h
 |ite c lr lo a b bD eM=>
  intro l hl ρ i η h;simp only[ot,aj] at hl;simp only[PC.ev] at h;cases hc:(c.ev ρ).b<;>simp only[hc,cond_true,cond_false] at h
  ·split at h
   ·cases h
   ·exact eM hl.2 h
  ·split at h
   ·cases h
   ·exact bD hl.1 h
 |block id lr lo a bD=>
  intro l hl ρ i η h;simp only[PC.ev] at h;split at h
  ·cases h
  ·rename_i cd ρ2 ha;cases hb:Nat.beq cd id<;>simp only[hb,cond_true,cond_false] at h<;>cases h;rcases cW.1 (bD hl ha) with e|e
   ·subst e;rw[iI] at hb;cases hb
   ·exact e
  ·rename_i h1 h2;exact absurd h (h2 _ _)
 |loop lr lo a bD=>
  intro l hl ρ i η h;have key:∀(m:Nat) (vr vo:List D),iU (a.ev Φ n) ρ lr lo m vr vo=some (.exit i η)→i∈l:=by
   intro m
   induction m with
   |zero=>intro vr vo h;simp[iU] at h
   |succ m OB=>
    intro vr vo h;simp only[iU] at h;split at h
    ·exact OB _ _ h
    ·exact bD hl h
  exact key _ _ _ h
 |each e ps lo rt a bD=>
  intro l hl ρ i η h;have key:∀(xs vo:List D),kY (a.ev Φ n) ρ ps lo rt xs vo=some (.exit i η)→i∈l:=by
   intro xs
   induction xs with
   |nil=>intro vo h;simp[kY] at h
   |cons x xs jN=>
    intro vo h;simp only[kY] at h;split at h
    ·exact jN _ h
    ·rename_i cd ρ2 ha;cases hb:Nat.beq cd cZ<;>simp only[hb,cond_true,cond_false] at h
     ·injection h with h;injection h with h1 h2;subst h1
      rcases cW.1 (bD hl ha) with e|e
      ·subst e;rw[iI] at hb;cases hb
      ·exact e
     ·cases rt<;>simp at h
    ·cases h
  exact key _ _ h
 |meach J ps dt lo a _=>
  intro l _ ρ i η h;simp only[PC.ev,Ax] at h;obtain⟨vo,_,h⟩:=h;cases h
def XV (t:Nat):PE→Bool
 |.r u=>Nat.beq u t
 |_=>false
def XW (t:Nat):PE→Bool
 |.o u=>Nat.beq u t
 |_=>false
def fk (oK:Nat→PE→Bool)(p:Nat→Bool):List Nat→List (Nat×PE)→List (Nat×PE)
 |_,[]=>[]
 |seen,x::l=>bif p x.1&& !fU seen x.1 then(bif oK x.1 x.2 then fk oK p (x.1::seen) l else x::fk oK p (x.1::seen) l) else fk oK p seen l
theorem Ho {oK:Nat→PE→Bool}{p:Nat→Bool}:∀{l:List (Nat×PE)} {seen:List Nat} {t:Nat},fU seen t=true→bm (fk oK p seen l) t=none
 |[],_,_,_=>rfl
 |x::l,seen,t,h=>by
  have h':fU (x.1::seen) t=true:=by rw[qk] at h ⊢;exact dK _ h
  simp only[fk];cases hb:(p x.1&& !fU seen x.1) with
  |false=>exact Ho h
  |true=>
   simp only[cond_true];cases oK x.1 x.2 with
   |true=>exact Ho h'
   |false=>
    simp only[cond_false,bm];have:Nat.beq x.1 t=false:=by
      cases e:Nat.beq x.1 t with
      |false=>rfl
      |true=>rw[cX e,h] at hb;simp at hb
    rw[this];exact Ho h'
theorem Ck {oK:Nat→PE→Bool}{p:Nat→Bool}{dflt:Nat→PE}(de:∀t e,oK t e=true→e=dflt t):∀{l:List (Nat×PE)} {seen:List Nat} {t:Nat},p t=true→fU seen t=false→
 (match bm (fk oK p seen l) t with|some e=>e|none=>dflt t)=(match bm l t with|some e=>e|none=>dflt t)
 |[],_,_,_,_=>rfl
 |x::l,seen,t,hp,hs=>by
  simp only[fk,bm];cases e:Nat.beq x.1 t with
  |true=>
   have e':=cX e;rw[e',hp,hs];simp only[Bool.not_false,Bool.and_self,cond_true];cases hi:oK t x.2 with
   |true=>simp only[cond_true];rw[Ho (by rw[qk];exact dR ..)];exact(de _ _ hi).symm
   |false=>simp only[cond_false,bm,e,cond_true]
  |false=>
   simp only[cond_false];cases hb:(p x.1&& !fU seen x.1) with
   |false=>exact Ck de hp hs
   |true=>
    have qe:fU (x.1::seen) t=false:=by
      cases hm:fU (x.1::seen) t with
      |false=>rfl
      |true=>
       rcases cW.1 ((qk _ _).1 hm) with h|h
       ·rw[h,iI] at e;cases e
       ·rw[(qk _ _).2 h] at hs;cases hs
    simp only[cond_true];cases oK x.1 x.2 with
    |true=>exact Ck de hp qe
    |false=>simp only[cond_false,bm,e];exact Ck de hp qe
def SE.cut (s:SE)(k:Lk):SE:=⟨fk XV (au k.r) [] s.r,fk XW (fU k.o) [] s.o⟩
def OT (l:List (Nat×PE)):Lk:=l.foldr (fun x k=>x.2.lk.un k) .none
def SE.lks (s:SE):Lk:=(OT s.r).un (OT s.o)
theorem OU:∀{l:List (Nat×PE)} {t:Nat} {e:PE},bm l t=some e→e.lk.Le (OT l)
 |[],_,_,h=>by cases h
 |x::l,t,e,h=>by
  simp only[bm] at h;cases hb:Nat.beq x.1 t<;>simp only[hb,cond_true,cond_false] at h
  ·exact(OU h).trans (Lk.le_r _ _)
  ·cases h;exact Lk.le_l _ _
theorem SE.cut_al {s:SE}{L:Lk}{ρ1 ρ2:Env}(h:Alike (L.un (s.cut L).lks) ρ1 ρ2):Alike L ((s.cut L).ev ρ1) (s.ev ρ2):=by
 have hL:=h.le (Lk.le_l _ _);have hs:=h.le (Lk.le_r _ _);constructor
 ·intro t ht;show(s.getR t).ev ρ2=((s.cut L).getR t).ev ρ1;have e:(s.cut L).getR t=s.getR t:=Ck (dflt:=.r) (fun t e he=>by unfold XV at he;split at he;rw[cX he];cases he) ht rfl;rw[←e];cases hl:bm (s.cut L).r t with
  |none=>have:(s.cut L).getR t=.r t:=by unfold SE.getR;rw[hl]
         rw[this];exact hL.r t ht
  |some x=>have:(s.cut L).getR t=x:=by unfold SE.getR;rw[hl]
           rw[this];exact PE.ev_alike x (hs.le ((OU hl).trans (Lk.le_l _ _)))
 ·intro t ht;show(s.getO t).ev ρ2=((s.cut L).getO t).ev ρ1;have e:(s.cut L).getO t=s.getO t:=Ck (dflt:=.o) (fun t e he=>by unfold XW at he;split at he;rw[cX he];cases he) ((qk _ _).2 ht) rfl;rw[←e];cases hl:bm (s.cut L).o t with
  |none=>have:(s.cut L).getO t=.o t:=by unfold SE.getO;rw[hl]
         rw[this];exact hL.o t ht
  |some x=>have:(s.cut L).getO t=x:=by unfold SE.getO;rw[hl]
           rw[this];exact PE.ev_alike x (hs.le ((OU hl).trans (Lk.le_r _ _)))
structure LC where
 next:Lk
 ov:List (Nat×Lk)
def LC.all (c:LC):Lk:=c.ov.foldr (fun x k=>x.2.un k) .none
def Lb (c:LC)(Q1 Q2:Out→Prop):Prop:=
 (∀ρ1 ρ2,Alike c.next ρ1 ρ2→Q1 (.next ρ1)→Q2 (.next ρ2))∧(∀id k ρ1 ρ2,bm c.ov id=some k→Alike k ρ1 ρ2→Q1 (.exit id ρ1)→Q2 (.exit id ρ2))∧∀d,Q1 (.ret d)→Q2 (.ret d)
def gk:LC→PT→Option (PT×Lk)
 |c,.next s=>some (.next (s.cut c.next),c.next.un (s.cut c.next).lks)
 |c,.exit id s=>(bm c.ov id).map fun k=>(.exit id (s.cut k),k.un (s.cut k).lks)
 |_,.ret e=>some (.ret e,e.lk)
 |c,.chk e k=>(gk c k).map fun r=>(.chk e r.1,e.lk.un r.2)
 |c,.ite e a b=>(gk c a).bind fun x=>(gk c b).map fun y=>(.ite e x.1 y.1,e.lk.un (x.2.un y.2))
 |c,.call s gs dst f args k=>(gk c k).map fun r=>(.call (s.cut (r.2.un (mH gs))) gs dst f args r.1,(PE.lks args).un ((r.2.un (mH gs)).un (s.cut (r.2.un (mH gs))).lks))
 |c,.callc s gs dst e args k=>(gk c k).map fun r=>(.callc (s.cut (r.2.un (mH gs))) gs dst e args r.1,(e.lk.un (PE.lks args)).un ((r.2.un (mH gs)).un (s.cut (r.2.un (mH gs))).lks))
 |c,.mcall s j f args k=>(gk c k).map fun r=>(.mcall (s.cut r.2) j f args r.1,(PE.lks args).un (r.2.un (s.cut r.2).lks))
 |c,.iteS s e lr lo a b k=>(gk c k).bind fun r=>(gk ⟨r.2,c.ov⟩ a).bind fun x=>(gk ⟨r.2,c.ov⟩ b).map fun y=>
    (.iteS (s.cut (r.2.un (x.2.un y.2))) e lr lo x.1 y.1 r.1,e.lk.un ((r.2.un (x.2.un y.2)).un (s.cut (r.2.un (x.2.un y.2))).lks))
 |c,.blockS s id lr lo a k=>(gk c k).bind fun r=>(gk ⟨r.2,(id,r.2)::c.ov⟩ a).map fun x=>(.blockS (s.cut (r.2.un x.2)) id lr lo x.1 r.1,(r.2.un x.2).un (s.cut (r.2.un x.2)).lks)
 |c,.brk s p k=>(gk c k).bind fun r=>bif ot (c.ov.map (·.1)) p then some (.brk (s.cut (p.lk.un (r.2.un c.all))) p r.1,(p.lk.un (r.2.un c.all)).un (s.cut (p.lk.un (r.2.un c.all))).lks) else none
theorem LC.all_le:∀{l:List (Nat×Lk)} {id:Nat} {k:Lk},bm l id=some k→k.Le (l.foldr (fun x k=>x.2.un k) .none)
 |[],_,_,h=>by cases h
 |x::l,t,e,h=>by
  simp only[bm] at h;cases hb:Nat.beq x.1 t<;>simp only[hb,cond_true,cond_false] at h
  ·exact(LC.all_le h).trans (Lk.le_r _ _)
  ·cases h;exact Lk.le_l _ _
theorem Yh:∀{l:List (Nat×Lk)} {id:Nat},id∈l.map (·.1)→∃k,bm l id=some k
 |[],_,h=>by cases h
 |x::l,id,h=>by
  simp only[bm];cases hb:Nat.beq x.1 id with
  |true=>exact⟨_,rfl⟩
  |false=>
   simp only[cond_false];rcases cW.1 h with e|h
   ·rw[e,iI] at hb;cases hb
   ·exact Yh h
theorem anF {T:dz}:∀(t:PT) {c:LC} {t':PT} {L:Lk},gk c t=some (t',L)→∀{Q1 Q2:Out→Prop} {ρ1 ρ2:Env},Lb c Q1 Q2→Alike L ρ1 ρ2→aG T t' ρ1 Q1→aG T t ρ2 Q2:=by
 intro t
 induction t with
 |next s=>
  intro c t' L hp Q1 Q2 ρ1 ρ2 hQ hA h;simp only[gk,aR,od] at hp;obtain⟨rfl,rfl⟩:=hp;exact hQ.1 _ _ (SE.cut_al hA) h
 |exit id s=>
  intro c t' L hp Q1 Q2 ρ1 ρ2 hQ hA h;simp only[gk,ax,od] at hp;obtain⟨k,hk,rfl,rfl⟩:=hp;exact hQ.2.1 _ k _ _ hk (SE.cut_al hA) h
 |ret e=>
  intro c t' L hp Q1 Q2 ρ1 ρ2 hQ hA h;simp only[gk,aR,od] at hp;obtain⟨rfl,rfl⟩:=hp;show Q2 (.ret (e.ev ρ2));rw[PE.ev_alike e hA];exact hQ.2.2 _ h
 |chk e k ih=>
  intro c t' L hp Q1 Q2 ρ1 ρ2 hQ hA h;simp only[gk,ax,od] at hp;obtain⟨r,hr,rfl,rfl⟩:=hp;exact⟨by rw[PE.ev_alike e (hA.le (Lk.le_l _ _))];exact h.1,ih hr hQ (hA.le (Lk.le_r _ _)) h.2⟩
 |ite e a b bD eM=>
  intro c t' L hp Q1 Q2 ρ1 ρ2 hQ hA h;simp only[gk,ao,ax,od] at hp;obtain⟨x,hx,y,hy,rfl,rfl⟩:=hp;have h2:=hA.le (Lk.le_r _ _);simp only[aG] at h ⊢;rw[PE.ev_alike e (hA.le (Lk.le_l _ _))];split
  ·rename_i hc;rw[if_pos hc] at h;exact bD hx hQ (h2.le (Lk.le_l _ _)) h
  ·rename_i hc;rw[if_neg hc] at h;exact eM hy hQ (h2.le (Lk.le_r _ _)) h
 |call s gs dst f args k ih=>
  intro c t' L hp Q1 Q2 ρ1 ρ2 hQ hA h;simp only[gk,ax,od] at hp;obtain⟨r,hr,rfl,rfl⟩:=hp;have hS:=SE.cut_al (hA.le (Lk.le_r _ _));simp only[aG] at h ⊢;rw[PE.evs_alike args (hA.le (Lk.le_l _ _)),zM (hS.le (Lk.le_r _ _))];split
  ·rename_i hc;rw[if_pos hc] at h;obtain⟨d,hd,h⟩:=h;exact⟨d,hd,ih hr hQ ((hS.le (Lk.le_l _ _)).setR dst d) h⟩
  ·rename_i hc;rw[if_neg hc] at h;exact ih hr hQ (hS.le (Lk.le_l _ _)) h
 |callc s gs dst e args k ih=>
  intro c t' L hp Q1 Q2 ρ1 ρ2 hQ hA h;simp only[gk,ax,od] at hp;obtain⟨r,hr,rfl,rfl⟩:=hp;have hS:=SE.cut_al (hA.le (Lk.le_r _ _));have hE:=hA.le (Lk.le_l _ _);simp only[aG] at h ⊢;rw[PE.ev_alike e (hE.le (Lk.le_l _ _)),PE.evs_alike args (hE.le (Lk.le_r _ _)),zM (hS.le (Lk.le_r _ _))];split
  ·rename_i hc;rw[if_pos hc] at h;obtain⟨f,caps,d,he,hd,h⟩:=h;exact⟨f,caps,d,he,hd,ih hr hQ ((hS.le (Lk.le_l _ _)).setR dst d) h⟩
  ·rename_i hc;rw[if_neg hc] at h;exact ih hr hQ (hS.le (Lk.le_l _ _)) h
 |mcall s j f args k ih=>
  intro c t' L hp Q1 Q2 ρ1 ρ2 hQ hA h;simp only[gk,ax,od] at hp;obtain⟨r,hr,rfl,rfl⟩:=hp;have hS:=SE.cut_al (hA.le (Lk.le_r _ _));simp only[aG] at h ⊢;rw[PE.evs_alike args (hA.le (Lk.le_l _ _))];obtain⟨d,hd,h⟩:=h;exact⟨d,hd,ih hr hQ (hS.setO j d) h⟩
 |iteS s e lr lo a b k bD eM kD=>
  intro c t' L hp Q1 Q2 ρ1 ρ2 hQ hA h;simp only[gk,ao,ax,od] at hp;obtain⟨r,hr,x,hx,y,hy,rfl,rfl⟩:=hp;have hS:=SE.cut_al (hA.le (Lk.le_r _ _));have HJ:=hS.le (Lk.le_l _ _);have Cv:=hS.le ((Lk.le_l _ _).trans (Lk.le_r _ _));have hSy:=hS.le ((Lk.le_r _ _).trans (Lk.le_r _ _))
  have rel:Lb ⟨r.2,c.ov⟩ (lC ((s.cut (r.2.un (x.2.un y.2))).ev ρ1) lr lo (iw (fun ρ'=>aG T r.1 ρ' Q1) Q1)) (lC (s.ev ρ2) lr lo (iw (fun ρ'=>aG T k ρ' Q2) Q2)):=
   ⟨fun η1 η2 ha hq=>kD hr hQ (HJ.join ha lr lo) hq,fun id k' η1 η2 hk ha hq=>hQ.2.1 id k' _ _ hk ha hq,fun d hq=>hQ.2.2 d hq⟩
  simp only[aG] at h ⊢;rw[PE.ev_alike e (hA.le (Lk.le_l _ _))];split
  ·rename_i hc;rw[if_pos hc] at h;exact bD hx rel Cv h
  ·rename_i hc;rw[if_neg hc] at h;exact eM hy rel hSy h
 |blockS s id lr lo a k bD kD=>
  intro c t' L hp Q1 Q2 ρ1 ρ2 hQ hA h;simp only[gk,ao,ax,od] at hp;obtain⟨r,hr,x,hx,rfl,rfl⟩:=hp;have hS:=SE.cut_al hA;have HJ:=hS.le (Lk.le_l _ _);refine bD hx (Q1:=mD ((s.cut (r.2.un x.2)).ev ρ1) id lr lo (iw (fun ρ'=>aG T r.1 ρ' Q1) Q1)) ⟨fun η1 η2 ha hq=>kD hr hQ (HJ.join ha lr lo) hq,fun cd k' η1 η2 hk ha hq=>?_,fun d hq=>hQ.2.2 d hq⟩ (hS.le (Lk.le_r _ _)) h;simp only[mD] at hq ⊢;simp only[bm] at hk;by_cases e:cd=id
  ·subst e;simp only[iI,cond_true,aR] at hk;subst hk;rw[if_pos rfl] at hq ⊢;exact kD hr hQ (HJ.join ha lr lo) hq
  ·rw[if_neg e] at hq ⊢;rw[fu (fun h=>e h.symm),cond_false] at hk;exact hQ.2.1 cd k' _ _ hk ha hq
 |brk s p k kD=>
  intro c t' L hp Q1 Q2 ρ1 ρ2 hQ hA h;simp only[gk,ao] at hp;obtain⟨r,hr,hp⟩:=hp;cases hx:ot (c.ov.map (·.1)) p<;>simp only[hx,cond_true,cond_false,aR,od] at hp
  ·cases hp
  obtain⟨rfl,rfl⟩:=hp;have hS:=SE.cut_al hA;have jJ:Off (p.lk.un (r.2.un c.all)) (s.ev ρ2) ((s.cut (p.lk.un (r.2.un c.all))).ev ρ1) (s.ev ρ2):=⟨hS,fun _ _=>rfl,fun _ _=>rfl⟩
  obtain⟨x,hq,n0,hn⟩:=h;have step:=fun n (hle:n0≤n)=>PC.ev_off p (Lk.le_l _ _) jJ (hn n hle);obtain⟨x',h1,h2⟩:=step n0 (aX _);refine⟨x',?_,n0,fun n hle=>?_⟩
  ·cases x with
   |next η=>obtain⟨η',rfl,h3⟩:=h2;exact kD hr hQ (h3.al.le ((Lk.le_l _ _).trans (Lk.le_r _ _))) hq
   |exit i η=>
    obtain⟨η',rfl,h3⟩:=h2;obtain⟨k',cj⟩:=Yh (af1 p hx (hn n0 (aX _)));exact hQ.2.1 i k' _ _ cj (h3.al.le ((LC.all_le cj).trans ((Lk.le_r _ _).trans (Lk.le_r _ _)))) hq
   |ret d=>cases h2;exact hQ.2.2 d hq
  ·obtain⟨x2,h3,h4⟩:=step n hle;rw[h3,h2.uniq h4]
def D5 (c:LC)(t:PT):PT:=match gk c t with|some r=>r.1|none=>t
theorem Ju {T:dz}{c:LC}{t:PT}{Q:Out→Prop}{ρ:Env}(hQ:Lb c Q Q)(h:aG T (D5 c t) ρ Q):aG T t ρ Q:=by
 unfold D5 at h;split at h
 ·rename_i r hr;exact anF t hr hQ ⟨fun _ _=>rfl,fun _ _=>rfl⟩ h
 ·exact h
def acm (c:PC):PT:=sx c [] .id (fun _ s=>.next s) (fun _ id s=>.exit id s)
theorem acn {T:dz}{c:PC}{ρ:Env}{Q:Out→Prop}(h:aG T (acm c) ρ Q):aU T c ρ Q:=
 Ru (s:=.id) c (cq.ok_nil _) h (fun ρ' ab s _ _ h=>h) (fun ρ' ab id s _ _ h=>h) (fun _ _ _ h=>h) (fun _ h=>h)
def tree (c:PC):PT:=D5 ⟨.none,[]⟩ (acm c)
theorem Ti {T:dz}{c:PC}{ρ:Env}{d:D}(h:aG T (tree c) ρ fun x=>x=.ret d):aU T c ρ fun x=>x=.ret d:=
 acn (Ju ⟨fun _ _ _ h=>(by cases h),fun _ _ _ _ _ _ h=>(by cases h),fun _ h=>h⟩ h)
def SE.keep (s:SE)(lr lo:List Nat):SE:=⟨lr.map fun t=>(t,s.getR t),lo.map fun t=>(t,s.getO t)⟩
theorem SE.keep_r (s:SE)(lr lo:List Nat)(ρ:Env):lr.map ((s.keep lr lo).ev ρ).r=lr.map (s.ev ρ).r:=by
 apply yc;intro t ht;show((s.keep lr lo).getR t).ev ρ=(s.getR t).ev ρ;have:=xc (f:=fun t=>s.getR t) (l:=[]) (u:=t) lr;rw[lK,if_pos ht] at this;have e:(s.keep lr lo).getR t=s.getR t:=by unfold SE.getR SE.keep;simp only[];rw[this];rfl
 rw[e]
theorem SE.keep_o (s:SE)(lr lo:List Nat)(ρ:Env):lo.map ((s.keep lr lo).ev ρ).o=lo.map (s.ev ρ).o:=by
 apply yc;intro t ht;show((s.keep lr lo).getO t).ev ρ=(s.getO t).ev ρ;have:=xc (f:=fun t=>s.getO t) (l:=[]) (u:=t) lo;rw[lK,if_pos ht] at this;have e:(s.keep lr lo).getO t=s.getO t:=by unfold SE.getO SE.keep;simp only[];rw[this];rfl
 rw[e]
def abI (id:Nat)(bq bp lr lo:List Nat)(a:PC):PT:=
 sx a [] .id (fun _ s=>.next (s.keep lr lo)) (fun _ cd s=>bif Nat.beq cd id then .exit id (s.keep bq bp) else .exit cd s)
def fI (ρ:Env)(id:Nat)(bq bp lr lo:List Nat)(K:List D→List D→Prop)(Q:Out→Prop):Out→Prop
 |.next ρ'=>K (lr.map ρ'.r) (lo.map ρ'.o)
 |.exit cd ρ'=>if cd=id then Q (.next (ρ.put bq (bq.map ρ'.r) bp (bp.map ρ'.o))) else Q (.exit cd ρ')
 |.ret d=>Q (.ret d)
def round (id:Nat)(bq bp lr lo:List Nat)(a:PC):PT:=D5 ⟨⟨bits lr,lo⟩,[(id,⟨bits bq,bp⟩)]⟩ (abI id bq bp lr lo a)
theorem YA {k:Lk}{lr:List Nat}{ρ1 ρ2:Env}(h:Alike k ρ1 ρ2)(hk:∀t,t∈lr→au k.r t=true):lr.map ρ2.r=lr.map ρ1.r:=yc fun t ht=>h.r t (hk t ht)
theorem IZ {k:Lk}{lo:List Nat}{ρ1 ρ2:Env}(h:Alike k ρ1 ρ2)(hk:∀t,t∈lo→t∈k.o):lo.map ρ2.o=lo.map ρ1.o:=yc fun t ht=>h.o t (hk t ht)
theorem aoC {T:dz}{id:Nat}{bq bp lr lo:List Nat}{a:PC}{ρ ρ0:Env}{K:List D→List D→Prop}{Q:Out→Prop}(h:aG T (round id bq bp lr lo a) ρ (fI ρ0 id bq bp lr lo K Q)):aG T (abI id bq bp lr lo a) ρ (fI ρ0 id bq bp lr lo K Q):=by
 refine Ju ⟨fun ρ1 ρ2 ha hq=>?_,fun cd k ρ1 ρ2 hk ha hq=>?_,fun d hq=>hq⟩ h
 ·simp only[fI] at hq ⊢;rw[YA ha fun t ht=>LX ht,IZ ha fun t ht=>ht];exact hq
 ·simp only[bm] at hk;cases hb:Nat.beq id cd<;>simp only[hb,cond_true,cond_false] at hk
  ·cases hk
  ·cases hk;have:=cX hb;subst this;simp only[fI,if_true] at hq ⊢;rw[YA ha fun t ht=>LX ht,IZ ha fun t ht=>ht];exact hq
theorem aU.forLoop {T:dz}{id:Nat}{bq bp lr lo:List Nat}{a:PC}{ρ:Env}{Q:Out→Prop}{α:Type}(inv:α→List D→List D→Prop)(uS:α→Nat)(s0:α)(h0:inv s0 (lr.map ρ.r) (lo.map ρ.o))
 (step:∀s vr vo,inv s vr vo→aG T (round id bq bp lr lo a) (ρ.put lr vr lo vo) (fI ρ id bq bp lr lo (fun vr vo=>∃s',uS s'<uS s∧inv s' vr vo) Q)):aU T (.block id bq bp (.loop lr lo a)) ρ Q:=by
 refine .block (.loop inv uS s0 h0 fun s vr vo hi=>?_);have h:=aoC (step s vr vo hi);refine Ru (s:=.id) a (cq.ok_nil _) h (fun ρ' ab s' _ _ h=>?_) (fun ρ' ab cd s' _ _ h=>?_) (fun _ cd ρ' h=>?_) (fun d h=>h)
 ·simp only[aG,fI] at h;rw[SE.keep_r,SE.keep_o] at h;exact h
 ·simp only[iw,mD];by_cases de:cd=id
  ·subst de;simp only[iI,cond_true,aG,fI,if_true] at h;rw[SE.keep_r,SE.keep_o] at h;rw[if_pos rfl];exact h
  ·rw[fu de,cond_false] at h;simp only[aG,fI] at h;rw[if_neg de] at h ⊢;exact h
 ·simp only[iw,mD];simp only[fI] at h;split
  ·rename_i e;rw[if_pos e] at h;exact h
  ·rename_i e;rw[if_neg e] at h;exact h
def abJ (lo:List Nat)(a:PC):PT:=sx a [] .id (fun _ s=>.next (s.keep [] lo)) (fun _ id s=>.exit id (s.keep [] lo))
def tC (lo:List Nat)(a:PC):PT:=D5 ⟨⟨0,lo⟩,[(cZ,⟨0,lo⟩)]⟩ (abJ lo a)
theorem aoA {T:dz}{lo:List Nat}{a:PC}{ρ:Env}{Q:Out→Prop}(hn:∀ρ1 ρ2,lo.map ρ2.o=lo.map ρ1.o→Q (.next ρ1)→Q (.next ρ2))(hx:∀ρ1 ρ2,lo.map ρ2.o=lo.map ρ1.o→Q (.exit cZ ρ1)→Q (.exit cZ ρ2))(h:aG T (tC lo a) ρ Q):aG T (abJ lo a) ρ Q:=by
 refine Ju ⟨fun ρ1 ρ2 ha hq=>hn ρ1 ρ2 (IZ ha fun t ht=>ht) hq,fun cd k ρ1 ρ2 hk ha hq=>?_,fun d hq=>hq⟩ h;simp only[bm] at hk;cases hb:Nat.beq cZ cd<;>simp only[hb,cond_true,cond_false] at hk
 ·cases hk
 ·cases hk;have:=cX hb;subst this;exact hx ρ1 ρ2 (IZ ha fun t ht=>ht) hq
theorem aU.meachR {T:dz}{J:Nat}{ps dt lo:List Nat}{a:PC}{ρ:Env}{Q:Out→Prop}(es:List (D×D))(he:ρ.o J=.tup [.list [],.map es])(inv:List D→List D→Prop)(h0:inv [] (lo.map ρ.o))
 (step:∀done x rest vo,(done++x::rest).Perm (iW (.map es))→inv done vo→aG T (tC lo a) ((ρ.put ps (dt.map x.tget) lo vo).setO J (.tup [.list (done++[x]),.map es])) (fun y=>∃ρ',y=.next ρ'∧inv (done++[x]) (lo.map ρ'.o)))
 (last:∃vo,(∀done,done.Perm (iW (.map es))→∀rQ,inv done rQ→rQ=vo)∧Q (.next (ρ.put [] [] lo vo))):aU T (.meach J ps dt lo a) ρ Q:=by
 refine .meach es he inv h0 (fun done x rest vo hp hi=>?_) last;have h:=aoA (fun ρ1 ρ2 e ⟨ρ',e1,hq⟩=>by cases e1;exact⟨_,rfl,by rw[e];exact hq⟩) (fun ρ1 ρ2 e ⟨ρ',e1,hq⟩=>by cases e1) (step done x rest vo hp hi);refine Ru (s:=.id) a (cq.ok_nil _) h (fun ρ' ab s' _ _ h=>?_) (fun ρ' ab cd s' _ _ h=>?_) (fun _ cd ρ' h=>?_) (fun d h=>?_)
 ·simp only[aG] at h;obtain⟨ρ2,e,h⟩:=h;injection e with e;subst e;rw[SE.keep_o] at h;exact⟨_,rfl,h⟩
 ·simp only[aG] at h;obtain⟨ρ2,e,h⟩:=h;cases e
 ·obtain⟨ρ2,e,_⟩:=h;cases e
 ·obtain⟨ρ2,e,_⟩:=h;cases e
theorem yf {T:dz}:∀(t:PT) {ρ:Env} {Q Q':Out→Prop},(∀x,Q x→Q' x)→aG T t ρ Q→aG T t ρ Q':=by
 intro t
 induction t with
 |next s=>intro ρ Q Q' h hx;exact h _ hx
 |exit id s=>intro ρ Q Q' h hx;exact h _ hx
 |ret e=>intro ρ Q Q' h hx;exact h _ hx
 |chk e k ih=>intro ρ Q Q' h hx;exact⟨hx.1,ih h hx.2⟩
 |ite c a b bD eM=>
  intro ρ Q Q' h hx;simp only[aG] at hx ⊢;split
  ·rename_i hc;rw[if_pos hc] at hx;exact bD h hx
  ·rename_i hc;rw[if_neg hc] at hx;exact eM h hx
 |call s gs dst f args k ih=>
  intro ρ Q Q' h hx;simp only[aG] at hx ⊢;split
  ·rename_i hc;rw[if_pos hc] at hx;obtain⟨d,hd,hx⟩:=hx;exact⟨d,hd,ih h hx⟩
  ·rename_i hc;rw[if_neg hc] at hx;exact ih h hx
 |callc s gs dst e args k ih=>
  intro ρ Q Q' h hx;simp only[aG] at hx ⊢;split
  ·rename_i hc;rw[if_pos hc] at hx;obtain⟨f,c,d,he,hd,hx⟩:=hx;exact⟨f,c,d,he,hd,ih h hx⟩
  ·rename_i hc;rw[if_neg hc] at hx;exact ih h hx
 |mcall s j f args k ih=>intro ρ Q Q' h hx;obtain⟨d,hd,hx⟩:=hx;exact⟨d,hd,ih h hx⟩
 |iteS s c lr lo a b k bD eM kD=>
  intro ρ Q Q' h hx
  have hq:∀x,lC (s.ev ρ) lr lo (iw (fun ρ'=>aG T k ρ' Q) Q) x→lC (s.ev ρ) lr lo (iw (fun ρ'=>aG T k ρ' Q') Q') x:=by
   intro x hx;cases x with
   |next ρ'=>exact kD h hx
   |exit id ρ'=>exact h _ hx
   |ret d=>exact h _ hx
  simp only[aG] at hx ⊢;split
  ·rename_i hc;rw[if_pos hc] at hx;exact bD hq hx
  ·rename_i hc;rw[if_neg hc] at hx;exact eM hq hx
 |blockS s id lr lo a k bD kD=>
  intro ρ Q Q' h hx;refine bD (fun x hx=>?_) hx;cases x with
  |next ρ'=>exact kD h hx
  |exit cd ρ'=>
   simp only[mD] at hx ⊢;split
   ·rename_i e;rw[if_pos e] at hx;exact kD h hx
   ·rename_i e;rw[if_neg e] at hx;exact h _ hx
  |ret d=>exact h _ hx
 |brk s c k ih=>
  intro ρ Q Q' h hx;refine aU.mono hx fun x hx=>?_;cases x with
  |next ρ'=>exact ih h hx
  |exit id ρ'=>exact h _ hx
  |ret d=>exact h _ hx
theorem aU.forRounds {T:dz}{id:Nat}{bq bp lr lo:List Nat}{a:PC}{ρ:Env}{Q:Out→Prop}(N:Nat)(str fX:Nat→List D)(h0:lr.map ρ.r=str 0∧lo.map ρ.o=fX 0)
 (step:∀k,k<N→aG T (round id bq bp lr lo a) (ρ.put lr (str k) lo (fX k)) (fI ρ id bq bp lr lo (fun vr vo=>vr=str (k+1)∧vo=fX (k+1)) Q))
 (last:aG T (round id bq bp lr lo a) (ρ.put lr (str N) lo (fX N)) (fI ρ id bq bp lr lo (fun _ _=>False) Q)):aU T (.block id bq bp (.loop lr lo a)) ρ Q:=by
 refine .forLoop (α:=Nat) (fun k vr vo=>k≤N∧vr=str k∧vo=fX k) (fun k=>N-k) 0 ⟨oc _,h0.1,h0.2⟩ ?_;rintro k vr vo ⟨hk,rfl,rfl⟩;have mono:∀{K K':List D→List D→Prop},(∀a b,K a b→K' a b)→∀x,fI ρ id bq bp lr lo K Q x→fI ρ id bq bp lr lo K' Q x:=by
  intro K K' h x hx;cases x with
  |next ρ'=>exact h _ _ hx
  |exit cd ρ'=>exact hx
  |ret d=>exact hx
 by_cases ae:k<N
 ·exact yf _ (mono fun a b ⟨h1,h2⟩=>⟨k+1,by omega,by omega,h1,h2⟩) (step k ae)
 ·obtain rfl:k=N:=by omega
  exact yf _ (mono fun a b h=>h.elim) last
theorem Rh {ρ:Env}{id:Nat}{bq bp lr lo:List Nat}{K K':List D→List D→Prop}{Q:Out→Prop}(h:∀a b,K a b→K' a b):∀x,fI ρ id bq bp lr lo K Q x→fI ρ id bq bp lr lo K' Q x:=by
 intro x hx;cases x with
 |next ρ'=>exact h _ _ hx
 |exit cd ρ'=>exact hx
 |ret d=>exact hx
theorem aU.scan {T:dz}{id:Nat}{bq bp lr lo:List Nat}{a:PC}{ρ:Env}{Q:Out→Prop}(N:Nat)(ok:Nat→Prop)(str fX:Nat→List D)(h0:lr.map ρ.r=str 0∧lo.map ρ.o=fX 0)
 (step:∀k,k<N→(∀j,j<k→ok j)→ok k→aG T (round id bq bp lr lo a) (ρ.put lr (str k) lo (fX k)) (fI ρ id bq bp lr lo (fun vr vo=>vr=str (k+1)∧vo=fX (k+1)) Q))
 (bad:∀k,k<N→(∀j,j<k→ok j)→¬ok k→aG T (round id bq bp lr lo a) (ρ.put lr (str k) lo (fX k)) (fI ρ id bq bp lr lo (fun _ _=>False) Q))
 (last:(∀j,j<N→ok j)→aG T (round id bq bp lr lo a) (ρ.put lr (str N) lo (fX N)) (fI ρ id bq bp lr lo (fun _ _=>False) Q)):aU T (.block id bq bp (.loop lr lo a)) ρ Q:=by
 refine .forLoop (α:=Nat) (fun k vr vo=>k≤N∧(∀j,j<k→ok j)∧vr=str k∧vo=fX k) (fun k=>N-k) 0 ⟨oc _,fun j hj=>by omega,h0.1,h0.2⟩ ?_;rintro k vr vo ⟨hk,hj,rfl,rfl⟩;by_cases ae:k<N
 ·by_cases az:ok k
  ·refine yf _ (Rh fun a b ⟨h1,h2⟩=>⟨k+1,by omega,by omega,fun j H9=>?_,h1,h2⟩) (step k ae hj az);by_cases e:j=k
   ·subst e;exact az
   ·exact hj j (by omega)
  ·exact yf _ (Rh fun a b h=>h.elim) (bad k ae hj az)
 ·obtain rfl:k=N:=by omega
  exact yf _ (Rh fun a b h=>h.elim) (last hj)
def aI (n:Nat)(e:PE):PE:=.mk ((List.range n).map fun i=>.cell e i)
def mB (n:Nat)(d:D):D:=.agg ((List.range n).flatMap fun i=>(d.c i).cells)
theorem afY (ρ:Env)(n:Nat)(e:PE):(aI n e).ev ρ=mB n (e.ev ρ):=by
 have key:∀l:List Nat,PE.evc ρ (l.map fun i=>.cell e i)=l.flatMap fun i=>((e.ev ρ).c i).cells:=by
  intro l
  induction l with
  |nil=>rfl
  |cons i l ih=>simp only[gG,PE.evc,PE.ev,rV,ih]
 show D.agg _=_;rw[key];rfl
end Cx
namespace Cx
open Go Go.RowKit
def aW (n:Int):Prop:=-9223372036854775808≤n∧n≤9223372036854775807
def ints (l:List Int):D:=.list (l.map .int)
theorem cn {n:Int}(h:-9223372036854775808≤n∧n≤9223372036854775807):IntKind.i64.wrap n=n:=by
 simp only[IntKind.wrap,IntKind.signed,IntKind.bits];simp;split<;>omega
theorem DTy.int_inv {k:IntKind}{d:D}(h:DTy (.int k) d):∃n,d=.v (.int k n)∧k.min≤n∧n≤k.max:=by
 cases h with
 |int k n h1 h2=>exact⟨n,rfl,h1,h2⟩
 |other t d h=>exact h.elim
theorem DTy.i64_inv {d:D}(h:DTy (.int .i64) d):∃n,d=.int n∧aW n:=by
 obtain⟨n,rfl,h1,h2⟩:=h.int_inv;exact⟨n,rfl,by simpa [IntKind.min,IntKind.max,IntKind.signed,IntKind.bits] using h1,by simpa [IntKind.min,IntKind.max,IntKind.signed,IntKind.bits] using h2⟩
theorem DTy.bool_inv {d:D}(h:DTy .bool d):∃b,d=.bool b:=by
 cases h with
 |bool b=>exact⟨b,rfl⟩
 |other t d h=>exact h.elim
theorem DTy.slice_inv {e:Ty}{d:D}(h:DTy (.slice e) d):∃xs,d=.list xs∧xs.length≤maxLen∧∀x,x∈xs→DTy e.unf x:=by
 cases h with
 |slice e xs hm h=>exact⟨xs,rfl,hm,h⟩
 |other t d h=>exact h.elim
theorem DTy.agg_inv {ts:List Ty}{d:D}(h:DTy (.agg ts) d):∃ds,d=.agg ds∧DTys ts ds:=by
 cases h with
 |agg ts ds h=>exact⟨ds,rfl,h⟩
 |other t d h=>exact h.elim
theorem DTys.cons_inv {t:Ty}{ts:List Ty}{ds:List D}(h:DTys (t::ts) ds):∃d ds',ds=d::ds'∧DTy t d∧DTys ts ds':=by
 cases h with
 |cons h hs=>exact⟨_,_,rfl,h,hs⟩
theorem DTys.nil_inv {ds:List D}(h:DTys [] ds):ds=[]:=by cases h;rfl
theorem kG {α:Type}{enc:α→D}{P:α→Prop}{xs:List D}(h:∀x,x∈xs→∃a,x=enc a∧P a):∃l:List α,xs=l.map enc∧∀a,a∈l→P a:=by
 induction xs with
 |nil=>exact⟨[],rfl,fun _ h=>nomatch h⟩
 |cons x xs ih=>
  obtain⟨l,hl,hp⟩:=ih fun y hy=>h y (dK _ hy);obtain⟨a,ha,pa⟩:=h x (dR ..)
  exact⟨a::l,by rw[hl,ha];rfl,fun b hb=>by
   rcases cW.1 hb with e|hb
   ·rw[e];exact pa
   ·exact hp b hb⟩
theorem DTy.ints_inv {d:D}(h:DTy (.slice (.int .i64)) d):∃l:List Int,d=ints l∧l.length≤maxLen∧∀x,x∈l→aW x:=by
 obtain⟨xs,rfl,hm,hx⟩:=h.slice_inv;obtain⟨l,rfl,hl⟩:=kG (enc:=D.int) (P:=aW) fun x hh=>(hx x hh).i64_inv;exact⟨l,rfl,by simpa using hm,hl⟩
section
variable (ρ:Env) (T:dz)
@[simp] theorem avj (t:Nat):PE.ev ρ (.r t)=ρ.r t:=_root_.id rfl
@[simp] theorem avg (t:Nat):PE.ev ρ (.o t)=ρ.o t:=_root_.id rfl
@[simp] theorem au2 (d:D):PE.ev ρ (.con d)=d:=_root_.id rfl
@[simp] theorem auZ (e:PE)(i:Nat):PE.ev ρ (.cell e i)=(PE.ev ρ e).c i:=_root_.id rfl
@[simp] theorem avr (e:PE)(a n:Nat):PE.ev ρ (.sub e a n)=.agg (((PE.ev ρ e).cells.drop a).take n):=_root_.id rfl
@[simp] theorem avm (e x:PE)(n:Nat):PE.ev ρ (.setc e n x)=.agg (ff (PE.ev ρ e).cells n (PE.ev ρ x).cells):=_root_.id rfl
@[simp] theorem au9 (es:List PE):PE.ev ρ (.mk es)=.agg (PE.evc ρ es):=_root_.id rfl
@[simp] theorem auU (op:BinOp)(k:IntKind)(x y:PE):PE.ev ρ (.ai op k x y)=.v (.int k (cT op k (PE.ev ρ x).i (PE.ev ρ y).i)):=_root_.id rfl
@[simp] theorem au0 (op:BinOp)(x y:PE):PE.ev ρ (.ci op x y)=.v (.bool (jD op (PE.ev ρ x).i (PE.ev ρ y).i)):=_root_.id rfl
@[simp] theorem auY (op:BinOp)(x y:PE):PE.ev ρ (.cb op x y)=.v (.bool (y8 op (PE.ev ρ x).b (PE.ev ρ y).b)):=_root_.id rfl
@[simp] theorem au4 (op:BinOp)(x y:PE):PE.ev ρ (.cs op x y)=.v (.bool (za op (PE.ev ρ x).s (PE.ev ρ y).s)):=_root_.id rfl
@[simp] theorem ave (x:PE):PE.ev ρ (.nt x)=.v (.bool (!(PE.ev ρ x).b)):=_root_.id rfl
@[simp] theorem au3 (k:IntKind)(x:PE):PE.ev ρ (.conv k x)=.v (.int k (k.wrap (PE.ev ρ x).i)):=_root_.id rfl
@[simp] theorem avh (c a b:PE):PE.ev ρ (.pick c a b)=if(PE.ev ρ c).b=true then PE.ev ρ a else PE.ev ρ b:=by
  simp only[PE.ev];cases(PE.ev ρ c).b<;>rfl
@[simp] theorem ava (n:Nat)(e:PE):PE.ev ρ (aI n e)=mB n (PE.ev ρ e):=afY ρ n e
@[simp] theorem auX (x:PE):PE.ev ρ (.bytes x)=.list ((PE.ev ρ x).s.data.toList.map fun b=>.v (.int .u8 b.toNat)):=_root_.id rfl
@[simp] theorem au7 (x:PE):PE.ev ρ (.llen x)=.v (.int .i64 (PE.ev ρ x).l.length):=_root_.id rfl
@[simp] theorem avp (x:PE):PE.ev ρ (.slen x)=.v (.int .i64 (PE.ev ρ x).s.size):=_root_.id rfl
@[simp] theorem avb (x:PE):PE.ev ρ (.mlen x)=.v (.int .i64 (PE.ev ρ x).m.length):=_root_.id rfl
@[simp] theorem avf (x i:PE):PE.ev ρ (.nth x i)=(PE.ev ρ x).l.getD (PE.ev ρ i).i.toNat .none:=_root_.id rfl
@[simp] theorem au6 (x i:PE):PE.ev ρ (.idx x i)=.v (.bool (decide (0≤(PE.ev ρ i).i∧(PE.ev ρ i).i<(PE.ev ρ x).l.length))):=_root_.id rfl
@[simp] theorem avn (x i y:PE)(n:Nat):PE.ev ρ (.setn x i n y)=.list ((PE.ev ρ x).l.set (PE.ev ρ i).i.toNat (vu ((PE.ev ρ x).l.getD (PE.ev ρ i).i.toNat .none) n (PE.ev ρ y))):=_root_.id rfl
@[simp] theorem auW (x y:PE):PE.ev ρ (.app x y)=.list ((PE.ev ρ x).l++(PE.ev ρ y).l):=_root_.id rfl
@[simp] theorem au8 (es:List PE):PE.ev ρ (.lst es)=.list (PE.evs ρ es):=_root_.id rfl
@[simp] theorem avl (x y:PE):PE.ev ρ (.rep x y)=.list (List.replicate (PE.ev ρ x).i.toNat (PE.ev ρ y)):=_root_.id rfl
@[simp] theorem avo (x a b:PE):PE.ev ρ (.slc x a b)=.list (((PE.ev ρ x).l.take (PE.ev ρ b).i.toNat).drop (PE.ev ρ a).i.toNat):=_root_.id rfl
@[simp] theorem avq (x a b:PE):PE.ev ρ (.slok x a b)=.v (.bool (decide (0≤(PE.ev ρ a).i∧(PE.ev ρ a).i≤(PE.ev ρ b).i∧(PE.ev ρ b).i≤(PE.ev ρ x).l.length))):=_root_.id rfl
@[simp] theorem avk (x:PE):PE.ev ρ (.ref x)=.ref (PE.ev ρ x):=_root_.id rfl
@[simp] theorem au5 (x:PE):PE.ev ρ (.deref x)=(PE.ev ρ x).deref:=_root_.id rfl
@[simp] theorem avi (m k v:PE):PE.ev ρ (.put m k v)=.map (lG (PE.ev ρ k) (PE.ev ρ v) (PE.ev ρ m).m):=_root_.id rfl
@[simp] theorem avc (x y:PE):PE.ev ρ (.mn x y)=if(PE.ev ρ y).i<(PE.ev ρ x).i then PE.ev ρ y else PE.ev ρ x:=by
  simp only[PE.ev];by_cases h:(PE.ev ρ y).i<(PE.ev ρ x).i<;>simp[h]
@[simp] theorem avd (x y:PE):PE.ev ρ (.mx x y)=if(PE.ev ρ y).i>(PE.ev ρ x).i then PE.ev ρ y else PE.ev ρ x:=by
  simp only[PE.ev];by_cases h:(PE.ev ρ y).i>(PE.ev ρ x).i<;>simp[h]
@[simp] theorem avt (es:List PE):PE.ev ρ (.tup es)=.tup (PE.evs ρ es):=_root_.id rfl
@[simp] theorem avs (x:PE)(i:Nat):PE.ev ρ (.tget x i)=(PE.ev ρ x).tget i:=_root_.id rfl
@[simp] theorem au1 (f:Nat)(es:List PE):PE.ev ρ (.clo f es)=.clo f (PE.evs ρ es):=_root_.id rfl
@[simp] theorem auV (x y:PE):PE.ev ρ (.an x y)=.v (.bool ((PE.ev ρ x).b&&(PE.ev ρ y).b)):=_root_.id rfl
@[simp] theorem avx:PE.evs ρ []=[]:=_root_.id rfl
@[simp] theorem avw (e:PE)(es:List PE):PE.evs ρ (e::es)=PE.ev ρ e::PE.evs ρ es:=_root_.id rfl
@[simp] theorem avv:PE.evc ρ []=[]:=_root_.id rfl
@[simp] theorem avu (e:PE)(es:List PE):PE.evc ρ (e::es)=(PE.ev ρ e).cells++PE.evc ρ es:=_root_.id rfl
@[simp] theorem aeX (x:Bool):(D.bool x).b=x:=_root_.id rfl
@[simp] theorem auR (k:IntKind)(n:Int):(D.v (.int k n)).i=n:=_root_.id rfl
@[simp] theorem auG (n:Int):(D.int n).i=n:=_root_.id rfl
@[simp] theorem auM (x:List D):(D.list x).l=x:=_root_.id rfl
@[simp] theorem auK (l:List Int):(ints l).l=l.map .int:=_root_.id rfl
@[simp] theorem auN (x:List (D×D)):(D.map x).m=x:=_root_.id rfl
@[simp] theorem auA (x:List D)(i:Nat):(D.agg x).c i=x.getD i .none:=_root_.id rfl
@[simp] theorem auB (x:List D):(D.agg x).cells=x:=_root_.id rfl
@[simp] theorem auL (x:List D):(D.list x).cells=[.list x]:=_root_.id rfl
@[simp] theorem auJ (x:List Int):(ints x).cells=[ints x]:=_root_.id rfl
@[simp] theorem auF (n:Int):(D.int n).cells=[.int n]:=_root_.id rfl
@[simp] theorem auC (n:Bool):(D.bool n).cells=[.bool n]:=_root_.id rfl
@[simp] theorem auQ (x:Value):(D.v x).cells=[.v x]:=_root_.id rfl
@[simp] theorem auP (x:List D)(i:Nat):(D.tup x).tget i=x.getD i .none:=_root_.id rfl
@[simp] theorem auO (x:D):(D.ref x).deref=x:=_root_.id rfl
@[simp] theorem axu (s:SE)(t:Nat):(s.ev ρ).r t=PE.ev ρ (s.getR t):=_root_.id rfl
@[simp] theorem axt (s:SE)(t:Nat):(s.ev ρ).o t=PE.ev ρ (s.getO t):=_root_.id rfl
@[simp] theorem avH (o:List (Nat×PE))(u:Nat):SE.getR ⟨[],o⟩ u=.r u:=_root_.id rfl
@[simp] theorem avG (t:Nat)(e:PE)(r o:List (Nat×PE))(u:Nat):SE.getR ⟨(t,e)::r,o⟩ u=if t=u then e else SE.getR ⟨r,o⟩ u:=by
  simp only[SE.getR,bm];by_cases h:t=u
  ·subst h;simp
  ·simp[fu h,h]
@[simp] theorem avF (r:List (Nat×PE))(u:Nat):SE.getO ⟨r,[]⟩ u=.o u:=_root_.id rfl
@[simp] theorem avE (t:Nat)(e:PE)(r o:List (Nat×PE))(u:Nat):SE.getO ⟨r,(t,e)::o⟩ u=if t=u then e else SE.getO ⟨r,o⟩ u:=by
  simp only[SE.getO,bm];by_cases h:t=u
  ·subst h;simp
  ·simp[fu h,h]
@[simp] theorem setR_r (t u:Nat)(d:D):(ρ.setR t d).r u=if u=t then d else ρ.r u:=Env.setR_r ρ t u d
@[simp] theorem axA (t u:Nat)(d:D):(ρ.setR t d).o u=ρ.o u:=_root_.id rfl
@[simp] theorem setO_o (t u:Nat)(d:D):(ρ.setO t d).o u=if u=t then d else ρ.o u:=Env.setO_o ρ t u d
@[simp] theorem axz (t u:Nat)(d:D):(ρ.setO t d).r u=ρ.r u:=_root_.id rfl
@[simp] theorem axh (lr lo:List Nat)(vr vo:List D)(u:Nat):(ρ.put lr vr lo vo).r u=putL ρ.r lr vr u:=_root_.id rfl
@[simp] theorem axg (lr lo:List Nat)(vr vo:List D)(u:Nat):(ρ.put lr vr lo vo).o u=putL ρ.o lo vo u:=_root_.id rfl
@[simp] theorem join_r (ρ':Env)(lr lo:List Nat)(u:Nat):(ρ.join lr lo ρ').r u=if u∈lr then ρ'.r u else ρ.r u:=Env.join_r ρ ρ' lr lo u
@[simp] theorem join_o (ρ':Env)(lr lo:List Nat)(u:Nat):(ρ.join lr lo ρ').o u=if u∈lo then ρ'.o u else ρ.o u:=Env.join_o ρ ρ' lr lo u
@[simp] theorem axe (f:Nat→D)(i:Nat)(is:List Nat)(x:D)(xs:List D)(u:Nat):putL f (i::is) (x::xs) u=if u=i then x else putL f is xs u:=Jv f i is x xs u
@[simp] theorem axf (f:Nat→D)(xs:List D)(u:Nat):putL f [] xs u=f u:=Jw f xs u
@[simp] theorem auS (ds:List D)(u:Nat):(lO ds).r u=ds.getD u .none:=_root_.id rfl
@[simp] theorem awg:holds [] ρ=true:=_root_.id rfl
@[simp] theorem awf (g:Nat×Bool)(gs:List (Nat×Bool)):holds (g::gs) ρ=((ρ.r g.1).b==g.2&&holds gs ρ):=_root_.id rfl
variable (Q:Out→Prop)
@[simp] theorem aya (s:SE):aG T (.next s) ρ Q=Q (.next (s.ev ρ)):=_root_.id rfl
@[simp] theorem ax7 (id:Nat)(s:SE):aG T (.exit id s) ρ Q=Q (.exit id (s.ev ρ)):=_root_.id rfl
@[simp] theorem ayb (e:PE):aG T (.ret e) ρ Q=Q (.ret (e.ev ρ)):=_root_.id rfl
@[simp] theorem ax6 (e:PE)(k:PT):aG T (.chk e k) ρ Q=((e.ev ρ).b=true∧aG T k ρ Q):=_root_.id rfl
@[simp] theorem ax8 (c:PE)(a b:PT):aG T (.ite c a b) ρ Q=if(c.ev ρ).b=true then aG T a ρ Q else aG T b ρ Q:=_root_.id rfl
@[simp] theorem ax4 (s:SE)(gs:List (Nat×Bool))(dst f:Nat)(args:List PE)(k:PT):aG T (.call s gs dst f args k) ρ Q=if holds gs (s.ev ρ)=true then ∃d,av T f (PE.evs ρ args) d∧aG T k ((s.ev ρ).setR dst d) Q else aG T k (s.ev ρ) Q:=_root_.id rfl
@[simp] theorem ax9 (s:SE)(c:PE)(lr lo:List Nat)(a b k:PT):aG T (.iteS s c lr lo a b k) ρ Q=if(c.ev ρ).b=true then aG T a (s.ev ρ) (lC (s.ev ρ) lr lo (iw (fun ρ'=>aG T k ρ' Q) Q)) else aG T b (s.ev ρ) (lC (s.ev ρ) lr lo (iw (fun ρ'=>aG T k ρ' Q) Q)):=_root_.id rfl
@[simp] theorem ax2 (s:SE)(id:Nat)(lr lo:List Nat)(a k:PT):aG T (.blockS s id lr lo a k) ρ Q=aG T a (s.ev ρ) (mD (s.ev ρ) id lr lo (iw (fun ρ'=>aG T k ρ' Q) Q)):=_root_.id rfl
@[simp] theorem ax3 (s:SE)(c:PC)(k:PT):aG T (.brk s c k) ρ Q=aU T c (s.ev ρ) (iw (fun ρ'=>aG T k ρ' Q) Q):=_root_.id rfl
variable (K:Env→Prop) (id:Nat) (lr lo bq bp:List Nat) (K2:List D→List D→Prop)
@[simp] theorem axx (ρ':Env):iw K Q (.next ρ')=K ρ':=_root_.id rfl
@[simp] theorem axw (i:Nat)(ρ':Env):iw K Q (.exit i ρ')=Q (.exit i ρ'):=_root_.id rfl
@[simp] theorem axy (d:D):iw K Q (.ret d)=Q (.ret d):=_root_.id rfl
@[simp] theorem awx (ρ':Env):lC ρ lr lo Q (.next ρ')=Q (.next (ρ.join lr lo ρ')):=_root_.id rfl
@[simp] theorem awy (d:D):lC ρ lr lo Q (.ret d)=Q (.ret d):=_root_.id rfl
@[simp] theorem aui (ρ':Env):mD ρ id lr lo Q (.next ρ')=Q (.next (ρ.join lr lo ρ')):=_root_.id rfl
@[simp] theorem auh (i:Nat)(ρ':Env):mD ρ id lr lo Q (.exit i ρ')=if i=id then Q (.next (ρ.join lr lo ρ')) else Q (.exit i ρ'):=_root_.id rfl
@[simp] theorem auj (d:D):mD ρ id lr lo Q (.ret d)=Q (.ret d):=_root_.id rfl
@[simp] theorem axq (ρ':Env):fI ρ id bq bp lr lo K2 Q (.next ρ')=K2 (lr.map ρ'.r) (lo.map ρ'.o):=_root_.id rfl
@[simp] theorem axp (i:Nat)(ρ':Env):fI ρ id bq bp lr lo K2 Q (.exit i ρ')=if i=id then Q (.next (ρ.put bq (bq.map ρ'.r) bp (bp.map ρ'.o))) else Q (.exit i ρ'):=_root_.id rfl
@[simp] theorem axr (d:D):fI ρ id bq bp lr lo K2 Q (.ret d)=Q (.ret d):=_root_.id rfl
@[simp] theorem ax5 (s:SE)(gs:List (Nat×Bool))(dst:Nat)(e:PE)(args:List PE)(k:PT):aG T (.callc s gs dst e args k) ρ Q=if holds gs (s.ev ρ)=true then ∃f caps d,e.ev ρ=.clo f caps∧av T f (PE.evs ρ args++caps) d∧aG T k ((s.ev ρ).setR dst d) Q else aG T k (s.ev ρ) Q:=_root_.id rfl
end
section
variable (k:IntKind) (a b:Int)
@[simp] theorem aub:cT .add k a b=k.wrap (a+b):=_root_.id rfl
@[simp] theorem aue:cT .sub k a b=k.wrap (a-b):=_root_.id rfl
@[simp] theorem auc:cT .mul k a b=k.wrap (a*b):=_root_.id rfl
@[simp] theorem aud:cT .rem k a b=a.tmod b:=_root_.id rfl
@[simp] theorem aur:jD .eql a b=(a==b):=_root_.id rfl
@[simp] theorem auw:jD .neq a b=(a !=b):=_root_.id rfl
@[simp] theorem auv:jD .lss a b=decide (a<b):=_root_.id rfl
@[simp] theorem auu:jD .leq a b=decide (a≤b):=_root_.id rfl
@[simp] theorem aut:jD .gtr a b=decide (a>b):=_root_.id rfl
@[simp] theorem aus:jD .geq a b=decide (a≥b):=_root_.id rfl
variable (x y:Bool)
@[simp] theorem auk:y8 .eql x y=(x==y):=_root_.id rfl
@[simp] theorem aul:y8 .neq x y=(!(x==y)):=_root_.id rfl
end
theorem av.of_tree {tab:Nat→Option PC}{ext:Nat→Option (aV→List D→Option D)}{f:Nat}{pc:PC}{t:PT}{ds:List D}{d:D}(hx:ext f=none)(ht:tab f=some pc)(he:tree pc=t)(h:aG (fM tab ext) t (lO ds) (fun x=>x=.ret d)):av (fM tab ext) f ds d:=
 .of_pc hx ht (Ti (he▸h))
@[simp] theorem auI (n:Int):D.v (.int .i64 n)=D.int n:=_root_.id rfl
@[simp] theorem auE (b:Bool):D.v (.bool b)=D.bool b:=_root_.id rfl
@[simp] theorem auH (a b:Int):(D.int a=D.int b)=(a=b):=by
  apply propext;constructor
  ·intro h;injection h with h;injection h
  ·intro h;rw[h]
@[simp] theorem auD (a b:Bool):(D.bool a=D.bool b)=(a=b):=by
  apply propext;constructor
  ·intro h;injection h with h;injection h
  ·intro h;rw[h]
section
variable (c:Prop) [Decidable c] (x y:D)
@[simp] theorem awv:(if c then x else y).b=if c then x.b else y.b:=by split<;>rfl
@[simp] theorem aww:(if c then x else y).i=if c then x.i else y.i:=by split<;>rfl
end
@[simp] theorem ayc:IntKind.i64.wrap 0=0:=cn (by omega)
end Cx
namespace Cx
open Go
inductive Tm where
 |mk (op n:Int) (args:List Tm)
instance:Inhabited Tm:=⟨.mk 0 0 []⟩
namespace Tm
def op:Tm→Int|.mk o _ _=>o
def n:Tm→Int|.mk _ n _=>n
def args:Tm→List Tm|.mk _ _ aa=>aa
end Tm
mutual
def eh:Tm→D
 |.mk o n aa=>.agg [.int o,.int n,.list (Hi aa)]
def Hi:List Tm→List D
 |[]=>[]
 |t::ts=>eh t::Hi ts
end
theorem Mq:∀l:List Tm,Hi l=l.map eh
 |[]=>rfl
 |t::l=>by rw[Hi,Mq l];rfl
theorem B9 (t:Tm):eh t=.agg [.int t.op,.int t.n,.list (t.args.map eh)]:=by
 cases t with
 |mk o n aa=>rw[eh,Mq];rfl
inductive Tm.OK:Tm→Prop where
 |mk (o n:Int) (aa:List Tm) (h1:aW o) (h2:aW n) (h3:aa.length≤maxLen) (h:∀a,a∈aa→Tm.OK a):Tm.OK (.mk o n aa)
theorem DTy.trm_inv {d:D}(h:DTy .trmA d):∃t:Tm,d=eh t∧t.OK:=by
 suffices hs:∀(m:Nat) (d:D),sizeOf d≤m→DTy .trmA d→∃t:Tm,d=eh t∧t.OK from hs _ d (aX _) h
 intro m
 induction m with
 |zero=>
  intro d hm h;cases d<;>simp at hm
 |succ m ih=>
  intro d hm h;obtain⟨ds,rfl,hs⟩:=DTy.agg_inv h;obtain⟨d1,ds,rfl,h1,hs⟩:=hs.cons_inv;obtain⟨d2,ds,rfl,h2,hs⟩:=hs.cons_inv;obtain⟨d3,ds,rfl,h3,hs⟩:=hs.cons_inv;obtain rfl:=hs.nil_inv;obtain⟨o,rfl,b1⟩:=h1.i64_inv;obtain⟨n,rfl,b2⟩:=h2.i64_inv;obtain⟨xs,rfl,hl,hx⟩:=h3.slice_inv
  obtain⟨l,rfl,az⟩:=kG (enc:=eh) (P:=Tm.OK) fun x hh=>ih x (by
   have:=List.sizeOf_lt_of_mem hh;simp at hm;omega) (hx x hh)
  exact⟨.mk o n l,by rw[eh,Mq],.mk o n l b1 b2 (by simpa using hl) az⟩
theorem DTy.trms_inv {d:D}(h:DTy (.slice .trm) d):∃l:List Tm,d=.list (l.map eh)∧l.length≤maxLen∧∀t,t∈l→t.OK:=by
 obtain⟨xs,rfl,hl,hx⟩:=h.slice_inv;obtain⟨l,rfl,az⟩:=kG (enc:=eh) (P:=Tm.OK) fun x hh=>DTy.trm_inv (hx x hh);exact⟨l,rfl,by simpa using hl,az⟩
end Cx
namespace Cx
open Go
def Rv (g:Nat)(zs:List Int):Nat→Option (Ty×D):=fun k=>bif Nat.beq k g then some (.agg (zs.map fun _=>.int .i64),.agg (zs.map fun z=>.v (.int .i64 z))) else none
theorem Rw {C:Ctx}{g:Nat}{zs:List Int}{name:String}{W:World}(hC:C.glob=Rv g zs)(hg:C.P.globalNamed name=some g)(hz:zs.all (fun z=>decide (IntKind.i64.min≤z)&&decide (z≤IntKind.i64.max))=true)
 (h:Lib.TabIs C.P W name .i64 zs):CtxOK C (l9 W):=by
 refine⟨fun k x hx=>?_⟩;rw[hC] at hx;unfold Rv at hx;cases hk:Nat.beq k g<;>simp only[hk,cond_true,cond_false] at hx
 ·cases hx
 cases hx;obtain rfl:=aw hk
 have fG:Rep C.cap (l9 W) (.agg (zs.map fun _=>.int .i64)) (.agg (zs.map fun z=>Value.int .i64 z).toArray) (.agg (zs.map fun z=>.v (.int .i64 z))):=by
  refine .agg _ _ _ (by simp) (by simp) (fun i t ht=>?_) (fun i t ht=>?_)
  ·rw[cK,ax] at ht;obtain⟨z,ly,rfl⟩:=ht;rw[aH,aH,cK,cK,ly];have:=bz.1 hz z (kl ly);simp only[aj,decide_eq_true_eq] at this;exact .int _ _ this.1 this.2
  ·rw[cK,ax] at ht;obtain⟨z,_,rfl⟩:=ht;rfl
 refine .ref _ k 0 _ _ fG fun j u hu=>?_;simp only[Value.cells,FK,cK,ax] at hu;obtain⟨z,ly,rfl⟩:=hu;have ae:=(eE.1 ly).1;have:=h.cell hg j ae;show W.cell? ⟨k,0+j,none⟩=_;rw[fq,this,aH,ly];rfl
end Cx
namespace Cx
open Go Go.RowKit
def loops:PC→List PC
 |.seq a b=>loops a++loops b
 |.ite _ _ _ a b=>loops a++loops b
 |.block id lr lo (.loop O0 OV a)=>loops a++[.block id lr lo (.loop O0 OV a)]
 |.block _ _ _ a=>loops a
 |.loop _ _ a=>loops a
 |.each e ps lo rt a=>loops a++[.each e ps lo rt a]
 |.meach J ps dt lo a=>loops a++[.meach J ps dt lo a]
 |_=>[]
def LY:PC→PC
 |.block _ _ _ (.loop _ _ a)=>a
 |.each _ _ _ _ a=>a
 |.meach _ _ _ _ a=>a
 |_=>.skip
def IY (c:PC)(k:Nat):PC:=(loops c).getD k .skip
def rnd:PC→PT
 |.block id lr lo (.loop O0 OV a)=>round id lr lo O0 OV a
 |.each _ _ lo _ a=>tC lo a
 |.meach _ _ _ lo a=>tC lo a
 |_=>.next .id
inductive Shp where
 |lp (id:Nat) (bq bp lr lo:List Nat)
 |ea (lo:List Nat)
 |no
def AY:PC→Shp
 |.block id bq bp (.loop lr lo _)=>.lp id bq bp lr lo
 |.each _ _ lo _ _=>.ea lo
 |.meach _ _ _ lo _=>.ea lo
 |_=>.no
def told (c:PC):PT×List (Shp×PT):=(tree c,(loops c).map fun l=>(AY l,rnd l))
theorem Kw {o:Option PC}{t:PT}{l:List (Shp×PT)}(h:o.map told=some (t,l)):o=some (o.getD .skip)∧tree (o.getD .skip)=t∧∀k x,l[k]?=some x→(AY (IY (o.getD .skip) k),rnd (IY (o.getD .skip) k))=x:=by
 cases o with
 |none=>cases h
 |some c=>
  have h1:told c=(t,l):=by injection h
  unfold told at h1;injection h1 with h1 h2
  refine⟨rfl,h1,fun k x hx=>?_⟩;subst h2;simp only[cK,ax] at hx;obtain⟨y,hy,rfl⟩:=hx;have:IY ((some c:Option PC).getD .skip) k=y:=by
   show(loops c).getD k .skip=y;rw[aH,hy];rfl
  rw[this]
theorem aod {c:PC}{id:Nat}{bq bp lr lo:List Nat}{t:PT}(h:(AY c,rnd c)=(.lp id bq bp lr lo,t)):round id bq bp lr lo (LY c)=t:=by
 injection h with h1 h2
 subst h2;unfold AY at h1;split at h1
 ·cases h1;rfl
 all_goals cases h1
theorem afK {c:PC}{lo:List Nat}{t:PT}(h:(AY c,rnd c)=(.ea lo,t)):tC lo (LY c)=t:=by
 injection h with h1 h2
 subst h2;unfold AY at h1;split at h1
 ·cases h1
 ·cases h1;rfl
 ·cases h1;rfl
 ·cases h1
def de {α:Type}(x:α):α:=Classical.choose (⟨x,rfl⟩:∃y,y=x)
theorem CT {α:Type}(x:α):de x=x:=TU (⟨x,rfl⟩:∃y,y=x)
def bO (o:Option PC):Nat→PC:=fun k=>LY (IY (o.getD .skip) k)
abbrev ah (o:Option PC):PC:=de (o.getD .skip)
abbrev bX (o:Option PC):Nat→PC:=de (bO o)
section
variable {o:Option PC} {F:(Nat→PC)→PT×List (Shp×PT)}
theorem apn (h:o.map told=some (F (bO o))):o=some (ah o):=by unfold ah;rw[CT];exact(Kw (t:=(F (bO o)).1) (l:=(F (bO o)).2) h).1
theorem cO (h:o.map told=some (F (bO o))):tree (ah o)=(F (bX o)).1:=by unfold ah bX;rw[CT,CT];exact(Kw (t:=(F (bO o)).1) (l:=(F (bO o)).2) h).2.1
theorem bH (h:o.map told=some (F (bO o)))(k:Nat){id:Nat}{bq bp lr lo:List Nat}{t:(Nat→PC)→PT}(hk:∀b,(F b).2[k]?=some (.lp id bq bp lr lo,t b)):round id bq bp lr lo (bX o k)=t (bX o):=by
 unfold bX;rw[CT];exact aod ((Kw (t:=(F (bO o)).1) (l:=(F (bO o)).2) h).2.2 k _ (hk _))
theorem ach (h:o.map told=some (F (bO o)))(k:Nat){lo:List Nat}{t:(Nat→PC)→PT}(hk:∀b,(F b).2[k]?=some (.ea lo,t b)):tC lo (bX o k)=t (bX o):=by
 unfold bX;rw[CT];exact afK ((Kw (t:=(F (bO o)).1) (l:=(F (bO o)).2) h).2.2 k _ (hk _))
end
theorem aO {α:Type}{R:Nat→α→Prop}{f:Nat}{x:α}{l:List (Nat×α)}(h:R f x)(k:Fy R l):Fy R ((f,x)::l):=⟨h,k⟩
theorem Yq {α:Type}:∀{l:List (Nat×α)},(l.map (·.1)).Nodup→∀{k f:Nat} {x:α},l[k]?=some (f,x)→bm l f=some x
 |[],_,k,f,x,h=>by simp at h
 |y::l,hn,0,f,x,h=>by
  simp only[KX,aR] at h;subst h;simp[bm]
 |y::l,hn,k+1,f,x,h=>by
  simp only[FJ] at h;rw[gG,np] at hn;have hm:f∈l.map (·.1):=ec.2 ⟨(f,x),kl h,rfl⟩;have hb:Nat.beq y.1 f=false:=by
   cases e:Nat.beq y.1 f with
   |false=>rfl
   |true=>rw[cX e] at hn;exact absurd hm hn.1
  simp only[bm,hb,cond_false];exact Yq hn.2 h
abbrev pT:PE:=.con (.bool true)
abbrev pF:PE:=.con (.bool false)
abbrev pN:PE:=.con .none
abbrev pL:PE:=.con (.list [])
abbrev pi (n:Int):PE:=.con (.int n)
abbrev br (a b:PE):PE:=.ai .add .i64 a b
abbrev cN (a b:PE):PE:=.ai .sub .i64 a b
abbrev aq (a b:PE):PE:=.ci .eql a b
abbrev bt (a b:PE):PE:=.ci .neq a b
abbrev ak (a b:PE):PE:=.ci .lss a b
abbrev cV (a b:PE):PE:=.ci .leq a b
abbrev cm (a b:PE):PE:=.ci .gtr a b
abbrev cY (a b:PE):PE:=.ci .geq a b
abbrev pc (a:PE)(i:Nat):PE:=.cell a i
abbrev pn (a b:PE):PE:=.nth a b
abbrev aB (a b:PE):PE:=.idx a b
abbrev z2:PE:=.con (.agg [(.int 0),(.int 0)])
abbrev z3:PE:=.con (.agg [(.int 0),(.int 0),(.int 0)])
abbrev z4:PE:=.con (.agg [(.int 0),(.int 0),(.int 0),(.int 0)])
abbrev z5:PE:=.con (.agg [(.int 0),(.int 0),(.int 0),(.int 0),(.int 0)])
abbrev z6:PE:=.con (.agg [(.int 0),(.int 0),(.int 0),(.int 0),(.int 0),(.int 0)])
abbrev z9:PE:=.con (.agg [(.int 0),(.int 0),(.int 0),(.int 0),(.int 0),(.int 0),(.int 0),(.int 0),(.int 0)])
abbrev KM:PE:=.con (.agg [(.int 0),(.int 0),(.int 0),(.int 0),(.int 0),(.int 0),(.int 0),(.int 0),(.int 0),(.int 0),(.int 0),(.int 0),(.int 0),(.int 0),(.int 0)])
abbrev r0:PE:=.r 0
abbrev r1:PE:=.r 1
abbrev r2:PE:=.r 2
abbrev r3:PE:=.r 3
abbrev r4:PE:=.r 4
abbrev r5:PE:=.r 5
abbrev r6:PE:=.r 6
abbrev r7:PE:=.r 7
abbrev r8:PE:=.r 8
abbrev r9:PE:=.r 9
abbrev di:PE:=.r 10
abbrev bS:PE:=.r 11
abbrev dj:PE:=.r 12
abbrev dG:PE:=.r 13
abbrev cJ:PE:=.r 14
abbrev fo:PE:=.r 15
abbrev bT:PE:=.r 16
abbrev iu:PE:=.r 17
abbrev gT:PE:=.r 18
abbrev iX:PE:=.r 19
abbrev gU:PE:=.r 20
abbrev m0:PE:=.r 21
abbrev va:PE:=.r 22
abbrev jS:PE:=.r 23
abbrev oY:PE:=.r 24
abbrev lI:PE:=.r 25
abbrev oZ:PE:=.r 26
abbrev gB:PE:=.r 27
abbrev Ec:PE:=.r 28
abbrev tz:PE:=.r 29
abbrev Ed:PE:=.r 30
abbrev xz:PE:=.r 31
abbrev Qj:PE:=.r 32
abbrev Ee:PE:=.r 33
abbrev r34:PE:=.r 34
abbrev Ef:PE:=.r 35
abbrev qu:PE:=.r 36
abbrev qv:PE:=.r 37
abbrev mh:PE:=.r 38
abbrev JI:PE:=.r 39
abbrev m4:PE:=.r 40
abbrev xA:PE:=.r 41
abbrev r42:PE:=.r 42
abbrev vc:PE:=.r 43
abbrev Eg:PE:=.r 44
abbrev rE:PE:=.r 45
abbrev Qk:PE:=.r 46
abbrev Ql:PE:=.r 47
abbrev rF:PE:=.r 48
abbrev vd:PE:=.r 49
abbrev m5:PE:=.r 50
abbrev qw:PE:=.r 51
abbrev Qm:PE:=.r 52
abbrev r53:PE:=.r 53
abbrev tA:PE:=.r 54
abbrev Eh:PE:=.r 55
abbrev nP:PE:=.r 56
abbrev xB:PE:=.r 57
abbrev ve:PE:=.r 58
abbrev r59:PE:=.r 59
abbrev Ei:PE:=.r 60
abbrev r61:PE:=.r 61
abbrev qx:PE:=.r 62
abbrev Ej:PE:=.r 63
abbrev kf:PE:=.r 64
abbrev AJ:PE:=.r 65
abbrev r66:PE:=.r 66
abbrev vf:PE:=.r 67
abbrev Qn:PE:=.r 68
abbrev xC:PE:=.r 69
abbrev r70:PE:=.r 70
abbrev r71:PE:=.r 71
abbrev JJ:PE:=.r 72
abbrev Ek:PE:=.r 73
abbrev JK:PE:=.r 74
abbrev JL:PE:=.r 75
abbrev vg:PE:=.r 76
abbrev r77:PE:=.r 77
abbrev r78:PE:=.r 78
abbrev r79:PE:=.r 79
abbrev xD:PE:=.r 80
abbrev vh:PE:=.r 81
abbrev kK:PE:=.r 82
abbrev r83:PE:=.r 83
abbrev El:PE:=.r 84
abbrev AK:PE:=.r 85
abbrev r86:PE:=.r 86
abbrev r87:PE:=.r 87
abbrev JM:PE:=.r 88
abbrev Qo:PE:=.r 89
abbrev r90:PE:=.r 90
abbrev r91:PE:=.r 91
abbrev r92:PE:=.r 92
abbrev Qp:PE:=.r 93
abbrev r94:PE:=.r 94
abbrev r95:PE:=.r 95
abbrev r96:PE:=.r 96
abbrev r98:PE:=.r 98
abbrev r99:PE:=.r 99
abbrev aaU:PE:=.r 103
abbrev anK:PE:=.r 104
abbrev anL:PE:=.r 106
abbrev Qh:PE:=.r 108
abbrev anM:PE:=.r 109
abbrev Qi:PE:=.r 112
abbrev JH:PE:=.r 113
abbrev anN:PE:=.r 117
abbrev axi:PE:=.r 119
abbrev axj:PE:=.r 120
abbrev anO:PE:=.r 121
abbrev anP:PE:=.r 122
abbrev anQ:PE:=.r 126
abbrev aaV:PE:=.r 127
abbrev anR:PE:=.r 128
abbrev anS:PE:=.r 129
abbrev o0:PE:=.o 0
abbrev o1:PE:=.o 1
abbrev o2:PE:=.o 2
abbrev o3:PE:=.o 3
abbrev o4:PE:=.o 4
abbrev o5:PE:=.o 5
abbrev o6:PE:=.o 6
abbrev o7:PE:=.o 7
abbrev o8:PE:=.o 8
abbrev o9:PE:=.o 9
abbrev cI:PE:=.o 10
abbrev uV:PE:=.o 11
abbrev o12:PE:=.o 12
abbrev Pc:PE:=.o 13
abbrev oP:PE:=.o 15
abbrev Ja:PE:=.o 45
end Cx
set_option maxRecDepth 100000
namespace Rm
open Go Go.Proofs Cx
abbrev I:Ty:=.int .i64
abbrev Y0:Ty:=.agg [.str,I,I,(.slice I),(.slice I),(.slice I)]
abbrev Y1:Ty:=.agg [I]
abbrev Y2:Ty:=.agg [.str,I,I]
abbrev Y3:Ty:=.agg [I,I,.bool]
abbrev Y4:Ty:=.agg [I,I,I,(.slice .trm)]
abbrev Y5:Ty:=.agg [.str,.bool,(.slice Y3),(.slice Y4)]
abbrev Y6:Ty:=.agg [I,I,I]
abbrev Y7:Ty:=.agg [I,I,I,I,I]
abbrev Y8:Ty:=.agg [(.slice .str),(.slice Y0),(.slice Y1),(.slice Y2),(.slice Y5),(.slice Y6),(.slice Y7),(.slice Y6)]
abbrev Y9:Ty:=.agg [I,I,I,I,I,I,I,I,I]
abbrev qM:Ty:=.agg [I,I]
abbrev gH:Ty:=.agg [I,I,I,I,I,I,I,I,I,I,I,I,I,I,I,(.slice Y9),(.slice qM),(.slice Y9),(.slice Y6),I,I,I,I,I]
abbrev jY:Ty:=.agg [I,I,I,I,I,I,I,I,I,I,I,I,I,I,I,(.slice Y9),(.slice qM),(.slice Y9),(.slice Y6)]
abbrev Uq:Ty:=.agg [.bool,I,I,(.slice I),I]
abbrev Ur:Ty:=.agg [I,I,I,I,I,I,I,I,I,I,I,I,I,I,I]
abbrev lM:Ty:=.agg [.bool,I]
abbrev sm:Ty:=.agg [I,I,(.slice .trm)]
abbrev Us:Ty:=.agg [(.slice lM)]
abbrev Y18:Ty:=.agg [(.slice I),I]
def m9:List (Nat×Sig):=[
 (4,⟨[Y8,I,I,I,gH,(.int .u8)],.bool,.dat⟩),
 (6,⟨[Y8,I,I,I,gH,(.slice Y6)],.bool,.dat⟩),
 (7,⟨[Y8,I,I,I,gH],.bool,.dat⟩),
 (8,⟨[],.bool,.dat⟩),
 (9,⟨[Y8,gH],.bool,.dat⟩),
 (10,⟨[Y8,I,I,I,gH],(.tup [(.slice I),(.slice I),.bool]),.dat⟩),
 (12,⟨[(.slice I),(.slice I)],.bool,.dat⟩),
 (13,⟨[Y8,I,I,I,gH],I,.dat⟩),
 (16,⟨[jY,I,I,I],jY,.dat⟩),
 (18,⟨[gH,(.slice I),(.slice I)],gH,.dat⟩),
 (19,⟨[I],(.tup [(.slice I),(.slice I)]),.dat⟩),
 (20,⟨[(.slice I),(.slice I),(.slice I),(.slice I)],.bool,.dat⟩),
 (21,⟨[Y8,jY],I,.dat⟩),
 (22,⟨[(.slice Y6),I,(.slice I),(.slice I)],.bool,.dat⟩),
 (23,⟨[(.slice Y6)],(.tup [Y8,gH]),.dat⟩),
 (24,⟨[Y8,jY],.bool,.dat⟩),
 (25,⟨[Y8],I,.dat⟩),
 (26,⟨[jY],.bool,.dat⟩),
 (27,⟨[I,I],(.slice (.slice I)),.dat⟩),
 (28,⟨[gH,(.slice I),I],gH,.dat⟩),
 (30,⟨[Y8,I,I,gH],Uq,.dat⟩),
 (32,⟨[Y6,(.ref I),(.ref I)],.bool,.dat⟩),
 (34,⟨[(.slice Y6),(.fn [Y6] .bool)],I,.dat⟩),
 (36,⟨[Y6,(.ref I),(.ref I)],.bool,.dat⟩),
 (37,⟨[(.slice I)],I,.dat⟩),
 (38,⟨[I,I],I,.dat⟩),
 (41,⟨[gH,I],I,.dat⟩),
 (42,⟨[Y8,Ur],I,.dat⟩),
 (43,⟨[Y8,jY,I],I,.dat⟩),
 (44,⟨[I,I,I],.bool,.dat⟩),
 (45,⟨[Y8,jY],I,.dat⟩),
 (46,⟨[jY],I,.dat⟩),
 (47,⟨[Y8],.bool,.dat⟩),
 (48,⟨[jY],.bool,.dat⟩),
 (49,⟨[Y5],.bool,.dat⟩),
 (50,⟨[Y8],(.tup [(.slice .str),(.slice .str),(.slice .str)]),.dat⟩),
 (51,⟨[(.slice .str),I,(.fn [I] .bool)],I,.dat⟩),
 (52,⟨[I],.bool,.dat⟩),
 (53,⟨[I,(.ref Y8)],.bool,.dat⟩),
 (54,⟨[Y8,Y0],.bool,.dat⟩),
 (55,⟨[I,I],.bool,.dat⟩),
 (56,⟨[I,(.ref Y8)],.bool,.dat⟩),
 (57,⟨[I,(.ref Y8)],.bool,.dat⟩),
 (58,⟨[Y5],.bool,.dat⟩),
 (59,⟨[Y8],I,.dat⟩),
 (60,⟨[Y8],I,.dat⟩),
 (61,⟨[gH,I],I,.dat⟩),
 (63,⟨[Y8,I,I,gH],(.tup [Uq,(.slice lM)]),.dat⟩),
 (64,⟨[Y5,I,(.slice lM)],(.tup [lM,I]),.dat⟩),
 (70,⟨[I],.bool,.dat⟩),
 (73,⟨[I,I],.bool,.dat⟩),
 (74,⟨[Ur],.bool,.dat⟩),
 (75,⟨[Y8,I,I],(.tup [I,I]),.dat⟩),
 (76,⟨[Y8,jY,I],.bool,.dat⟩),
 (77,⟨[Y8,jY,Y9],.bool,.dat⟩),
 (78,⟨[sm],.bool,.dat⟩),
 (79,⟨[(.slice .str),I],I,.dat⟩),
 (80,⟨[(.slice I),I,I],.bool,.dat⟩),
 (81,⟨[Y8,gH],(.tup [gH,(.slice lM)]),.dat⟩),
 (82,⟨[I],(.tup [I,.bool]),.dat⟩),
 (83,⟨[Y8,I,gH],(.nsl I),.dat⟩),
 (84,⟨[Y8,I,I,(.slice I)],(.tup [(.slice I),I]),.dat⟩),
 (85,⟨[Y5,I],(.tup [sm,I]),.dat⟩),
 (86,⟨[sm,(.slice lM)],lM,.dat⟩),
 (98,⟨[jY,I,(.slice I)],.bool,.dat⟩),
 (99,⟨[jY,I,I],.bool,.dat⟩),
 (100,⟨[sm,I,I],I,.dat⟩),
 (101,⟨[.str],.bool,.dat⟩),
 (102,⟨[(.slice .str),.str],.bool,.dat⟩),
 (103,⟨[jY,I],jY,(.rows [.dat I,.dat I,.dat I,.dat I,.dat I,.dat I,.dat I,.dat I,.dat I,.dat I,.dat I,.dat I,.dat I,.dat I,.dat I,.row 81 Y9,.row 83 qM,.row 85 Y9,.row 61 Y6])⟩),
 (104,⟨[Y8,gH],(.slice lM),.dat⟩),
 (105,⟨[(.slice I),I],.bool,.dat⟩),
 (106,⟨[Y8,I],I,.dat⟩),
 (107,⟨[Y8,I,I,(.slice I)],.bool,.dat⟩),
 (108,⟨[Y8,I,I,(.slice I)],(.tup [I,.bool]),.dat⟩),
 (109,⟨[(.slice Y4),(.fn [Y4] .bool)],I,.dat⟩),
 (110,⟨[Y4,(.ref I)],.bool,.dat⟩),
 (111,⟨[sm],(.tup [I,I]),.dat⟩),
 (112,⟨[Us,sm],(.tup [lM,(.slice I)]),.dat⟩),
 (122,⟨[(.slice .str),.str],I,.dat⟩),
 (123,⟨[I,I],.bool,.dat⟩),
 (124,⟨[(.slice qM),(.fn [qM] .bool)],.bool,.dat⟩),
 (125,⟨[qM,(.ref gH)],.bool,.dat⟩),
 (126,⟨[.bool],lM,.dat⟩),
 (127,⟨[jY,I,I],lM,.dat⟩),
 (128,⟨[(.slice I),I],I,.dat⟩),
 (129,⟨[(.slice I),(.fn [I] .bool)],.bool,.dat⟩),
 (130,⟨[I,(.ref I)],.bool,.dat⟩),
 (131,⟨[sm,I],I,.dat⟩),
 (132,⟨[sm],(.tup [I,I]),.dat⟩),
 (133,⟨[Us,I],lM,.dat⟩),
 (134,⟨[I,(.slice lM)],lM,.dat⟩),
 (135,⟨[(.slice (.slice I))],(.slice I),.dat⟩),
 (140,⟨[(.slice qM),(.fn [qM] .bool)],I,.dat⟩),
 (141,⟨[(.slice I),(.fn [I] .bool)],I,.dat⟩),
 (142,⟨[sm],(.tup [I,I]),.dat⟩),
 (143,⟨[I],Y18,.dat⟩),
 (144,⟨[I],(.tup [I,.bool]),.dat⟩),
 (145,⟨[.bool],lM,.dat⟩),
 (146,⟨[I],I,.dat⟩),
 (147,⟨[I,I,I],I,.dat⟩),
 (148,⟨[.nils .bool,I],(.slice I),(.row 3 I)⟩),
 (156,⟨[I,I],I,.dat⟩),
 (157,⟨[(.int .u64),(.int .u64)],(.tup [(.int .u64),(.int .u64)]),.dat⟩)]
def L2:List (Nat×CSig):=[
 (32,⟨[(.ref I),(.ref I)],[Y6],.bool⟩),
 (36,⟨[(.ref I),(.ref I)],[Y6],.bool⟩),
 (52,⟨[],[I],.bool⟩),
 (53,⟨[(.ref Y8)],[I],.bool⟩),
 (56,⟨[(.ref Y8)],[I],.bool⟩),
 (57,⟨[(.ref Y8)],[I],.bool⟩),
 (110,⟨[(.ref I)],[Y4],.bool⟩),
 (125,⟨[(.ref gH)],[qM],.bool⟩),
 (130,⟨[(.ref I)],[I],.bool⟩)]
def ctx:Ctx:={P:=Tryz.prog,cap:=bm L2,sig:=bm m9,amb:=fun _=>none,glob:=Rv 0 [6,7,10,12,13,14,15,16,20,21]}
abbrev Kp (i:Nat):Sig:=(bm m9 i).getD default
def cF (a b:List Nat)(f:Func)(i:Nat)(l:List Nat):Option PC:=mF {ctx with fr:=a,nh:=b} f (Kp i) l
theorem bE {o:Option PC}{t:PT}{l:List (Shp×PT)}(h:o.map told=some (t,l)):tree (ah o)=t:=cO (F:=fun _=>(t,l)) h
theorem aN (o:Option PC){p:PT×List (Shp×PT)}(h:o.map told=some p):o=some (ah o):=apn (F:=fun _=>p) h
theorem aP (l a b:List Nat){f:Nat}{fn:Func}{c:PC}(h0:ctx.P.funcs[f]?=some fn)(h1:ctx.sig f=some (Kp f))(h2:mF {ctx with fr:=a,nh:=b} fn (Kp f) l=some c):∃fn s ids fr nh,ctx.P.funcs[f]?=some fn∧ctx.sig f=some s∧mF {ctx with fr:=fr,nh:=nh} fn s ids=some c:=⟨fn,Kp f,l,a,b,h0,h1,h2⟩
abbrev kJ:PE:=.setc (.con (.agg [(.int 0),(.int 0),(.int 0),(.int 0),(.int 0),(.int 0),(.int 0),(.int 0),(.int 0),(.int 0),(.int 0),(.int 0),(.int 0),(.int 0),(.int 0),(.list []),(.list []),(.list []),(.list [])])) 0 (.mk [(.mk [(pi 0),(pi 1),(pi 1),(pi 100),(pi 0),z3,(pi 10),(pi 0),(pi 0),(pi (-1)),(pi 0),(pi 0),(pi 1)]),(.lst [(.mk [(pi 0),(pi 0),(pi 0),(pi (-1)),(pi (-1)),(pi 0),(pi 10),(pi 0),(pi 0)])]),pL,pL,r0])
abbrev D8:PE:=.con (.agg [(.int 0),(.int 0),(.int 0),(.int 0),(.int 0),(.int 0),(.int 0),(.int 0),(.int 0),(.int 0),(.int 0),(.int 0),(.int 0),(.int 0),(.int 0),(.list []),(.list []),(.list []),(.list [])])
abbrev gA:PE:=.con (.agg [(.bool false),(.int 0)])
abbrev u3:PE:=.con (.agg [(.int 0),(.int 0),(.int 0),(.int 0),(.int 0),(.int 0),(.int 0),(.int 0),(.int 0),(.int 0),(.int 0),(.int 0),(.int 0),(.int 0),(.int 0),(.list []),(.list []),(.list []),(.list []),(.int 0),(.int 0),(.int 0),(.int 0),(.int 0)])
abbrev JC:PE:=.setc (.setc (.con (.agg [(.list []),(.list []),(.list []),(.list []),(.list []),(.list []),(.list []),(.list [])])) 0 (.mk [(.lst [(.con (.v (.string ⟨#[102,114,97,110,99]⟩)))]),(.lst [(.mk [(.con (.v (.string ⟨#[76,121,111,110]⟩))),(pi 0),(pi 0),pL,pL,pL])]),(.lst [(.mk [(pi 0)])]),(.lst [(.mk [(.con (.v (.string ⟨#[65]⟩))),(pi 0),(pi 0)]),(.mk [(.con (.v (.string ⟨#[66]⟩))),(pi 0),(pi 0)])]),pL,pL,pL,pL])) 4 pN
abbrev rD:PE:=.deref (.con (.ref (.agg [(.int 6),(.int 7),(.int 10),(.int 12),(.int 13),(.int 14),(.int 15),(.int 16),(.int 20),(.int 21)])))
abbrev jR:PE:=.con (.agg [(.int 0),(.int 0),(.list [])])
abbrev lH:PE:=.setc z3 0 (.mk [(pc (.mk [r0]) 5),(pc (.mk [r0]) 6),(pc (.mk [r0]) 7)])
abbrev JG:PE:=.put (.put (.put (.put (.con (.map [])) (pi 7) (bt (.ai .and .i64 (pc o6 13) (pi 1)) (pi 0))) (pi 8) (aq (pc o6 2) (pi (-1)))) (pi 9) (bt (.ai .and .i64 (pc o6 13) (pi 4)) (pi 0))) (pi 10) (bt (.ai .and .i64 (pc o6 13) (pi 2)) (pi 0))
abbrev oV:PE:=.con (.agg [(.bool false),(.int 0),(.int 0),(.list []),(.int 0)])
abbrev mf:PE:=.con (.agg [(.list []),(.int 0)])
abbrev dx:PE:=pi 4294967296
abbrev oW:PE:=.setc z9 0 (pn (pc (.mk [r1]) 15) r2)
abbrev AB:PE:=.mk [(pc (.setc gA 0 gB) 0),(pc (.setc gA 0 gB) 1)]
abbrev AD:PE:=.setc z9 0 (pn (pc (.mk [r2]) 15) (pc (.mk [r2]) 19))
abbrev P4:PE:=.setc jR 0 (.mk [(pi 5),(pi 0),(.lst [(.mk [(pc (.setc jR 0 (.mk [(pi 2),(pi 15),pL])) 0),(pc (.setc jR 0 (.mk [(pi 2),(pi 15),pL])) 1),pL]),(.mk [(pi 2),(pi 17),pL])])])
abbrev P5:PE:=.put (.put (.put (.con (.map [])) (pi 0) (pc o6 3)) (pi 1) (pc o6 14)) (pi 2) (pc o6 5)
abbrev Jz:PE:=.pick (.pick (aq (.tget Ec 0) (pi 0)) (pc cI 0) pF) (.setc cI 1 (.mn (.mx (pc cI 1) (pi 0)) (pi 20000))) cI
abbrev D7:PE:=.mk [(pc (.setc o4 0 (.mk [pF,(pi 0)])) 0),(pc (.setc o4 0 (.mk [pF,(pi 0)])) 1)]
abbrev JA:PE:=.con (.agg [(.int 0),(.int 0),(.bool false)])
abbrev aaA:PE:=.ai .add .u64 (.ai .mul .u64 (.ai .shr .u64 r0 (.con (.v (.int .u64 32)))) (.ai .and .u64 r1 (.con (.v (.int .u64 4294967295))))) (.ai .shr .u64 (.ai .mul .u64 (.ai .and .u64 r0 (.con (.v (.int .u64 4294967295)))) (.ai .and .u64 r1 (.con (.v (.int .u64 4294967295))))) (.con (.v (.int .u64 32))))
abbrev xw:PE:=.setc (.setc cI 3 (.tget Qk 0)) 4 (.tget Qk 1)
abbrev xx:PE:=pc (.mk [r0]) 2
abbrev P6:PE:=.pick (.pick (.nt iu) (cY (pc (pn r5 bT) 1) (pi 0)) pF) (ak (pc (pn r5 bT) 1) (.llen (pc cI 15))) pF
abbrev P7:PE:=.con (.agg [(.list []),(.list []),(.list []),(.list []),(.list []),(.list []),(.list []),(.list [])])
abbrev P8:PE:=.mk [(pc (.setc o4 0 (.mk [(pi 0),(pi 0),pL])) 0),(pc (.setc o4 0 (.mk [(pi 0),(pi 0),pL])) 1),pL]
abbrev nO:PE:=aI 8 (.mk [r0])
abbrev mg:PE:=.setc o4 0 o5
abbrev aaB:PE:=.pick (.pick (aq (.tget iX 0) (.con (.v (.int .u64 0)))) (ak (.tget iX 1) (.con (.v (.int .u64 1099511627776)))) pF) (.conv .i64 (.tget iX 1)) (pi 1099511627776)
abbrev P9:PE:=aI 5 (.setc o8 0 (.mk [(pc cI 0),(pc cI 1),(pc cI 2),(.o 16394),(pc cI 4)]))
abbrev oX:PE:=.llen (pc o3 2)
abbrev aaC:PE:=.pick (.pick (.pick (ak (pc AD 2) (pi 0)) pT (cY (pc AD 2) (.llen (pc (.mk [r0]) 3)))) pT (ak r1 (pi 0))) pT (cY r1 (.llen (pc (.mk [r0]) 4)))
abbrev Qa:PE:=.put (.con (.map [])) (pi 7) (bt (.ai .and .i64 (pc o6 13) (pi 1)) (pi 0))
abbrev qs:PE:=pc (.mk [r0]) 0
abbrev aaD:PE:=.app o2 (.lst [(pc (.setc (.con (.agg [(.v (.string ⟨#[]⟩)),(.int 0),(.int 0),(.list []),(.list []),(.list [])])) 0 (pn dj cJ)) 0)])
abbrev D9:PE:=cN (pi 2) (pc (pn o7 (pi 0)) 1)
abbrev JB:PE:=.setc jR 0 (.sub (pn (pc o2 3) jS) 1 3)
abbrev tu:PE:=pc (.mk [r0]) 15
abbrev aaE:PE:=.app o4 (.lst [(pc (.setc (.con (.agg [(.v (.string ⟨#[]⟩)),(.bool false),(.list []),(.list [])])) 0 (pn mh m4)) 0)])
abbrev Ea:PE:=pc (.setc D8 0 tz) 18
abbrev AE:PE:=.con (.v (.int .u64 32))
abbrev aaF:PE:=.put (.put (.put JG (pi 11) (bt Qh Qi)) (pi 12) dG) (pi 13) (bt (.ai .and .i64 (pc o8 8) (pi 1)) (pi 0))
abbrev qt:PE:=pn r1 (pi 1)
abbrev Qb:PE:=.put (.put P5 (pi 3) (pc o6 12)) (pi 4) (pc o8 0)
abbrev aaG:PE:=.pick (cm (.llen (pc (pn (pc o1 1) r3) 4)) (pi 70)) pT (cm (.llen (pc (pn (pc o1 1) r3) 5)) (pi 210))
abbrev Eb:PE:=.setc JA 0 (pn jS lI)
abbrev aaH:PE:=.app o3 (.lst [(pc (.setc (.con (.agg [(.v (.string ⟨#[]⟩)),(.int 0),(.int 0)])) 0 (pn lI gB)) 0)])
abbrev aaI:PE:=.app o4 (.lst [(pc (.setc (.con (.agg [(.int 0),(.int 0),(.int 0),(.list [])])) 0 (pn gB tz)) 0)])
abbrev Qc:PE:=aq (pc (pn (pc oP 18) gT) 0) (pc (pn r5 bT) 0)
abbrev u4:PE:=pc (.mk [r0]) 1
abbrev u5:PE:=.llen (pc o1 4)
abbrev u6:PE:=.llen (pc o1 1)
abbrev aaJ:PE:=.an (.cb .eql (pc (pn r1 (pi 0)) 0) (pc AB 0)) (.an (aq (pc (pn r1 (pi 0)) 1) (pc AB 1)) pT)
abbrev aaK:PE:=.app (.o 69637) (.lst [(.mk [(pc (.setc z2 0 (pn tA nP)) 0),(pc (.setc z2 0 (pn tA nP)) 1)])])
abbrev Qd:PE:=.setc o4 0 (.mk [(pc o9 0),(pc o9 1),(pc o9 2)])
abbrev u7:PE:=br r8 (pi 1)
abbrev rC:PE:=.llen xx
abbrev aaL:PE:=.setc o4 0 (.mk [(pc (.setc gA 0 (.tget m0 0)) 0),(pc (.setc gA 0 (.tget m0 0)) 1)])
abbrev aaM:PE:=.app uV (.lst [(.ai .and .i64 (.ai .shr .i64 gT (cN (cN fo (pi 1)) AK)) (pi 1))])
abbrev JD:PE:=.setc gA 0 (.mk [pT,(pi 1)])
abbrev JE:PE:=.setc gA 0 (.mk [pT,(pi 0)])
abbrev JF:PE:=cN (.llen (pc o3 3)) (pi 1)
abbrev xy:PE:=.mk [pF,(pi 0)]
abbrev AF:PE:=pi 1099511627776
abbrev AG:PE:=pc (.mk [r0]) 18
abbrev AH:PE:=.nt (aB r5 bT)
abbrev Qe:PE:=aq (pc (.setc oV 0 iX) 4) (pi 0)
abbrev tw:PE:=aI 24 cI
abbrev u9:PE:=ak bS di
abbrev Qf:PE:=.pick (cY r0 (pi 0)) (ak r0 r1) pF
abbrev AI:PE:=.llen (pc o1 3)
abbrev aaN:PE:=.setc o4 0 (.mk [(pc (.setc gA 0 JM) 0),(pc (.setc gA 0 JM) 1)])
abbrev aaO:PE:=.setc o4 0 (.mk [(pc (.setc gA 0 oZ) 0),(pc (.setc gA 0 oZ) 1)])
abbrev aaP:PE:=.setc mf 0 (.mk [(.lst [(pi 1),(pi (-1)),(pi (-1))]),(pi (-1))])
abbrev aaQ:PE:=.pick (bt (pc o3 22) (pi (-1))) (cN (pc o8 6) (pc o3 22)) (pi 0)
abbrev Qg:PE:=.ai .rem .i64 (pn r8 di) (pi 100)
abbrev aaR:PE:=.pick (.pick (.pick r1 r2 pF) r3 pF) (aq (.llen Ea) (pi 2)) pF
abbrev aaS:PE:=pc (.setc (.con (.agg [(.int 0)])) 0 (.llen (pc (.mk [r0]) 4))) 0
abbrev aaT:PE:=.app (.o 77829) (.lst [(.mk [(pc Pc 0),(pc Pc 1),(pc Pc 2)])])
end Rm
