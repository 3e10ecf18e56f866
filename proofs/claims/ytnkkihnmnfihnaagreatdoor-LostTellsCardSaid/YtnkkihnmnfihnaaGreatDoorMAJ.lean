import Derived.Test.YtnkkihnmnfihnaaGreatDoorMAI
import Derived.Lib.LaidTab
noncomputable section
set_option linter.all false
namespace Cx
open Go Go.RowKit
structure SE where
 r:List (Nat×PE)
 o:List (Nat×PE)
def SE.getR (s:SE)(t:Nat):PE:=match bS s.r t with|some e=>e|none=>.r t
def SE.getO (s:SE)(t:Nat):PE:=match bS s.o t with|some e=>e|none=>.o t
def SE.setR (s:SE)(t:Nat)(e:PE):SE:=⟨(t,e)::s.r,s.o⟩
def SE.setO (s:SE)(t:Nat)(e:PE):SE:=⟨s.r,(t,e)::s.o⟩
def SE.id:SE:=⟨[],[]⟩
def SE.ev (s:SE)(O:Env):Env:=⟨λt=>(s.getR t).ev O,λt=>(s.getO t).ev O⟩
def SE.join (s:SE)(lr lo:List Nat)(s':SE):SE:=⟨lr.map (λt=>(t,s'.getR t))++s.r,lo.map (λt=>(t,s'.getO t))++s.o⟩
def SE.setR_ev (s:SE)(t:Nat)(e:PE)(O:Env):(s.setR t e).ev O=(s.ev O).setR t (e.ev O):=by
 have h:(λu=>((s.setR t e).getR u).ev O)=cr (λu=>(s.getR u).ev O) t (e.ev O):=by
  funext u;simp only[SE.getR,SE.setR,bS,fQ];by_cases h:t=u
  .subst h;simp
  .have h':¬u=t:=λe=>h e.symm;simp[eY h,h']
 simp only[SE.ev,Env.setR];rw[h];rfl
def SE.setO_ev (s:SE)(t:Nat)(e:PE)(O:Env):(s.setO t e).ev O=(s.ev O).setO t (e.ev O):=by
 have h:(λu=>((s.setO t e).getO u).ev O)=cr (λu=>(s.getO u).ev O) t (e.ev O):=by
  funext u;simp only[SE.getO,SE.setO,bS,fQ];by_cases h:t=u
  .subst h;simp
  .have h':¬u=t:=λe=>h e.symm;simp[eY h,h']
 simp only[SE.ev,Env.setO];rw[h];rfl
def zl {f:Nat->PE}{l:List (Nat×PE)}{u:Nat}:∀(lr:List Nat),bS (lr.map (λt=>(t,f t))++l) u=if u∈lr then some (f u) else bS l u
 |[]=>by simp
 |t::lr=>by
  simp only[gn,Io,bS,zl lr,cQ];by_cases h:t=u
  .subst h;simp
  .have h':¬u=t:=λe=>h e.symm;simp[eY h,h']
def SE.join_ev (s s':SE)(lr lo:List Nat)(O:Env):(s.join lr lo s').ev O=(s.ev O).join lr lo (s'.ev O):=by
 have h1:∀u,((s.join lr lo s').getR u).ev O=((s.ev O).join lr lo (s'.ev O)).r u:=by
  intro u;rw[Env.join_r];have e:bS (s.join lr lo s').r u=if u∈lr then some (s'.getR u) else bS s.r u:=zl lr;unfold SE.getR;rw[e];by_cases h:u∈lr
  .simp only[h,if_true];rfl
  .simp only[h,if_false];rfl
 have h2:∀u,((s.join lr lo s').getO u).ev O=((s.ev O).join lr lo (s'.ev O)).o u:=by
  intro u;rw[Env.join_o];have e:bS (s.join lr lo s').o u=if u∈lo then some (s'.getO u) else bS s.o u:=zl lo;unfold SE.getO;rw[e];by_cases h:u∈lo
  .simp only[h,if_true];rfl
  .simp only[h,if_false];rfl
 have e1:(λu=>((s.join lr lo s').getR u).ev O)=((s.ev O).join lr lo (s'.ev O)).r:=funext h1;have e2:(λu=>((s.join lr lo s').getO u).ev O)=((s.ev O).join lr lo (s'.ev O)).o:=funext h2;show Env.mk _ _=_;rw[e1,e2]
abbrev cB:=List (PE×Bool)
def cB.ok (ah:cB)(O:Env):Prop:=∀x,x∈ah->(x.1.ev O).b=x.2
def Iz (e:PE):cB->Option Bool
 |[]=>none
 |x::l=>bif PE.beq x.1 e then some x.2 else Iz e l
def Z8 {e:PE}{O:Env}{b:Bool}:∀{ah:cB},ah.ok O->Iz e ah=some b->(e.ev O).b=b
 |[],_,h=>by cases h
 |x::l,aC,h=>by
  simp only[Iz] at h;cases hb:PE.beq x.1 e<;>simp only[hb,zyy,zyx] at h
  .exact Z8 (λy hy=>aC y (dK _ hy)) h
  .cases h;rw[<-PE.beq_eq _ _ hb];exact aC x (dS ..)
def xE (ah:cB):PE->Option Bool
 |.con (.v (.bool b))=>some b
 |.nt x=>(xE ah x).map (!·)
 |e=>Iz e ah
def Ac {ah:cB}{O:Env}(h:ah.ok O):∀{e:PE} {b:Bool},xE ah e=some b->(e.ev O).b=b
 |.con (.v (.bool b)),b',he=>by simp only[xE,aZ] at he;subst he;rfl
 |.nt x,b',he=>by
  simp only[xE,aD] at he;obtain⟨c,hc,rfl⟩:=he;simp only[PE.ev,D.b_bool,Ac h hc]
 |e,b',he=>by
  unfold xE at he;split at he
  .cases he;rfl
  .rename_i x;simp only[aD] at he;obtain⟨c,hc,rfl⟩:=he;simp only[PE.ev,D.b_bool,Ac h hc]
  .exact Z8 h he
def uZ (ah:cB)(c a b:PE):PE:=match xE ah c with|some true=>a|some false=>b|none=>.pick c a b
def T5 {ah:cB}{O:Env}(h:ah.ok O)(c a b:PE):(uZ ah c a b).ev O=(PE.pick c a b).ev O:=by
 unfold uZ;split
 .rename_i ht;simp[PE.ev,Ac h ht]
 .rename_i ht;simp[PE.ev,Ac h ht]
 .rfl
def Qi:PE->PE
 |.ref x=>x
 |x=>.deref x
def alx (x:PE)(O:Env):(Qi x).ev O=(PE.deref x).ev O:=by unfold Qi;split<;>rfl
def Wi:PE->Nat->PE
 |.tup es,i=>es.getD i (.con .none)
 |x,i=>.tget x i
def axX (x:PE)(i:Nat)(O:Env):(Wi x i).ev O=(PE.tget x i).ev O:=by
 unfold Wi;split
 .rename_i es;simp only[PE.ev,D.tget_tup,PE.evs_eq,aL,cM];cases es[i]?<;>rfl
 .rfl
def Gt:PE->Bool
 |.ai ..|.ci ..|.cb ..|.cs ..|.sadd ..|.nt _|.conv ..|.llen _|.bytes _|.slen _|.mlen _|.idx ..|.sidx ..|.sok ..|.slok ..|.lst _|.app ..|.setn ..|.rep ..|.slc ..|.ref _|.has ..|.put ..|.an ..|.imp ..|.tup _|.clo ..=>true
 |.con (.v _)|.con (.list _)|.con (.map _)=>true
 |_=>false
def aus {e:PE}(h:Gt e=true)(O:Env):(e.ev O).cells=[e.ev O]:=by
 unfold Gt at h;split at h<;>first|rfl|cases h
def P7:PE->Nat->PE
 |.mk es,i=>bif es.all Gt then es.getD i (.con .none) else .cell (.mk es) i
 |x,i=>.cell x i
def aaX {O:Env}:∀{es:List PE},es.all Gt=true->PE.evc O es=PE.evs O es
 |[],_=>rfl
 |e::es,h=>by
  simp only[sl,av] at h;simp only[PE.evc,PE.evs,aus h.1,aaX h.2];rfl
def akX (x:PE)(i:Nat)(O:Env):(P7 x i).ev O=(PE.cell x i).ev O:=by
 unfold P7;split
 .rename_i es;cases hc:es.all Gt
  .rfl
  .simp only[zyy,PE.ev,aaX hc,D.c_agg,PE.evs_eq,aL,cM];cases es[i]?<;>rfl
 .rfl
def E8 (s:SE):List (Nat×Bool)->PE
 |[]=>.con (.v (.bool true))
 |g::gs=>.an (bif g.2 then s.getR g.1 else .nt (s.getR g.1)) (E8 s gs)
def abk (s:SE)(O:Env):∀gs,((E8 s gs).ev O).b=holds gs (s.ev O)
 |[]=>rfl
 |g::gs=>by
  have ih:=abk s O gs;rw[aqp,<-ih];have e:((s.ev O).r g.1)=(s.getR g.1).ev O:=rfl;rw[e];cases hg:g.2
  .simp only[E8,hg,zyx,PE.ev,D.b_bool];cases((s.getR g.1).ev O).b<;>rfl
  .simp only[E8,hg,zyy,PE.ev,D.b_bool];cases((s.getR g.1).ev O).b<;>rfl
mutual
def PE.sub' (ah:cB)(s:SE):PE->PE
 |.r t=>s.getR t
 |.o j=>s.getO j
 |.con d=>.con d
 |.cell e i=>P7 (PE.sub' ah s e) i
 |.sub e a b=>.sub (PE.sub' ah s e) a b
 |.setc e q x=>.setc (PE.sub' ah s e) q (PE.sub' ah s x)
 |.mk es=>.mk (PE.subs' ah s es)
 |.ai op k x y=>.ai op k (PE.sub' ah s x) (PE.sub' ah s y)
 |.ci op x y=>.ci op (PE.sub' ah s x) (PE.sub' ah s y)
 |.cb op x y=>.cb op (PE.sub' ah s x) (PE.sub' ah s y)
 |.cs op x y=>.cs op (PE.sub' ah s x) (PE.sub' ah s y)
 |.sadd x y=>.sadd (PE.sub' ah s x) (PE.sub' ah s y)
 |.nt x=>.nt (PE.sub' ah s x)
 |.conv k x=>.conv k (PE.sub' ah s x)
 |.pick c a b=>uZ ah (PE.sub' ah s c) (PE.sub' ah s a) (PE.sub' ah s b)
 |.llen x=>.llen (PE.sub' ah s x)
 |.bytes x=>.bytes (PE.sub' ah s x)
 |.slen x=>.slen (PE.sub' ah s x)
 |.mlen x=>.mlen (PE.sub' ah s x)
 |.nth x y=>.nth (PE.sub' ah s x) (PE.sub' ah s y)
 |.idx x y=>.idx (PE.sub' ah s x) (PE.sub' ah s y)
 |.sidx x y=>.sidx (PE.sub' ah s x) (PE.sub' ah s y)
 |.sok x y=>.sok (PE.sub' ah s x) (PE.sub' ah s y)
 |.setn x y n z=>.setn (PE.sub' ah s x) (PE.sub' ah s y) n (PE.sub' ah s z)
 |.app x y=>.app (PE.sub' ah s x) (PE.sub' ah s y)
 |.lst es=>.lst (PE.subs' ah s es)
 |.rep x y=>.rep (PE.sub' ah s x) (PE.sub' ah s y)
 |.slc x y z=>.slc (PE.sub' ah s x) (PE.sub' ah s y) (PE.sub' ah s z)
 |.slok x y z=>.slok (PE.sub' ah s x) (PE.sub' ah s y) (PE.sub' ah s z)
 |.ref x=>.ref (PE.sub' ah s x)
 |.deref x=>Qi (PE.sub' ah s x)
 |.look x y z=>.look (PE.sub' ah s x) (PE.sub' ah s y) (PE.sub' ah s z)
 |.has x y=>.has (PE.sub' ah s x) (PE.sub' ah s y)
 |.put x y z=>.put (PE.sub' ah s x) (PE.sub' ah s y) (PE.sub' ah s z)
 |.mn x y=>.mn (PE.sub' ah s x) (PE.sub' ah s y)
 |.mx x y=>.mx (PE.sub' ah s x) (PE.sub' ah s y)
 |.tup es=>.tup (PE.subs' ah s es)
 |.tget x i=>Wi (PE.sub' ah s x) i
 |.clo f es=>.clo f (PE.subs' ah s es)
 |.an x y=>.an (PE.sub' ah s x) (PE.sub' ah s y)
 |.imp c x=>.nt (.an (E8 s c) (.nt (PE.sub' ah s x)))
def PE.subs' (ah:cB)(s:SE):List PE->List PE
 |[]=>[]
 |e::es=>PE.sub' ah s e::PE.subs' ah s es
end
mutual
def PE.sub_ev {ah:cB}{O:Env}(h:ah.ok O)(s:SE):∀(e:PE),(PE.sub' ah s e).ev O=e.ev (s.ev O)
 |.r t=>rfl
 |.o j=>rfl
 |.con d=>rfl
 |.cell e i=>by simp only[PE.sub',akX,PE.ev,PE.sub_ev h s e]
 |.sub e a b=>by simp only[PE.sub',PE.ev,PE.sub_ev h s e]
 |.setc e q x=>by simp only[PE.sub',PE.ev,PE.sub_ev h s e,PE.sub_ev h s x]
 |.mk es=>by simp only[PE.sub',PE.ev,PE.subc_ev h s es]
 |.ai op k x y=>by simp only[PE.sub',PE.ev,PE.sub_ev h s x,PE.sub_ev h s y]
 |.ci op x y=>by simp only[PE.sub',PE.ev,PE.sub_ev h s x,PE.sub_ev h s y]
 |.cb op x y=>by simp only[PE.sub',PE.ev,PE.sub_ev h s x,PE.sub_ev h s y]
 |.cs op x y=>by simp only[PE.sub',PE.ev,PE.sub_ev h s x,PE.sub_ev h s y]
 |.sadd x y=>by simp only[PE.sub',PE.ev,PE.sub_ev h s x,PE.sub_ev h s y]
 |.nt x=>by simp only[PE.sub',PE.ev,PE.sub_ev h s x]
 |.conv k x=>by simp only[PE.sub',PE.ev,PE.sub_ev h s x]
 |.pick c a b=>by simp only[PE.sub',T5 h,PE.ev,PE.sub_ev h s c,PE.sub_ev h s a,PE.sub_ev h s b]
 |.llen x=>by simp only[PE.sub',PE.ev,PE.sub_ev h s x]
 |.bytes x=>by simp only[PE.sub',PE.ev,PE.sub_ev h s x]
 |.slen x=>by simp only[PE.sub',PE.ev,PE.sub_ev h s x]
 |.mlen x=>by simp only[PE.sub',PE.ev,PE.sub_ev h s x]
 |.nth x y=>by simp only[PE.sub',PE.ev,PE.sub_ev h s x,PE.sub_ev h s y]
 |.idx x y=>by simp only[PE.sub',PE.ev,PE.sub_ev h s x,PE.sub_ev h s y]
 |.sidx x y=>by simp only[PE.sub',PE.ev,PE.sub_ev h s x,PE.sub_ev h s y]
 |.sok x y=>by simp only[PE.sub',PE.ev,PE.sub_ev h s x,PE.sub_ev h s y]
 |.setn x y n z=>by simp only[PE.sub',PE.ev,PE.sub_ev h s x,PE.sub_ev h s y,PE.sub_ev h s z]
 |.app x y=>by simp only[PE.sub',PE.ev,PE.sub_ev h s x,PE.sub_ev h s y]
 |.lst es=>by simp only[PE.sub',PE.ev,PE.subs_ev h s es]
 |.rep x y=>by simp only[PE.sub',PE.ev,PE.sub_ev h s x,PE.sub_ev h s y]
 |.slc x y z=>by simp only[PE.sub',PE.ev,PE.sub_ev h s x,PE.sub_ev h s y,PE.sub_ev h s z]
 |.slok x y z=>by simp only[PE.sub',PE.ev,PE.sub_ev h s x,PE.sub_ev h s y,PE.sub_ev h s z]
 |.ref x=>by simp only[PE.sub',PE.ev,PE.sub_ev h s x]
 |.deref x=>by simp only[PE.sub',alx,PE.ev,PE.sub_ev h s x]
 |.look x y z=>by simp only[PE.sub',PE.ev,PE.sub_ev h s x,PE.sub_ev h s y,PE.sub_ev h s z]
 |.has x y=>by simp only[PE.sub',PE.ev,PE.sub_ev h s x,PE.sub_ev h s y]
 |.put x y z=>by simp only[PE.sub',PE.ev,PE.sub_ev h s x,PE.sub_ev h s y,PE.sub_ev h s z]
 |.mn x y=>by simp only[PE.sub',PE.ev,PE.sub_ev h s x,PE.sub_ev h s y]
 |.mx x y=>by simp only[PE.sub',PE.ev,PE.sub_ev h s x,PE.sub_ev h s y]
 |.tup es=>by simp only[PE.sub',PE.ev,PE.subs_ev h s es]
 |.tget x i=>by simp only[PE.sub',axX,PE.ev,PE.sub_ev h s x]
 |.clo f es=>by simp only[PE.sub',PE.ev,PE.subs_ev h s es]
 |.an x y=>by simp only[PE.sub',PE.ev,PE.sub_ev h s x,PE.sub_ev h s y]
 |.imp c x=>by
  simp only[PE.sub',PE.ev,D.b_bool,abk,PE.sub_ev h s x];cases holds c (s.ev O)<;>cases(x.ev (s.ev O)).b<;>rfl
def PE.subs_ev {ah:cB}{O:Env}(h:ah.ok O)(s:SE):∀(es:List PE),PE.evs O (PE.subs' ah s es)=PE.evs (s.ev O) es
 |[]=>rfl
 |e::es=>by simp only[PE.subs',PE.evs,PE.sub_ev h s e,PE.subs_ev h s es]
def PE.subc_ev {ah:cB}{O:Env}(h:ah.ok O)(s:SE):∀(es:List PE),PE.evc O (PE.subs' ah s es)=PE.evc (s.ev O) es
 |[]=>rfl
 |e::es=>by simp only[PE.subs',PE.evc,PE.sub_ev h s e,PE.subc_ev h s es]
end
inductive PT where
 |next (s:SE)
 |exit (id:Nat) (s:SE)
 |ret (e:PE)
 |chk (e:PE) (k:PT)
 |ite (c:PE) (a b:PT)
 |call (s:SE) (gs:List (Nat×Bool)) (dst f:Nat) (args:List PE) (k:PT)
 |callc (s:SE) (gs:List (Nat×Bool)) (dst:Nat) (e:PE) (args:List PE) (k:PT)
 |mcall (s:SE) (j f:Nat) (args:List PE) (k:PT)
 |iteS (s:SE) (c:PE) (lr lo:List Nat) (a b k:PT)
 |blockS (s:SE) (id:Nat) (lr lo:List Nat) (a k:PT)
 |brk (s:SE) (c:PC) (k:PT)
def aK (T:cV):PT->Env->(Out->Prop)->Prop
 |.next s,O,Q=>Q (.next (s.ev O))
 |.exit id s,O,Q=>Q (.exit id (s.ev O))
 |.ret e,O,Q=>Q (.ret (e.ev O))
 |.chk e k,O,Q=>(e.ev O).b=true/\aK T k O Q
 |.ite c a b,O,Q=>if(c.ev O).b=true then aK T a O Q else aK T b O Q
 |.call s gs dst f args k,O,Q=>if holds gs (s.ev O)=true then ∃d,aq T f (PE.evs O args) d/\aK T k ((s.ev O).setR dst d) Q else aK T k (s.ev O) Q
 |.callc s gs dst e args k,O,Q=>if holds gs (s.ev O)=true then ∃f caps d,e.ev O=.clo f caps/\aq T f (PE.evs O args++caps) d/\aK T k ((s.ev O).setR dst d) Q else aK T k (s.ev O) Q
 |.mcall s j f args k,O,Q=>∃d,aq T f (PE.evs O args) d/\aK T k ((s.ev O).setO j d) Q
 |.iteS s c lr lo a b k,O,Q=>if(c.ev O).b=true then aK T a (s.ev O) (ma (s.ev O) lr lo (iy (λO'=>aK T k O' Q) Q)) else aK T b (s.ev O) (ma (s.ev O) lr lo (iy (λO'=>aK T k O' Q) Q))
 |.blockS s id lr lo a k,O,Q=>aK T a (s.ev O) (ny (s.ev O) id lr lo (iy (λO'=>aK T k O' Q) Q))
 |.brk s c k,O,Q=>aN T c (s.ev O) (iy (λO'=>aK T k O' Q) Q)
def qk:PI->Bool
 |.setR ..|.setO ..|.chk _=>true
 |_=>false
def eC:PC->Bool
 |.loop ..=>false
 |.each ..=>false
 |.meach ..=>false
 |.seq a b=>eC a&&eC b
 |.ite _ _ _ a b=>eC a&&eC b
 |.block _ _ _ a=>eC a
 |.is l=>l.all qk
 |_=>true
abbrev Kn:=cB->SE->PT
abbrev Kx:=cB->Nat->SE->PT
def pv:List PI->cB->SE->Kn->PT
 |[],ah,s,k=>k ah s
 |.setR t e::l,ah,s,k=>pv l ah (s.setR t (e.sub' ah s)) k
 |.setO t e::l,ah,s,k=>pv l ah (s.setO t (e.sub' ah s)) k
 |.chk e::l,ah,s,k=>
  match xE ah (e.sub' ah s) with
  |some true=>pv l ah s k
  |_=>.chk (e.sub' ah s) (pv l ((e.sub' ah s,true)::ah) s k)
 |.call gs dst f args::l,ah,s,k=>.call s gs dst f (PE.subs' ah s args) (pv l [] .id k)
 |.callc gs dst e args::l,ah,s,k=>.callc s gs dst (e.sub' ah s) (PE.subs' ah s args) (pv l [] .id k)
 |.mcall j f args::l,ah,s,k=>.mcall s j f (PE.subs' ah s args) (pv l [] .id k)
def SE.merge (s:SE)(ah:cB)(lr lo:List Nat)(c:PE)(a b:SE):SE:=⟨lr.map (λt=>(t,uZ ah c (a.getR t) (b.getR t)))++s.r,lo.map (λt=>(t,uZ ah c (a.getO t) (b.getO t)))++s.o⟩
def rE:List PI->cB->SE->Option SE
 |[],_,s=>some s
 |.setR t e::l,ah,s=>rE l ah (s.setR t (e.sub' ah s))
 |.setO t e::l,ah,s=>rE l ah (s.setO t (e.sub' ah s))
 |_::_,_,_=>none
def plain:PC->cB->SE->Option SE
 |.skip,_,s=>some s
 |.is l,ah,s=>rE l ah s
 |.seq a b,ah,s=>(plain a ah s).bind λs=>plain b ah s
 |.ite c lr lo a b,ah,s=>(plain a ah s).bind λsa=>(plain b ah s).map λsb=>s.merge ah lr lo (c.sub' ah s) sa sb
 |_,_,_=>none
def ac8:PC->Bool
 |.loop ..=>true
 |_=>false
def sx:PC->cB->SE->Kn->Kx->PT
 |.skip,ah,s,k,_=>k ah s
 |.is l,ah,s,k,_=>pv l ah s k
 |.seq a b,ah,s,k,kx=>sx a ah s (λah s=>sx b ah s k kx) kx
 |.ite c lr lo a b,ah,s,k,kx=>
  match xE ah (c.sub' ah s) with
  |some true=>bif eC a then sx a ah s (λah s'=>k ah (s.join lr lo s')) kx else .iteS s (c.sub' ah s) lr lo (sx a [] .id (λ_ s=>.next s) (λ_ id s=>.exit id s)) (sx b [] .id (λ_ s=>.next s) (λ_ id s=>.exit id s)) (k [] .id)
  |some false=>bif eC b then sx b ah s (λah s'=>k ah (s.join lr lo s')) kx else .iteS s (c.sub' ah s) lr lo (sx a [] .id (λ_ s=>.next s) (λ_ id s=>.exit id s)) (sx b [] .id (λ_ s=>.next s) (λ_ id s=>.exit id s)) (k [] .id)
  |none=>
   match plain a ah s,plain b ah s with
   |some sa,some sb=>k ah (s.merge ah lr lo (c.sub' ah s) sa sb)
   |_,_=>
   bif eC a&&eC b then
    .ite (c.sub' ah s) (sx a ((c.sub' ah s,true)::ah) s (λah s'=>k ah (s.join lr lo s')) kx) (sx b ((c.sub' ah s,false)::ah) s (λah s'=>k ah (s.join lr lo s')) kx)
   else .iteS s (c.sub' ah s) lr lo (sx a [] .id (λ_ s=>.next s) (λ_ id s=>.exit id s)) (sx b [] .id (λ_ s=>.next s) (λ_ id s=>.exit id s)) (k [] .id)
 |.block id lr lo a,ah,s,k,kx=>
  bif eC a then sx a ah s (λah s'=>k ah (s.join lr lo s')) (λah cg s'=>bif Nat.beq cg id then k ah (s.join lr lo s') else kx ah cg s')
  else bif ac8 a then .brk s (.block id lr lo a) (k [] .id)
  else .blockS s id lr lo (sx a [] .id (λ_ s=>.next s) (λ_ id s=>.exit id s)) (k [] .id)
 |.loop lr lo a,_,s,k,_=>.brk s (.loop lr lo a) (k [] .id)
 |.each e ps lo rt a,_,s,k,_=>.brk s (.each e ps lo rt a) (k [] .id)
 |.meach J ps cZ lo a,_,s,k,_=>.brk s (.meach J ps cZ lo a) (k [] .id)
 |.exit id,ah,s,_,kx=>kx ah id s
 |.ret e,ah,s,_,_=>.ret (e.sub' ah s)
def cB.ok_nil (O:Env):cB.ok [] O:=λ_ h=>nomatch h
def cB.ok_cons {ah:cB}{O:Env}{e:PE}{b:Bool}(h:ah.ok O)(he:(e.ev O).b=b):cB.ok ((e,b)::ah) O:=λx hx=>by
 rcases cQ.1 hx with e'|hx
 .rw[e'];exact he
 .exact h x hx
def tI {T:cV}{Q:Out->Prop}{K:Env->Prop}{k:Kn}:∀{l:List PI} {ah:cB} {s:SE} {O:Env},ah.ok O->aK T (pv l ah s k) O Q->
 (∀O' ah s,(l.all qk=true->O'=O)->ah.ok O'->aK T (k ah s) O' Q->K (s.ev O'))->iZ T l (s.ev O) K
 |[],ah,s,O,ha,h,hk=>hk O ah s (λ_=>rfl) ha h
 |.setR t e::l,ah,s,O,ha,h,hk=>by
  simp only[iZ];rw[<-PE.sub_ev ha s e,<-SE.setR_ev];exact tI ha h λO' ah s hp=>hk O' ah s λhl=>hp (by simpa [qk] using hl)
 |.setO t e::l,ah,s,O,ha,h,hk=>by
  simp only[iZ];rw[<-PE.sub_ev ha s e,<-SE.setO_ev];exact tI ha h λO' ah s hp=>hk O' ah s λhl=>hp (by simpa [qk] using hl)
 |.chk e::l,ah,s,O,ha,h,hk=>by
  simp only[iZ];rw[<-PE.sub_ev ha s e];simp only[pv] at h;split at h
  .rename_i ht;exact⟨Ac ha ht,tI ha h λO' ah s hp=>hk O' ah s λhl=>hp (by simpa [qk] using hl)⟩
  .exact⟨h.1,tI (cB.ok_cons ha h.1) h.2 λO' ah s hp=>hk O' ah s λhl=>hp (by simpa [qk] using hl)⟩
 |.call gs dst f args::l,ah,s,O,ha,h,hk=>by
  simp only[iZ];simp only[pv,aK,PE.subs_ev ha,PE.sub_ev ha] at h;have bh:∀{ρ0:Env},∀O' ah s,(l.all qk=true->O'=ρ0)->ah.ok O'->aK T (k ah s) O' Q->K (s.ev O'):=λO' ah s _=>hk O' ah s λhl=>by simp[qk] at hl
  split at h
  .rename_i hg;rw[if_pos hg];obtain⟨d,hd,h⟩:=h;exact⟨d,hd,tI (s:=.id) (cB.ok_nil _) h bh⟩
  .rename_i hg;rw[if_neg hg];exact tI (s:=.id) (cB.ok_nil _) h bh
 |.callc gs dst e args::l,ah,s,O,ha,h,hk=>by
  simp only[iZ];simp only[pv,aK,PE.subs_ev ha,PE.sub_ev ha] at h;have bh:∀{ρ0:Env},∀O' ah s,(l.all qk=true->O'=ρ0)->ah.ok O'->aK T (k ah s) O' Q->K (s.ev O'):=λO' ah s _=>hk O' ah s λhl=>by simp[qk] at hl
  split at h
  .rename_i hg;rw[if_pos hg];obtain⟨f,caps,d,he,hd,h⟩:=h;exact⟨f,caps,d,he,hd,tI (s:=.id) (cB.ok_nil _) h bh⟩
  .rename_i hg;rw[if_neg hg];exact tI (s:=.id) (cB.ok_nil _) h bh
 |.mcall j f args::l,ah,s,O,ha,h,hk=>by
  simp only[iZ];simp only[pv,aK,PE.subs_ev ha,PE.sub_ev ha] at h;have bh:∀{ρ0:Env},∀O' ah s,(l.all qk=true->O'=ρ0)->ah.ok O'->aK T (k ah s) O' Q->K (s.ev O'):=λO' ah s _=>hk O' ah s λhl=>by simp[qk] at hl
  obtain⟨d,hd,h⟩:=h;exact⟨d,hd,tI (s:=.id) (cB.ok_nil _) h bh⟩
def SE.merge_ev {ah:cB}{O:Env}(h:ah.ok O)(s a b:SE)(lr lo:List Nat)(c:PE):(s.merge ah lr lo c a b).ev O=(s.ev O).join lr lo (if(c.ev O).b=true then a.ev O else b.ev O):=by
 have h1:∀u,((s.merge ah lr lo c a b).getR u).ev O=((s.ev O).join lr lo (if(c.ev O).b=true then a.ev O else b.ev O)).r u:=by
  intro u;rw[Env.join_r];have e:bS (s.merge ah lr lo c a b).r u=if u∈lr then some (uZ ah c (a.getR u) (b.getR u)) else bS s.r u:=zl lr;have e2:(s.merge ah lr lo c a b).getR u=if u∈lr then uZ ah c (a.getR u) (b.getR u) else s.getR u:=by
   unfold SE.getR;rw[e];by_cases h:u∈lr<;>simp[h,SE.getR]
  rw[e2];by_cases hu:u∈lr
  .simp only[hu,if_true,T5 h,PE.ev];cases hc:(c.ev O).b<;>simp[SE.ev]
  .simp only[hu,if_false];rfl
 have h2:∀u,((s.merge ah lr lo c a b).getO u).ev O=((s.ev O).join lr lo (if(c.ev O).b=true then a.ev O else b.ev O)).o u:=by
  intro u;rw[Env.join_o];have e:bS (s.merge ah lr lo c a b).o u=if u∈lo then some (uZ ah c (a.getO u) (b.getO u)) else bS s.o u:=zl lo;have e2:(s.merge ah lr lo c a b).getO u=if u∈lo then uZ ah c (a.getO u) (b.getO u) else s.getO u:=by
   unfold SE.getO;rw[e];by_cases h:u∈lo<;>simp[h,SE.getO]
  rw[e2];by_cases hu:u∈lo
  .simp only[hu,if_true,T5 h,PE.ev];cases hc:(c.ev O).b<;>simp[SE.ev]
  .simp only[hu,if_false];rfl
 have e1:(λu=>((s.merge ah lr lo c a b).getR u).ev O)=((s.ev O).join lr lo (if(c.ev O).b=true then a.ev O else b.ev O)).r:=funext h1;have e2:(λu=>((s.merge ah lr lo c a b).getO u).ev O)=((s.ev O).join lr lo (if(c.ev O).b=true then a.ev O else b.ev O)).o:=funext h2;show Env.mk _ _=_;rw[e1,e2]
def T7 {T:cV}{ah:cB}{O:Env}(ha:ah.ok O):∀{l:List PI} {s s':SE},rE l ah s=some s'->∀{K:Env->Prop},K (s'.ev O)->iZ T l (s.ev O) K
 |[],s,s',h,K,hk=>by simp only[rE,aZ] at h;subst h;exact hk
 |.setR t e::l,s,s',h,K,hk=>by simp only[iZ];rw[<-PE.sub_ev ha s e,<-SE.setR_ev];exact T7 (l:=l) ha (show rE l ah _=some s' from h) hk
 |.setO t e::l,s,s',h,K,hk=>by simp only[iZ];rw[<-PE.sub_ev ha s e,<-SE.setO_ev];exact T7 (l:=l) ha (show rE l ah _=some s' from h) hk
 |.chk _::_,_,_,h,_,_=>by simp[rE] at h
 |.call ..::_,_,_,h,_,_=>by simp[rE] at h
 |.callc ..::_,_,_,h,_,_=>by simp[rE] at h
 |.mcall ..::_,_,_,h,_,_=>by simp[rE] at h
def avu {T:cV}{ah:cB}{O:Env}(ha:ah.ok O):∀(c:PC) {s s':SE},plain c ah s=some s'->∀{Q:Out->Prop},Q (.next (s'.ev O))->aN T c (s.ev O) Q:=by
 intro c
 induction c with
 |skip=>intro s s' h Q hq;simp only[plain,aZ] at h;subst h;exact .skip hq
 |is l=>intro s s' h Q hq;exact .is (T7 ha h hq)
 |seq a b bC dQ=>
  intro s s' h Q hq;simp only[plain,aA] at h;obtain⟨s1,h1,h2⟩:=h;exact .seq (bC h1 (dQ h2 hq))
 |ite c lr lo a b bC dQ=>
  intro s s' h Q hq;simp only[plain,aA,aD] at h;obtain⟨sa,h1,sb,h2,rfl⟩:=h;rw[SE.merge_ev ha,PE.sub_ev ha] at hq;refine .ite ?_;split
  .rename_i hc;rw[if_pos hc] at hq;exact bC h1 hq
  .rename_i hc;rw[if_neg hc] at hq;exact dQ h2 hq
 |_=>intro s s' h;simp[plain] at h
def NZ {T:cV}:∀(c:PC) {ah:cB} {s:SE} {k:Kn} {kx:Kx} {O:Env} {Q Q':Out->Prop},ah.ok O->aK T (sx c ah s k kx) O Q->
 (∀O' ah s,(eC c=true->O'=O)->ah.ok O'->aK T (k ah s) O' Q->Q' (.next (s.ev O')))->
 (∀O' ah id s,(eC c=true->O'=O)->ah.ok O'->aK T (kx ah id s) O' Q->Q' (.exit id (s.ev O')))->(eC c=false->∀id O',Q (.exit id O')->Q' (.exit id O'))->(∀d,Q (.ret d)->Q' (.ret d))->aN T c (s.ev O) Q':=by
 intro c;have alone:∀(a:PC),(∀{ah:cB} {s:SE} {k:Kn} {kx:Kx} {O:Env} {Q Q':Out->Prop},ah.ok O->aK T (sx a ah s k kx) O Q->
  (∀O' ah s,(eC a=true->O'=O)->ah.ok O'->aK T (k ah s) O' Q->Q' (.next (s.ev O')))->
  (∀O' ah id s,(eC a=true->O'=O)->ah.ok O'->aK T (kx ah id s) O' Q->Q' (.exit id (s.ev O')))->(eC a=false->∀id O',Q (.exit id O')->Q' (.exit id O'))->(∀d,Q (.ret d)->Q' (.ret d))->aN T a (s.ev O) Q')->
  ∀{O:Env} {Q:Out->Prop},aK T (sx a [] .id (λ_ s=>.next s) (λ_ id s=>.exit id s)) O Q->aN T a O Q:=by
  intro a ih O Q h;exact ih (s:=.id) (cB.ok_nil _) h (λO' ah s _ _ h=>h) (λO' ah id s _ _ h=>h) (λ_ _ _ h=>h) (λ_ h=>h)
 induction c with
 |skip=>intro ah s k kx O Q Q' ha h hk _ _ _;exact .skip (hk O ah s (λ_=>rfl) ha h)
 |is l=>intro ah s k kx O Q Q' ha h hk _ _ _;exact .is (tI (K:=λO'=>Q' (.next O')) ha h hk)
 |seq a b bC dQ=>
  intro ah s k kx O Q Q' ha h hk hx lz hr;refine .seq (bC ha h (Q':=iy (λO'=>aN T b O' Q') Q') (λO' ah s hp yA h'=>?_) (λO' ah id s hp yA h'=>?_) (λhp=>?_) hr)
  .refine dQ yA h' (λO2 ah s fb=>hk O2 ah s λhl=>?_) (λO2 ah id s fb=>hx O2 ah id s λhl=>?_) (λfb=>?_) hr
   .simp only[eC,av] at hl;rw[fb hl.2,hp hl.1]
   .simp only[eC,av] at hl;rw[fb hl.2,hp hl.1]
   .exact lz (by simp[eC,fb])
  .exact hx O' ah id s (λhl=>by simp only[eC,av] at hl;exact hp hl.1) yA h'
  .exact lz (by simp[eC,hp])
 |ite c lr lo a b bC dQ=>
  intro ah s k kx O Q Q' ha h hk hx lz hr;have bY:((c.sub' ah s).ev O).b=(c.ev (s.ev O)).b:=by rw[PE.sub_ev ha]
  have struct:(eC a&&eC b)=false->aK T (.iteS s (c.sub' ah s) lr lo (sx a [] .id (λ_ s=>.next s) (λ_ id s=>.exit id s)) (sx b [] .id (λ_ s=>.next s) (λ_ id s=>.exit id s)) (k [] .id)) O Q->aN T (.ite c lr lo a b) (s.ev O) Q':=by
   intro FP h;have sS:eC (.ite c lr lo a b)=false:=FP;simp only[aK,bY] at h
   have conv:∀x,ma (s.ev O) lr lo (iy (λO'=>aK T (k [] .id) O' Q) Q) x->ma (s.ev O) lr lo Q' x:=by
      intro x dC;cases x with
      |next O'=>exact hk _ [] .id (λhl=>by rw[sS] at hl;cases hl) (cB.ok_nil _) dC
      |exit id O'=>exact lz sS id O' dC
      |ret d=>exact hr d dC
   refine .ite ?_;split at h
   .rename_i hc;rw[if_pos hc];exact(alone a bC h).mono conv
   .rename_i hc;rw[if_neg hc];exact(alone b dQ h).mono conv
  have inA:∀xZ,xZ.ok O->eC a=true->aK T (sx a xZ s (λah s'=>k ah (s.join lr lo s')) kx) O Q->aN T a (s.ev O) (ma (s.ev O) lr lo Q'):=by
   intro xZ yA dV h';refine bC yA h' (λO' ah s' hp pP lW=>?_) (λO' ah id s' hp pP lW=>?_) (λhp=>by rw[dV] at hp;cases hp) hr
   .have e:=hp dV;subst e;show Q' (.next _);rw[<-SE.join_ev];exact hk O' ah _ (λ_=>rfl) pP lW
   .have e:=hp dV;subst e;exact hx O' ah id s' (λ_=>rfl) pP lW
  have aw:∀xZ,xZ.ok O->eC b=true->aK T (sx b xZ s (λah s'=>k ah (s.join lr lo s')) kx) O Q->aN T b (s.ev O) (ma (s.ev O) lr lo Q'):=by
   intro xZ yA dV h';refine dQ yA h' (λO' ah s' hp pP lW=>?_) (λO' ah id s' hp pP lW=>?_) (λhp=>by rw[dV] at hp;cases hp) hr
   .have e:=hp dV;subst e;show Q' (.next _);rw[<-SE.join_ev];exact hk O' ah _ (λ_=>rfl) pP lW
   .have e:=hp dV;subst e;exact hx O' ah id s' (λ_=>rfl) pP lW
  simp only[sx] at h;split at h
  .rename_i ht;cases dV:eC a<;>simp only[dV,zyy,zyx] at h
   .exact struct (by simp[dV]) h
   .refine .ite ?_;rw[if_pos (by rw[<-bY];exact Ac ha ht)];exact inA ah ha dV h
  .rename_i ht;cases dV:eC b<;>simp only[dV,zyy,zyx] at h
   .exact struct (by simp[dV]) h
   .refine .ite ?_;rw[if_neg (by rw[<-bY,Ac ha ht];simp)];exact aw ah ha dV h
  .split at h
   .rename_i sa sb hsa lx;have dB:plain (.ite c lr lo a b) ah s=some (s.merge ah lr lo (c.sub' ah s) sa sb):=by simp[plain,hsa,lx]
    exact avu ha _ dB (hk O ah _ (λ_=>rfl) ha h)
   cases dV:(eC a&&eC b)<;>simp only[dV,zyy,zyx] at h
   .exact struct dV h
   .simp only[av] at dV;simp only[aK] at h;refine .ite ?_;rw[<-bY];split at h
    .rename_i hc;rw[if_pos hc];exact inA _ (cB.ok_cons ha hc) dV.1 h
    .rename_i hc;rw[if_neg hc];exact aw _ (cB.ok_cons ha (by simpa using hc)) dV.2 h
 |block id lr lo a bC=>
  intro ah s k kx O Q Q' ha h hk hx lz hr;simp only[sx] at h;cases dV:eC a<;>simp only[dV,zyy,zyx] at h
  .have sS:eC (.block id lr lo a)=false:=dV;cases hl:ac8 a<;>simp only[hl,zyy,zyx] at h
   case true=>
        simp only[aK] at h;refine aN.mono h λx dC=>?_;cases x with
        |next O'=>exact hk _ [] .id (λhl=>by rw[sS] at hl;cases hl) (cB.ok_nil _) dC
        |exit id O'=>exact lz sS id O' dC
        |ret d=>exact hr d dC
   simp only[aK] at h;refine .block ((alone a bC h).mono λx dC=>?_);cases x with
   |next O'=>exact hk _ [] .id (λhl=>by rw[sS] at hl;cases hl) (cB.ok_nil _) dC
   |exit cg O'=>
    simp only[ny] at dC ⊢;split
    .rename_i e;rw[if_pos e] at dC;exact hk _ [] .id (λhl=>by rw[sS] at hl;cases hl) (cB.ok_nil _) dC
    .rename_i e;rw[if_neg e] at dC;exact lz sS cg O' dC
   |ret d=>exact hr d dC
  .refine .block (bC ha h (λO' ah s' hp pP lW=>?_) (λO' ah cg s' hp pP lW=>?_) (λhp=>by rw[dV] at hp;cases hp) hr)
   .have e:=hp dV;subst e;show Q' (.next _);rw[<-SE.join_ev];exact hk O' ah _ (λ_=>rfl) pP lW
   .have e:=hp dV;subst e;simp only[ny];by_cases cR:cg=id
    .subst cR;simp only[iK,zyy] at lW;rw[if_pos rfl,<-SE.join_ev];exact hk O' ah _ (λ_=>rfl) pP lW
    .rw[eY cR,zyx] at lW;rw[if_neg cR];exact hx O' ah cg s' (λ_=>rfl) pP lW
 |loop lr lo a bC=>
  intro ah s k kx O Q Q' ha h hk hx lz hr;simp only[sx,aK] at h;refine aN.mono h λx dC=>?_;cases x with
  |next O'=>exact hk _ [] .id (λhl=>by cases hl) (cB.ok_nil _) dC
  |exit id O'=>exact lz rfl id O' dC
  |ret d=>exact hr d dC
 |each e ps lo rt a bC=>
  intro ah s k kx O Q Q' ha h hk hx lz hr;simp only[sx,aK] at h;refine aN.mono h λx dC=>?_;cases x with
  |next O'=>exact hk _ [] .id (λhl=>by cases hl) (cB.ok_nil _) dC
  |exit id O'=>exact lz rfl id O' dC
  |ret d=>exact hr d dC
 |meach J ps cZ lo a bC=>
  intro ah s k kx O Q Q' ha h hk hx lz hr;simp only[sx,aK] at h;refine aN.mono h λx dC=>?_;cases x with
  |next O'=>exact hk _ [] .id (λhl=>by cases hl) (cB.ok_nil _) dC
  |exit id O'=>exact lz rfl id O' dC
  |ret d=>exact hr d dC
 |exit id=>intro ah s k kx O Q Q' ha h _ hx _ _;exact .exit (hx O ah id s (λ_=>rfl) ha h)
 |ret e=>
  intro ah s k kx O Q Q' ha h _ _ _ hr;simp only[sx,aK] at h;refine .ret (hr _ ?_);rw[PE.sub_ev ha] at h;exact h
def Lk.un (a b:Lk):Lk:=⟨Nat.lor a.r b.r,ku a.o b.o⟩
def bits (l:List Nat):Nat:=l.foldr (λt m=>Nat.lor (eh t) m) 0
def P1 {l:List Nat}{t:Nat}(h:t∈l):aB (bits l) t=true:=by
 induction l with
 |nil=>cases h
 |cons x l ih=>
  show aB (Nat.lor (eh x) (bits l)) t=true;rw[fS];rcases cQ.1 h with e|h
  .subst e;rw[sD];rfl
  .rw[ih h,px]
def Zl:∀{a b:List Nat} {x:Nat},x∈ku a b↔x∈a\/x∈b
 |[],b,x=>by simp[ku]
 |y::a,b,x=>by
  have ih:=Zl (a:=a) (b:=bif fX b y then b else y::b) (x:=x);show x∈ku a _↔_;rw[ih];cases hb:fX b y with
  |true=>simp only[zyy,cQ];have:=(ry b y).1 hb;constructor
         .rintro(h|h);exact .inl (.inr h);exact .inr h
         .rintro((rfl|h)|h);exact .inr this;exact .inl h;exact .inr h
  |false=>simp only[zyx,cQ];constructor
          .rintro(h|h|h);exact .inl (.inr h);exact .inl (.inl h);exact .inr h
          .rintro((h|h)|h);exact .inr (.inl h);exact .inl h;exact .inr (.inr h)
def Lk.Le (a K:Lk):Prop:=(∀t,aB a.r t=true->aB K.r t=true)/\∀j,j∈a.o->j∈K.o
def Lk.le_l (a b:Lk):a.Le (a.un b):=⟨λt h=>by simp only[Lk.un,fS,h,xM],λj h=>Zl.2 (.inl h)⟩
def Lk.le_r (a b:Lk):b.Le (a.un b):=⟨λt h=>by simp only[Lk.un,fS,h,px],λj h=>Zl.2 (.inr h)⟩
def Lk.Le.trans {a b c:Lk}(h:a.Le b)(k:b.Le c):a.Le c:=⟨λt ht=>k.1 t (h.1 t ht),λj hj=>k.2 j (h.2 j hj)⟩
def Alike.le {a K:Lk}{O O':Env}(h:Alike K O O')(k:a.Le K):Alike a O O':=⟨λt ht=>h.r t (k.1 t ht),λj hj=>h.o j (k.2 j hj)⟩
def Lk.Le.of_un {a b K:Lk}(h:(a.un b).Le K):a.Le K/\b.Le K:=⟨(Lk.le_l a b).trans h,(Lk.le_r a b).trans h⟩
def Alike.setR {K:Lk}{O O':Env}(h:Alike K O O')(t:Nat)(d:D):Alike K (O.setR t d) (O'.setR t d):=⟨λu hu=>by rw[Env.setR_r,Env.setR_r];split;rfl;exact h.r u hu,h.o⟩
def Alike.setO {K:Lk}{O O':Env}(h:Alike K O O')(t:Nat)(d:D):Alike K (O.setO t d) (O'.setO t d):=⟨h.r,λu hu=>by rw[Env.setO_o,Env.setO_o];split;rfl;exact h.o u hu⟩
def Alike.join {K:Lk}{O O' G G':Env}(h:Alike K O O')(k:Alike K G G')(lr lo:List Nat):Alike K (O.join lr lo G) (O'.join lr lo G'):=
 ⟨λu hu=>by rw[Env.join_r,Env.join_r];split;exact k.r u hu;exact h.r u hu,λu hu=>by rw[Env.join_o,Env.join_o];split;exact k.o u hu;exact h.o u hu⟩
def T9 {f g:Nat->D}{u:Nat}(h:g u=f u):∀(ts:List Nat) (xs:List D),putL g ts xs u=putL f ts xs u
 |[],xs=>by rw[MH,MH];exact h
 |t::ts,[]=>by simp only[putL];exact h
 |t::ts,x::xs=>by rw[MG,MG];split;rfl;exact T9 h ts xs
def Alike.put {K:Lk}{O O':Env}(h:Alike K O O')(lr lo:List Nat)(vr vo:List D):Alike K (O.put lr vr lo vo) (O'.put lr vr lo vo):=⟨λu hu=>T9 (h.r u hu) lr vr,λu hu=>T9 (h.o u hu) lo vo⟩
def PI.lkw:PI->Lk
 |.setR t e=>e.lk.un ⟨eh t,[]⟩
 |.setO j e=>e.lk.un ⟨0,[j]⟩
 |.chk e=>e.lk
 |.call gs dst f aa=>(PI.call gs dst f aa).lk.un ⟨eh dst,[]⟩
 |.callc gs dst e aa=>(PI.callc gs dst e aa).lk.un ⟨eh dst,[]⟩
 |.mcall j f aa=>(PI.mcall j f aa).lk.un ⟨0,[j]⟩
def PC.lk:PC->Lk
 |.skip=>.none
 |.exit _=>.none
 |.is l=>l.foldr (λp k=>p.lkw.un k) .none
 |.seq a b=>(PC.lk a).un (PC.lk b)
 |.ite c _ _ a b=>c.lk.un ((PC.lk a).un (PC.lk b))
 |.block _ _ _ a=>PC.lk a
 |.loop lr lo a=>(⟨bits lr,lo⟩:Lk).un (PC.lk a)
 |.ret e=>e.lk
 |.each e _ lo rt a=>e.lk.un ((match rt with|some e=>e.lk|none=>.none).un ((⟨0,lo⟩:Lk).un (PC.lk a)))
 |.meach J _ _ lo a=>(⟨0,J::lo⟩:Lk).un (PC.lk a)
structure Off (K:Lk) (b G G':Env):Prop where
 al:Alike K G G'
 r:∀t,aB K.r t=false->G'.r t=b.r t
 o:∀j,j∉K.o->G'.o j=b.o j
def vQ (K:Lk)(b:Env):Out->Out->Prop
 |.next G,x=>∃G',x=.next G'/\Off K b G G'
 |.exit i G,x=>∃G',x=.exit i G'/\Off K b G G'
 |.ret d,x=>x=.ret d
def Off.uniq {K:Lk}{b G G' η2:Env}(h:Off K b G G')(k:Off K b G η2):η2=G':=by
 have h1:∀t,η2.r t=G'.r t:=λt=>by
  cases hb:aB K.r t with
  |true=>rw[k.al.r t hb,h.al.r t hb]
  |false=>rw[k.r t hb,h.r t hb]
 have h2:∀t,η2.o t=G'.o t:=λt=>by
  by_cases hb:t∈K.o
  .rw[k.al.o t hb,h.al.o t hb]
  .rw[k.o t hb,h.o t hb]
 cases η2;cases G'
 congr
 .exact funext h1
 .exact funext h2
def vQ.uniq {K:Lk}{b:Env}{x y z:Out}(h:vQ K b x y)(k:vQ K b x z):z=y:=by
 cases x with
 |next G=>obtain⟨a,rfl,h⟩:=h;obtain⟨c,rfl,k⟩:=k;rw[h.uniq k]
 |exit i G=>obtain⟨a,rfl,h⟩:=h;obtain⟨c,rfl,k⟩:=k;rw[h.uniq k]
 |ret d=>rw[h,k]
def Off.setR {K:Lk}{b G G':Env}(h:Off K b G G'){t:Nat}(ht:aB K.r t=true)(d:D):Off K b (G.setR t d) (G'.setR t d):=
 ⟨h.al.setR t d,λu hu=>by rw[Env.setR_r,if_neg (λe=>by rw[e,ht] at hu;cases hu)];exact h.r u hu,h.o⟩
def Off.setO {K:Lk}{b G G':Env}(h:Off K b G G'){t:Nat}(ht:t∈K.o)(d:D):Off K b (G.setO t d) (G'.setO t d):=
 ⟨h.al.setO t d,h.r,λu hu=>by rw[Env.setO_o,if_neg (λe=>hu (by rw[e];exact ht))];exact h.o u hu⟩
def Off.join {K:Lk}{b G G' ζ ζ':Env}(h:Off K b G G')(k:Off K b ζ ζ')(lr lo:List Nat):Off K b (G.join lr lo ζ) (G'.join lr lo ζ'):=
 ⟨h.al.join k.al lr lo,λu hu=>by rw[Env.join_r];split;exact k.r u hu;exact h.r u hu,λu hu=>by rw[Env.join_o];split;exact k.o u hu;exact h.o u hu⟩
def Uc {f:Nat->D}{b:D}{u:Nat}(h:f u=b):∀(ts:List Nat) (xs:List D),u∉ts->putL f ts xs u=b
 |[],xs,_=>by rw[MH];exact h
 |t::ts,[],_=>by simp only[putL];exact h
 |t::ts,x::xs,hu=>by rw[MG,if_neg (λe=>hu (by simp[e]))];exact Uc h ts xs (λe=>hu (by simp[e]))
def Off.put {K:Lk}{b G G':Env}(h:Off K b G G'){lr lo:List Nat}(hr:∀t,t∈lr->aB K.r t=true)(ho:∀t,t∈lo->t∈K.o)(vr vo:List D):Off K b (G.put lr vr lo vo) (G'.put lr vr lo vo):=
 ⟨h.al.put lr lo vr vo,λu hu=>Uc (h.r u hu) lr vr (λe=>by rw[hr u e] at hu;cases hu),λu hu=>Uc (h.o u hu) lo vo (λe=>hu (ho u e))⟩
def PI.run_off {Z:aW}{K:Lk}{b O O' G:Env}{p:PI}(hp:p.lkw.Le K)(h:Off K b O O')(hr:p.run Z O=some G):∃G',p.run Z O'=some G'/\Off K b G G':=by
 have uI:p.lk.Le K:=by cases p<;>first|exact hp|exact hp.of_un.1
 rw[PI.run_eff,PI.eff_alike p (h.al.le uI)];rw[PI.run_eff] at hr;cases he:p.eff Z O with
 |none=>rw[he] at hr;cases hr
 |some x=>
  rw[he] at hr;simp only[ld,aZ] at hr;subst hr;refine⟨_,rfl,?_⟩;have hb:∀{t:Nat} {a:Lk},(a.un ⟨eh t,[]⟩).Le K->aB K.r t=true:=λh=>h.of_un.2.1 _ (sD _);have ho:∀{t:Nat} {a:Lk},(a.un ⟨0,[t]⟩).Le K->t∈K.o:=λh=>h.of_un.2.2 _ (by simp);cases p with
  |setR t e=>simp only[PI.eff,aZ] at he;subst he;exact h.setR (hb hp) _
  |setO t e=>simp only[PI.eff,aZ] at he;subst he;exact h.setO (ho hp) _
  |chk e=>simp only[PI.eff] at he;cases yD:(e.ev O).b<;>rw[yD] at he<;>cases he;exact h
  |call gs d f aa=>
   simp only[PI.eff] at he;cases yD:holds gs O<;>simp only[yD,zyy,zyx,aZ,aD] at he
   .subst he;exact h
   .obtain⟨y,_,rfl⟩:=he;exact h.setR (hb hp) _
  |callc gs d e aa=>
   simp only[PI.eff] at he;cases yD:holds gs O<;>simp only[yD,zyy,zyx,aZ] at he
   .subst he;exact h
   .split at he
    .simp only[aD] at he;obtain⟨y,_,rfl⟩:=he;exact h.setR (hb hp) _
    .cases he
  |mcall j f aa=>simp only[PI.eff,aD] at he;obtain⟨y,_,rfl⟩:=he;exact h.setO (ho hp) _
def PI.runs_off {Z:aW}{K:Lk}{b:Env}:∀{l:List PI} {O O' G:Env},(l.foldr (λp k=>p.lkw.un k) Lk.none).Le K->Off K b O O'->PI.runs Z l O=some G->∃G',PI.runs Z l O'=some G'/\Off K b G G'
 |[],O,O',G,_,h,hr=>by simp only[PI.runs,aZ] at hr ⊢;subst hr;exact⟨_,rfl,h⟩
 |p::l,O,O',G,hl,h,hr=>by
  simp only[PI.runs,aA] at hr;obtain⟨ρ1,h1,h2⟩:=hr;obtain⟨O2,h3,h4⟩:=PI.run_off hl.of_un.1 h h1;obtain⟨G',h5,h6⟩:=PI.runs_off (l:=l) hl.of_un.2 h4 h2;exact⟨G',by simp only[PI.runs,h3,lb,h5],h6⟩
def zo {K:Lk}{b G G':Env}(h:Off K b G G'){lo:List Nat}(ho:∀t,t∈lo->t∈K.o):lo.map G'.o=lo.map G.o:=xR λt ht=>h.al.o t (ho t ht)
def ad0 {K:Lk}{b G G':Env}(h:Off K b G G'){lr:List Nat}(hr:∀t,t∈lr->aB K.r t=true):lr.map G'.r=lr.map G.r:=xR λt ht=>h.al.r t (hr t ht)
def PC.ev_off {Z:aW}{n:Nat}{K:Lk}:∀(c:PC),c.lk.Le K->∀{b O O':Env} {x:Out},Off K b O O'->c.ev Z n O=some x->∃x',c.ev Z n O'=some x'/\vQ K b x x':=by
 intro c
 induction c with
 |skip=>intro _ b O O' x h hr;simp only[PC.ev,aZ] at hr ⊢;subst hr;exact⟨_,rfl,_,rfl,h⟩
 |exit id=>intro _ b O O' x h hr;simp only[PC.ev,aZ] at hr ⊢;subst hr;exact⟨_,rfl,_,rfl,h⟩
 |ret e=>intro hk B O O' x h hr;simp only[PC.ev,aZ] at hr ⊢;subst hr;exact⟨_,rfl,by rw[PE.ev_alike e (h.al.le hk)];rfl⟩
 |is l=>
  intro hk B O O' x h hr;simp only[PC.ev,aD] at hr;obtain⟨G,h1,rfl⟩:=hr;obtain⟨G',h2,h3⟩:=PI.runs_off hk h h1;exact⟨.next G',by simp only[PC.ev,h2,ld],G',rfl,h3⟩
 |seq a b bC dQ=>
  intro hk B O O' x h hr;simp only[PC.ev] at hr ⊢;cases ha:a.ev Z n O with
  |none=>rw[ha] at hr;cases hr
  |some y=>
   obtain⟨y',h1,h2⟩:=bC hk.of_un.1 h ha;rw[ha] at hr;rw[h1];cases y with
   |next G=>obtain⟨G',rfl,h3⟩:=h2;exact dQ hk.of_un.2 h3 hr
   |exit i G=>obtain⟨G',rfl,h3⟩:=h2;cases hr;exact⟨_,rfl,G',rfl,h3⟩
   |ret d=>cases h2;cases hr;exact⟨_,rfl,rfl⟩
 |ite c lr lo a b bC dQ=>
  intro hk B O O' x h hr;have hc:(c.ev O').b=(c.ev O).b:=by rw[PE.ev_alike c (h.al.le hk.of_un.1)]
  have key:∀(d:PC),(∀{O O':Env} {x:Out},Off K B O O'->d.ev Z n O=some x->∃x',d.ev Z n O'=some x'/\vQ K B x x')->(match d.ev Z n O with|some (.next G)=>some (.next (O.join lr lo G))|x=>x)=some x->
      ∃x',(match d.ev Z n O' with|some (.next G)=>some (.next (O'.join lr lo G))|x=>x)=some x'/\vQ K B x x':=by
   intro d ih hr;cases ha:d.ev Z n O with
   |none=>rw[ha] at hr;cases hr
   |some y=>
    obtain⟨y',h1,h2⟩:=ih h ha;rw[ha] at hr;rw[h1];cases y with
    |next G=>obtain⟨G',rfl,h3⟩:=h2;cases hr;exact⟨_,rfl,_,rfl,h.join h3 lr lo⟩
    |exit i G=>obtain⟨G',rfl,h3⟩:=h2;cases hr;exact⟨_,rfl,G',rfl,h3⟩
    |ret d=>cases h2;cases hr;exact⟨_,rfl,rfl⟩
  simp only[PC.ev,hc] at hr ⊢;cases jH:(c.ev O).b<;>simp only[jH,zyy,zyx] at hr ⊢
  .exact key b (λh1 h2=>dQ hk.of_un.2.of_un.2 h1 h2) hr
  .exact key a (λh1 h2=>bC hk.of_un.2.of_un.1 h1 h2) hr
 |block id lr lo a bC=>
  intro hk B O O' x h hr;simp only[PC.ev] at hr ⊢;cases ha:a.ev Z n O with
  |none=>rw[ha] at hr;cases hr
  |some y=>
   obtain⟨y',h1,h2⟩:=bC hk h ha;rw[ha] at hr;rw[h1];cases y with
   |next G=>obtain⟨G',rfl,h3⟩:=h2;cases hr;exact⟨_,rfl,_,rfl,h.join h3 lr lo⟩
   |exit i G=>
    obtain⟨G',rfl,h3⟩:=h2;simp only at hr ⊢;cases hb:Nat.beq i id<;>simp only[hb,zyy,zyx] at hr ⊢<;>cases hr
    .exact⟨_,rfl,G',rfl,h3⟩
    .exact⟨_,rfl,_,rfl,h.join h3 lr lo⟩
   |ret d=>cases h2;cases hr;exact⟨_,rfl,rfl⟩
 |loop lr lo a bC=>
  intro hk B O O' x h hr;have jN:∀t,t∈lr->aB K.r t=true:=λt ht=>hk.of_un.1.1 t (P1 ht);have kM:∀t,t∈lo->t∈K.o:=λt ht=>hk.of_un.1.2 t ht;have key:∀(m:Nat) (vr vo:List D),gC (a.ev Z n) O lr lo m vr vo=some x->∃x',gC (a.ev Z n) O' lr lo m vr vo=some x'/\vQ K B x x':=by
   intro m
   induction m with
   |zero=>intro vr vo h;simp[gC] at h
   |succ m Sn=>
    intro vr vo hr;simp only[gC] at hr ⊢;cases ha:a.ev Z n (O.put lr vr lo vo) with
    |none=>rw[ha] at hr;cases hr
    |some y=>
     obtain⟨y',h1,h2⟩:=bC hk.of_un.2 (h.put jN kM vr vo) ha;rw[ha] at hr;rw[h1];cases y with
     |next G=>obtain⟨G',rfl,h3⟩:=h2;simp only[zo h3 kM,ad0 h3 jN];exact Sn _ _ hr
     |exit i G=>obtain⟨G',rfl,h3⟩:=h2;cases hr;exact⟨_,rfl,G',rfl,h3⟩
     |ret d=>cases h2;cases hr;exact⟨_,rfl,rfl⟩
  simp only[PC.ev] at hr ⊢;rw[zo h kM,ad0 h jN];exact key n _ _ hr
 |each e ps lo rt a bC=>
  intro hk B O O' x h hr;obtain⟨bq,cn⟩:=hk.of_un;obtain⟨cn,fB⟩:=cn.of_un;obtain⟨fB,oC⟩:=fB.of_un;have kM:∀t,t∈lo->t∈K.o:=λt ht=>fB.2 t ht;have key:∀(xs vo:List D),ia (a.ev Z n) O ps lo rt xs vo=some x->∃x',ia (a.ev Z n) O' ps lo rt xs vo=some x'/\vQ K B x x':=by
   intro xs
   induction xs with
   |nil=>intro vo hr;simp only[ia,aZ] at hr ⊢;subst hr;exact⟨_,rfl,_,rfl,h.put (λ_ h=>by cases h) kM _ _⟩
   |cons y xs kl=>
    intro vo hr;simp only[ia] at hr ⊢;cases ha:a.ev Z n (O.put ps (partsOf ps y) lo vo) with
    |none=>rw[ha] at hr;cases hr
    |some z=>
     have ki:Off K (O'.put ps (partsOf ps y) lo vo) (O.put ps (partsOf ps y) lo vo) (O'.put ps (partsOf ps y) lo vo):=⟨h.al.put ps lo _ _,λ_ _=>rfl,λ_ _=>rfl⟩
     obtain⟨z',h1,h2⟩:=bC oC ki ha;rw[ha] at hr;rw[h1];cases z with
     |next G=>obtain⟨G',rfl,h3⟩:=h2;simp only[zo h3 kM];exact kl _ hr
     |exit i G=>
      obtain⟨G',rfl,h3⟩:=h2;simp only[zo h3 kM] at hr ⊢;have hp:=h.put (lr:=[]) (λ_ h=>by cases h) kM [] (lo.map G.o);cases hb:Nat.beq i cY<;>simp only[hb,zyy,zyx] at hr ⊢
      .cases hr;exact⟨_,rfl,_,rfl,hp⟩
      .cases rt with
       |none=>cases hr
       |some e2=>cases hr;exact⟨_,rfl,by show Out.ret _=Out.ret _;rw[PE.ev_alike e2 (hp.al.le cn)]⟩
     |ret d=>cases hr
  simp only[PC.ev] at hr ⊢;rw[PE.ev_alike e (h.al.le bq),zo h kM];exact key _ _ hr
 |meach J ps cZ lo a bC=>
  intro hk B O O' x h hr;obtain⟨fB,oC⟩:=hk.of_un;have kM:∀t,t∈lo->t∈K.o:=λt ht=>fB.2 t (dK _ ht);have hJ:O'.o J=O.o J:=h.al.o J (fB.2 J (dS ..));have key:∀(es:D) (xs done vo oa:List D),mQ (a.ev Z n) O J es ps cZ lo xs done vo=some oa->mQ (a.ev Z n) O' J es ps cZ lo xs done vo=some oa:=by
   intro es xs
   induction xs with
   |nil=>intro done vo oa h;exact h
   |cons y xs kl=>
    intro done vo oa hr;simp only[mQ] at hr ⊢;cases ha:a.ev Z n ((O.put ps (cZ.map y.tget) lo vo).setO J (.tup [.list (done++[y]),es])) with
    |none=>rw[ha] at hr;cases hr
    |some z=>
     have ki:Off K ((O'.put ps (cZ.map y.tget) lo vo).setO J (.tup [.list (done++[y]),es])) ((O.put ps (cZ.map y.tget) lo vo).setO J (.tup [.list (done++[y]),es])) ((O'.put ps (cZ.map y.tget) lo vo).setO J (.tup [.list (done++[y]),es])):=
          ⟨(h.al.put ps lo _ _).setO J _,λ_ _=>rfl,λ_ _=>rfl⟩
     obtain⟨z',h1,h2⟩:=bC oC ki ha;rw[ha] at hr;rw[h1];cases z with
     |next G=>obtain⟨G',rfl,h3⟩:=h2;simp only[zo h3 kM];exact kl _ _ _ hr
     |exit i G=>cases hr
     |ret d=>cases hr
  simp only[PC.ev,zB] at hr;obtain⟨vo,⟨h1,h2⟩,rfl⟩:=hr;refine⟨.next (O'.put [] [] lo vo),?_,_,rfl,h.put (λ_ h=>by cases h) kM _ _⟩;simp only[PC.ev,zB];refine⟨vo,⟨by rw[hJ];exact h1,λys hy=>?_⟩,rfl⟩;rw[hJ] at hy ⊢;rw[zo h kM];exact key _ _ _ _ _ (h2 ys hy)
def pJ:List Nat->PC->Bool
 |l,.exit id=>fX l id
 |l,.seq a b=>pJ l a&&pJ l b
 |l,.ite _ _ _ a b=>pJ l a&&pJ l b
 |l,.block id _ _ a=>pJ (id::l) a
 |l,.loop _ _ a=>pJ l a
 |l,.each _ _ _ _ a=>pJ (cY::l) a
 |_,_=>true
def amG {Z:aW}{n:Nat}:∀(c:PC) {l:List Nat},pJ l c=true->∀{O:Env} {i:Nat} {G:Env},c.ev Z n O=some (.exit i G)->i∈l:=by
 intro c
 induction c with
 |skip=>intro l _ O i G h;simp[PC.ev] at h
 |exit id=>intro l hl O i G h;simp only[PC.ev,aZ] at h;injection h with h1 h2;subst h1;exact(ry _ _).1 hl
 |ret e=>intro l _ O i G h;simp[PC.ev] at h
 |is _=>intro l _ O i G h;simp[PC.ev] at h
 |seq a b bC dQ=>
  intro l hl O i G h;simp only[pJ,av] at hl;simp only[PC.ev] at h;split at h
  .exact dQ hl.2 h
  .exact bC hl.1 h
 |ite c lr lo a b bC dQ=>
  intro l hl O i G h;simp only[pJ,av] at hl;simp only[PC.ev] at h;cases hc:(c.ev O).b<;>simp only[hc,zyy,zyx] at h
  .split at h
   .cases h
   .exact dQ hl.2 h
  .split at h
   .cases h
   .exact bC hl.1 h
 |block id lr lo a bC=>
  intro l hl O i G h;simp only[PC.ev] at h;split at h
  .cases h
  .rename_i cg O2 ha;cases hb:Nat.beq cg id<;>simp only[hb,zyy,zyx] at h<;>cases h;rcases cQ.1 (bC hl ha) with e|e
   .subst e;rw[iK] at hb;cases hb
   .exact e
  .rename_i h1 h2;exact absurd h (h2 _ _)
 |loop lr lo a bC=>
  intro l hl O i G h;have key:∀(m:Nat) (vr vo:List D),gC (a.ev Z n) O lr lo m vr vo=some (.exit i G)->i∈l:=by
   intro m
   induction m with
   |zero=>intro vr vo h;simp[gC] at h
   |succ m Sn=>
    intro vr vo h;simp only[gC] at h;split at h
    .exact Sn _ _ h
    .exact bC hl h
  exact key _ _ _ h
 |each e ps lo rt a bC=>
  intro l hl O i G h;have key:∀(xs vo:List D),ia (a.ev Z n) O ps lo rt xs vo=some (.exit i G)->i∈l:=by
   intro xs
   induction xs with
   |nil=>intro vo h;simp[ia] at h
   |cons x xs kl=>
    intro vo h;simp only[ia] at h;split at h
    .exact kl _ h
    .rename_i cg O2 ha;cases hb:Nat.beq cg cY<;>simp only[hb,zyy,zyx] at h
     .injection h with h;injection h with h1 h2;subst h1
      rcases cQ.1 (bC hl ha) with e|e
      .subst e;rw[iK] at hb;cases hb
      .exact e
     .cases rt<;>simp at h
    .cases h
  exact key _ _ h
 |meach J ps cZ lo a _=>
  intro l _ O i G h;simp only[PC.ev,zB] at h;obtain⟨vo,_,h⟩:=h;cases h
def ac5 (t:Nat):PE->Bool
 |.r u=>Nat.beq u t
 |_=>false
def ac6 (t:Nat):PE->Bool
 |.o u=>Nat.beq u t
 |_=>false
def fk (p8:Nat->PE->Bool)(p:Nat->Bool):List Nat->List (Nat×PE)->List (Nat×PE)
 |_,[]=>[]
 |seen,x::l=>bif p x.1&& !fX seen x.1 then(bif p8 x.1 x.2 then fk p8 p (x.1::seen) l else x::fk p8 p (x.1::seen) l) else fk p8 p seen l
def KH {p8:Nat->PE->Bool}{p:Nat->Bool}:∀{l:List (Nat×PE)} {seen:List Nat} {t:Nat},fX seen t=true->bS (fk p8 p seen l) t=none
 |[],_,_,_=>rfl
 |x::l,seen,t,h=>by
  have h':fX (x.1::seen) t=true:=by rw[ry] at h ⊢;exact dK _ h
  simp only[fk];cases hb:(p x.1&& !fX seen x.1) with
  |false=>exact KH h
  |true=>
   simp only[zyy];cases p8 x.1 x.2 with
   |true=>exact KH h'
   |false=>
    simp only[zyx,bS];have:Nat.beq x.1 t=false:=by
      cases e:Nat.beq x.1 t with
      |false=>rfl
      |true=>rw[df e,h] at hb;simp at hb
    rw[this];exact KH h'
def E0 {p8:Nat->PE->Bool}{p:Nat->Bool}{dflt:Nat->PE}(cR:∀t e,p8 t e=true->e=dflt t):∀{l:List (Nat×PE)} {seen:List Nat} {t:Nat},p t=true->fX seen t=false->
 (match bS (fk p8 p seen l) t with|some e=>e|none=>dflt t)=(match bS l t with|some e=>e|none=>dflt t)
 |[],_,_,_,_=>rfl
 |x::l,seen,t,hp,hs=>by
  simp only[fk,bS];cases e:Nat.beq x.1 t with
  |true=>
   have e':=df e;rw[e',hp,hs];simp only[Bool.not_false,Bool.and_self,zyy];cases hi:p8 t x.2 with
   |true=>simp only[zyy];rw[KH (by rw[ry];exact dS ..)];exact(cR _ _ hi).symm
   |false=>simp only[zyx,bS,e,zyy]
  |false=>
   simp only[zyx];cases hb:(p x.1&& !fX seen x.1) with
   |false=>exact E0 cR hp hs
   |true=>
    have fD:fX (x.1::seen) t=false:=by
      cases hm:fX (x.1::seen) t with
      |false=>rfl
      |true=>
       rcases cQ.1 ((ry _ _).1 hm) with h|h
       .rw[h,iK] at e;cases e
       .rw[(ry _ _).2 h] at hs;cases hs
    simp only[zyy];cases p8 x.1 x.2 with
    |true=>exact E0 cR hp fD
    |false=>simp only[zyx,bS,e];exact E0 cR hp fD
def SE.cut (s:SE)(k:Lk):SE:=⟨fk ac5 (aB k.r) [] s.r,fk ac6 (fX k.o) [] s.o⟩
def SA (l:List (Nat×PE)):Lk:=l.foldr (λx k=>x.2.lk.un k) .none
def SE.lks (s:SE):Lk:=(SA s.r).un (SA s.o)
def SB:∀{l:List (Nat×PE)} {t:Nat} {e:PE},bS l t=some e->e.lk.Le (SA l)
 |[],_,_,h=>by cases h
 |x::l,t,e,h=>by
  simp only[bS] at h;cases hb:Nat.beq x.1 t<;>simp only[hb,zyy,zyx] at h
  .exact(SB h).trans (Lk.le_r _ _)
  .cases h;exact Lk.le_l _ _
def SE.cut_al {s:SE}{L:Lk}{ρ1 O2:Env}(h:Alike (L.un (s.cut L).lks) ρ1 O2):Alike L ((s.cut L).ev ρ1) (s.ev O2):=by
 have hL:=h.le (Lk.le_l _ _);have hs:=h.le (Lk.le_r _ _);constructor
 .intro t ht;show(s.getR t).ev O2=((s.cut L).getR t).ev ρ1;have e:(s.cut L).getR t=s.getR t:=E0 (dflt:=.r) (λt e he=>by unfold ac5 at he;split at he;rw[df he];cases he) ht rfl;rw[<-e];cases hl:bS (s.cut L).r t with
  |none=>have:(s.cut L).getR t=.r t:=by unfold SE.getR;rw[hl]
         rw[this];exact hL.r t ht
  |some x=>have:(s.cut L).getR t=x:=by unfold SE.getR;rw[hl]
           rw[this];exact PE.ev_alike x (hs.le ((SB hl).trans (Lk.le_l _ _)))
 .intro t ht;show(s.getO t).ev O2=((s.cut L).getO t).ev ρ1;have e:(s.cut L).getO t=s.getO t:=E0 (dflt:=.o) (λt e he=>by unfold ac6 at he;split at he;rw[df he];cases he) ((ry _ _).2 ht) rfl;rw[<-e];cases hl:bS (s.cut L).o t with
  |none=>have:(s.cut L).getO t=.o t:=by unfold SE.getO;rw[hl]
         rw[this];exact hL.o t ht
  |some x=>have:(s.cut L).getO t=x:=by unfold SE.getO;rw[hl]
           rw[this];exact PE.ev_alike x (hs.le ((SB hl).trans (Lk.le_r _ _)))
structure LC where
 next:Lk
 ov:List (Nat×Lk)
def LC.all (c:LC):Lk:=c.ov.foldr (λx k=>x.2.un k) .none
def OP (c:LC)(Q1 Q2:Out->Prop):Prop:=
 (∀ρ1 O2,Alike c.next ρ1 O2->Q1 (.next ρ1)->Q2 (.next O2))/\(∀id k ρ1 O2,bS c.ov id=some k->Alike k ρ1 O2->Q1 (.exit id ρ1)->Q2 (.exit id O2))/\∀d,Q1 (.ret d)->Q2 (.ret d)
def gG:LC->PT->Option (PT×Lk)
 |c,.next s=>some (.next (s.cut c.next),c.next.un (s.cut c.next).lks)
 |c,.exit id s=>(bS c.ov id).map λk=>(.exit id (s.cut k),k.un (s.cut k).lks)
 |_,.ret e=>some (.ret e,e.lk)
 |c,.chk e k=>(gG c k).map λr=>(.chk e r.1,e.lk.un r.2)
 |c,.ite e a b=>(gG c a).bind λx=>(gG c b).map λy=>(.ite e x.1 y.1,e.lk.un (x.2.un y.2))
 |c,.call s gs dst f args k=>(gG c k).map λr=>(.call (s.cut (r.2.un (nC gs))) gs dst f args r.1,(PE.lks args).un ((r.2.un (nC gs)).un (s.cut (r.2.un (nC gs))).lks))
 |c,.callc s gs dst e args k=>(gG c k).map λr=>(.callc (s.cut (r.2.un (nC gs))) gs dst e args r.1,(e.lk.un (PE.lks args)).un ((r.2.un (nC gs)).un (s.cut (r.2.un (nC gs))).lks))
 |c,.mcall s j f args k=>(gG c k).map λr=>(.mcall (s.cut r.2) j f args r.1,(PE.lks args).un (r.2.un (s.cut r.2).lks))
 |c,.iteS s e lr lo a b k=>(gG c k).bind λr=>(gG ⟨r.2,c.ov⟩ a).bind λx=>(gG ⟨r.2,c.ov⟩ b).map λy=>
    (.iteS (s.cut (r.2.un (x.2.un y.2))) e lr lo x.1 y.1 r.1,e.lk.un ((r.2.un (x.2.un y.2)).un (s.cut (r.2.un (x.2.un y.2))).lks))
 |c,.blockS s id lr lo a k=>(gG c k).bind λr=>(gG ⟨r.2,(id,r.2)::c.ov⟩ a).map λx=>(.blockS (s.cut (r.2.un x.2)) id lr lo x.1 r.1,(r.2.un x.2).un (s.cut (r.2.un x.2)).lks)
 |c,.brk s p k=>(gG c k).bind λr=>bif pJ (c.ov.map (·.1)) p then some (.brk (s.cut (p.lk.un (r.2.un c.all))) p r.1,(p.lk.un (r.2.un c.all)).un (s.cut (p.lk.un (r.2.un c.all))).lks) else none
def LC.all_le:∀{l:List (Nat×Lk)} {id:Nat} {k:Lk},bS l id=some k->k.Le (l.foldr (λx k=>x.2.un k) .none)
 |[],_,_,h=>by cases h
 |x::l,t,e,h=>by
  simp only[bS] at h;cases hb:Nat.beq x.1 t<;>simp only[hb,zyy,zyx] at h
  .exact(LC.all_le h).trans (Lk.le_r _ _)
  .cases h;exact Lk.le_l _ _
def adz:∀{l:List (Nat×Lk)} {id:Nat},id∈l.map (·.1)->∃k,bS l id=some k
 |[],_,h=>by cases h
 |x::l,id,h=>by
  simp only[bS];cases hb:Nat.beq x.1 id with
  |true=>exact⟨_,rfl⟩
  |false=>
   simp only[zyx];rcases cQ.1 h with e|h
   .rw[e,iK] at hb;cases hb
   .exact adz h
def avA {T:cV}:∀(t:PT) {c:LC} {t':PT} {L:Lk},gG c t=some (t',L)->∀{Q1 Q2:Out->Prop} {ρ1 O2:Env},OP c Q1 Q2->Alike L ρ1 O2->aK T t' ρ1 Q1->aK T t O2 Q2:=by
 intro t
 induction t with
 |next s=>
  intro c t' L hp Q1 Q2 ρ1 O2 hQ hA h;simp only[gG,aZ,py] at hp;obtain⟨rfl,rfl⟩:=hp;exact hQ.1 _ _ (SE.cut_al hA) h
 |exit id s=>
  intro c t' L hp Q1 Q2 ρ1 O2 hQ hA h;simp only[gG,aD,py] at hp;obtain⟨k,hk,rfl,rfl⟩:=hp;exact hQ.2.1 _ k _ _ hk (SE.cut_al hA) h
 |ret e=>
  intro c t' L hp Q1 Q2 ρ1 O2 hQ hA h;simp only[gG,aZ,py] at hp;obtain⟨rfl,rfl⟩:=hp;show Q2 (.ret (e.ev O2));rw[PE.ev_alike e hA];exact hQ.2.2 _ h
 |chk e k ih=>
  intro c t' L hp Q1 Q2 ρ1 O2 hQ hA h;simp only[gG,aD,py] at hp;obtain⟨r,hr,rfl,rfl⟩:=hp;exact⟨by rw[PE.ev_alike e (hA.le (Lk.le_l _ _))];exact h.1,ih hr hQ (hA.le (Lk.le_r _ _)) h.2⟩
 |ite e a b bC dQ=>
  intro c t' L hp Q1 Q2 ρ1 O2 hQ hA h;simp only[gG,aA,aD,py] at hp;obtain⟨x,hx,y,hy,rfl,rfl⟩:=hp;have h2:=hA.le (Lk.le_r _ _);simp only[aK] at h ⊢;rw[PE.ev_alike e (hA.le (Lk.le_l _ _))];split
  .rename_i hc;rw[if_pos hc] at h;exact bC hx hQ (h2.le (Lk.le_l _ _)) h
  .rename_i hc;rw[if_neg hc] at h;exact dQ hy hQ (h2.le (Lk.le_r _ _)) h
 |call s gs dst f args k ih=>
  intro c t' L hp Q1 Q2 ρ1 O2 hQ hA h;simp only[gG,aD,py] at hp;obtain⟨r,hr,rfl,rfl⟩:=hp;have hS:=SE.cut_al (hA.le (Lk.le_r _ _));simp only[aK] at h ⊢;rw[PE.evs_alike args (hA.le (Lk.le_l _ _)),Ce (hS.le (Lk.le_r _ _))];split
  .rename_i hc;rw[if_pos hc] at h;obtain⟨d,hd,h⟩:=h;exact⟨d,hd,ih hr hQ ((hS.le (Lk.le_l _ _)).setR dst d) h⟩
  .rename_i hc;rw[if_neg hc] at h;exact ih hr hQ (hS.le (Lk.le_l _ _)) h
 |callc s gs dst e args k ih=>
  intro c t' L hp Q1 Q2 ρ1 O2 hQ hA h;simp only[gG,aD,py] at hp;obtain⟨r,hr,rfl,rfl⟩:=hp;have hS:=SE.cut_al (hA.le (Lk.le_r _ _));have hE:=hA.le (Lk.le_l _ _);simp only[aK] at h ⊢;rw[PE.ev_alike e (hE.le (Lk.le_l _ _)),PE.evs_alike args (hE.le (Lk.le_r _ _)),Ce (hS.le (Lk.le_r _ _))];split
  .rename_i hc;rw[if_pos hc] at h;obtain⟨f,caps,d,he,hd,h⟩:=h;exact⟨f,caps,d,he,hd,ih hr hQ ((hS.le (Lk.le_l _ _)).setR dst d) h⟩
  .rename_i hc;rw[if_neg hc] at h;exact ih hr hQ (hS.le (Lk.le_l _ _)) h
 |mcall s j f args k ih=>
  intro c t' L hp Q1 Q2 ρ1 O2 hQ hA h;simp only[gG,aD,py] at hp;obtain⟨r,hr,rfl,rfl⟩:=hp;have hS:=SE.cut_al (hA.le (Lk.le_r _ _));simp only[aK] at h ⊢;rw[PE.evs_alike args (hA.le (Lk.le_l _ _))];obtain⟨d,hd,h⟩:=h;exact⟨d,hd,ih hr hQ (hS.setO j d) h⟩
 |iteS s e lr lo a b k bC dQ lD=>
  intro c t' L hp Q1 Q2 ρ1 O2 hQ hA h;simp only[gG,aA,aD,py] at hp;obtain⟨r,hr,x,hx,y,hy,rfl,rfl⟩:=hp;have hS:=SE.cut_al (hA.le (Lk.le_r _ _));have KZ:=hS.le (Lk.le_l _ _);have Fa:=hS.le ((Lk.le_l _ _).trans (Lk.le_r _ _));have hSy:=hS.le ((Lk.le_r _ _).trans (Lk.le_r _ _))
  have rel:OP ⟨r.2,c.ov⟩ (ma ((s.cut (r.2.un (x.2.un y.2))).ev ρ1) lr lo (iy (λO'=>aK T r.1 O' Q1) Q1)) (ma (s.ev O2) lr lo (iy (λO'=>aK T k O' Q2) Q2)):=
   ⟨λη1 η2 ha hq=>lD hr hQ (KZ.join ha lr lo) hq,λid k' η1 η2 hk ha hq=>hQ.2.1 id k' _ _ hk ha hq,λd hq=>hQ.2.2 d hq⟩
  simp only[aK] at h ⊢;rw[PE.ev_alike e (hA.le (Lk.le_l _ _))];split
  .rename_i hc;rw[if_pos hc] at h;exact bC hx rel Fa h
  .rename_i hc;rw[if_neg hc] at h;exact dQ hy rel hSy h
 |blockS s id lr lo a k bC lD=>
  intro c t' L hp Q1 Q2 ρ1 O2 hQ hA h;simp only[gG,aA,aD,py] at hp;obtain⟨r,hr,x,hx,rfl,rfl⟩:=hp;have hS:=SE.cut_al hA;have KZ:=hS.le (Lk.le_l _ _);refine bC hx (Q1:=ny ((s.cut (r.2.un x.2)).ev ρ1) id lr lo (iy (λO'=>aK T r.1 O' Q1) Q1)) ⟨λη1 η2 ha hq=>lD hr hQ (KZ.join ha lr lo) hq,λcg k' η1 η2 hk ha hq=>?_,λd hq=>hQ.2.2 d hq⟩ (hS.le (Lk.le_r _ _)) h;simp only[ny] at hq ⊢;simp only[bS] at hk;by_cases e:cg=id
  .subst e;simp only[iK,zyy,aZ] at hk;subst hk;rw[if_pos rfl] at hq ⊢;exact lD hr hQ (KZ.join ha lr lo) hq
  .rw[if_neg e] at hq ⊢;rw[eY (λh=>e h.symm),zyx] at hk;exact hQ.2.1 cg k' _ _ hk ha hq
 |brk s p k lD=>
  intro c t' L hp Q1 Q2 ρ1 O2 hQ hA h;simp only[gG,aA] at hp;obtain⟨r,hr,hp⟩:=hp;cases hx:pJ (c.ov.map (·.1)) p<;>simp only[hx,zyy,zyx,aZ,py] at hp
  .cases hp
  obtain⟨rfl,rfl⟩:=hp;have hS:=SE.cut_al hA;have ki:Off (p.lk.un (r.2.un c.all)) (s.ev O2) ((s.cut (p.lk.un (r.2.un c.all))).ev ρ1) (s.ev O2):=⟨hS,λ_ _=>rfl,λ_ _=>rfl⟩
  obtain⟨x,hq,n0,hn⟩:=h;have step:=λn (hle:n0<=n)=>PC.ev_off p (Lk.le_l _ _) ki (hn n hle);obtain⟨x',h1,h2⟩:=step n0 (bB _);refine⟨x',?_,n0,λn hle=>?_⟩
  .cases x with
   |next G=>obtain⟨G',rfl,h3⟩:=h2;exact lD hr hQ (h3.al.le ((Lk.le_l _ _).trans (Lk.le_r _ _))) hq
   |exit i G=>
    obtain⟨G',rfl,h3⟩:=h2;obtain⟨k',bh⟩:=adz (amG p hx (hn n0 (bB _)));exact hQ.2.1 i k' _ _ bh (h3.al.le ((LC.all_le bh).trans ((Lk.le_r _ _).trans (Lk.le_r _ _)))) hq
   |ret d=>cases h2;exact hQ.2.2 d hq
  .obtain⟨x2,h3,h4⟩:=step n hle;rw[h3,h2.uniq h4]
def GD (c:LC)(t:PT):PT:=match gG c t with|some r=>r.1|none=>t
def MF {T:cV}{c:LC}{t:PT}{Q:Out->Prop}{O:Env}(hQ:OP c Q Q)(h:aK T (GD c t) O Q):aK T t O Q:=by
 unfold GD at h;split at h
 .rename_i r hr;exact avA t hr hQ ⟨λ_ _=>rfl,λ_ _=>rfl⟩ h
 .exact h
def aiY (c:PC):PT:=sx c [] .id (λ_ s=>.next s) (λ_ id s=>.exit id s)
def aiZ {T:cV}{c:PC}{O:Env}{Q:Out->Prop}(h:aK T (aiY c) O Q):aN T c O Q:=
 NZ (s:=.id) c (cB.ok_nil _) h (λO' ah s _ _ h=>h) (λO' ah id s _ _ h=>h) (λ_ _ _ h=>h) (λ_ h=>h)
def tree (c:PC):PT:=GD ⟨.none,[]⟩ (aiY c)
def Ol {T:cV}{c:PC}{O:Env}{d:D}(h:aK T (tree c) O λx=>x=.ret d):aN T c O λx=>x=.ret d:=
 aiZ (MF ⟨λ_ _ _ h=>(by cases h),λ_ _ _ _ _ _ h=>(by cases h),λ_ h=>h⟩ h)
def SE.keep (s:SE)(lr lo:List Nat):SE:=⟨lr.map λt=>(t,s.getR t),lo.map λt=>(t,s.getO t)⟩
def SE.keep_r (s:SE)(lr lo:List Nat)(O:Env):lr.map ((s.keep lr lo).ev O).r=lr.map (s.ev O).r:=by
 apply xR;intro t ht;show((s.keep lr lo).getR t).ev O=(s.getR t).ev O;have:=zl (f:=λt=>s.getR t) (l:=[]) (u:=t) lr;rw[nm,if_pos ht] at this;have e:(s.keep lr lo).getR t=s.getR t:=by unfold SE.getR SE.keep;simp only[];rw[this];rfl
 rw[e]
def SE.keep_o (s:SE)(lr lo:List Nat)(O:Env):lo.map ((s.keep lr lo).ev O).o=lo.map (s.ev O).o:=by
 apply xR;intro t ht;show((s.keep lr lo).getO t).ev O=(s.getO t).ev O;have:=zl (f:=λt=>s.getO t) (l:=[]) (u:=t) lo;rw[nm,if_pos ht] at this;have e:(s.keep lr lo).getO t=s.getO t:=by unfold SE.getO SE.keep;simp only[];rw[this];rfl
 rw[e]
def aii (id:Nat)(bO bN lr lo:List Nat)(a:PC):PT:=
 sx a [] .id (λ_ s=>.next (s.keep lr lo)) (λ_ cg s=>bif Nat.beq cg id then .exit id (s.keep bO bN) else .exit cg s)
def fO (O:Env)(id:Nat)(bO bN lr lo:List Nat)(K:List D->List D->Prop)(Q:Out->Prop):Out->Prop
 |.next O'=>K (lr.map O'.r) (lo.map O'.o)
 |.exit cg O'=>if cg=id then Q (.next (O.put bO (bO.map O'.r) bN (bN.map O'.o))) else Q (.exit cg O')
 |.ret d=>Q (.ret d)
def round (id:Nat)(bO bN lr lo:List Nat)(a:PC):PT:=GD ⟨⟨bits lr,lo⟩,[(id,⟨bits bO,bN⟩)]⟩ (aii id bO bN lr lo a)
def adZ {k:Lk}{lr:List Nat}{ρ1 O2:Env}(h:Alike k ρ1 O2)(hk:∀t,t∈lr->aB k.r t=true):lr.map O2.r=lr.map ρ1.r:=xR λt ht=>h.r t (hk t ht)
def L9 {k:Lk}{lo:List Nat}{ρ1 O2:Env}(h:Alike k ρ1 O2)(hk:∀t,t∈lo->t∈k.o):lo.map O2.o=lo.map ρ1.o:=xR λt ht=>h.o t (hk t ht)
def axd {T:cV}{id:Nat}{bO bN lr lo:List Nat}{a:PC}{O ρ0:Env}{K:List D->List D->Prop}{Q:Out->Prop}(h:aK T (round id bO bN lr lo a) O (fO ρ0 id bO bN lr lo K Q)):aK T (aii id bO bN lr lo a) O (fO ρ0 id bO bN lr lo K Q):=by
 refine MF ⟨λρ1 O2 ha hq=>?_,λcg k ρ1 O2 hk ha hq=>?_,λd hq=>hq⟩ h
 .simp only[fO] at hq ⊢;rw[adZ ha λt ht=>P1 ht,L9 ha λt ht=>ht];exact hq
 .simp only[bS] at hk;cases hb:Nat.beq id cg<;>simp only[hb,zyy,zyx] at hk
  .cases hk
  .cases hk;have:=df hb;subst this;simp only[fO,if_true] at hq ⊢;rw[adZ ha λt ht=>P1 ht,L9 ha λt ht=>ht];exact hq
def aN.forLoop {T:cV}{id:Nat}{bO bN lr lo:List Nat}{a:PC}{O:Env}{Q:Out->Prop}{α:Type}(inv:α->List D->List D->Prop)(wW:α->Nat)(s0:α)(h0:inv s0 (lr.map O.r) (lo.map O.o))
 (step:∀s vr vo,inv s vr vo->aK T (round id bO bN lr lo a) (O.put lr vr lo vo) (fO O id bO bN lr lo (λvr vo=>∃s',wW s'<wW s/\inv s' vr vo) Q)):aN T (.block id bO bN (.loop lr lo a)) O Q:=by
 refine .block (.loop inv wW s0 h0 λs vr vo hi=>?_);have h:=axd (step s vr vo hi);refine NZ (s:=.id) a (cB.ok_nil _) h (λO' ah s' _ _ h=>?_) (λO' ah cg s' _ _ h=>?_) (λ_ cg O' h=>?_) (λd h=>h)
 .simp only[aK,fO] at h;rw[SE.keep_r,SE.keep_o] at h;exact h
 .simp only[iy,ny];by_cases cR:cg=id
  .subst cR;simp only[iK,zyy,aK,fO,if_true] at h;rw[SE.keep_r,SE.keep_o] at h;rw[if_pos rfl];exact h
  .rw[eY cR,zyx] at h;simp only[aK,fO] at h;rw[if_neg cR] at h ⊢;exact h
 .simp only[iy,ny];simp only[fO] at h;split
  .rename_i e;rw[if_pos e] at h;exact h
  .rename_i e;rw[if_neg e] at h;exact h
def aij (lo:List Nat)(a:PC):PT:=sx a [] .id (λ_ s=>.next (s.keep [] lo)) (λ_ id s=>.exit id (s.keep [] lo))
def rV (lo:List Nat)(a:PC):PT:=GD ⟨⟨0,lo⟩,[(cY,⟨0,lo⟩)]⟩ (aij lo a)
def aik {T:cV}{lo:List Nat}{a:PC}{O:Env}{Q:Out->Prop}(hn:∀ρ1 O2,lo.map O2.o=lo.map ρ1.o->Q (.next ρ1)->Q (.next O2))(hx:∀ρ1 O2,lo.map O2.o=lo.map ρ1.o->Q (.exit cY ρ1)->Q (.exit cY O2))(h:aK T (rV lo a) O Q):aK T (aij lo a) O Q:=by
 refine MF ⟨λρ1 O2 ha hq=>hn ρ1 O2 (L9 ha λt ht=>ht) hq,λcg k ρ1 O2 hk ha hq=>?_,λd hq=>hq⟩ h;simp only[bS] at hk;cases hb:Nat.beq cY cg<;>simp only[hb,zyy,zyx] at hk
 .cases hk
 .cases hk;have:=df hb;subst this;exact hx ρ1 O2 (L9 ha λt ht=>ht) hq
def aN.eachR {T:cV}{e:PE}{ps lo:List Nat}{rt:Option PE}{a:PC}{O:Env}{Q:Out->Prop}(xs:List D)(he:(e.ev O).l=xs)(inv:Nat->List D->Prop)(h0:inv 0 (lo.map O.o))
 (step:∀k x vo,xs[k]?=some x->inv k vo->aK T (rV lo a) (O.put ps (partsOf ps x) lo vo) (ud O lo rt (inv (k+1)) Q)) (done:∀vo,inv xs.length vo->Q (.next (O.put [] [] lo vo))):aN T (.each e ps lo rt a) O Q:=by
 refine .each xs he inv h0 (λk x vo hx hi=>?_) done;have h:=aik (λρ1 O2 e hq=>by simp only[ud] at hq ⊢;rw[e];exact hq) (λρ1 O2 e hq=>by simp only[ud,if_true] at hq ⊢;rw[e];exact hq) (step k x vo hx hi);refine NZ (s:=.id) a (cB.ok_nil _) h (λO' ah s' _ _ h=>?_) (λO' ah cg s' _ _ h=>?_) (λ_ cg O' h=>h) (λd h=>h)
 .simp only[aK,ud] at h;rw[SE.keep_o] at h;exact h
 .simp only[aK,ud] at h;rw[SE.keep_o] at h;exact h
def aN.meachR {T:cV}{J:Nat}{ps cZ lo:List Nat}{a:PC}{O:Env}{Q:Out->Prop}(es:List (D×D))(he:O.o J=.tup [.list [],.map es])(inv:List D->List D->Prop)(h0:inv [] (lo.map O.o))
 (step:∀done x rest vo,(done++x::rest).Perm (jt (.map es))->inv done vo->aK T (rV lo a) ((O.put ps (cZ.map x.tget) lo vo).setO J (.tup [.list (done++[x]),.map es])) (λy=>∃O',y=.next O'/\inv (done++[x]) (lo.map O'.o)))
 (last:∃vo,(∀done,done.Perm (jt (.map es))->∀oa,inv done oa->oa=vo)/\Q (.next (O.put [] [] lo vo))):aN T (.meach J ps cZ lo a) O Q:=by
 refine .meach es he inv h0 (λdone x rest vo hp hi=>?_) last;have h:=aik (λρ1 O2 e ⟨O',e1,hq⟩=>by cases e1;exact⟨_,rfl,by rw[e];exact hq⟩) (λρ1 O2 e ⟨O',e1,hq⟩=>by cases e1) (step done x rest vo hp hi);refine NZ (s:=.id) a (cB.ok_nil _) h (λO' ah s' _ _ h=>?_) (λO' ah cg s' _ _ h=>?_) (λ_ cg O' h=>?_) (λd h=>?_)
 .simp only[aK] at h;obtain⟨O2,e,h⟩:=h;injection e with e;subst e;rw[SE.keep_o] at h;exact⟨_,rfl,h⟩
 .simp only[aK] at h;obtain⟨O2,e,h⟩:=h;cases e
 .obtain⟨O2,e,_⟩:=h;cases e
 .obtain⟨O2,e,_⟩:=h;cases e
def Ao {T:cV}:∀(t:PT) {O:Env} {Q Q':Out->Prop},(∀x,Q x->Q' x)->aK T t O Q->aK T t O Q':=by
 intro t
 induction t with
 |next s=>intro O Q Q' h hx;exact h _ hx
 |exit id s=>intro O Q Q' h hx;exact h _ hx
 |ret e=>intro O Q Q' h hx;exact h _ hx
 |chk e k ih=>intro O Q Q' h hx;exact⟨hx.1,ih h hx.2⟩
 |ite c a b bC dQ=>
  intro O Q Q' h hx;simp only[aK] at hx ⊢;split
  .rename_i hc;rw[if_pos hc] at hx;exact bC h hx
  .rename_i hc;rw[if_neg hc] at hx;exact dQ h hx
 |call s gs dst f args k ih=>
  intro O Q Q' h hx;simp only[aK] at hx ⊢;split
  .rename_i hc;rw[if_pos hc] at hx;obtain⟨d,hd,hx⟩:=hx;exact⟨d,hd,ih h hx⟩
  .rename_i hc;rw[if_neg hc] at hx;exact ih h hx
 |callc s gs dst e args k ih=>
  intro O Q Q' h hx;simp only[aK] at hx ⊢;split
  .rename_i hc;rw[if_pos hc] at hx;obtain⟨f,c,d,he,hd,hx⟩:=hx;exact⟨f,c,d,he,hd,ih h hx⟩
  .rename_i hc;rw[if_neg hc] at hx;exact ih h hx
 |mcall s j f args k ih=>intro O Q Q' h hx;obtain⟨d,hd,hx⟩:=hx;exact⟨d,hd,ih h hx⟩
 |iteS s c lr lo a b k bC dQ lD=>
  intro O Q Q' h hx
  have hq:∀x,ma (s.ev O) lr lo (iy (λO'=>aK T k O' Q) Q) x->ma (s.ev O) lr lo (iy (λO'=>aK T k O' Q') Q') x:=by
   intro x hx;cases x with
   |next O'=>exact lD h hx
   |exit id O'=>exact h _ hx
   |ret d=>exact h _ hx
  simp only[aK] at hx ⊢;split
  .rename_i hc;rw[if_pos hc] at hx;exact bC hq hx
  .rename_i hc;rw[if_neg hc] at hx;exact dQ hq hx
 |blockS s id lr lo a k bC lD=>
  intro O Q Q' h hx;refine bC (λx hx=>?_) hx;cases x with
  |next O'=>exact lD h hx
  |exit cg O'=>
   simp only[ny] at hx ⊢;split
   .rename_i e;rw[if_pos e] at hx;exact lD h hx
   .rename_i e;rw[if_neg e] at hx;exact h _ hx
  |ret d=>exact h _ hx
 |brk s c k ih=>
  intro O Q Q' h hx;refine aN.mono hx λx hx=>?_;cases x with
  |next O'=>exact ih h hx
  |exit id O'=>exact h _ hx
  |ret d=>exact h _ hx
def aN.forRounds {T:cV}{id:Nat}{bO bN lr lo:List Nat}{a:PC}{O:Env}{Q:Out->Prop}(N:Nat)(str gh:Nat->List D)(h0:lr.map O.r=str 0/\lo.map O.o=gh 0)
 (step:∀k,k<N->aK T (round id bO bN lr lo a) (O.put lr (str k) lo (gh k)) (fO O id bO bN lr lo (λvr vo=>vr=str (k+1)/\vo=gh (k+1)) Q))
 (last:aK T (round id bO bN lr lo a) (O.put lr (str N) lo (gh N)) (fO O id bO bN lr lo (λ_ _=>False) Q)):aN T (.block id bO bN (.loop lr lo a)) O Q:=by
 refine .forLoop (α:=Nat) (λk vr vo=>k<=N/\vr=str k/\vo=gh k) (λk=>N-k) 0 ⟨om _,h0.1,h0.2⟩ ?_;rintro k vr vo ⟨hk,rfl,rfl⟩;have mono:∀{K K':List D->List D->Prop},(∀a b,K a b->K' a b)->∀x,fO O id bO bN lr lo K Q x->fO O id bO bN lr lo K' Q x:=by
  intro K K' h x hx;cases x with
  |next O'=>exact h _ _ hx
  |exit cg O'=>exact hx
  |ret d=>exact hx
 by_cases ao:k<N
 .exact Ao _ (mono λa b ⟨h1,h2⟩=>⟨k+1,by omega,by omega,h1,h2⟩) (step k ao)
 .obtain rfl:k=N:=by omega
  exact Ao _ (mono λa b h=>h.elim) last
def V2 {O:Env}{id:Nat}{bO bN lr lo:List Nat}{K K':List D->List D->Prop}{Q:Out->Prop}(h:∀a b,K a b->K' a b):∀x,fO O id bO bN lr lo K Q x->fO O id bO bN lr lo K' Q x:=by
 intro x hx;cases x with
 |next O'=>exact h _ _ hx
 |exit cg O'=>exact hx
 |ret d=>exact hx
def aN.scan {T:cV}{id:Nat}{bO bN lr lo:List Nat}{a:PC}{O:Env}{Q:Out->Prop}(N:Nat)(ok:Nat->Prop)(str gh:Nat->List D)(h0:lr.map O.r=str 0/\lo.map O.o=gh 0)
 (step:∀k,k<N->(∀j,j<k->ok j)->ok k->aK T (round id bO bN lr lo a) (O.put lr (str k) lo (gh k)) (fO O id bO bN lr lo (λvr vo=>vr=str (k+1)/\vo=gh (k+1)) Q))
 (bad:∀k,k<N->(∀j,j<k->ok j)->¬ok k->aK T (round id bO bN lr lo a) (O.put lr (str k) lo (gh k)) (fO O id bO bN lr lo (λ_ _=>False) Q))
 (last:(∀j,j<N->ok j)->aK T (round id bO bN lr lo a) (O.put lr (str N) lo (gh N)) (fO O id bO bN lr lo (λ_ _=>False) Q)):aN T (.block id bO bN (.loop lr lo a)) O Q:=by
 refine .forLoop (α:=Nat) (λk vr vo=>k<=N/\(∀j,j<k->ok j)/\vr=str k/\vo=gh k) (λk=>N-k) 0 ⟨om _,λj hj=>by omega,h0.1,h0.2⟩ ?_;rintro k vr vo ⟨hk,hj,rfl,rfl⟩;by_cases ao:k<N
 .by_cases aC:ok k
  .refine Ao _ (V2 λa b ⟨h1,h2⟩=>⟨k+1,by omega,by omega,λj Lr=>?_,h1,h2⟩) (step k ao hj aC);by_cases e:j=k
   .subst e;exact aC
   .exact hj j (by omega)
  .exact Ao _ (V2 λa b h=>h.elim) (bad k ao hj aC)
 .obtain rfl:k=N:=by omega
  exact Ao _ (V2 λa b h=>h.elim) (last hj)
def au (n:Nat)(e:PE):PE:=.mk ((List.range n).map λi=>.cell e i)
def lf (n:Nat)(d:D):D:=.agg ((List.range n).flatMap λi=>(d.c i).cells)
def amE (O:Env)(n:Nat)(e:PE):(au n e).ev O=lf n (e.ev O):=by
 have key:∀l:List Nat,PE.evc O (l.map λi=>.cell e i)=l.flatMap λi=>((e.ev O).c i).cells:=by
  intro l
  induction l with
  |nil=>rfl
  |cons i l ih=>simp only[gn,PE.evc,PE.ev,xQ,ih]
 show D.agg _=_;rw[key];rfl
def aQ (n:Int):Prop:=-9223372036854775808<=n/\n<=9223372036854775807
def ints (l:List Int):D:=.list (l.map .int)
def bn {n:Int}(h:-9223372036854775808<=n/\n<=9223372036854775807):IntKind.i64.wrap n=n:=by
 simp only[IntKind.wrap,IntKind.signed,IntKind.bits];simp;split<;>omega
def DTy.int_inv {k:IntKind}{d:D}(h:DTy (.int k) d):∃n,d=.v (.int k n)/\k.min<=n/\n<=k.max:=by
 cases h with
 |int k n h1 h2=>exact⟨n,rfl,h1,h2⟩
 |other t d h=>exact h.elim
def DTy.i64_inv {d:D}(h:DTy (.int .i64) d):∃n,d=.int n/\aQ n:=by
 obtain⟨n,rfl,h1,h2⟩:=h.int_inv;exact⟨n,rfl,by simpa [IntKind.min,IntKind.max,IntKind.signed,IntKind.bits] using h1,by simpa [IntKind.min,IntKind.max,IntKind.signed,IntKind.bits] using h2⟩
def DTy.bool_inv {d:D}(h:DTy .bool d):∃b,d=.bool b:=by
 cases h with
 |bool b=>exact⟨b,rfl⟩
 |other t d h=>exact h.elim
def DTy.slice_inv {e:Ty}{d:D}(h:DTy (.slice e) d):∃xs,d=.list xs/\xs.length<=maxLen/\∀x,x∈xs->DTy e.unf x:=by
 cases h with
 |slice e xs hm h=>exact⟨xs,rfl,hm,h⟩
 |other t d h=>exact h.elim
def DTy.agg_inv {ts:List Ty}{d:D}(h:DTy (.agg ts) d):∃ds,d=.agg ds/\DTys ts ds:=by
 cases h with
 |agg ts ds h=>exact⟨ds,rfl,h⟩
 |other t d h=>exact h.elim
def DTys.cons_inv {t:Ty}{ts:List Ty}{ds:List D}(h:DTys (t::ts) ds):∃d ds',ds=d::ds'/\DTy t d/\DTys ts ds':=by
 cases h with
 |cons h hs=>exact⟨_,_,rfl,h,hs⟩
def DTys.nil_inv {ds:List D}(h:DTys [] ds):ds=[]:=by cases h;rfl
def kQ {α:Type}{enc:α->D}{P:α->Prop}{xs:List D}(h:∀x,x∈xs->∃a,x=enc a/\P a):∃l:List α,xs=l.map enc/\∀a,a∈l->P a:=by
 induction xs with
 |nil=>exact⟨[],rfl,λ_ h=>nomatch h⟩
 |cons x xs ih=>
  obtain⟨l,hl,hp⟩:=ih λy hy=>h y (dK _ hy);obtain⟨a,ha,pa⟩:=h x (dS ..)
  exact⟨a::l,by rw[hl,ha];rfl,λb hb=>by
   rcases cQ.1 hb with e|hb
   .rw[e];exact pa
   .exact hp b hb⟩
def DTy.ints_inv {d:D}(h:DTy (.slice (.int .i64)) d):∃l:List Int,d=ints l/\l.length<=maxLen/\∀x,x∈l->aQ x:=by
 obtain⟨xs,rfl,hm,hx⟩:=h.slice_inv;obtain⟨l,rfl,hl⟩:=kQ (enc:=D.int) (P:=aQ) λx hh=>(hx x hh).i64_inv;exact⟨l,rfl,by simpa using hm,hl⟩
def ad2:maxLen=9223372036854775807:=rfl
section
variable (O:Env) (T:cV)
@[simp] def aFo (t:Nat):PE.ev O (.r t)=O.r t:=zyz
@[simp] def aFl (t:Nat):PE.ev O (.o t)=O.o t:=zyz
@[simp] def aE6 (d:D):PE.ev O (.con d)=d:=zyz
@[simp] def aE3 (e:PE)(i:Nat):PE.ev O (.cell e i)=(PE.ev O e).c i:=zyz
@[simp] def aFy (e:PE)(a n:Nat):PE.ev O (.sub e a n)=.agg (((PE.ev O e).cells.drop a).take n):=zyz
@[simp] def aFr (e x:PE)(n:Nat):PE.ev O (.setc e n x)=.agg (bH (PE.ev O e).cells n (PE.ev O x).cells):=zyz
@[simp] def aFe (es:List PE):PE.ev O (.mk es)=.agg (PE.evc O es):=zyz
@[simp] def aEY (op:BinOp)(k:IntKind)(x y:PE):PE.ev O (.ai op k x y)=.v (.int k (cC op k (PE.ev O x).i (PE.ev O y).i)):=zyz
@[simp] def aE4 (op:BinOp)(x y:PE):PE.ev O (.ci op x y)=.v (.bool (j7 op (PE.ev O x).i (PE.ev O y).i)):=zyz
@[simp] def aE2 (op:BinOp)(x y:PE):PE.ev O (.cb op x y)=.v (.bool (BD op (PE.ev O x).b (PE.ev O y).b)):=zyz
@[simp] def aE8 (op:BinOp)(x y:PE):PE.ev O (.cs op x y)=.v (.bool (BF op (PE.ev O x).s (PE.ev O y).s)):=zyz
@[simp] def aFj (x:PE):PE.ev O (.nt x)=.v (.bool (!(PE.ev O x).b)):=zyz
@[simp] def aE7 (k:IntKind)(x:PE):PE.ev O (.conv k x)=.v (.int k (k.wrap (PE.ev O x).i)):=zyz
@[simp] def aFm (c a b:PE):PE.ev O (.pick c a b)=if(PE.ev O c).b=true then PE.ev O a else PE.ev O b:=by
  simp only[PE.ev];cases(PE.ev O c).b<;>rfl
@[simp] def aFf (n:Nat)(e:PE):PE.ev O (au n e)=lf n (PE.ev O e):=amE O n e
@[simp] def aE1 (x:PE):PE.ev O (.bytes x)=.list ((PE.ev O x).s.data.toList.map λb=>.v (.int .u8 b.toNat)):=zyz
@[simp] def aFb (x:PE):PE.ev O (.llen x)=.v (.int .i64 (PE.ev O x).l.length):=zyz
@[simp] def aFv (x:PE):PE.ev O (.slen x)=.v (.int .i64 (PE.ev O x).s.size):=zyz
@[simp] def aFg (x:PE):PE.ev O (.mlen x)=.v (.int .i64 (PE.ev O x).m.length):=zyz
@[simp] def aFk (x i:PE):PE.ev O (.nth x i)=(PE.ev O x).l.getD (PE.ev O i).i.toNat .none:=zyz
@[simp] def aFa (x i:PE):PE.ev O (.idx x i)=.v (.bool (decide (0<=(PE.ev O i).i/\(PE.ev O i).i<(PE.ev O x).l.length))):=zyz
@[simp] def aFs (x i y:PE)(n:Nat):PE.ev O (.setn x i n y)=.list ((PE.ev O x).l.set (PE.ev O i).i.toNat (vz ((PE.ev O x).l.getD (PE.ev O i).i.toNat .none) n (PE.ev O y))):=zyz
@[simp] def aE0 (x y:PE):PE.ev O (.app x y)=.list ((PE.ev O x).l++(PE.ev O y).l):=zyz
@[simp] def aFd (es:List PE):PE.ev O (.lst es)=.list (PE.evs O es):=zyz
@[simp] def aFq (x y:PE):PE.ev O (.rep x y)=.list (List.replicate (PE.ev O x).i.toNat (PE.ev O y)):=zyz
@[simp] def aFu (x a b:PE):PE.ev O (.slc x a b)=.list (((PE.ev O x).l.take (PE.ev O b).i.toNat).drop (PE.ev O a).i.toNat):=zyz
@[simp] def aFw (x a b:PE):PE.ev O (.slok x a b)=.v (.bool (decide (0<=(PE.ev O a).i/\(PE.ev O a).i<=(PE.ev O b).i/\(PE.ev O b).i<=(PE.ev O x).l.length))):=zyz
@[simp] def aFp (x:PE):PE.ev O (.ref x)=.ref (PE.ev O x):=zyz
@[simp] def aE9 (x:PE):PE.ev O (.deref x)=(PE.ev O x).deref:=zyz
@[simp] def aFc (m k z:PE):PE.ev O (.look m k z)=(eu (PE.ev O k) (PE.ev O m).m).getD (PE.ev O z):=zyz
@[simp] def aFn (m k v:PE):PE.ev O (.put m k v)=.map (dj (PE.ev O k) (PE.ev O v) (PE.ev O m).m):=zyz
@[simp] def aFh (x y:PE):PE.ev O (.mn x y)=if(PE.ev O y).i<(PE.ev O x).i then PE.ev O y else PE.ev O x:=by
  simp only[PE.ev];by_cases h:(PE.ev O y).i<(PE.ev O x).i<;>simp[h]
@[simp] def aFi (x y:PE):PE.ev O (.mx x y)=if(PE.ev O y).i>(PE.ev O x).i then PE.ev O y else PE.ev O x:=by
  simp only[PE.ev];by_cases h:(PE.ev O y).i>(PE.ev O x).i<;>simp[h]
@[simp] def aFA (es:List PE):PE.ev O (.tup es)=.tup (PE.evs O es):=zyz
@[simp] def aFz (x:PE)(i:Nat):PE.ev O (.tget x i)=(PE.ev O x).tget i:=zyz
@[simp] def aE5 (f:Nat)(es:List PE):PE.ev O (.clo f es)=.clo f (PE.evs O es):=zyz
@[simp] def aEZ (x y:PE):PE.ev O (.an x y)=.v (.bool ((PE.ev O x).b&&(PE.ev O y).b)):=zyz
@[simp] def aFE:PE.evs O []=[]:=zyz
@[simp] def aFD (e:PE)(es:List PE):PE.evs O (e::es)=PE.ev O e::PE.evs O es:=zyz
@[simp] def aFC:PE.evc O []=[]:=zyz
@[simp] def aFB (e:PE)(es:List PE):PE.evc O (e::es)=(PE.ev O e).cells++PE.evc O es:=zyz
@[simp] def Qh (x:Bool):(D.bool x).b=x:=zyz
@[simp] def aES (k:IntKind)(n:Int):(D.v (.int k n)).i=n:=zyz
@[simp] def aEI (n:Int):(D.int n).i=n:=zyz
@[simp] def aEO (x:List D):(D.list x).l=x:=zyz
@[simp] def aEM (l:List Int):(ints l).l=l.map .int:=zyz
@[simp] def aEP (x:List (D×D)):(D.map x).m=x:=zyz
@[simp] def aEB (x:List D)(i:Nat):(D.agg x).c i=x.getD i .none:=zyz
@[simp] def aEC (x:List D):(D.agg x).cells=x:=zyz
@[simp] def aEN (x:List D):(D.list x).cells=[.list x]:=zyz
@[simp] def aEL (x:List Int):(ints x).cells=[ints x]:=zyz
@[simp] def aEH (n:Int):(D.int n).cells=[.int n]:=zyz
@[simp] def aED (n:Bool):(D.bool n).cells=[.bool n]:=zyz
@[simp] def aER (x:List D)(i:Nat):(D.tup x).tget i=x.getD i .none:=zyz
@[simp] def aEQ (x:D):(D.ref x).deref=x:=zyz
@[simp] def aHw (s:SE)(t:Nat):(s.ev O).r t=PE.ev O (s.getR t):=zyz
@[simp] def aHv (s:SE)(t:Nat):(s.ev O).o t=PE.ev O (s.getO t):=zyz
@[simp] def aFO (o:List (Nat×PE))(u:Nat):SE.getR ⟨[],o⟩ u=.r u:=zyz
@[simp] def aFN (t:Nat)(e:PE)(r o:List (Nat×PE))(u:Nat):SE.getR ⟨(t,e)::r,o⟩ u=if t=u then e else SE.getR ⟨r,o⟩ u:=by
  simp only[SE.getR,bS];by_cases h:t=u
  .subst h;simp
  .simp[eY h,h]
@[simp] def aFM (r:List (Nat×PE))(u:Nat):SE.getO ⟨r,[]⟩ u=.o u:=zyz
@[simp] def aFL (t:Nat)(e:PE)(r o:List (Nat×PE))(u:Nat):SE.getO ⟨r,(t,e)::o⟩ u=if t=u then e else SE.getO ⟨r,o⟩ u:=by
  simp only[SE.getO,bS];by_cases h:t=u
  .subst h;simp
  .simp[eY h,h]
@[simp] def setR_r (t u:Nat)(d:D):(O.setR t d).r u=if u=t then d else O.r u:=Env.setR_r O t u d
@[simp] def aHC (t u:Nat)(d:D):(O.setR t d).o u=O.o u:=zyz
@[simp] def setO_o (t u:Nat)(d:D):(O.setO t d).o u=if u=t then d else O.o u:=Env.setO_o O t u d
@[simp] def aHB (t u:Nat)(d:D):(O.setO t d).r u=O.r u:=zyz
@[simp] def aHp (lr lo:List Nat)(vr vo:List D)(u:Nat):(O.put lr vr lo vo).r u=putL O.r lr vr u:=zyz
@[simp] def aHo (lr lo:List Nat)(vr vo:List D)(u:Nat):(O.put lr vr lo vo).o u=putL O.o lo vo u:=zyz
@[simp] def join_r (O':Env)(lr lo:List Nat)(u:Nat):(O.join lr lo O').r u=if u∈lr then O'.r u else O.r u:=Env.join_r O O' lr lo u
@[simp] def join_o (O':Env)(lr lo:List Nat)(u:Nat):(O.join lr lo O').o u=if u∈lo then O'.o u else O.o u:=Env.join_o O O' lr lo u
@[simp] def aHm (f:Nat->D)(i:Nat)(is:List Nat)(x:D)(xs:List D)(u:Nat):putL f (i::is) (x::xs) u=if u=i then x else putL f is xs u:=MG f i is x xs u
@[simp] def aHn (f:Nat->D)(xs:List D)(u:Nat):putL f [] xs u=f u:=MH f xs u
@[simp] def aEV (ds:List D)(u:Nat):(lV ds).r u=ds.getD u .none:=zyz
@[simp] def aGi:holds [] O=true:=zyz
@[simp] def aGh (g:Nat×Bool)(gs:List (Nat×Bool)):holds (g::gs) O=((O.r g.1).b==g.2&&holds gs O):=zyz
variable (Q:Out->Prop)
@[simp] def aId (s:SE):aK T (.next s) O Q=Q (.next (s.ev O)):=zyz
@[simp] def aIa (id:Nat)(s:SE):aK T (.exit id s) O Q=Q (.exit id (s.ev O)):=zyz
@[simp] def aIe (e:PE):aK T (.ret e) O Q=Q (.ret (e.ev O)):=zyz
@[simp] def aH9 (e:PE)(k:PT):aK T (.chk e k) O Q=((e.ev O).b=true/\aK T k O Q):=zyz
@[simp] def aIb (c:PE)(a b:PT):aK T (.ite c a b) O Q=if(c.ev O).b=true then aK T a O Q else aK T b O Q:=zyz
@[simp] def aH7 (s:SE)(gs:List (Nat×Bool))(dst f:Nat)(args:List PE)(k:PT):aK T (.call s gs dst f args k) O Q=if holds gs (s.ev O)=true then ∃d,aq T f (PE.evs O args) d/\aK T k ((s.ev O).setR dst d) Q else aK T k (s.ev O) Q:=zyz
@[simp] def aIc (s:SE)(c:PE)(lr lo:List Nat)(a b k:PT):aK T (.iteS s c lr lo a b k) O Q=if(c.ev O).b=true then aK T a (s.ev O) (ma (s.ev O) lr lo (iy (λO'=>aK T k O' Q) Q)) else aK T b (s.ev O) (ma (s.ev O) lr lo (iy (λO'=>aK T k O' Q) Q)):=zyz
@[simp] def aH5 (s:SE)(id:Nat)(lr lo:List Nat)(a k:PT):aK T (.blockS s id lr lo a k) O Q=aK T a (s.ev O) (ny (s.ev O) id lr lo (iy (λO'=>aK T k O' Q) Q)):=zyz
@[simp] def aH6 (s:SE)(c:PC)(k:PT):aK T (.brk s c k) O Q=aN T c (s.ev O) (iy (λO'=>aK T k O' Q) Q):=zyz
variable (K:Env->Prop) (id:Nat) (lr lo bO bN:List Nat) (K2:List D->List D->Prop)
@[simp] def aHz (O':Env):iy K Q (.next O')=K O':=zyz
@[simp] def aHy (i:Nat)(O':Env):iy K Q (.exit i O')=Q (.exit i O'):=zyz
@[simp] def aHA (d:D):iy K Q (.ret d)=Q (.ret d):=zyz
@[simp] def aGx (O':Env):ma O lr lo Q (.next O')=Q (.next (O.join lr lo O')):=zyz
@[simp] def aGy (d:D):ma O lr lo Q (.ret d)=Q (.ret d):=zyz
@[simp] def aEk (O':Env):ny O id lr lo Q (.next O')=Q (.next (O.join lr lo O')):=zyz
@[simp] def aEj (i:Nat)(O':Env):ny O id lr lo Q (.exit i O')=if i=id then Q (.next (O.join lr lo O')) else Q (.exit i O'):=zyz
@[simp] def aEl (d:D):ny O id lr lo Q (.ret d)=Q (.ret d):=zyz
@[simp] def aHs (O':Env):fO O id bO bN lr lo K2 Q (.next O')=K2 (lr.map O'.r) (lo.map O'.o):=zyz
@[simp] def aHr (i:Nat)(O':Env):fO O id bO bN lr lo K2 Q (.exit i O')=if i=id then Q (.next (O.put bO (bO.map O'.r) bN (bN.map O'.o))) else Q (.exit i O'):=zyz
@[simp] def aHt (d:D):fO O id bO bN lr lo K2 Q (.ret d)=Q (.ret d):=zyz
@[simp] def aH8 (s:SE)(gs:List (Nat×Bool))(dst:Nat)(e:PE)(args:List PE)(k:PT):aK T (.callc s gs dst e args k) O Q=if holds gs (s.ev O)=true then ∃f caps d,e.ev O=.clo f caps/\aq T f (PE.evs O args++caps) d/\aK T k ((s.ev O).setR dst d) Q else aK T k (s.ev O) Q:=zyz
@[simp] def aEU (rt:Option PE)(K3:List D->Prop)(O':Env):ud O lo rt K3 Q (.next O')=K3 (lo.map O'.o):=zyz
@[simp] def aET (rt:Option PE)(K3:List D->Prop)(i:Nat)(O':Env):ud O lo rt K3 Q (.exit i O')=if i=cY then ∃e,rt=some e/\Q (.ret (e.ev (O.put [] [] lo (lo.map O'.o)))) else Q (.exit i (O.put [] [] lo (lo.map O'.o))):=zyz
@[simp] def aEW (J:Nat)(ds:List D)(u:Nat):(BM J ds).r u=(D.none::ds).getD u .none:=zyz
def amB (J:Nat)(ds:List D)(u:Nat):(BM J ds).o u=if u=J then .list [] else .none:=by
 show(bif Nat.beq u J then D.list [] else .none)=_;by_cases h:u=J
 .subst h;simp
 .simp[eY h,h]
@[simp] def aHk (p q:Nat)(x:D):partsOf [p,q] x=[x.tget 0,x.tget 1]:=zyz
end
section
variable (k:IntKind) (a b:Int)
@[simp] def aEc:cC .add k a b=k.wrap (a+b):=zyz
@[simp] def aEg:cC .sub k a b=k.wrap (a-b):=zyz
@[simp] def aEd:cC .mul k a b=k.wrap (a*b):=zyz
@[simp] def aEe:cC .quo k a b=k.wrap (a.tdiv b):=zyz
@[simp] def aEf:cC .rem k a b=a.tmod b:=zyz
@[simp] def aEt:j7 .eql a b=(a==b):=zyz
@[simp] def aEy:j7 .neq a b=(a !=b):=zyz
@[simp] def aEx:j7 .lss a b=decide (a<b):=zyz
@[simp] def aEw:j7 .leq a b=decide (a<=b):=zyz
@[simp] def aEv:j7 .gtr a b=decide (a>b):=zyz
@[simp] def aEu:j7 .geq a b=decide (a>=b):=zyz
variable (x y:Bool)
@[simp] def aEm:BD .eql x y=(x==y):=zyz
@[simp] def aEn:BD .neq x y=(!(x==y)):=zyz
end
def aq.of_tree {tab:Nat->Option PC}{ext:Nat->Option (aW->List D->Option D)}{f:Nat}{pc:PC}{t:PT}{ds:List D}{d:D}(hx:ext f=none)(ht:tab f=some pc)(he:tree pc=t)(h:aK (eH tab ext) t (lV ds) (λx=>x=.ret d)):aq (eH tab ext) f ds d:=
 .of_pc hx ht (Ol (he▸h))
@[simp] def aEK (n:Int):D.v (.int .i64 n)=D.int n:=zyz
@[simp] def aEF (b:Bool):D.v (.bool b)=D.bool b:=zyz
@[simp] def aEJ (a b:Int):(D.int a=D.int b)=(a=b):=by
  apply propext;constructor
  .intro h;injection h with h;injection h
  .intro h;rw[h]
@[simp] def aEE (a b:Bool):(D.bool a=D.bool b)=(a=b):=by
  apply propext;constructor
  .intro h;injection h with h;injection h
  .intro h;rw[h]
section
variable (c:Prop) [Decidable c] (x y:D)
@[simp] def aGv:(if c then x else y).b=if c then x.b else y.b:=by split<;>rfl
@[simp] def aGw:(if c then x else y).i=if c then x.i else y.i:=by split<;>rfl
end
@[simp] def aIf:IntKind.i64.wrap 1=1:=bn (by omega)
@[simp] def aIg:IntKind.i64.wrap 0=0:=bn (by omega)
end Cx
namespace Cx
open Go
inductive Tm where
 |mk (op n:Int) (args:List Tm)
instance:Inhabited Tm:=⟨.mk 0 0 []⟩
namespace Tm
def op:Tm->Int|.mk o _ _=>o
def n:Tm->Int|.mk _ n _=>n
def args:Tm->List Tm|.mk _ _ aa=>aa
end Tm
mutual
def dm:Tm->D
 |.mk o n aa=>.agg [.int o,.int n,.list (KB aa)]
def KB:List Tm->List D
 |[]=>[]
 |t::ts=>dm t::KB ts
end
def Qr:∀l:List Tm,KB l=l.map dm
 |[]=>rfl
 |t::l=>by rw[KB,Qr l];rfl
def EO (t:Tm):dm t=.agg [.int t.op,.int t.n,.list (t.args.map dm)]:=by
 cases t with
 |mk o n aa=>rw[dm,Qr];rfl
inductive Tm.OK:Tm->Prop where
 |mk (o n:Int) (aa:List Tm) (h1:aQ o) (h2:aQ n) (h3:aa.length<=maxLen) (h:∀a,a∈aa->Tm.OK a):Tm.OK (.mk o n aa)
def DTy.trm_inv {d:D}(h:DTy .trmA d):∃t:Tm,d=dm t/\t.OK:=by
 suffices hs:∀(m:Nat) (d:D),sizeOf d<=m->DTy .trmA d->∃t:Tm,d=dm t/\t.OK from hs _ d (bB _) h
 intro m
 induction m with
 |zero=>
  intro d hm h;cases d<;>simp at hm
 |succ m ih=>
  intro d hm h;obtain⟨ds,rfl,hs⟩:=DTy.agg_inv h;obtain⟨d1,ds,rfl,h1,hs⟩:=hs.cons_inv;obtain⟨d2,ds,rfl,h2,hs⟩:=hs.cons_inv;obtain⟨d3,ds,rfl,h3,hs⟩:=hs.cons_inv;obtain rfl:=hs.nil_inv;obtain⟨o,rfl,b1⟩:=h1.i64_inv;obtain⟨n,rfl,b2⟩:=h2.i64_inv;obtain⟨xs,rfl,hl,hx⟩:=h3.slice_inv
  obtain⟨l,rfl,aC⟩:=kQ (enc:=dm) (P:=Tm.OK) λx hh=>ih x (by
   have:=List.sizeOf_lt_of_mem hh;simp at hm;omega) (hx x hh)
  exact⟨.mk o n l,by rw[dm,Qr],.mk o n l b1 b2 (by simpa using hl) aC⟩
def DTy.trms_inv {d:D}(h:DTy (.slice .trm) d):∃l:List Tm,d=.list (l.map dm)/\l.length<=maxLen/\∀t,t∈l->t.OK:=by
 obtain⟨xs,rfl,hl,hx⟩:=h.slice_inv;obtain⟨l,rfl,aC⟩:=kQ (enc:=dm) (P:=Tm.OK) λx hh=>DTy.trm_inv (hx x hh);exact⟨l,rfl,by simpa using hl,aC⟩
def We (g:Nat)(zs:List Int):Nat->Option (Ty×D):=λk=>bif Nat.beq k g then some (.agg (zs.map λ_=>.int .i64),.agg (zs.map λz=>.v (.int .i64 z))) else none
def axM {C:Ctx}{g:Nat}{zs:List Int}{name:String}{W:World}(hC:C.glob=We g zs)(hg:C.P.globalNamed name=some g)(hz:zs.all (λz=>decide (IntKind.i64.min<=z)&&decide (z<=IntKind.i64.max))=true)
 (h:Lib.TabIs C.P W name .i64 zs):CtxOK C (oN W):=by
 refine⟨λk x hx=>?_⟩;rw[hC] at hx;unfold We at hx;cases hk:Nat.beq k g<;>simp only[hk,zyy,zyx] at hx
 .cases hx
 cases hx;obtain rfl:=aE hk
 have y2:Rep C.cap (oN W) (.agg (zs.map λ_=>.int .i64)) (.agg (zs.map λz=>Value.int .i64 z).toArray) (.agg (zs.map λz=>.v (.int .i64 z))):=by
  refine .agg _ _ _ (by simp) (by simp) (λi t ht=>?_) (λi t ht=>?_)
  .rw[cM,aD] at ht;obtain⟨z,zg,rfl⟩:=ht;rw[aL,aL,cM,cM,zg];have:=bT.1 hz z (mw zg);simp only[av,decide_eq_true_eq] at this;exact .int _ _ this.1 this.2
  .rw[cM,aD] at ht;obtain⟨z,_,rfl⟩:=ht;rfl
 refine .ref _ k 0 _ _ y2 λj u hu=>?_;simp only[Value.cells,Is,cM,aD] at hu;obtain⟨z,zg,rfl⟩:=hu;have ao:=(fo.1 zg).1;have:=h.cell hg j ao;show W.cell? ⟨k,0+j,none⟩=_;rw[iL,this,aL,zg];rfl
end Cx
namespace Cx
open Go Go.RowKit
def loops:PC->List PC
 |.seq a b=>loops a++loops b
 |.ite _ _ _ a b=>loops a++loops b
 |.block id lr lo (.loop SM SC a)=>loops a++[.block id lr lo (.loop SM SC a)]
 |.block _ _ _ a=>loops a
 |.loop _ _ a=>loops a
 |.each e ps lo rt a=>loops a++[.each e ps lo rt a]
 |.meach J ps cZ lo a=>loops a++[.meach J ps cZ lo a]
 |_=>[]
def P2:PC->PC
 |.block _ _ _ (.loop _ _ a)=>a
 |.each _ _ _ _ a=>a
 |.meach _ _ _ _ a=>a
 |_=>.skip
def L6 (c:PC)(k:Nat):PC:=(loops c).getD k .skip
def rnd:PC->PT
 |.block id lr lo (.loop SM SC a)=>round id lr lo SM SC a
 |.each _ _ lo _ a=>rV lo a
 |.meach _ _ _ lo a=>rV lo a
 |_=>.next .id
inductive Shp where
 |lp (id:Nat) (bO bN lr lo:List Nat)
 |ea (lo:List Nat)
 |no
def DA:PC->Shp
 |.block id bO bN (.loop lr lo _)=>.lp id bO bN lr lo
 |.each _ _ lo _ _=>.ea lo
 |.meach _ _ _ lo _=>.ea lo
 |_=>.no
def told (c:PC):PT×List (Shp×PT):=(tree c,(loops c).map λl=>(DA l,rnd l))
def N3 {o:Option PC}{t:PT}{l:List (Shp×PT)}(h:o.map told=some (t,l)):o=some (o.getD .skip)/\tree (o.getD .skip)=t/\∀k x,l[k]?=some x->(DA (L6 (o.getD .skip) k),rnd (L6 (o.getD .skip) k))=x:=by
 cases o with
 |none=>cases h
 |some c=>
  have h1:told c=(t,l):=by injection h
  unfold told at h1;injection h1 with h1 h2
  refine⟨rfl,h1,λk x hx=>?_⟩;subst h2;simp only[cM,aD] at hx;obtain⟨y,hy,rfl⟩:=hx;have:L6 ((some c:Option PC).getD .skip) k=y:=by
   show(loops c).getD k .skip=y;rw[aL,hy];rfl
  rw[this]
def awM {c:PC}{id:Nat}{bO bN lr lo:List Nat}{t:PT}(h:(DA c,rnd c)=(.lp id bO bN lr lo,t)):round id bO bN lr lo (P2 c)=t:=by
 injection h with h1 h2
 subst h2;unfold DA at h1;split at h1
 .cases h1;rfl
 all_goals cases h1
def amk {c:PC}{lo:List Nat}{t:PT}(h:(DA c,rnd c)=(.ea lo,t)):rV lo (P2 c)=t:=by
 injection h with h1 h2
 subst h2;unfold DA at h1;split at h1
 .cases h1
 .cases h1;rfl
 .cases h1;rfl
 .cases h1
def cR {α:Type}(x:α):α:=Classical.choose (⟨x,rfl⟩:∃y,y=x)
def Fw {α:Type}(x:α):cR x=x:=ZF (⟨x,rfl⟩:∃y,y=x)
def bf (o:Option PC):Nat->PC:=λk=>P2 (L6 (o.getD .skip) k)
abbrev ae (o:Option PC):PC:=cR (o.getD .skip)
abbrev bk (o:Option PC):Nat->PC:=cR (bf o)
section
variable {o:Option PC} {F:(Nat->PC)->PT×List (Shp×PT)}
def ax0 (h:o.map told=some (F (bf o))):o=some (ae o):=by unfold ae;rw[Fw];exact(N3 (t:=(F (bf o)).1) (l:=(F (bf o)).2) h).1
def bA (h:o.map told=some (F (bf o))):tree (ae o)=(F (bk o)).1:=by unfold ae bk;rw[Fw,Fw];exact(N3 (t:=(F (bf o)).1) (l:=(F (bf o)).2) h).2.1
def aT (h:o.map told=some (F (bf o)))(k:Nat){id:Nat}{bO bN lr lo:List Nat}{t:(Nat->PC)->PT}(hk:∀b,(F b).2[k]?=some (.lp id bO bN lr lo,t b)):round id bO bN lr lo (bk o k)=t (bk o):=by
 unfold bk;rw[Fw];exact awM ((N3 (t:=(F (bf o)).1) (l:=(F (bf o)).2) h).2.2 k _ (hk _))
def Wk (h:o.map told=some (F (bf o)))(k:Nat){lo:List Nat}{t:(Nat->PC)->PT}(hk:∀b,(F b).2[k]?=some (.ea lo,t b)):rV lo (bk o k)=t (bk o):=by
 unfold bk;rw[Fw];exact amk ((N3 (t:=(F (bf o)).1) (l:=(F (bf o)).2) h).2.2 k _ (hk _))
end
def ay {α:Type}{R:Nat->α->Prop}{f:Nat}{x:α}{l:List (Nat×α)}(h:R f x)(k:Ih R l):Ih R ((f,x)::l):=⟨h,k⟩
def adJ {α:Type}:∀{l:List (Nat×α)},(l.map (·.1)).Nodup->∀{k f:Nat} {x:α},l[k]?=some (f,x)->bS l f=some x
 |[],_,k,f,x,h=>by simp at h
 |y::l,hn,0,f,x,h=>by
  simp only[OB,aZ] at h;subst h;simp[bS]
 |y::l,hn,k+1,f,x,h=>by
  simp only[Ir] at h;rw[gn,oh] at hn;have hm:f∈l.map (·.1):=fq.2 ⟨(f,x),mw h,rfl⟩;have hb:Nat.beq y.1 f=false:=by
   cases e:Nat.beq y.1 f with
   |false=>rfl
   |true=>rw[df e] at hn;exact absurd hm hn.1
  simp only[bS,hb,zyx];exact adJ hn.2 h
abbrev pT:PE:=.con (.bool true)
abbrev pF:PE:=.con (.bool false)
abbrev pN:PE:=.con .none
abbrev pL:PE:=.con (.list [])
abbrev pi (n:Int):PE:=.con (.int n)
abbrev bt (a b:PE):PE:=.ai .add .i64 a b
abbrev be (a b:PE):PE:=.ai .sub .i64 a b
abbrev ab (a b:PE):PE:=.ci .eql a b
abbrev aH (a b:PE):PE:=.ci .neq a b
abbrev af (a b:PE):PE:=.ci .lss a b
abbrev bl (a b:PE):PE:=.ci .leq a b
abbrev aR (a b:PE):PE:=.ci .gtr a b
abbrev bP (a b:PE):PE:=.ci .geq a b
abbrev pc (a:PE)(i:Nat):PE:=.cell a i
abbrev pn (a b:PE):PE:=.nth a b
abbrev aj (a b:PE):PE:=.idx a b
abbrev z2:PE:=.con (.agg [(.int 0),(.int 0)])
abbrev z3:PE:=.con (.agg [(.int 0),(.int 0),(.int 0)])
abbrev z4:PE:=.con (.agg [(.int 0),(.int 0),(.int 0),(.int 0)])
abbrev z5:PE:=.con (.agg [(.int 0),(.int 0),(.int 0),(.int 0),(.int 0)])
abbrev z6:PE:=.con (.agg [(.int 0),(.int 0),(.int 0),(.int 0),(.int 0),(.int 0)])
abbrev z9:PE:=.con (.agg [(.int 0),(.int 0),(.int 0),(.int 0),(.int 0),(.int 0),(.int 0),(.int 0),(.int 0)])
abbrev kz:PE:=.con (.agg [(.int 0),(.int 0),(.int 0),(.int 0),(.int 0),(.int 0),(.int 0),(.int 0),(.int 0),(.int 0),(.int 0),(.int 0),(.int 0),(.int 0),(.int 0)])
abbrev r0:PE:=.r 0
abbrev r1:PE:=.r 1
abbrev r2:PE:=.r 2
abbrev r3:PE:=.r 3
abbrev r4:PE:=.r 4
abbrev r5:PE:=.r 5
abbrev r6:PE:=.r 6
abbrev r7:PE:=.r 7
abbrev r8:PE:=.r 8
abbrev r9:PE:=.r 9
abbrev bI:PE:=.r 10
abbrev bK:PE:=.r 11
abbrev bG:PE:=.r 12
abbrev dk:PE:=.r 13
abbrev bU:PE:=.r 14
abbrev fh:PE:=.r 15
abbrev dH:PE:=.r 16
abbrev kT:PE:=.r 17
abbrev ju:PE:=.r 18
abbrev iY:PE:=.r 19
abbrev eD:PE:=.r 20
abbrev mY:PE:=.r 21
abbrev UH:PE:=.r 22
abbrev mZ:PE:=.r 23
abbrev oY:PE:=.r 24
abbrev eM:PE:=.r 25
abbrev kU:PE:=.r 26
abbrev gd:PE:=.r 27
abbrev qq:PE:=.r 28
abbrev lI:PE:=.r 29
abbrev m0:PE:=.r 30
abbrev rM:PE:=.r 31
abbrev kV:PE:=.r 32
abbrev vn:PE:=.r 33
abbrev UI:PE:=.r 34
abbrev tu:PE:=.r 35
abbrev nR:PE:=.r 36
abbrev iw:PE:=.r 37
abbrev fi:PE:=.r 38
abbrev zP:PE:=.r 39
abbrev m3:PE:=.r 40
abbrev vp:PE:=.r 41
abbrev oZ:PE:=.r 42
abbrev vq:PE:=.r 43
abbrev zQ:PE:=.r 44
abbrev pf:PE:=.r 45
abbrev GQ:PE:=.r 46
abbrev M1:PE:=.r 47
abbrev nS:PE:=.r 48
abbrev rN:PE:=.r 49
abbrev m4:PE:=.r 50
abbrev m5:PE:=.r 51
abbrev Da:PE:=.r 52
abbrev M2:PE:=.r 53
abbrev rO:PE:=.r 54
abbrev zR:PE:=.r 55
abbrev rP:PE:=.r 56
abbrev Db:PE:=.r 57
abbrev GR:PE:=.r 58
abbrev rQ:PE:=.r 59
abbrev qs:PE:=.r 60
abbrev pg:PE:=.r 61
abbrev m6:PE:=.r 62
abbrev zS:PE:=.r 63
abbrev kW:PE:=.r 64
abbrev vt:PE:=.r 65
abbrev r66:PE:=.r 66
abbrev qt:PE:=.r 67
abbrev Dc:PE:=.r 68
abbrev tw:PE:=.r 69
abbrev UJ:PE:=.r 70
abbrev r71:PE:=.r 71
abbrev zT:PE:=.r 72
abbrev zU:PE:=.r 73
abbrev UK:PE:=.r 74
abbrev M3:PE:=.r 75
abbrev xh:PE:=.r 76
abbrev UL:PE:=.r 77
abbrev UM:PE:=.r 78
abbrev r79:PE:=.r 79
abbrev tz:PE:=.r 80
abbrev xj:PE:=.r 81
abbrev mm:PE:=.r 82
abbrev UN:PE:=.r 84
abbrev r85:PE:=.r 85
abbrev UO:PE:=.r 86
abbrev M4:PE:=.r 87
abbrev De:PE:=.r 88
abbrev r89:PE:=.r 89
abbrev r90:PE:=.r 90
abbrev Df:PE:=.r 91
abbrev r92:PE:=.r 92
abbrev M5:PE:=.r 93
abbrev r94:PE:=.r 94
abbrev r95:PE:=.r 95
abbrev UP:PE:=.r 96
abbrev r98:PE:=.r 98
abbrev M6:PE:=.r 99
abbrev ag9:PE:=.r 103
abbrev avQ:PE:=.r 104
abbrev avR:PE:=.r 106
abbrev GP:PE:=.r 108
abbrev avS:PE:=.r 109
abbrev UA:PE:=.r 112
abbrev ahb:PE:=.r 113
abbrev avV:PE:=.r 115
abbrev ahc:PE:=.r 119
abbrev UB:PE:=.r 120
abbrev ahd:PE:=.r 121
abbrev avW:PE:=.r 123
abbrev ahe:PE:=.r 126
abbrev MZ:PE:=.r 127
abbrev avX:PE:=.r 129
abbrev o0:PE:=.o 0
abbrev o1:PE:=.o 1
abbrev o2:PE:=.o 2
abbrev o3:PE:=.o 3
abbrev o4:PE:=.o 4
abbrev o5:PE:=.o 5
abbrev o6:PE:=.o 6
abbrev o7:PE:=.o 7
abbrev o8:PE:=.o 8
abbrev o9:PE:=.o 9
abbrev bM:PE:=.o 10
abbrev gD:PE:=.o 11
abbrev o12:PE:=.o 12
abbrev gT:PE:=.o 13
abbrev Gr:PE:=.o 14
abbrev SV:PE:=.o 28
abbrev Cy:PE:=.o 45
end Cx
