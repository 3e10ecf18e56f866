/-
  Shared texts of this claim.
-/
import Derived.Test.YtefchokhgdmamaaGreatDoorMAI
import Derived.Lib.LaidTab
import Derived.Test.YtefchokhgdmamaaGreatDoorProg
set_option linter.defProp false
set_option linter.unusedSimpArgs false
set_option linter.unusedVariables false
noncomputable section
namespace Cx
open Go Go.RowKit
structure SE where
 r:List (Nat×PE)
 o:List (Nat×PE)
def SE.getR (s:SE)(t:Nat):PE:=match bS s.r t with|some e=>e|none=>.r t
def SE.getO (s:SE)(t:Nat):PE:=match bS s.o t with|some e=>e|none=>.o t
def SE.setR (s:SE)(t:Nat)(e:PE):SE:=⟨(t,e)::s.r,s.o⟩
def SE.setO (s:SE)(t:Nat)(e:PE):SE:=⟨s.r,(t,e)::s.o⟩
def SE.id:SE:=⟨[],[]⟩
def SE.ev (s:SE)(O:Env):Env:=⟨λt=>(s.getR t).ev O,λt=>(s.getO t).ev O⟩
def SE.join (s:SE)(lr lo:List Nat)(s':SE):SE:=⟨lr.map (λt=>(t,s'.getR t))++s.r,lo.map (λt=>(t,s'.getO t))++s.o⟩
def SE.setR_ev (s:SE)(t:Nat)(e:PE)(O:Env):(s.setR t e).ev O=(s.ev O).setR t (e.ev O):=by
 have h:(λu=>((s.setR t e).getR u).ev O)=cv (λu=>(s.getR u).ev O) t (e.ev O):=by
  funext u;simp only[SE.getR,SE.setR,bS,gm];by_cases h:t=u
  .subst h;simp
  .have h':¬u=t:=λe=>h e.symm;simp[fS h,h']
 simp only[SE.ev,Env.setR];rw[h];rfl
def SE.setO_ev (s:SE)(t:Nat)(e:PE)(O:Env):(s.setO t e).ev O=(s.ev O).setO t (e.ev O):=by
 have h:(λu=>((s.setO t e).getO u).ev O)=cv (λu=>(s.getO u).ev O) t (e.ev O):=by
  funext u;simp only[SE.getO,SE.setO,bS,gm];by_cases h:t=u
  .subst h;simp
  .have h':¬u=t:=λe=>h e.symm;simp[fS h,h']
 simp only[SE.ev,Env.setO];rw[h];rfl
def yY {f:Nat->PE}{l:List (Nat×PE)}{u:Nat}:∀(lr:List Nat),bS (lr.map (λt=>(t,f t))++l) u=if u∈lr then some (f u) else bS l u
 |[]=>by simp
 |t::lr=>by
  simp only[gq,HM,bS,yY lr,cZ];by_cases h:t=u
  .subst h;simp
  .have h':¬u=t:=λe=>h e.symm;simp[fS h,h']
def SE.join_ev (s s':SE)(lr lo:List Nat)(O:Env):(s.join lr lo s').ev O=(s.ev O).join lr lo (s'.ev O):=by
 have h1:∀u,((s.join lr lo s').getR u).ev O=((s.ev O).join lr lo (s'.ev O)).r u:=by
  intro u;rw[Env.join_r];have e:bS (s.join lr lo s').r u=if u∈lr then some (s'.getR u) else bS s.r u:=yY lr;unfold SE.getR;rw[e];by_cases h:u∈lr
  .simp only[h,if_true];rfl
  .simp only[h,if_false];rfl
 have h2:∀u,((s.join lr lo s').getO u).ev O=((s.ev O).join lr lo (s'.ev O)).o u:=by
  intro u;rw[Env.join_o];have e:bS (s.join lr lo s').o u=if u∈lo then some (s'.getO u) else bS s.o u:=yY lo;unfold SE.getO;rw[e];by_cases h:u∈lo
  .simp only[h,if_true];rfl
  .simp only[h,if_false];rfl
 have e1:(λu=>((s.join lr lo s').getR u).ev O)=((s.ev O).join lr lo (s'.ev O)).r:=funext h1;have e2:(λu=>((s.join lr lo s').getO u).ev O)=((s.ev O).join lr lo (s'.ev O)).o:=funext h2;show Env.mk _ _=_;rw[e1,e2]
abbrev cD:=List (PE×Bool)
def cD.ok (ab:cD)(O:Env):Prop:=∀x,x∈ab->(x.1.ev O).b=x.2
def Ic (e:PE):cD->Option Bool
 |[]=>none
 |x::l=>bif PE.beq x.1 e then some x.2 else Ic e l
def Yb {e:PE}{O:Env}{b:Bool}:∀{ab:cD},ab.ok O->Ic e ab=some b->(e.ev O).b=b
 |[],_,h=>by cases h
 |x::l,az,h=>by
  simp only[Ic] at h;cases hb:PE.beq x.1 e<;>simp only[hb,zyx,zyw] at h
  .exact Yb (λy hy=>az y (dW _ hy)) h
  .cases h;rw[<-PE.beq_eq _ _ hb];exact az x (er ..)
def xp (ab:cD):PE->Option Bool
 |.con (.v (.bool b))=>some b
 |.nt x=>(xp ab x).map (!·)
 |e=>Ic e ab
def zA {ab:cD}{O:Env}(h:ab.ok O):∀{e:PE} {b:Bool},xp ab e=some b->(e.ev O).b=b
 |.con (.v (.bool b)),b',he=>by simp only[xp,aS] at he;subst he;rfl
 |.nt x,b',he=>by
  simp only[xp,aC] at he;obtain⟨c,hc,rfl⟩:=he;simp only[PE.ev,D.b_bool,zA h hc]
 |e,b',he=>by
  unfold xp at he;split at he
  .cases he;rfl
  .rename_i x;simp only[aC] at he;obtain⟨c,hc,rfl⟩:=he;simp only[PE.ev,D.b_bool,zA h hc]
  .exact Yb h he
def uL (ab:cD)(c a b:PE):PE:=match xp ab c with|some true=>a|some false=>b|none=>.pick c a b
def SY {ab:cD}{O:Env}(h:ab.ok O)(c a b:PE):(uL ab c a b).ev O=(PE.pick c a b).ev O:=by
 unfold uL;split
 .rename_i ht;simp[PE.ev,zA h ht]
 .rename_i ht;simp[PE.ev,zA h ht]
 .rfl
def Pm:PE->PE
 |.ref x=>x
 |x=>.deref x
def ajv (x:PE)(O:Env):(Pm x).ev O=(PE.deref x).ev O:=by unfold Pm;split<;>rfl
def UY:PE->Nat->PE
 |.tup es,i=>es.getD i (.con .none)
 |x,i=>.tget x i
def auM (x:PE)(i:Nat)(O:Env):(UY x i).ev O=(PE.tget x i).ev O:=by
 unfold UY;split
 .rename_i es;simp only[PE.ev,D.tget_tup,PE.evs_eq,aN,cV];cases es[i]?<;>rfl
 .rfl
def FQ:PE->Bool
 |.ai ..|.ci ..|.cb ..|.cs ..|.sadd ..|.nt _|.conv ..|.llen _|.bytes _|.slen _|.mlen _|.idx ..|.sidx ..|.sok ..|.slok ..|.lst _|.app ..|.setn ..|.rep ..|.slc ..|.ref _|.has ..|.put ..|.an ..|.imp ..|.tup _|.clo ..=>true
 |.con (.v _)|.con (.list _)|.con (.map _)=>true
 |_=>false
def arv {e:PE}(h:FQ e=true)(O:Env):(e.ev O).cells=[e.ev O]:=by
 unfold FQ at h;split at h<;>first|rfl|cases h
def Pc:PE->Nat->PE
 |.mk es,i=>bif es.all FQ then es.getD i (.con .none) else .cell (.mk es) i
 |x,i=>.cell x i
def Za {O:Env}:∀{es:List PE},es.all FQ=true->PE.evc O es=PE.evs O es
 |[],_=>rfl
 |e::es,h=>by
  simp only[rG,aq] at h;simp only[PE.evc,PE.evs,arv h.1,Za h.2];rfl
def aiP (x:PE)(i:Nat)(O:Env):(Pc x i).ev O=(PE.cell x i).ev O:=by
 unfold Pc;split
 .rename_i es;cases hc:es.all FQ
  .rfl
  .simp only[zyx,PE.ev,Za hc,D.c_agg,PE.evs_eq,aN,cV];cases es[i]?<;>rfl
 .rfl
def En (s:SE):List (Nat×Bool)->PE
 |[]=>.con (.v (.bool true))
 |g::gs=>.an (bif g.2 then s.getR g.1 else .nt (s.getR g.1)) (En s gs)
def ZD (s:SE)(O:Env):∀gs,((En s gs).ev O).b=holds gs (s.ev O)
 |[]=>rfl
 |g::gs=>by
  have ih:=ZD s O gs;rw[an2,<-ih];have e:((s.ev O).r g.1)=(s.getR g.1).ev O:=rfl;rw[e];cases hg:g.2
  .simp only[En,hg,zyw,PE.ev,D.b_bool];cases((s.getR g.1).ev O).b<;>rfl
  .simp only[En,hg,zyx,PE.ev,D.b_bool];cases((s.getR g.1).ev O).b<;>rfl
mutual
def PE.sub' (ab:cD)(s:SE):PE->PE
 |.r t=>s.getR t
 |.o j=>s.getO j
 |.con d=>.con d
 |.cell e i=>Pc (PE.sub' ab s e) i
 |.sub e a b=>.sub (PE.sub' ab s e) a b
 |.setc e q x=>.setc (PE.sub' ab s e) q (PE.sub' ab s x)
 |.mk es=>.mk (PE.subs' ab s es)
 |.ai op k x y=>.ai op k (PE.sub' ab s x) (PE.sub' ab s y)
 |.ci op x y=>.ci op (PE.sub' ab s x) (PE.sub' ab s y)
 |.cb op x y=>.cb op (PE.sub' ab s x) (PE.sub' ab s y)
 |.cs op x y=>.cs op (PE.sub' ab s x) (PE.sub' ab s y)
 |.sadd x y=>.sadd (PE.sub' ab s x) (PE.sub' ab s y)
 |.nt x=>.nt (PE.sub' ab s x)
 |.conv k x=>.conv k (PE.sub' ab s x)
 |.pick c a b=>uL ab (PE.sub' ab s c) (PE.sub' ab s a) (PE.sub' ab s b)
 |.llen x=>.llen (PE.sub' ab s x)
 |.bytes x=>.bytes (PE.sub' ab s x)
 |.slen x=>.slen (PE.sub' ab s x)
 |.mlen x=>.mlen (PE.sub' ab s x)
 |.nth x y=>.nth (PE.sub' ab s x) (PE.sub' ab s y)
 |.idx x y=>.idx (PE.sub' ab s x) (PE.sub' ab s y)
 |.sidx x y=>.sidx (PE.sub' ab s x) (PE.sub' ab s y)
 |.sok x y=>.sok (PE.sub' ab s x) (PE.sub' ab s y)
 |.setn x y n z=>.setn (PE.sub' ab s x) (PE.sub' ab s y) n (PE.sub' ab s z)
 |.app x y=>.app (PE.sub' ab s x) (PE.sub' ab s y)
 |.lst es=>.lst (PE.subs' ab s es)
 |.rep x y=>.rep (PE.sub' ab s x) (PE.sub' ab s y)
 |.slc x y z=>.slc (PE.sub' ab s x) (PE.sub' ab s y) (PE.sub' ab s z)
 |.slok x y z=>.slok (PE.sub' ab s x) (PE.sub' ab s y) (PE.sub' ab s z)
 |.ref x=>.ref (PE.sub' ab s x)
 |.deref x=>Pm (PE.sub' ab s x)
 |.look x y z=>.look (PE.sub' ab s x) (PE.sub' ab s y) (PE.sub' ab s z)
 |.has x y=>.has (PE.sub' ab s x) (PE.sub' ab s y)
 |.put x y z=>.put (PE.sub' ab s x) (PE.sub' ab s y) (PE.sub' ab s z)
 |.mn x y=>.mn (PE.sub' ab s x) (PE.sub' ab s y)
 |.mx x y=>.mx (PE.sub' ab s x) (PE.sub' ab s y)
 |.tup es=>.tup (PE.subs' ab s es)
 |.tget x i=>UY (PE.sub' ab s x) i
 |.clo f es=>.clo f (PE.subs' ab s es)
 |.an x y=>.an (PE.sub' ab s x) (PE.sub' ab s y)
 |.imp c x=>.nt (.an (En s c) (.nt (PE.sub' ab s x)))
def PE.subs' (ab:cD)(s:SE):List PE->List PE
 |[]=>[]
 |e::es=>PE.sub' ab s e::PE.subs' ab s es
end
mutual
def PE.sub_ev {ab:cD}{O:Env}(h:ab.ok O)(s:SE):∀(e:PE),(PE.sub' ab s e).ev O=e.ev (s.ev O)
 |.r t=>rfl
 |.o j=>rfl
 |.con d=>rfl
 |.cell e i=>by simp only[PE.sub',aiP,PE.ev,PE.sub_ev h s e]
 |.sub e a b=>by simp only[PE.sub',PE.ev,PE.sub_ev h s e]
 |.setc e q x=>by simp only[PE.sub',PE.ev,PE.sub_ev h s e,PE.sub_ev h s x]
 |.mk es=>by simp only[PE.sub',PE.ev,PE.subc_ev h s es]
 |.ai op k x y=>by simp only[PE.sub',PE.ev,PE.sub_ev h s x,PE.sub_ev h s y]
 |.ci op x y=>by simp only[PE.sub',PE.ev,PE.sub_ev h s x,PE.sub_ev h s y]
 |.cb op x y=>by simp only[PE.sub',PE.ev,PE.sub_ev h s x,PE.sub_ev h s y]
 |.cs op x y=>by simp only[PE.sub',PE.ev,PE.sub_ev h s x,PE.sub_ev h s y]
 |.sadd x y=>by simp only[PE.sub',PE.ev,PE.sub_ev h s x,PE.sub_ev h s y]
 |.nt x=>by simp only[PE.sub',PE.ev,PE.sub_ev h s x]
 |.conv k x=>by simp only[PE.sub',PE.ev,PE.sub_ev h s x]
 |.pick c a b=>by simp only[PE.sub',SY h,PE.ev,PE.sub_ev h s c,PE.sub_ev h s a,PE.sub_ev h s b]
 |.llen x=>by simp only[PE.sub',PE.ev,PE.sub_ev h s x]
 |.bytes x=>by simp only[PE.sub',PE.ev,PE.sub_ev h s x]
 |.slen x=>by simp only[PE.sub',PE.ev,PE.sub_ev h s x]
 |.mlen x=>by simp only[PE.sub',PE.ev,PE.sub_ev h s x]
 |.nth x y=>by simp only[PE.sub',PE.ev,PE.sub_ev h s x,PE.sub_ev h s y]
 |.idx x y=>by simp only[PE.sub',PE.ev,PE.sub_ev h s x,PE.sub_ev h s y]
 |.sidx x y=>by simp only[PE.sub',PE.ev,PE.sub_ev h s x,PE.sub_ev h s y]
 |.sok x y=>by simp only[PE.sub',PE.ev,PE.sub_ev h s x,PE.sub_ev h s y]
 |.setn x y n z=>by simp only[PE.sub',PE.ev,PE.sub_ev h s x,PE.sub_ev h s y,PE.sub_ev h s z]
 |.app x y=>by simp only[PE.sub',PE.ev,PE.sub_ev h s x,PE.sub_ev h s y]
 |.lst es=>by simp only[PE.sub',PE.ev,PE.subs_ev h s es]
 |.rep x y=>by simp only[PE.sub',PE.ev,PE.sub_ev h s x,PE.sub_ev h s y]
 |.slc x y z=>by simp only[PE.sub',PE.ev,PE.sub_ev h s x,PE.sub_ev h s y,PE.sub_ev h s z]
 |.slok x y z=>by simp only[PE.sub',PE.ev,PE.sub_ev h s x,PE.sub_ev h s y,PE.sub_ev h s z]
 |.ref x=>by simp only[PE.sub',PE.ev,PE.sub_ev h s x]
 |.deref x=>by simp only[PE.sub',ajv,PE.ev,PE.sub_ev h s x]
 |.look x y z=>by simp only[PE.sub',PE.ev,PE.sub_ev h s x,PE.sub_ev h s y,PE.sub_ev h s z]
 |.has x y=>by simp only[PE.sub',PE.ev,PE.sub_ev h s x,PE.sub_ev h s y]
 |.put x y z=>by simp only[PE.sub',PE.ev,PE.sub_ev h s x,PE.sub_ev h s y,PE.sub_ev h s z]
 |.mn x y=>by simp only[PE.sub',PE.ev,PE.sub_ev h s x,PE.sub_ev h s y]
 |.mx x y=>by simp only[PE.sub',PE.ev,PE.sub_ev h s x,PE.sub_ev h s y]
 |.tup es=>by simp only[PE.sub',PE.ev,PE.subs_ev h s es]
 |.tget x i=>by simp only[PE.sub',auM,PE.ev,PE.sub_ev h s x]
 |.clo f es=>by simp only[PE.sub',PE.ev,PE.subs_ev h s es]
 |.an x y=>by simp only[PE.sub',PE.ev,PE.sub_ev h s x,PE.sub_ev h s y]
 |.imp c x=>by
  simp only[PE.sub',PE.ev,D.b_bool,ZD,PE.sub_ev h s x];cases holds c (s.ev O)<;>cases(x.ev (s.ev O)).b<;>rfl
def PE.subs_ev {ab:cD}{O:Env}(h:ab.ok O)(s:SE):∀(es:List PE),PE.evs O (PE.subs' ab s es)=PE.evs (s.ev O) es
 |[]=>rfl
 |e::es=>by simp only[PE.subs',PE.evs,PE.sub_ev h s e,PE.subs_ev h s es]
def PE.subc_ev {ab:cD}{O:Env}(h:ab.ok O)(s:SE):∀(es:List PE),PE.evc O (PE.subs' ab s es)=PE.evc (s.ev O) es
 |[]=>rfl
 |e::es=>by simp only[PE.subs',PE.evc,PE.sub_ev h s e,PE.subc_ev h s es]
end
inductive PT where
 |next (s:SE)
 |exit (id:Nat) (s:SE)
 |ret (e:PE)
 |chk (e:PE) (k:PT)
 |ite (c:PE) (a b:PT)
 |call (s:SE) (gs:List (Nat×Bool)) (dst f:Nat) (args:List PE) (k:PT)
 |callc (s:SE) (gs:List (Nat×Bool)) (dst:Nat) (e:PE) (args:List PE) (k:PT)
 |mcall (s:SE) (j f:Nat) (args:List PE) (k:PT)
 |iteS (s:SE) (c:PE) (lr lo:List Nat) (a b k:PT)
 |blockS (s:SE) (id:Nat) (lr lo:List Nat) (a k:PT)
 |brk (s:SE) (c:PC) (k:PT)
def aL (T:dI):PT->Env->(Out->Prop)->Prop
 |.next s,O,Q=>Q (.next (s.ev O))
 |.exit id s,O,Q=>Q (.exit id (s.ev O))
 |.ret e,O,Q=>Q (.ret (e.ev O))
 |.chk e k,O,Q=>(e.ev O).b=true/\aL T k O Q
 |.ite c a b,O,Q=>if(c.ev O).b=true then aL T a O Q else aL T b O Q
 |.call s gs dst f args k,O,Q=>if holds gs (s.ev O)=true then ∃d,au T f (PE.evs O args) d/\aL T k ((s.ev O).setR dst d) Q else aL T k (s.ev O) Q
 |.callc s gs dst e args k,O,Q=>if holds gs (s.ev O)=true then ∃f caps d,e.ev O=.clo f caps/\au T f (PE.evs O args++caps) d/\aL T k ((s.ev O).setR dst d) Q else aL T k (s.ev O) Q
 |.mcall s j f args k,O,Q=>∃d,au T f (PE.evs O args) d/\aL T k ((s.ev O).setO j d) Q
 |.iteS s c lr lo a b k,O,Q=>if(c.ev O).b=true then aL T a (s.ev O) (mh (s.ev O) lr lo (iV (λO'=>aL T k O' Q) Q)) else aL T b (s.ev O) (mh (s.ev O) lr lo (iV (λO'=>aL T k O' Q) Q))
 |.blockS s id lr lo a k,O,Q=>aL T a (s.ev O) (ns (s.ev O) id lr lo (iV (λO'=>aL T k O' Q) Q))
 |.brk s c k,O,Q=>aP T c (s.ev O) (iV (λO'=>aL T k O' Q) Q)
def pY:PI->Bool
 |.setR ..|.setO ..|.chk _=>true
 |_=>false
def eQ:PC->Bool
 |.loop ..=>false
 |.each ..=>false
 |.meach ..=>false
 |.seq a b=>eQ a&&eQ b
 |.ite _ _ _ a b=>eQ a&&eQ b
 |.block _ _ _ a=>eQ a
 |.is l=>l.all pY
 |_=>true
abbrev Kn:=cD->SE->PT
abbrev Kx:=cD->Nat->SE->PT
def oV:List PI->cD->SE->Kn->PT
 |[],ab,s,k=>k ab s
 |.setR t e::l,ab,s,k=>oV l ab (s.setR t (e.sub' ab s)) k
 |.setO t e::l,ab,s,k=>oV l ab (s.setO t (e.sub' ab s)) k
 |.chk e::l,ab,s,k=>
  match xp ab (e.sub' ab s) with
  |some true=>oV l ab s k
  |_=>.chk (e.sub' ab s) (oV l ((e.sub' ab s,true)::ab) s k)
 |.call gs dst f args::l,ab,s,k=>.call s gs dst f (PE.subs' ab s args) (oV l [] .id k)
 |.callc gs dst e args::l,ab,s,k=>.callc s gs dst (e.sub' ab s) (PE.subs' ab s args) (oV l [] .id k)
 |.mcall j f args::l,ab,s,k=>.mcall s j f (PE.subs' ab s args) (oV l [] .id k)
def SE.merge (s:SE)(ab:cD)(lr lo:List Nat)(c:PE)(a b:SE):SE:=⟨lr.map (λt=>(t,uL ab c (a.getR t) (b.getR t)))++s.r,lo.map (λt=>(t,uL ab c (a.getO t) (b.getO t)))++s.o⟩
def rf:List PI->cD->SE->Option SE
 |[],_,s=>some s
 |.setR t e::l,ab,s=>rf l ab (s.setR t (e.sub' ab s))
 |.setO t e::l,ab,s=>rf l ab (s.setO t (e.sub' ab s))
 |_::_,_,_=>none
def plain:PC->cD->SE->Option SE
 |.skip,_,s=>some s
 |.is l,ab,s=>rf l ab s
 |.seq a b,ab,s=>(plain a ab s).bind λs=>plain b ab s
 |.ite c lr lo a b,ab,s=>(plain a ab s).bind λsa=>(plain b ab s).map λsb=>s.merge ab lr lo (c.sub' ab s) sa sb
 |_,_,_=>none
def abv:PC->Bool
 |.loop ..=>true
 |_=>false
def sx:PC->cD->SE->Kn->Kx->PT
 |.skip,ab,s,k,_=>k ab s
 |.is l,ab,s,k,_=>oV l ab s k
 |.seq a b,ab,s,k,kx=>sx a ab s (λab s=>sx b ab s k kx) kx
 |.ite c lr lo a b,ab,s,k,kx=>
  match xp ab (c.sub' ab s) with
  |some true=>bif eQ a then sx a ab s (λab s'=>k ab (s.join lr lo s')) kx else .iteS s (c.sub' ab s) lr lo (sx a [] .id (λ_ s=>.next s) (λ_ id s=>.exit id s)) (sx b [] .id (λ_ s=>.next s) (λ_ id s=>.exit id s)) (k [] .id)
  |some false=>bif eQ b then sx b ab s (λab s'=>k ab (s.join lr lo s')) kx else .iteS s (c.sub' ab s) lr lo (sx a [] .id (λ_ s=>.next s) (λ_ id s=>.exit id s)) (sx b [] .id (λ_ s=>.next s) (λ_ id s=>.exit id s)) (k [] .id)
  |none=>
   match plain a ab s,plain b ab s with
   |some sa,some sb=>k ab (s.merge ab lr lo (c.sub' ab s) sa sb)
   |_,_=>
   bif eQ a&&eQ b then
    .ite (c.sub' ab s) (sx a ((c.sub' ab s,true)::ab) s (λab s'=>k ab (s.join lr lo s')) kx) (sx b ((c.sub' ab s,false)::ab) s (λab s'=>k ab (s.join lr lo s')) kx)
   else .iteS s (c.sub' ab s) lr lo (sx a [] .id (λ_ s=>.next s) (λ_ id s=>.exit id s)) (sx b [] .id (λ_ s=>.next s) (λ_ id s=>.exit id s)) (k [] .id)
 |.block id lr lo a,ab,s,k,kx=>
  bif eQ a then sx a ab s (λab s'=>k ab (s.join lr lo s')) (λab cA s'=>bif Nat.beq cA id then k ab (s.join lr lo s') else kx ab cA s')
  else bif abv a then .brk s (.block id lr lo a) (k [] .id)
  else .blockS s id lr lo (sx a [] .id (λ_ s=>.next s) (λ_ id s=>.exit id s)) (k [] .id)
 |.loop lr lo a,_,s,k,_=>.brk s (.loop lr lo a) (k [] .id)
 |.each e ps lo rt a,_,s,k,_=>.brk s (.each e ps lo rt a) (k [] .id)
 |.meach J ps dF lo a,_,s,k,_=>.brk s (.meach J ps dF lo a) (k [] .id)
 |.exit id,ab,s,_,kx=>kx ab id s
 |.ret e,ab,s,_,_=>.ret (e.sub' ab s)
def cD.ok_nil (O:Env):cD.ok [] O:=λ_ h=>nomatch h
def cD.ok_cons {ab:cD}{O:Env}{e:PE}{b:Bool}(h:ab.ok O)(he:(e.ev O).b=b):cD.ok ((e,b)::ab) O:=λx hx=>by
 rcases cZ.1 hx with e'|hx
 .rw[e'];exact he
 .exact h x hx
def th {T:dI}{Q:Out->Prop}{K:Env->Prop}{k:Kn}:∀{l:List PI} {ab:cD} {s:SE} {O:Env},ab.ok O->aL T (oV l ab s k) O Q->
 (∀O' ab s,(l.all pY=true->O'=O)->ab.ok O'->aL T (k ab s) O' Q->K (s.ev O'))->iW T l (s.ev O) K
 |[],ab,s,O,ha,h,hk=>hk O ab s (λ_=>rfl) ha h
 |.setR t e::l,ab,s,O,ha,h,hk=>by
  simp only[iW];rw[<-PE.sub_ev ha s e,<-SE.setR_ev];exact th ha h λO' ab s hp=>hk O' ab s λhl=>hp (by simpa [pY] using hl)
 |.setO t e::l,ab,s,O,ha,h,hk=>by
  simp only[iW];rw[<-PE.sub_ev ha s e,<-SE.setO_ev];exact th ha h λO' ab s hp=>hk O' ab s λhl=>hp (by simpa [pY] using hl)
 |.chk e::l,ab,s,O,ha,h,hk=>by
  simp only[iW];rw[<-PE.sub_ev ha s e];simp only[oV] at h;split at h
  .rename_i ht;exact⟨zA ha ht,th ha h λO' ab s hp=>hk O' ab s λhl=>hp (by simpa [pY] using hl)⟩
  .exact⟨h.1,th (cD.ok_cons ha h.1) h.2 λO' ab s hp=>hk O' ab s λhl=>hp (by simpa [pY] using hl)⟩
 |.call gs dst f args::l,ab,s,O,ha,h,hk=>by
  simp only[iW];simp only[oV,aL,PE.subs_ev ha,PE.sub_ev ha] at h;have bM:∀{ρ0:Env},∀O' ab s,(l.all pY=true->O'=ρ0)->ab.ok O'->aL T (k ab s) O' Q->K (s.ev O'):=λO' ab s _=>hk O' ab s λhl=>by simp[pY] at hl
  split at h
  .rename_i hg;rw[if_pos hg];obtain⟨d,hd,h⟩:=h;exact⟨d,hd,th (s:=.id) (cD.ok_nil _) h bM⟩
  .rename_i hg;rw[if_neg hg];exact th (s:=.id) (cD.ok_nil _) h bM
 |.callc gs dst e args::l,ab,s,O,ha,h,hk=>by
  simp only[iW];simp only[oV,aL,PE.subs_ev ha,PE.sub_ev ha] at h;have bM:∀{ρ0:Env},∀O' ab s,(l.all pY=true->O'=ρ0)->ab.ok O'->aL T (k ab s) O' Q->K (s.ev O'):=λO' ab s _=>hk O' ab s λhl=>by simp[pY] at hl
  split at h
  .rename_i hg;rw[if_pos hg];obtain⟨f,caps,d,he,hd,h⟩:=h;exact⟨f,caps,d,he,hd,th (s:=.id) (cD.ok_nil _) h bM⟩
  .rename_i hg;rw[if_neg hg];exact th (s:=.id) (cD.ok_nil _) h bM
 |.mcall j f args::l,ab,s,O,ha,h,hk=>by
  simp only[iW];simp only[oV,aL,PE.subs_ev ha,PE.sub_ev ha] at h;have bM:∀{ρ0:Env},∀O' ab s,(l.all pY=true->O'=ρ0)->ab.ok O'->aL T (k ab s) O' Q->K (s.ev O'):=λO' ab s _=>hk O' ab s λhl=>by simp[pY] at hl
  obtain⟨d,hd,h⟩:=h;exact⟨d,hd,th (s:=.id) (cD.ok_nil _) h bM⟩
def SE.merge_ev {ab:cD}{O:Env}(h:ab.ok O)(s a b:SE)(lr lo:List Nat)(c:PE):(s.merge ab lr lo c a b).ev O=(s.ev O).join lr lo (if(c.ev O).b=true then a.ev O else b.ev O):=by
 have h1:∀u,((s.merge ab lr lo c a b).getR u).ev O=((s.ev O).join lr lo (if(c.ev O).b=true then a.ev O else b.ev O)).r u:=by
  intro u;rw[Env.join_r];have e:bS (s.merge ab lr lo c a b).r u=if u∈lr then some (uL ab c (a.getR u) (b.getR u)) else bS s.r u:=yY lr;have e2:(s.merge ab lr lo c a b).getR u=if u∈lr then uL ab c (a.getR u) (b.getR u) else s.getR u:=by
   unfold SE.getR;rw[e];by_cases h:u∈lr<;>simp[h,SE.getR]
  rw[e2];by_cases hu:u∈lr
  .simp only[hu,if_true,SY h,PE.ev];cases hc:(c.ev O).b<;>simp[SE.ev]
  .simp only[hu,if_false];rfl
 have h2:∀u,((s.merge ab lr lo c a b).getO u).ev O=((s.ev O).join lr lo (if(c.ev O).b=true then a.ev O else b.ev O)).o u:=by
  intro u;rw[Env.join_o];have e:bS (s.merge ab lr lo c a b).o u=if u∈lo then some (uL ab c (a.getO u) (b.getO u)) else bS s.o u:=yY lo;have e2:(s.merge ab lr lo c a b).getO u=if u∈lo then uL ab c (a.getO u) (b.getO u) else s.getO u:=by
   unfold SE.getO;rw[e];by_cases h:u∈lo<;>simp[h,SE.getO]
  rw[e2];by_cases hu:u∈lo
  .simp only[hu,if_true,SY h,PE.ev];cases hc:(c.ev O).b<;>simp[SE.ev]
  .simp only[hu,if_false];rfl
 have e1:(λu=>((s.merge ab lr lo c a b).getR u).ev O)=((s.ev O).join lr lo (if(c.ev O).b=true then a.ev O else b.ev O)).r:=funext h1;have e2:(λu=>((s.merge ab lr lo c a b).getO u).ev O)=((s.ev O).join lr lo (if(c.ev O).b=true then a.ev O else b.ev O)).o:=funext h2;show Env.mk _ _=_;rw[e1,e2]
def S4 {T:dI}{ab:cD}{O:Env}(ha:ab.ok O):∀{l:List PI} {s s':SE},rf l ab s=some s'->∀{K:Env->Prop},K (s'.ev O)->iW T l (s.ev O) K
 |[],s,s',h,K,hk=>by simp only[rf,aS] at h;subst h;exact hk
 |.setR t e::l,s,s',h,K,hk=>by simp only[iW];rw[<-PE.sub_ev ha s e,<-SE.setR_ev];exact S4 (l:=l) ha (show rf l ab _=some s' from h) hk
 |.setO t e::l,s,s',h,K,hk=>by simp only[iW];rw[<-PE.sub_ev ha s e,<-SE.setO_ev];exact S4 (l:=l) ha (show rf l ab _=some s' from h) hk
 |.chk _::_,_,_,h,_,_=>by simp[rf] at h
 |.call ..::_,_,_,h,_,_=>by simp[rf] at h
 |.callc ..::_,_,_,h,_,_=>by simp[rf] at h
 |.mcall ..::_,_,_,h,_,_=>by simp[rf] at h
def asx {T:dI}{ab:cD}{O:Env}(ha:ab.ok O):∀(c:PC) {s s':SE},plain c ab s=some s'->∀{Q:Out->Prop},Q (.next (s'.ev O))->aP T c (s.ev O) Q:=by
 intro c
 induction c with
 |skip=>intro s s' h Q hq;simp only[plain,aS] at h;subst h;exact .skip hq
 |is l=>intro s s' h Q hq;exact .is (S4 ha h hq)
 |seq a b bO fg=>
  intro s s' h Q hq;simp only[plain,aw] at h;obtain⟨s1,h1,h2⟩:=h;exact .seq (bO h1 (fg h2 hq))
 |ite c lr lo a b bO fg=>
  intro s s' h Q hq;simp only[plain,aw,aC] at h;obtain⟨sa,h1,sb,h2,rfl⟩:=h;rw[SE.merge_ev ha,PE.sub_ev ha] at hq;refine .ite ?_;split
  .rename_i hc;rw[if_pos hc] at hq;exact bO h1 hq
  .rename_i hc;rw[if_neg hc] at hq;exact fg h2 hq
 |_=>intro s s' h;simp[plain] at h
def UT {T:dI}:∀(c:PC) {ab:cD} {s:SE} {k:Kn} {kx:Kx} {O:Env} {Q Q':Out->Prop},ab.ok O->aL T (sx c ab s k kx) O Q->
 (∀O' ab s,(eQ c=true->O'=O)->ab.ok O'->aL T (k ab s) O' Q->Q' (.next (s.ev O')))->
 (∀O' ab id s,(eQ c=true->O'=O)->ab.ok O'->aL T (kx ab id s) O' Q->Q' (.exit id (s.ev O')))->(eQ c=false->∀id O',Q (.exit id O')->Q' (.exit id O'))->(∀d,Q (.ret d)->Q' (.ret d))->aP T c (s.ev O) Q':=by
 intro c;have alone:∀(a:PC),(∀{ab:cD} {s:SE} {k:Kn} {kx:Kx} {O:Env} {Q Q':Out->Prop},ab.ok O->aL T (sx a ab s k kx) O Q->
  (∀O' ab s,(eQ a=true->O'=O)->ab.ok O'->aL T (k ab s) O' Q->Q' (.next (s.ev O')))->
  (∀O' ab id s,(eQ a=true->O'=O)->ab.ok O'->aL T (kx ab id s) O' Q->Q' (.exit id (s.ev O')))->(eQ a=false->∀id O',Q (.exit id O')->Q' (.exit id O'))->(∀d,Q (.ret d)->Q' (.ret d))->aP T a (s.ev O) Q')->
  ∀{O:Env} {Q:Out->Prop},aL T (sx a [] .id (λ_ s=>.next s) (λ_ id s=>.exit id s)) O Q->aP T a O Q:=by
  intro a ih O Q h;exact ih (s:=.id) (cD.ok_nil _) h (λO' ab s _ _ h=>h) (λO' ab id s _ _ h=>h) (λ_ _ _ h=>h) (λ_ h=>h)
 induction c with
 |skip=>intro ab s k kx O Q Q' ha h hk _ _ _;exact .skip (hk O ab s (λ_=>rfl) ha h)
 |is l=>intro ab s k kx O Q Q' ha h hk _ _ _;exact .is (th (K:=λO'=>Q' (.next O')) ha h hk)
 |seq a b bO fg=>
  intro ab s k kx O Q Q' ha h hk hx km hr;refine .seq (bO ha h (Q':=iV (λO'=>aP T b O' Q') Q') (λO' ab s hp oq h'=>?_) (λO' ab id s hp oq h'=>?_) (λhp=>?_) hr)
  .refine fg oq h' (λρ2 ab s gy=>hk ρ2 ab s λhl=>?_) (λρ2 ab id s gy=>hx ρ2 ab id s λhl=>?_) (λgy=>?_) hr
   .simp only[eQ,aq] at hl;rw[gy hl.2,hp hl.1]
   .simp only[eQ,aq] at hl;rw[gy hl.2,hp hl.1]
   .exact km (by simp[eQ,gy])
  .exact hx O' ab id s (λhl=>by simp only[eQ,aq] at hl;exact hp hl.1) oq h'
  .exact km (by simp[eQ,hp])
 |ite c lr lo a b bO fg=>
  intro ab s k kx O Q Q' ha h hk hx km hr;have bX:((c.sub' ab s).ev O).b=(c.ev (s.ev O)).b:=by rw[PE.sub_ev ha]
  have struct:(eQ a&&eQ b)=false->aL T (.iteS s (c.sub' ab s) lr lo (sx a [] .id (λ_ s=>.next s) (λ_ id s=>.exit id s)) (sx b [] .id (λ_ s=>.next s) (λ_ id s=>.exit id s)) (k [] .id)) O Q->aP T (.ite c lr lo a b) (s.ev O) Q':=by
   intro E9 h;have sq:eQ (.ite c lr lo a b)=false:=E9;simp only[aL,bX] at h
   have conv:∀x,mh (s.ev O) lr lo (iV (λO'=>aL T (k [] .id) O' Q) Q) x->mh (s.ev O) lr lo Q' x:=by
      intro x dz;cases x with
      |next O'=>exact hk _ [] .id (λhl=>by rw[sq] at hl;cases hl) (cD.ok_nil _) dz
      |exit id O'=>exact km sq id O' dz
      |ret d=>exact hr d dz
   refine .ite ?_;split at h
   .rename_i hc;rw[if_pos hc];exact(alone a bO h).mono conv
   .rename_i hc;rw[if_neg hc];exact(alone b fg h).mono conv
  have inA:∀xL,xL.ok O->eQ a=true->aL T (sx a xL s (λab s'=>k ab (s.join lr lo s')) kx) O Q->aP T a (s.ev O) (mh (s.ev O) lr lo Q'):=by
   intro xL oq fZ h';refine bO oq h' (λO' ab s' hp pB kJ=>?_) (λO' ab id s' hp pB kJ=>?_) (λhp=>by rw[fZ] at hp;cases hp) hr
   .have e:=hp fZ;subst e;show Q' (.next _);rw[<-SE.join_ev];exact hk O' ab _ (λ_=>rfl) pB kJ
   .have e:=hp fZ;subst e;exact hx O' ab id s' (λ_=>rfl) pB kJ
  have aJ:∀xL,xL.ok O->eQ b=true->aL T (sx b xL s (λab s'=>k ab (s.join lr lo s')) kx) O Q->aP T b (s.ev O) (mh (s.ev O) lr lo Q'):=by
   intro xL oq fZ h';refine fg oq h' (λO' ab s' hp pB kJ=>?_) (λO' ab id s' hp pB kJ=>?_) (λhp=>by rw[fZ] at hp;cases hp) hr
   .have e:=hp fZ;subst e;show Q' (.next _);rw[<-SE.join_ev];exact hk O' ab _ (λ_=>rfl) pB kJ
   .have e:=hp fZ;subst e;exact hx O' ab id s' (λ_=>rfl) pB kJ
  simp only[sx] at h;split at h
  .rename_i ht;cases fZ:eQ a<;>simp only[fZ,zyx,zyw] at h
   .exact struct (by simp[fZ]) h
   .refine .ite ?_;rw[if_pos (by rw[<-bX];exact zA ha ht)];exact inA ab ha fZ h
  .rename_i ht;cases fZ:eQ b<;>simp only[fZ,zyx,zyw] at h
   .exact struct (by simp[fZ]) h
   .refine .ite ?_;rw[if_neg (by rw[<-bX,zA ha ht];simp)];exact aJ ab ha fZ h
  .split at h
   .rename_i sa sb Rf ki;have dO:plain (.ite c lr lo a b) ab s=some (s.merge ab lr lo (c.sub' ab s) sa sb):=by simp[plain,Rf,ki]
    exact asx ha _ dO (hk O ab _ (λ_=>rfl) ha h)
   cases fZ:(eQ a&&eQ b)<;>simp only[fZ,zyx,zyw] at h
   .exact struct fZ h
   .simp only[aq] at fZ;simp only[aL] at h;refine .ite ?_;rw[<-bX];split at h
    .rename_i hc;rw[if_pos hc];exact inA _ (cD.ok_cons ha hc) fZ.1 h
    .rename_i hc;rw[if_neg hc];exact aJ _ (cD.ok_cons ha (by simpa using hc)) fZ.2 h
 |block id lr lo a bO=>
  intro ab s k kx O Q Q' ha h hk hx km hr;simp only[sx] at h;cases fZ:eQ a<;>simp only[fZ,zyx,zyw] at h
  .have sq:eQ (.block id lr lo a)=false:=fZ;cases hl:abv a<;>simp only[hl,zyx,zyw] at h
   case true=>
        simp only[aL] at h;refine aP.mono h λx dz=>?_;cases x with
        |next O'=>exact hk _ [] .id (λhl=>by rw[sq] at hl;cases hl) (cD.ok_nil _) dz
        |exit id O'=>exact km sq id O' dz
        |ret d=>exact hr d dz
   simp only[aL] at h;refine .block ((alone a bO h).mono λx dz=>?_);cases x with
   |next O'=>exact hk _ [] .id (λhl=>by rw[sq] at hl;cases hl) (cD.ok_nil _) dz
   |exit cA O'=>
    simp only[ns] at dz ⊢;split
    .rename_i e;rw[if_pos e] at dz;exact hk _ [] .id (λhl=>by rw[sq] at hl;cases hl) (cD.ok_nil _) dz
    .rename_i e;rw[if_neg e] at dz;exact km sq cA O' dz
   |ret d=>exact hr d dz
  .refine .block (bO ha h (λO' ab s' hp pB kJ=>?_) (λO' ab cA s' hp pB kJ=>?_) (λhp=>by rw[fZ] at hp;cases hp) hr)
   .have e:=hp fZ;subst e;show Q' (.next _);rw[<-SE.join_ev];exact hk O' ab _ (λ_=>rfl) pB kJ
   .have e:=hp fZ;subst e;simp only[ns];by_cases dy:cA=id
    .subst dy;simp only[ja,zyx] at kJ;rw[if_pos rfl,<-SE.join_ev];exact hk O' ab _ (λ_=>rfl) pB kJ
    .rw[fS dy,zyw] at kJ;rw[if_neg dy];exact hx O' ab cA s' (λ_=>rfl) pB kJ
 |loop lr lo a bO=>
  intro ab s k kx O Q Q' ha h hk hx km hr;simp only[sx,aL] at h;refine aP.mono h λx dz=>?_;cases x with
  |next O'=>exact hk _ [] .id (λhl=>by cases hl) (cD.ok_nil _) dz
  |exit id O'=>exact km rfl id O' dz
  |ret d=>exact hr d dz
 |each e ps lo rt a bO=>
  intro ab s k kx O Q Q' ha h hk hx km hr;simp only[sx,aL] at h;refine aP.mono h λx dz=>?_;cases x with
  |next O'=>exact hk _ [] .id (λhl=>by cases hl) (cD.ok_nil _) dz
  |exit id O'=>exact km rfl id O' dz
  |ret d=>exact hr d dz
 |meach J ps dF lo a bO=>
  intro ab s k kx O Q Q' ha h hk hx km hr;simp only[sx,aL] at h;refine aP.mono h λx dz=>?_;cases x with
  |next O'=>exact hk _ [] .id (λhl=>by cases hl) (cD.ok_nil _) dz
  |exit id O'=>exact km rfl id O' dz
  |ret d=>exact hr d dz
 |exit id=>intro ab s k kx O Q Q' ha h _ hx _ _;exact .exit (hx O ab id s (λ_=>rfl) ha h)
 |ret e=>
  intro ab s k kx O Q Q' ha h _ _ _ hr;simp only[sx,aL] at h;refine .ret (hr _ ?_);rw[PE.sub_ev ha] at h;exact h
def Lk.un (a b:Lk):Lk:=⟨Nat.lor a.r b.r,kA a.o b.o⟩
def bits (l:List Nat):Nat:=l.foldr (λt m=>Nat.lor (eI t) m) 0
def O5 {l:List Nat}{t:Nat}(h:t∈l):ay (bits l) t=true:=by
 induction l with
 |nil=>cases h
 |cons x l ih=>
  show ay (Nat.lor (eI x) (bits l)) t=true;rw[gu];rcases cZ.1 h with e|h
  .subst e;rw[rQ];rfl
  .rw[ih h,oY]
def Xj:∀{a b:List Nat} {x:Nat},x∈kA a b↔x∈a\/x∈b
 |[],b,x=>by simp[kA]
 |y::a,b,x=>by
  have ih:=Xj (a:=a) (b:=bif gB b y then b else y::b) (x:=x);show x∈kA a _↔_;rw[ih];cases hb:gB b y with
  |true=>simp only[zyx,cZ];have:=(qY b y).1 hb;constructor
         .rintro(h|h);exact .inl (.inr h);exact .inr h
         .rintro((rfl|h)|h);exact .inr this;exact .inl h;exact .inr h
  |false=>simp only[zyw,cZ];constructor
          .rintro(h|h|h);exact .inl (.inr h);exact .inl (.inl h);exact .inr h
          .rintro((h|h)|h);exact .inr (.inl h);exact .inl h;exact .inr (.inr h)
def Lk.Le (a K:Lk):Prop:=(∀t,ay a.r t=true->ay K.r t=true)/\∀j,j∈a.o->j∈K.o
def Lk.le_l (a b:Lk):a.Le (a.un b):=⟨λt h=>by simp only[Lk.un,gu,h,zI],λj h=>Xj.2 (.inl h)⟩
def Lk.le_r (a b:Lk):b.Le (a.un b):=⟨λt h=>by simp only[Lk.un,gu,h,oY],λj h=>Xj.2 (.inr h)⟩
def Lk.Le.trans {a b c:Lk}(h:a.Le b)(k:b.Le c):a.Le c:=⟨λt ht=>k.1 t (h.1 t ht),λj hj=>k.2 j (h.2 j hj)⟩
def Alike.le {a K:Lk}{O O':Env}(h:Alike K O O')(k:a.Le K):Alike a O O':=⟨λt ht=>h.r t (k.1 t ht),λj hj=>h.o j (k.2 j hj)⟩
def Lk.Le.of_un {a b K:Lk}(h:(a.un b).Le K):a.Le K/\b.Le K:=⟨(Lk.le_l a b).trans h,(Lk.le_r a b).trans h⟩
def Alike.setR {K:Lk}{O O':Env}(h:Alike K O O')(t:Nat)(d:D):Alike K (O.setR t d) (O'.setR t d):=⟨λu hu=>by rw[Env.setR_r,Env.setR_r];split;rfl;exact h.r u hu,h.o⟩
def Alike.setO {K:Lk}{O O':Env}(h:Alike K O O')(t:Nat)(d:D):Alike K (O.setO t d) (O'.setO t d):=⟨h.r,λu hu=>by rw[Env.setO_o,Env.setO_o];split;rfl;exact h.o u hu⟩
def Alike.join {K:Lk}{O O' H H':Env}(h:Alike K O O')(k:Alike K H H')(lr lo:List Nat):Alike K (O.join lr lo H) (O'.join lr lo H'):=
 ⟨λu hu=>by rw[Env.join_r,Env.join_r];split;exact k.r u hu;exact h.r u hu,λu hu=>by rw[Env.join_o,Env.join_o];split;exact k.o u hu;exact h.o u hu⟩
def S6 {f g:Nat->D}{u:Nat}(h:g u=f u):∀(ts:List Nat) (xs:List D),putL g ts xs u=putL f ts xs u
 |[],xs=>by rw[L5,L5];exact h
 |t::ts,[]=>by simp only[putL];exact h
 |t::ts,x::xs=>by rw[L4,L4];split;rfl;exact S6 h ts xs
def Alike.put {K:Lk}{O O':Env}(h:Alike K O O')(lr lo:List Nat)(vr vo:List D):Alike K (O.put lr vr lo vo) (O'.put lr vr lo vo):=⟨λu hu=>S6 (h.r u hu) lr vr,λu hu=>S6 (h.o u hu) lo vo⟩
def PI.lkw:PI->Lk
 |.setR t e=>e.lk.un ⟨eI t,[]⟩
 |.setO j e=>e.lk.un ⟨0,[j]⟩
 |.chk e=>e.lk
 |.call gs dst f aa=>(PI.call gs dst f aa).lk.un ⟨eI dst,[]⟩
 |.callc gs dst e aa=>(PI.callc gs dst e aa).lk.un ⟨eI dst,[]⟩
 |.mcall j f aa=>(PI.mcall j f aa).lk.un ⟨0,[j]⟩
def PC.lk:PC->Lk
 |.skip=>.none
 |.exit _=>.none
 |.is l=>l.foldr (λp k=>p.lkw.un k) .none
 |.seq a b=>(PC.lk a).un (PC.lk b)
 |.ite c _ _ a b=>c.lk.un ((PC.lk a).un (PC.lk b))
 |.block _ _ _ a=>PC.lk a
 |.loop lr lo a=>(⟨bits lr,lo⟩:Lk).un (PC.lk a)
 |.ret e=>e.lk
 |.each e _ lo rt a=>e.lk.un ((match rt with|some e=>e.lk|none=>.none).un ((⟨0,lo⟩:Lk).un (PC.lk a)))
 |.meach J _ _ lo a=>(⟨0,J::lo⟩:Lk).un (PC.lk a)
structure Off (K:Lk) (b H H':Env):Prop where
 al:Alike K H H'
 r:∀t,ay K.r t=false->H'.r t=b.r t
 o:∀j,j∉K.o->H'.o j=b.o j
def vw (K:Lk)(b:Env):Out->Out->Prop
 |.next H,x=>∃H',x=.next H'/\Off K b H H'
 |.exit i H,x=>∃H',x=.exit i H'/\Off K b H H'
 |.ret d,x=>x=.ret d
def Off.uniq {K:Lk}{b H H' η2:Env}(h:Off K b H H')(k:Off K b H η2):η2=H':=by
 have h1:∀t,η2.r t=H'.r t:=λt=>by
  cases hb:ay K.r t with
  |true=>rw[k.al.r t hb,h.al.r t hb]
  |false=>rw[k.r t hb,h.r t hb]
 have h2:∀t,η2.o t=H'.o t:=λt=>by
  by_cases hb:t∈K.o
  .rw[k.al.o t hb,h.al.o t hb]
  .rw[k.o t hb,h.o t hb]
 cases η2;cases H'
 congr
 .exact funext h1
 .exact funext h2
def vw.uniq {K:Lk}{b:Env}{x y z:Out}(h:vw K b x y)(k:vw K b x z):z=y:=by
 cases x with
 |next H=>obtain⟨a,rfl,h⟩:=h;obtain⟨c,rfl,k⟩:=k;rw[h.uniq k]
 |exit i H=>obtain⟨a,rfl,h⟩:=h;obtain⟨c,rfl,k⟩:=k;rw[h.uniq k]
 |ret d=>rw[h,k]
def Off.setR {K:Lk}{b H H':Env}(h:Off K b H H'){t:Nat}(ht:ay K.r t=true)(d:D):Off K b (H.setR t d) (H'.setR t d):=
 ⟨h.al.setR t d,λu hu=>by rw[Env.setR_r,if_neg (λe=>by rw[e,ht] at hu;cases hu)];exact h.r u hu,h.o⟩
def Off.setO {K:Lk}{b H H':Env}(h:Off K b H H'){t:Nat}(ht:t∈K.o)(d:D):Off K b (H.setO t d) (H'.setO t d):=
 ⟨h.al.setO t d,h.r,λu hu=>by rw[Env.setO_o,if_neg (λe=>hu (by rw[e];exact ht))];exact h.o u hu⟩
def Off.join {K:Lk}{b H H' ζ ζ':Env}(h:Off K b H H')(k:Off K b ζ ζ')(lr lo:List Nat):Off K b (H.join lr lo ζ) (H'.join lr lo ζ'):=
 ⟨h.al.join k.al lr lo,λu hu=>by rw[Env.join_r];split;exact k.r u hu;exact h.r u hu,λu hu=>by rw[Env.join_o];split;exact k.o u hu;exact h.o u hu⟩
def S9 {f:Nat->D}{b:D}{u:Nat}(h:f u=b):∀(ts:List Nat) (xs:List D),u∉ts->putL f ts xs u=b
 |[],xs,_=>by rw[L5];exact h
 |t::ts,[],_=>by simp only[putL];exact h
 |t::ts,x::xs,hu=>by rw[L4,if_neg (λe=>hu (by simp[e]))];exact S9 h ts xs (λe=>hu (by simp[e]))
def Off.put {K:Lk}{b H H':Env}(h:Off K b H H'){lr lo:List Nat}(hr:∀t,t∈lr->ay K.r t=true)(ho:∀t,t∈lo->t∈K.o)(vr vo:List D):Off K b (H.put lr vr lo vo) (H'.put lr vr lo vo):=
 ⟨h.al.put lr lo vr vo,λu hu=>S9 (h.r u hu) lr vr (λe=>by rw[hr u e] at hu;cases hu),λu hu=>S9 (h.o u hu) lo vo (λe=>hu (ho u e))⟩
def PI.run_off {Z:aV}{K:Lk}{b O O' H:Env}{p:PI}(hp:p.lkw.Le K)(h:Off K b O O')(hr:p.run Z O=some H):∃H',p.run Z O'=some H'/\Off K b H H':=by
 have uo:p.lk.Le K:=by cases p<;>first|exact hp|exact hp.of_un.1
 rw[PI.run_eff,PI.eff_alike p (h.al.le uo)];rw[PI.run_eff] at hr;cases he:p.eff Z O with
 |none=>rw[he] at hr;cases hr
 |some x=>
  rw[he] at hr;simp only[lU,aS] at hr;subst hr;refine⟨_,rfl,?_⟩;have hb:∀{t:Nat} {a:Lk},(a.un ⟨eI t,[]⟩).Le K->ay K.r t=true:=λh=>h.of_un.2.1 _ (rQ _);have ho:∀{t:Nat} {a:Lk},(a.un ⟨0,[t]⟩).Le K->t∈K.o:=λh=>h.of_un.2.2 _ (by simp);cases p with
  |setR t e=>simp only[PI.eff,aS] at he;subst he;exact h.setR (hb hp) _
  |setO t e=>simp only[PI.eff,aS] at he;subst he;exact h.setO (ho hp) _
  |chk e=>simp only[PI.eff] at he;cases yg:(e.ev O).b<;>rw[yg] at he<;>cases he;exact h
  |call gs d f aa=>
   simp only[PI.eff] at he;cases yg:holds gs O<;>simp only[yg,zyx,zyw,aS,aC] at he
   .subst he;exact h
   .obtain⟨y,_,rfl⟩:=he;exact h.setR (hb hp) _
  |callc gs d e aa=>
   simp only[PI.eff] at he;cases yg:holds gs O<;>simp only[yg,zyx,zyw,aS] at he
   .subst he;exact h
   .split at he
    .simp only[aC] at he;obtain⟨y,_,rfl⟩:=he;exact h.setR (hb hp) _
    .cases he
  |mcall j f aa=>simp only[PI.eff,aC] at he;obtain⟨y,_,rfl⟩:=he;exact h.setO (ho hp) _
def PI.runs_off {Z:aV}{K:Lk}{b:Env}:∀{l:List PI} {O O' H:Env},(l.foldr (λp k=>p.lkw.un k) Lk.none).Le K->Off K b O O'->PI.runs Z l O=some H->∃H',PI.runs Z l O'=some H'/\Off K b H H'
 |[],O,O',H,_,h,hr=>by simp only[PI.runs,aS] at hr ⊢;subst hr;exact⟨_,rfl,h⟩
 |p::l,O,O',H,hl,h,hr=>by
  simp only[PI.runs,aw] at hr;obtain⟨ρ1,h1,h2⟩:=hr;obtain⟨ρ2,h3,h4⟩:=PI.run_off hl.of_un.1 h h1;obtain⟨H',h5,h6⟩:=PI.runs_off (l:=l) hl.of_un.2 h4 h2;exact⟨H',by simp only[PI.runs,h3,lh,h5],h6⟩
def y1 {K:Lk}{b H H':Env}(h:Off K b H H'){lo:List Nat}(ho:∀t,t∈lo->t∈K.o):lo.map H'.o=lo.map H.o:=zP λt ht=>h.al.o t (ho t ht)
def acg {K:Lk}{b H H':Env}(h:Off K b H H'){lr:List Nat}(hr:∀t,t∈lr->ay K.r t=true):lr.map H'.r=lr.map H.r:=zP λt ht=>h.al.r t (hr t ht)
def PC.ev_off {Z:aV}{n:Nat}{K:Lk}:∀(c:PC),c.lk.Le K->∀{b O O':Env} {x:Out},Off K b O O'->c.ev Z n O=some x->∃x',c.ev Z n O'=some x'/\vw K b x x':=by
 intro c
 induction c with
 |skip=>intro _ b O O' x h hr;simp only[PC.ev,aS] at hr ⊢;subst hr;exact⟨_,rfl,_,rfl,h⟩
 |exit id=>intro _ b O O' x h hr;simp only[PC.ev,aS] at hr ⊢;subst hr;exact⟨_,rfl,_,rfl,h⟩
 |ret e=>intro hk B O O' x h hr;simp only[PC.ev,aS] at hr ⊢;subst hr;exact⟨_,rfl,by rw[PE.ev_alike e (h.al.le hk)];rfl⟩
 |is l=>
  intro hk B O O' x h hr;simp only[PC.ev,aC] at hr;obtain⟨H,h1,rfl⟩:=hr;obtain⟨H',h2,h3⟩:=PI.runs_off hk h h1;exact⟨.next H',by simp only[PC.ev,h2,lU],H',rfl,h3⟩
 |seq a b bO fg=>
  intro hk B O O' x h hr;simp only[PC.ev] at hr ⊢;cases ha:a.ev Z n O with
  |none=>rw[ha] at hr;cases hr
  |some y=>
   obtain⟨y',h1,h2⟩:=bO hk.of_un.1 h ha;rw[ha] at hr;rw[h1];cases y with
   |next H=>obtain⟨H',rfl,h3⟩:=h2;exact fg hk.of_un.2 h3 hr
   |exit i H=>obtain⟨H',rfl,h3⟩:=h2;cases hr;exact⟨_,rfl,H',rfl,h3⟩
   |ret d=>cases h2;cases hr;exact⟨_,rfl,rfl⟩
 |ite c lr lo a b bO fg=>
  intro hk B O O' x h hr;have hc:(c.ev O').b=(c.ev O).b:=by rw[PE.ev_alike c (h.al.le hk.of_un.1)]
  have key:∀(d:PC),(∀{O O':Env} {x:Out},Off K B O O'->d.ev Z n O=some x->∃x',d.ev Z n O'=some x'/\vw K B x x')->(match d.ev Z n O with|some (.next H)=>some (.next (O.join lr lo H))|x=>x)=some x->
      ∃x',(match d.ev Z n O' with|some (.next H)=>some (.next (O'.join lr lo H))|x=>x)=some x'/\vw K B x x':=by
   intro d ih hr;cases ha:d.ev Z n O with
   |none=>rw[ha] at hr;cases hr
   |some y=>
    obtain⟨y',h1,h2⟩:=ih h ha;rw[ha] at hr;rw[h1];cases y with
    |next H=>obtain⟨H',rfl,h3⟩:=h2;cases hr;exact⟨_,rfl,_,rfl,h.join h3 lr lo⟩
    |exit i H=>obtain⟨H',rfl,h3⟩:=h2;cases hr;exact⟨_,rfl,H',rfl,h3⟩
    |ret d=>cases h2;cases hr;exact⟨_,rfl,rfl⟩
  simp only[PC.ev,hc] at hr ⊢;cases l5:(c.ev O).b<;>simp only[l5,zyx,zyw] at hr ⊢
  .exact key b (λh1 h2=>fg hk.of_un.2.of_un.2 h1 h2) hr
  .exact key a (λh1 h2=>bO hk.of_un.2.of_un.1 h1 h2) hr
 |block id lr lo a bO=>
  intro hk B O O' x h hr;simp only[PC.ev] at hr ⊢;cases ha:a.ev Z n O with
  |none=>rw[ha] at hr;cases hr
  |some y=>
   obtain⟨y',h1,h2⟩:=bO hk h ha;rw[ha] at hr;rw[h1];cases y with
   |next H=>obtain⟨H',rfl,h3⟩:=h2;cases hr;exact⟨_,rfl,_,rfl,h.join h3 lr lo⟩
   |exit i H=>
    obtain⟨H',rfl,h3⟩:=h2;simp only at hr ⊢;cases hb:Nat.beq i id<;>simp only[hb,zyx,zyw] at hr ⊢<;>cases hr
    .exact⟨_,rfl,H',rfl,h3⟩
    .exact⟨_,rfl,_,rfl,h.join h3 lr lo⟩
   |ret d=>cases h2;cases hr;exact⟨_,rfl,rfl⟩
 |loop lr lo a bO=>
  intro hk B O O' x h hr;have jO:∀t,t∈lr->ay K.r t=true:=λt ht=>hk.of_un.1.1 t (O5 ht);have kQ:∀t,t∈lo->t∈K.o:=λt ht=>hk.of_un.1.2 t ht;have key:∀(m:Nat) (vr vo:List D),jo (a.ev Z n) O lr lo m vr vo=some x->∃x',jo (a.ev Z n) O' lr lo m vr vo=some x'/\vw K B x x':=by
   intro m
   induction m with
   |zero=>intro vr vo h;simp[jo] at h
   |succ m RF=>
    intro vr vo hr;simp only[jo] at hr ⊢;cases ha:a.ev Z n (O.put lr vr lo vo) with
    |none=>rw[ha] at hr;cases hr
    |some y=>
     obtain⟨y',h1,h2⟩:=bO hk.of_un.2 (h.put jO kQ vr vo) ha;rw[ha] at hr;rw[h1];cases y with
     |next H=>obtain⟨H',rfl,h3⟩:=h2;simp only[y1 h3 kQ,acg h3 jO];exact RF _ _ hr
     |exit i H=>obtain⟨H',rfl,h3⟩:=h2;cases hr;exact⟨_,rfl,H',rfl,h3⟩
     |ret d=>cases h2;cases hr;exact⟨_,rfl,rfl⟩
  simp only[PC.ev] at hr ⊢;rw[y1 h kQ,acg h jO];exact key n _ _ hr
 |each e ps lo rt a bO=>
  intro hk B O O' x h hr;obtain⟨bW,bN⟩:=hk.of_un;obtain⟨bN,iQ⟩:=bN.of_un;obtain⟨iQ,nz⟩:=iQ.of_un;have kQ:∀t,t∈lo->t∈K.o:=λt ht=>iQ.2 t ht;have key:∀(xs vo:List D),lX (a.ev Z n) O ps lo rt xs vo=some x->∃x',lX (a.ev Z n) O' ps lo rt xs vo=some x'/\vw K B x x':=by
   intro xs
   induction xs with
   |nil=>intro vo hr;simp only[lX,aS] at hr ⊢;subst hr;exact⟨_,rfl,_,rfl,h.put (λ_ h=>by cases h) kQ _ _⟩
   |cons y xs ko=>
    intro vo hr;simp only[lX] at hr ⊢;cases ha:a.ev Z n (O.put ps (partsOf ps y) lo vo) with
    |none=>rw[ha] at hr;cases hr
    |some z=>
     have kf:Off K (O'.put ps (partsOf ps y) lo vo) (O.put ps (partsOf ps y) lo vo) (O'.put ps (partsOf ps y) lo vo):=⟨h.al.put ps lo _ _,λ_ _=>rfl,λ_ _=>rfl⟩
     obtain⟨z',h1,h2⟩:=bO nz kf ha;rw[ha] at hr;rw[h1];cases z with
     |next H=>obtain⟨H',rfl,h3⟩:=h2;simp only[y1 h3 kQ];exact ko _ hr
     |exit i H=>
      obtain⟨H',rfl,h3⟩:=h2;simp only[y1 h3 kQ] at hr ⊢;have hp:=h.put (lr:=[]) (λ_ h=>by cases h) kQ [] (lo.map H.o);cases hb:Nat.beq i du<;>simp only[hb,zyx,zyw] at hr ⊢
      .cases hr;exact⟨_,rfl,_,rfl,hp⟩
      .cases rt with
       |none=>cases hr
       |some e2=>cases hr;exact⟨_,rfl,by show Out.ret _=Out.ret _;rw[PE.ev_alike e2 (hp.al.le bN)]⟩
     |ret d=>cases hr
  simp only[PC.ev] at hr ⊢;rw[PE.ev_alike e (h.al.le bW),y1 h kQ];exact key _ _ hr
 |meach J ps dF lo a bO=>
  intro hk B O O' x h hr;obtain⟨iQ,nz⟩:=hk.of_un;have kQ:∀t,t∈lo->t∈K.o:=λt ht=>iQ.2 t (dW _ ht);have hJ:O'.o J=O.o J:=h.al.o J (iQ.2 J (er ..));have key:∀(es:D) (xs done vo tn:List D),pX (a.ev Z n) O J es ps dF lo xs done vo=some tn->pX (a.ev Z n) O' J es ps dF lo xs done vo=some tn:=by
   intro es xs
   induction xs with
   |nil=>intro done vo tn h;exact h
   |cons y xs ko=>
    intro done vo tn hr;simp only[pX] at hr ⊢;cases ha:a.ev Z n ((O.put ps (dF.map y.tget) lo vo).setO J (.tup [.list (done++[y]),es])) with
    |none=>rw[ha] at hr;cases hr
    |some z=>
     have kf:Off K ((O'.put ps (dF.map y.tget) lo vo).setO J (.tup [.list (done++[y]),es])) ((O.put ps (dF.map y.tget) lo vo).setO J (.tup [.list (done++[y]),es])) ((O'.put ps (dF.map y.tget) lo vo).setO J (.tup [.list (done++[y]),es])):=
          ⟨(h.al.put ps lo _ _).setO J _,λ_ _=>rfl,λ_ _=>rfl⟩
     obtain⟨z',h1,h2⟩:=bO nz kf ha;rw[ha] at hr;rw[h1];cases z with
     |next H=>obtain⟨H',rfl,h3⟩:=h2;simp only[y1 h3 kQ];exact ko _ _ _ hr
     |exit i H=>cases hr
     |ret d=>cases hr
  simp only[PC.ev,Cs] at hr;obtain⟨vo,⟨h1,h2⟩,rfl⟩:=hr;refine⟨.next (O'.put [] [] lo vo),?_,_,rfl,h.put (λ_ h=>by cases h) kQ _ _⟩;simp only[PC.ev,Cs];refine⟨vo,⟨by rw[hJ];exact h1,λys hy=>?_⟩,rfl⟩;rw[hJ] at hy ⊢;rw[y1 h kQ];exact key _ _ _ _ _ (h2 ys hy)
def px:List Nat->PC->Bool
 |l,.exit id=>gB l id
 |l,.seq a b=>px l a&&px l b
 |l,.ite _ _ _ a b=>px l a&&px l b
 |l,.block id _ _ a=>px (id::l) a
 |l,.loop _ _ a=>px l a
 |l,.each _ _ _ _ a=>px (du::l) a
 |_,_=>true
def aku {Z:aV}{n:Nat}:∀(c:PC) {l:List Nat},px l c=true->∀{O:Env} {i:Nat} {H:Env},c.ev Z n O=some (.exit i H)->i∈l:=by
 intro c
 induction c with
 |skip=>intro l _ O i H h;simp[PC.ev] at h
 |exit id=>intro l hl O i H h;simp only[PC.ev,aS] at h;injection h with h1 h2;subst h1;exact(qY _ _).1 hl
 |ret e=>intro l _ O i H h;simp[PC.ev] at h
 |is _=>intro l _ O i H h;simp[PC.ev] at h
 |seq a b bO fg=>
  intro l hl O i H h;simp only[px,aq] at hl;simp only[PC.ev] at h;split at h
  .exact fg hl.2 h
  .exact bO hl.1 h
 |ite c lr lo a b bO fg=>
  intro l hl O i H h;simp only[px,aq] at hl;simp only[PC.ev] at h;cases hc:(c.ev O).b<;>simp only[hc,zyx,zyw] at h
  .split at h
   .cases h
   .exact fg hl.2 h
  .split at h
   .cases h
   .exact bO hl.1 h
 |block id lr lo a bO=>
  intro l hl O i H h;simp only[PC.ev] at h;split at h
  .cases h
  .rename_i cA ρ2 ha;cases hb:Nat.beq cA id<;>simp only[hb,zyx,zyw] at h<;>cases h;rcases cZ.1 (bO hl ha) with e|e
   .subst e;rw[ja] at hb;cases hb
   .exact e
  .rename_i h1 h2;exact absurd h (h2 _ _)
 |loop lr lo a bO=>
  intro l hl O i H h;have key:∀(m:Nat) (vr vo:List D),jo (a.ev Z n) O lr lo m vr vo=some (.exit i H)->i∈l:=by
   intro m
   induction m with
   |zero=>intro vr vo h;simp[jo] at h
   |succ m RF=>
    intro vr vo h;simp only[jo] at h;split at h
    .exact RF _ _ h
    .exact bO hl h
  exact key _ _ _ h
 |each e ps lo rt a bO=>
  intro l hl O i H h;have key:∀(xs vo:List D),lX (a.ev Z n) O ps lo rt xs vo=some (.exit i H)->i∈l:=by
   intro xs
   induction xs with
   |nil=>intro vo h;simp[lX] at h
   |cons x xs ko=>
    intro vo h;simp only[lX] at h;split at h
    .exact ko _ h
    .rename_i cA ρ2 ha;cases hb:Nat.beq cA du<;>simp only[hb,zyx,zyw] at h
     .injection h with h;injection h with h1 h2;subst h1
      rcases cZ.1 (bO hl ha) with e|e
      .subst e;rw[ja] at hb;cases hb
      .exact e
     .cases rt<;>simp at h
    .cases h
  exact key _ _ h
 |meach J ps dF lo a _=>
  intro l _ O i H h;simp only[PC.ev,Cs] at h;obtain⟨vo,_,h⟩:=h;cases h
def abr (t:Nat):PE->Bool
 |.r u=>Nat.beq u t
 |_=>false
def abt (t:Nat):PE->Bool
 |.o u=>Nat.beq u t
 |_=>false
def fk (pO:Nat->PE->Bool)(p:Nat->Bool):List Nat->List (Nat×PE)->List (Nat×PE)
 |_,[]=>[]
 |seen,x::l=>bif p x.1&& !gB seen x.1 then(bif pO x.1 x.2 then fk pO p (x.1::seen) l else x::fk pO p (x.1::seen) l) else fk pO p seen l
def J2 {pO:Nat->PE->Bool}{p:Nat->Bool}:∀{l:List (Nat×PE)} {seen:List Nat} {t:Nat},gB seen t=true->bS (fk pO p seen l) t=none
 |[],_,_,_=>rfl
 |x::l,seen,t,h=>by
  have h':gB (x.1::seen) t=true:=by rw[qY] at h ⊢;exact dW _ h
  simp only[fk];cases hb:(p x.1&& !gB seen x.1) with
  |false=>exact J2 h
  |true=>
   simp only[zyx];cases pO x.1 x.2 with
   |true=>exact J2 h'
   |false=>
    simp only[zyw,bS];have:Nat.beq x.1 t=false:=by
      cases e:Nat.beq x.1 t with
      |false=>rfl
      |true=>rw[dq e,h] at hb;simp at hb
    rw[this];exact J2 h'
def Eg {pO:Nat->PE->Bool}{p:Nat->Bool}{dflt:Nat->PE}(dy:∀t e,pO t e=true->e=dflt t):∀{l:List (Nat×PE)} {seen:List Nat} {t:Nat},p t=true->gB seen t=false->
 (match bS (fk pO p seen l) t with|some e=>e|none=>dflt t)=(match bS l t with|some e=>e|none=>dflt t)
 |[],_,_,_,_=>rfl
 |x::l,seen,t,hp,hs=>by
  simp only[fk,bS];cases e:Nat.beq x.1 t with
  |true=>
   have e':=dq e;rw[e',hp,hs];simp only[Bool.not_false,Bool.and_self,zyx];cases hi:pO t x.2 with
   |true=>simp only[zyx];rw[J2 (by rw[qY];exact er ..)];exact(dy _ _ hi).symm
   |false=>simp only[zyw,bS,e,zyx]
  |false=>
   simp only[zyw];cases hb:(p x.1&& !gB seen x.1) with
   |false=>exact Eg dy hp hs
   |true=>
    have qQ:gB (x.1::seen) t=false:=by
      cases hm:gB (x.1::seen) t with
      |false=>rfl
      |true=>
       rcases cZ.1 ((qY _ _).1 hm) with h|h
       .rw[h,ja] at e;cases e
       .rw[(qY _ _).2 h] at hs;cases hs
    simp only[zyx];cases pO x.1 x.2 with
    |true=>exact Eg dy hp qQ
    |false=>simp only[zyw,bS,e];exact Eg dy hp qQ
def SE.cut (s:SE)(k:Lk):SE:=⟨fk abr (ay k.r) [] s.r,fk abt (gB k.o) [] s.o⟩
def RS (l:List (Nat×PE)):Lk:=l.foldr (λx k=>x.2.lk.un k) .none
def SE.lks (s:SE):Lk:=(RS s.r).un (RS s.o)
def RT:∀{l:List (Nat×PE)} {t:Nat} {e:PE},bS l t=some e->e.lk.Le (RS l)
 |[],_,_,h=>by cases h
 |x::l,t,e,h=>by
  simp only[bS] at h;cases hb:Nat.beq x.1 t<;>simp only[hb,zyx,zyw] at h
  .exact(RT h).trans (Lk.le_r _ _)
  .cases h;exact Lk.le_l _ _
def SE.cut_al {s:SE}{L:Lk}{ρ1 ρ2:Env}(h:Alike (L.un (s.cut L).lks) ρ1 ρ2):Alike L ((s.cut L).ev ρ1) (s.ev ρ2):=by
 have hL:=h.le (Lk.le_l _ _);have hs:=h.le (Lk.le_r _ _);constructor
 .intro t ht;show(s.getR t).ev ρ2=((s.cut L).getR t).ev ρ1;have e:(s.cut L).getR t=s.getR t:=Eg (dflt:=.r) (λt e he=>by unfold abr at he;split at he;rw[dq he];cases he) ht rfl;rw[<-e];cases hl:bS (s.cut L).r t with
  |none=>have:(s.cut L).getR t=.r t:=by unfold SE.getR;rw[hl]
         rw[this];exact hL.r t ht
  |some x=>have:(s.cut L).getR t=x:=by unfold SE.getR;rw[hl]
           rw[this];exact PE.ev_alike x (hs.le ((RT hl).trans (Lk.le_l _ _)))
 .intro t ht;show(s.getO t).ev ρ2=((s.cut L).getO t).ev ρ1;have e:(s.cut L).getO t=s.getO t:=Eg (dflt:=.o) (λt e he=>by unfold abt at he;split at he;rw[dq he];cases he) ((qY _ _).2 ht) rfl;rw[<-e];cases hl:bS (s.cut L).o t with
  |none=>have:(s.cut L).getO t=.o t:=by unfold SE.getO;rw[hl]
         rw[this];exact hL.o t ht
  |some x=>have:(s.cut L).getO t=x:=by unfold SE.getO;rw[hl]
           rw[this];exact PE.ev_alike x (hs.le ((RT hl).trans (Lk.le_r _ _)))
structure LC where
 next:Lk
 ov:List (Nat×Lk)
def LC.all (c:LC):Lk:=c.ov.foldr (λx k=>x.2.un k) .none
def N7 (c:LC)(Q1 Q2:Out->Prop):Prop:=
 (∀ρ1 ρ2,Alike c.next ρ1 ρ2->Q1 (.next ρ1)->Q2 (.next ρ2))/\(∀id k ρ1 ρ2,bS c.ov id=some k->Alike k ρ1 ρ2->Q1 (.exit id ρ1)->Q2 (.exit id ρ2))/\∀d,Q1 (.ret d)->Q2 (.ret d)
def gQ:LC->PT->Option (PT×Lk)
 |c,.next s=>some (.next (s.cut c.next),c.next.un (s.cut c.next).lks)
 |c,.exit id s=>(bS c.ov id).map λk=>(.exit id (s.cut k),k.un (s.cut k).lks)
 |_,.ret e=>some (.ret e,e.lk)
 |c,.chk e k=>(gQ c k).map λr=>(.chk e r.1,e.lk.un r.2)
 |c,.ite e a b=>(gQ c a).bind λx=>(gQ c b).map λy=>(.ite e x.1 y.1,e.lk.un (x.2.un y.2))
 |c,.call s gs dst f args k=>(gQ c k).map λr=>(.call (s.cut (r.2.un (nw gs))) gs dst f args r.1,(PE.lks args).un ((r.2.un (nw gs)).un (s.cut (r.2.un (nw gs))).lks))
 |c,.callc s gs dst e args k=>(gQ c k).map λr=>(.callc (s.cut (r.2.un (nw gs))) gs dst e args r.1,(e.lk.un (PE.lks args)).un ((r.2.un (nw gs)).un (s.cut (r.2.un (nw gs))).lks))
 |c,.mcall s j f args k=>(gQ c k).map λr=>(.mcall (s.cut r.2) j f args r.1,(PE.lks args).un (r.2.un (s.cut r.2).lks))
 |c,.iteS s e lr lo a b k=>(gQ c k).bind λr=>(gQ ⟨r.2,c.ov⟩ a).bind λx=>(gQ ⟨r.2,c.ov⟩ b).map λy=>
    (.iteS (s.cut (r.2.un (x.2.un y.2))) e lr lo x.1 y.1 r.1,e.lk.un ((r.2.un (x.2.un y.2)).un (s.cut (r.2.un (x.2.un y.2))).lks))
 |c,.blockS s id lr lo a k=>(gQ c k).bind λr=>(gQ ⟨r.2,(id,r.2)::c.ov⟩ a).map λx=>(.blockS (s.cut (r.2.un x.2)) id lr lo x.1 r.1,(r.2.un x.2).un (s.cut (r.2.un x.2)).lks)
 |c,.brk s p k=>(gQ c k).bind λr=>bif px (c.ov.map (·.1)) p then some (.brk (s.cut (p.lk.un (r.2.un c.all))) p r.1,(p.lk.un (r.2.un c.all)).un (s.cut (p.lk.un (r.2.un c.all))).lks) else none
def LC.all_le:∀{l:List (Nat×Lk)} {id:Nat} {k:Lk},bS l id=some k->k.Le (l.foldr (λx k=>x.2.un k) .none)
 |[],_,_,h=>by cases h
 |x::l,t,e,h=>by
  simp only[bS] at h;cases hb:Nat.beq x.1 t<;>simp only[hb,zyx,zyw] at h
  .exact(LC.all_le h).trans (Lk.le_r _ _)
  .cases h;exact Lk.le_l _ _
def abR:∀{l:List (Nat×Lk)} {id:Nat},id∈l.map (·.1)->∃k,bS l id=some k
 |[],_,h=>by cases h
 |x::l,id,h=>by
  simp only[bS];cases hb:Nat.beq x.1 id with
  |true=>exact⟨_,rfl⟩
  |false=>
   simp only[zyw];rcases cZ.1 h with e|h
   .rw[e,ja] at hb;cases hb
   .exact abR h
def asD {T:dI}:∀(t:PT) {c:LC} {t':PT} {L:Lk},gQ c t=some (t',L)->∀{Q1 Q2:Out->Prop} {ρ1 ρ2:Env},N7 c Q1 Q2->Alike L ρ1 ρ2->aL T t' ρ1 Q1->aL T t ρ2 Q2:=by
 intro t
 induction t with
 |next s=>
  intro c t' L hp Q1 Q2 ρ1 ρ2 hQ hA h;simp only[gQ,aS,pg] at hp;obtain⟨rfl,rfl⟩:=hp;exact hQ.1 _ _ (SE.cut_al hA) h
 |exit id s=>
  intro c t' L hp Q1 Q2 ρ1 ρ2 hQ hA h;simp only[gQ,aC,pg] at hp;obtain⟨k,hk,rfl,rfl⟩:=hp;exact hQ.2.1 _ k _ _ hk (SE.cut_al hA) h
 |ret e=>
  intro c t' L hp Q1 Q2 ρ1 ρ2 hQ hA h;simp only[gQ,aS,pg] at hp;obtain⟨rfl,rfl⟩:=hp;show Q2 (.ret (e.ev ρ2));rw[PE.ev_alike e hA];exact hQ.2.2 _ h
 |chk e k ih=>
  intro c t' L hp Q1 Q2 ρ1 ρ2 hQ hA h;simp only[gQ,aC,pg] at hp;obtain⟨r,hr,rfl,rfl⟩:=hp;exact⟨by rw[PE.ev_alike e (hA.le (Lk.le_l _ _))];exact h.1,ih hr hQ (hA.le (Lk.le_r _ _)) h.2⟩
 |ite e a b bO fg=>
  intro c t' L hp Q1 Q2 ρ1 ρ2 hQ hA h;simp only[gQ,aw,aC,pg] at hp;obtain⟨x,hx,y,hy,rfl,rfl⟩:=hp;have h2:=hA.le (Lk.le_r _ _);simp only[aL] at h ⊢;rw[PE.ev_alike e (hA.le (Lk.le_l _ _))];split
  .rename_i hc;rw[if_pos hc] at h;exact bO hx hQ (h2.le (Lk.le_l _ _)) h
  .rename_i hc;rw[if_neg hc] at h;exact fg hy hQ (h2.le (Lk.le_r _ _)) h
 |call s gs dst f args k ih=>
  intro c t' L hp Q1 Q2 ρ1 ρ2 hQ hA h;simp only[gQ,aC,pg] at hp;obtain⟨r,hr,rfl,rfl⟩:=hp;have hS:=SE.cut_al (hA.le (Lk.le_r _ _));simp only[aL] at h ⊢;rw[PE.evs_alike args (hA.le (Lk.le_l _ _)),BJ (hS.le (Lk.le_r _ _))];split
  .rename_i hc;rw[if_pos hc] at h;obtain⟨d,hd,h⟩:=h;exact⟨d,hd,ih hr hQ ((hS.le (Lk.le_l _ _)).setR dst d) h⟩
  .rename_i hc;rw[if_neg hc] at h;exact ih hr hQ (hS.le (Lk.le_l _ _)) h
 |callc s gs dst e args k ih=>
  intro c t' L hp Q1 Q2 ρ1 ρ2 hQ hA h;simp only[gQ,aC,pg] at hp;obtain⟨r,hr,rfl,rfl⟩:=hp;have hS:=SE.cut_al (hA.le (Lk.le_r _ _));have hE:=hA.le (Lk.le_l _ _);simp only[aL] at h ⊢;rw[PE.ev_alike e (hE.le (Lk.le_l _ _)),PE.evs_alike args (hE.le (Lk.le_r _ _)),BJ (hS.le (Lk.le_r _ _))];split
  .rename_i hc;rw[if_pos hc] at h;obtain⟨f,caps,d,he,hd,h⟩:=h;exact⟨f,caps,d,he,hd,ih hr hQ ((hS.le (Lk.le_l _ _)).setR dst d) h⟩
  .rename_i hc;rw[if_neg hc] at h;exact ih hr hQ (hS.le (Lk.le_l _ _)) h
 |mcall s j f args k ih=>
  intro c t' L hp Q1 Q2 ρ1 ρ2 hQ hA h;simp only[gQ,aC,pg] at hp;obtain⟨r,hr,rfl,rfl⟩:=hp;have hS:=SE.cut_al (hA.le (Lk.le_r _ _));simp only[aL] at h ⊢;rw[PE.evs_alike args (hA.le (Lk.le_l _ _))];obtain⟨d,hd,h⟩:=h;exact⟨d,hd,ih hr hQ (hS.setO j d) h⟩
 |iteS s e lr lo a b k bO fg lC=>
  intro c t' L hp Q1 Q2 ρ1 ρ2 hQ hA h;simp only[gQ,aw,aC,pg] at hp;obtain⟨r,hr,x,hx,y,hy,rfl,rfl⟩:=hp;have hS:=SE.cut_al (hA.le (Lk.le_r _ _));have Km:=hS.le (Lk.le_l _ _);have Er:=hS.le ((Lk.le_l _ _).trans (Lk.le_r _ _));have hSy:=hS.le ((Lk.le_r _ _).trans (Lk.le_r _ _))
  have rel:N7 ⟨r.2,c.ov⟩ (mh ((s.cut (r.2.un (x.2.un y.2))).ev ρ1) lr lo (iV (λO'=>aL T r.1 O' Q1) Q1)) (mh (s.ev ρ2) lr lo (iV (λO'=>aL T k O' Q2) Q2)):=
   ⟨λH1 η2 ha hq=>lC hr hQ (Km.join ha lr lo) hq,λid k' H1 η2 hk ha hq=>hQ.2.1 id k' _ _ hk ha hq,λd hq=>hQ.2.2 d hq⟩
  simp only[aL] at h ⊢;rw[PE.ev_alike e (hA.le (Lk.le_l _ _))];split
  .rename_i hc;rw[if_pos hc] at h;exact bO hx rel Er h
  .rename_i hc;rw[if_neg hc] at h;exact fg hy rel hSy h
 |blockS s id lr lo a k bO lC=>
  intro c t' L hp Q1 Q2 ρ1 ρ2 hQ hA h;simp only[gQ,aw,aC,pg] at hp;obtain⟨r,hr,x,hx,rfl,rfl⟩:=hp;have hS:=SE.cut_al hA;have Km:=hS.le (Lk.le_l _ _);refine bO hx (Q1:=ns ((s.cut (r.2.un x.2)).ev ρ1) id lr lo (iV (λO'=>aL T r.1 O' Q1) Q1)) ⟨λH1 η2 ha hq=>lC hr hQ (Km.join ha lr lo) hq,λcA k' H1 η2 hk ha hq=>?_,λd hq=>hQ.2.2 d hq⟩ (hS.le (Lk.le_r _ _)) h;simp only[ns] at hq ⊢;simp only[bS] at hk;by_cases e:cA=id
  .subst e;simp only[ja,zyx,aS] at hk;subst hk;rw[if_pos rfl] at hq ⊢;exact lC hr hQ (Km.join ha lr lo) hq
  .rw[if_neg e] at hq ⊢;rw[fS (λh=>e h.symm),zyw] at hk;exact hQ.2.1 cA k' _ _ hk ha hq
 |brk s p k lC=>
  intro c t' L hp Q1 Q2 ρ1 ρ2 hQ hA h;simp only[gQ,aw] at hp;obtain⟨r,hr,hp⟩:=hp;cases hx:px (c.ov.map (·.1)) p<;>simp only[hx,zyx,zyw,aS,pg] at hp
  .cases hp
  obtain⟨rfl,rfl⟩:=hp;have hS:=SE.cut_al hA;have kf:Off (p.lk.un (r.2.un c.all)) (s.ev ρ2) ((s.cut (p.lk.un (r.2.un c.all))).ev ρ1) (s.ev ρ2):=⟨hS,λ_ _=>rfl,λ_ _=>rfl⟩
  obtain⟨x,hq,n0,hn⟩:=h;have step:=λn (hle:n0<=n)=>PC.ev_off p (Lk.le_l _ _) kf (hn n hle);obtain⟨x',h1,h2⟩:=step n0 (aY _);refine⟨x',?_,n0,λn hle=>?_⟩
  .cases x with
   |next H=>obtain⟨H',rfl,h3⟩:=h2;exact lC hr hQ (h3.al.le ((Lk.le_l _ _).trans (Lk.le_r _ _))) hq
   |exit i H=>
    obtain⟨H',rfl,h3⟩:=h2;obtain⟨k',bM⟩:=abR (aku p hx (hn n0 (aY _)));exact hQ.2.1 i k' _ _ bM (h3.al.le ((LC.all_le bM).trans ((Lk.le_r _ _).trans (Lk.le_r _ _)))) hq
   |ret d=>cases h2;exact hQ.2.2 d hq
  .obtain⟨x2,h3,h4⟩:=step n hle;rw[h3,h2.uniq h4]
def F0 (c:LC)(t:PT):PT:=match gQ c t with|some r=>r.1|none=>t
def L3 {T:dI}{c:LC}{t:PT}{Q:Out->Prop}{O:Env}(hQ:N7 c Q Q)(h:aL T (F0 c t) O Q):aL T t O Q:=by
 unfold F0 at h;split at h
 .rename_i r hr;exact asD t hr hQ ⟨λ_ _=>rfl,λ_ _=>rfl⟩ h
 .exact h
def agF (c:PC):PT:=sx c [] .id (λ_ s=>.next s) (λ_ id s=>.exit id s)
def agG {T:dI}{c:PC}{O:Env}{Q:Out->Prop}(h:aL T (agF c) O Q):aP T c O Q:=
 UT (s:=.id) c (cD.ok_nil _) h (λO' ab s _ _ h=>h) (λO' ab id s _ _ h=>h) (λ_ _ _ h=>h) (λ_ h=>h)
def tree (c:PC):PT:=F0 ⟨.none,[]⟩ (agF c)
def W0 {T:dI}{c:PC}{O:Env}{d:D}(h:aL T (tree c) O λx=>x=.ret d):aP T c O λx=>x=.ret d:=
 agG (L3 ⟨λ_ _ _ h=>(by cases h),λ_ _ _ _ _ _ h=>(by cases h),λ_ h=>h⟩ h)
def SE.keep (s:SE)(lr lo:List Nat):SE:=⟨lr.map λt=>(t,s.getR t),lo.map λt=>(t,s.getO t)⟩
def SE.keep_r (s:SE)(lr lo:List Nat)(O:Env):lr.map ((s.keep lr lo).ev O).r=lr.map (s.ev O).r:=by
 apply zP;intro t ht;show((s.keep lr lo).getR t).ev O=(s.getR t).ev O;have:=yY (f:=λt=>s.getR t) (l:=[]) (u:=t) lr;rw[mz,if_pos ht] at this;have e:(s.keep lr lo).getR t=s.getR t:=by unfold SE.getR SE.keep;simp only[];rw[this];rfl
 rw[e]
def SE.keep_o (s:SE)(lr lo:List Nat)(O:Env):lo.map ((s.keep lr lo).ev O).o=lo.map (s.ev O).o:=by
 apply zP;intro t ht;show((s.keep lr lo).getO t).ev O=(s.getO t).ev O;have:=yY (f:=λt=>s.getO t) (l:=[]) (u:=t) lo;rw[mz,if_pos ht] at this;have e:(s.keep lr lo).getO t=s.getO t:=by unfold SE.getO SE.keep;simp only[];rw[this];rfl
 rw[e]
def afY (id:Nat)(bG bF lr lo:List Nat)(a:PC):PT:=
 sx a [] .id (λ_ s=>.next (s.keep lr lo)) (λ_ cA s=>bif Nat.beq cA id then .exit id (s.keep bG bF) else .exit cA s)
def gl (O:Env)(id:Nat)(bG bF lr lo:List Nat)(K:List D->List D->Prop)(Q:Out->Prop):Out->Prop
 |.next O'=>K (lr.map O'.r) (lo.map O'.o)
 |.exit cA O'=>if cA=id then Q (.next (O.put bG (bG.map O'.r) bF (bF.map O'.o))) else Q (.exit cA O')
 |.ret d=>Q (.ret d)
def round (id:Nat)(bG bF lr lo:List Nat)(a:PC):PT:=F0 ⟨⟨bits lr,lo⟩,[(id,⟨bits bG,bF⟩)]⟩ (afY id bG bF lr lo a)
def acf {k:Lk}{lr:List Nat}{ρ1 ρ2:Env}(h:Alike k ρ1 ρ2)(hk:∀t,t∈lr->ay k.r t=true):lr.map ρ2.r=lr.map ρ1.r:=zP λt ht=>h.r t (hk t ht)
def Lv {k:Lk}{lo:List Nat}{ρ1 ρ2:Env}(h:Alike k ρ1 ρ2)(hk:∀t,t∈lo->t∈k.o):lo.map ρ2.o=lo.map ρ1.o:=zP λt ht=>h.o t (hk t ht)
def atW {T:dI}{id:Nat}{bG bF lr lo:List Nat}{a:PC}{O ρ0:Env}{K:List D->List D->Prop}{Q:Out->Prop}(h:aL T (round id bG bF lr lo a) O (gl ρ0 id bG bF lr lo K Q)):aL T (afY id bG bF lr lo a) O (gl ρ0 id bG bF lr lo K Q):=by
 refine L3 ⟨λρ1 ρ2 ha hq=>?_,λcA k ρ1 ρ2 hk ha hq=>?_,λd hq=>hq⟩ h
 .simp only[gl] at hq ⊢;rw[acf ha λt ht=>O5 ht,Lv ha λt ht=>ht];exact hq
 .simp only[bS] at hk;cases hb:Nat.beq id cA<;>simp only[hb,zyx,zyw] at hk
  .cases hk
  .cases hk;have:=dq hb;subst this;simp only[gl,if_true] at hq ⊢;rw[acf ha λt ht=>O5 ht,Lv ha λt ht=>ht];exact hq
def aP.forLoop {T:dI}{id:Nat}{bG bF lr lo:List Nat}{a:PC}{O:Env}{Q:Out->Prop}{α:Type}(inv:α->List D->List D->Prop)(wG:α->Nat)(s0:α)(h0:inv s0 (lr.map O.r) (lo.map O.o))
 (step:∀s vr vo,inv s vr vo->aL T (round id bG bF lr lo a) (O.put lr vr lo vo) (gl O id bG bF lr lo (λvr vo=>∃s',wG s'<wG s/\inv s' vr vo) Q)):aP T (.block id bG bF (.loop lr lo a)) O Q:=by
 refine .block (.loop inv wG s0 h0 λs vr vo hi=>?_);have h:=atW (step s vr vo hi);refine UT (s:=.id) a (cD.ok_nil _) h (λO' ab s' _ _ h=>?_) (λO' ab cA s' _ _ h=>?_) (λ_ cA O' h=>?_) (λd h=>h)
 .simp only[aL,gl] at h;rw[SE.keep_r,SE.keep_o] at h;exact h
 .simp only[iV,ns];by_cases dy:cA=id
  .subst dy;simp only[ja,zyx,aL,gl,if_true] at h;rw[SE.keep_r,SE.keep_o] at h;rw[if_pos rfl];exact h
  .rw[fS dy,zyw] at h;simp only[aL,gl] at h;rw[if_neg dy] at h ⊢;exact h
 .simp only[iV,ns];simp only[gl] at h;split
  .rename_i e;rw[if_pos e] at h;exact h
  .rename_i e;rw[if_neg e] at h;exact h
def afZ (lo:List Nat)(a:PC):PT:=sx a [] .id (λ_ s=>.next (s.keep [] lo)) (λ_ id s=>.exit id (s.keep [] lo))
def u6 (lo:List Nat)(a:PC):PT:=F0 ⟨⟨0,lo⟩,[(du,⟨0,lo⟩)]⟩ (afZ lo a)
def atU {T:dI}{lo:List Nat}{a:PC}{O:Env}{Q:Out->Prop}(hn:∀ρ1 ρ2,lo.map ρ2.o=lo.map ρ1.o->Q (.next ρ1)->Q (.next ρ2))(hx:∀ρ1 ρ2,lo.map ρ2.o=lo.map ρ1.o->Q (.exit du ρ1)->Q (.exit du ρ2))(h:aL T (u6 lo a) O Q):aL T (afZ lo a) O Q:=by
 refine L3 ⟨λρ1 ρ2 ha hq=>hn ρ1 ρ2 (Lv ha λt ht=>ht) hq,λcA k ρ1 ρ2 hk ha hq=>?_,λd hq=>hq⟩ h;simp only[bS] at hk;cases hb:Nat.beq du cA<;>simp only[hb,zyx,zyw] at hk
 .cases hk
 .cases hk;have:=dq hb;subst this;exact hx ρ1 ρ2 (Lv ha λt ht=>ht) hq
def aP.meachR {T:dI}{J:Nat}{ps dF lo:List Nat}{a:PC}{O:Env}{Q:Out->Prop}(es:List (D×D))(he:O.o J=.tup [.list [],.map es])(inv:List D->List D->Prop)(h0:inv [] (lo.map O.o))
 (step:∀done x rest vo,(done++x::rest).Perm (jt (.map es))->inv done vo->aL T (u6 lo a) ((O.put ps (dF.map x.tget) lo vo).setO J (.tup [.list (done++[x]),.map es])) (λy=>∃O',y=.next O'/\inv (done++[x]) (lo.map O'.o)))
 (last:∃vo,(∀done,done.Perm (jt (.map es))->∀tn,inv done tn->tn=vo)/\Q (.next (O.put [] [] lo vo))):aP T (.meach J ps dF lo a) O Q:=by
 refine .meach es he inv h0 (λdone x rest vo hp hi=>?_) last;have h:=atU (λρ1 ρ2 e ⟨O',e1,hq⟩=>by cases e1;exact⟨_,rfl,by rw[e];exact hq⟩) (λρ1 ρ2 e ⟨O',e1,hq⟩=>by cases e1) (step done x rest vo hp hi);refine UT (s:=.id) a (cD.ok_nil _) h (λO' ab s' _ _ h=>?_) (λO' ab cA s' _ _ h=>?_) (λ_ cA O' h=>?_) (λd h=>?_)
 .simp only[aL] at h;obtain⟨ρ2,e,h⟩:=h;injection e with e;subst e;rw[SE.keep_o] at h;exact⟨_,rfl,h⟩
 .simp only[aL] at h;obtain⟨ρ2,e,h⟩:=h;cases e
 .obtain⟨ρ2,e,_⟩:=h;cases e
 .obtain⟨ρ2,e,_⟩:=h;cases e
def zT {T:dI}:∀(t:PT) {O:Env} {Q Q':Out->Prop},(∀x,Q x->Q' x)->aL T t O Q->aL T t O Q':=by
 intro t
 induction t with
 |next s=>intro O Q Q' h hx;exact h _ hx
 |exit id s=>intro O Q Q' h hx;exact h _ hx
 |ret e=>intro O Q Q' h hx;exact h _ hx
 |chk e k ih=>intro O Q Q' h hx;exact⟨hx.1,ih h hx.2⟩
 |ite c a b bO fg=>
  intro O Q Q' h hx;simp only[aL] at hx ⊢;split
  .rename_i hc;rw[if_pos hc] at hx;exact bO h hx
  .rename_i hc;rw[if_neg hc] at hx;exact fg h hx
 |call s gs dst f args k ih=>
  intro O Q Q' h hx;simp only[aL] at hx ⊢;split
  .rename_i hc;rw[if_pos hc] at hx;obtain⟨d,hd,hx⟩:=hx;exact⟨d,hd,ih h hx⟩
  .rename_i hc;rw[if_neg hc] at hx;exact ih h hx
 |callc s gs dst e args k ih=>
  intro O Q Q' h hx;simp only[aL] at hx ⊢;split
  .rename_i hc;rw[if_pos hc] at hx;obtain⟨f,c,d,he,hd,hx⟩:=hx;exact⟨f,c,d,he,hd,ih h hx⟩
  .rename_i hc;rw[if_neg hc] at hx;exact ih h hx
 |mcall s j f args k ih=>intro O Q Q' h hx;obtain⟨d,hd,hx⟩:=hx;exact⟨d,hd,ih h hx⟩
 |iteS s c lr lo a b k bO fg lC=>
  intro O Q Q' h hx
  have hq:∀x,mh (s.ev O) lr lo (iV (λO'=>aL T k O' Q) Q) x->mh (s.ev O) lr lo (iV (λO'=>aL T k O' Q') Q') x:=by
   intro x hx;cases x with
   |next O'=>exact lC h hx
   |exit id O'=>exact h _ hx
   |ret d=>exact h _ hx
  simp only[aL] at hx ⊢;split
  .rename_i hc;rw[if_pos hc] at hx;exact bO hq hx
  .rename_i hc;rw[if_neg hc] at hx;exact fg hq hx
 |blockS s id lr lo a k bO lC=>
  intro O Q Q' h hx;refine bO (λx hx=>?_) hx;cases x with
  |next O'=>exact lC h hx
  |exit cA O'=>
   simp only[ns] at hx ⊢;split
   .rename_i e;rw[if_pos e] at hx;exact lC h hx
   .rename_i e;rw[if_neg e] at hx;exact h _ hx
  |ret d=>exact h _ hx
 |brk s c k ih=>
  intro O Q Q' h hx;refine aP.mono hx λx hx=>?_;cases x with
  |next O'=>exact ih h hx
  |exit id O'=>exact h _ hx
  |ret d=>exact h _ hx
def aP.forRounds {T:dI}{id:Nat}{bG bF lr lo:List Nat}{a:PC}{O:Env}{Q:Out->Prop}(N:Nat)(str gE:Nat->List D)(h0:lr.map O.r=str 0/\lo.map O.o=gE 0)
 (step:∀k,k<N->aL T (round id bG bF lr lo a) (O.put lr (str k) lo (gE k)) (gl O id bG bF lr lo (λvr vo=>vr=str (k+1)/\vo=gE (k+1)) Q))
 (last:aL T (round id bG bF lr lo a) (O.put lr (str N) lo (gE N)) (gl O id bG bF lr lo (λ_ _=>False) Q)):aP T (.block id bG bF (.loop lr lo a)) O Q:=by
 refine .forLoop (α:=Nat) (λk vr vo=>k<=N/\vr=str k/\vo=gE k) (λk=>N-k) 0 ⟨pf _,h0.1,h0.2⟩ ?_;rintro k vr vo ⟨hk,rfl,rfl⟩;have mono:∀{K K':List D->List D->Prop},(∀a b,K a b->K' a b)->∀x,gl O id bG bF lr lo K Q x->gl O id bG bF lr lo K' Q x:=by
  intro K K' h x hx;cases x with
  |next O'=>exact h _ _ hx
  |exit cA O'=>exact hx
  |ret d=>exact hx
 by_cases ah:k<N
 .exact zT _ (mono λa b ⟨h1,h2⟩=>⟨k+1,by omega,by omega,h1,h2⟩) (step k ah)
 .obtain rfl:k=N:=by omega
  exact zT _ (mono λa b h=>h.elim) last
def UH {O:Env}{id:Nat}{bG bF lr lo:List Nat}{K K':List D->List D->Prop}{Q:Out->Prop}(h:∀a b,K a b->K' a b):∀x,gl O id bG bF lr lo K Q x->gl O id bG bF lr lo K' Q x:=by
 intro x hx;cases x with
 |next O'=>exact h _ _ hx
 |exit cA O'=>exact hx
 |ret d=>exact hx
def aP.scan {T:dI}{id:Nat}{bG bF lr lo:List Nat}{a:PC}{O:Env}{Q:Out->Prop}(N:Nat)(ok:Nat->Prop)(str gE:Nat->List D)(h0:lr.map O.r=str 0/\lo.map O.o=gE 0)
 (step:∀k,k<N->(∀j,j<k->ok j)->ok k->aL T (round id bG bF lr lo a) (O.put lr (str k) lo (gE k)) (gl O id bG bF lr lo (λvr vo=>vr=str (k+1)/\vo=gE (k+1)) Q))
 (bad:∀k,k<N->(∀j,j<k->ok j)->¬ok k->aL T (round id bG bF lr lo a) (O.put lr (str k) lo (gE k)) (gl O id bG bF lr lo (λ_ _=>False) Q))
 (last:(∀j,j<N->ok j)->aL T (round id bG bF lr lo a) (O.put lr (str N) lo (gE N)) (gl O id bG bF lr lo (λ_ _=>False) Q)):aP T (.block id bG bF (.loop lr lo a)) O Q:=by
 refine .forLoop (α:=Nat) (λk vr vo=>k<=N/\(∀j,j<k->ok j)/\vr=str k/\vo=gE k) (λk=>N-k) 0 ⟨pf _,λj hj=>by omega,h0.1,h0.2⟩ ?_;rintro k vr vo ⟨hk,hj,rfl,rfl⟩;by_cases ah:k<N
 .by_cases az:ok k
  .refine zT _ (UH λa b ⟨h1,h2⟩=>⟨k+1,by omega,by omega,λj yu=>?_,h1,h2⟩) (step k ah hj az);by_cases e:j=k
   .subst e;exact az
   .exact hj j (by omega)
  .exact zT _ (UH λa b h=>h.elim) (bad k ah hj az)
 .obtain rfl:k=N:=by omega
  exact zT _ (UH λa b h=>h.elim) (last hj)
def ax (n:Nat)(e:PE):PE:=.mk ((List.range n).map λi=>.cell e i)
def nq (n:Nat)(d:D):D:=.agg ((List.range n).flatMap λi=>(d.c i).cells)
def aks (O:Env)(n:Nat)(e:PE):(ax n e).ev O=nq n (e.ev O):=by
 have key:∀l:List Nat,PE.evc O (l.map λi=>.cell e i)=l.flatMap λi=>((e.ev O).c i).cells:=by
  intro l
  induction l with
  |nil=>rfl
  |cons i l ih=>simp only[gq,PE.evc,PE.ev,tA,ih]
 show D.agg _=_;rw[key];rfl
def aX (n:Int):Prop:=-9223372036854775808<=n/\n<=9223372036854775807
def ints (l:List Int):D:=.list (l.map .int)
def bu {n:Int}(h:-9223372036854775808<=n/\n<=9223372036854775807):IntKind.i64.wrap n=n:=by
 simp only[IntKind.wrap,IntKind.signed,IntKind.bits];simp;split<;>omega
def DTy.int_inv {k:IntKind}{d:D}(h:DTy (.int k) d):∃n,d=.v (.int k n)/\k.min<=n/\n<=k.max:=by
 cases h with
 |int k n h1 h2=>exact⟨n,rfl,h1,h2⟩
 |other t d h=>exact h.elim
def DTy.i64_inv {d:D}(h:DTy (.int .i64) d):∃n,d=.int n/\aX n:=by
 obtain⟨n,rfl,h1,h2⟩:=h.int_inv;exact⟨n,rfl,by simpa [IntKind.min,IntKind.max,IntKind.signed,IntKind.bits] using h1,by simpa [IntKind.min,IntKind.max,IntKind.signed,IntKind.bits] using h2⟩
def DTy.bool_inv {d:D}(h:DTy .bool d):∃b,d=.bool b:=by
 cases h with
 |bool b=>exact⟨b,rfl⟩
 |other t d h=>exact h.elim
def DTy.slice_inv {e:Ty}{d:D}(h:DTy (.slice e) d):∃xs,d=.list xs/\xs.length<=maxLen/\∀x,x∈xs->DTy e.unf x:=by
 cases h with
 |slice e xs hm h=>exact⟨xs,rfl,hm,h⟩
 |other t d h=>exact h.elim
def DTy.agg_inv {ts:List Ty}{d:D}(h:DTy (.agg ts) d):∃ds,d=.agg ds/\DTys ts ds:=by
 cases h with
 |agg ts ds h=>exact⟨ds,rfl,h⟩
 |other t d h=>exact h.elim
def DTys.cons_inv {t:Ty}{ts:List Ty}{ds:List D}(h:DTys (t::ts) ds):∃d ds',ds=d::ds'/\DTy t d/\DTys ts ds':=by
 cases h with
 |cons h hs=>exact⟨_,_,rfl,h,hs⟩
def DTys.nil_inv {ds:List D}(h:DTys [] ds):ds=[]:=by cases h;rfl
def lE {α:Type}{enc:α->D}{P:α->Prop}{xs:List D}(h:∀x,x∈xs->∃a,x=enc a/\P a):∃l:List α,xs=l.map enc/\∀a,a∈l->P a:=by
 induction xs with
 |nil=>exact⟨[],rfl,λ_ h=>nomatch h⟩
 |cons x xs ih=>
  obtain⟨l,hl,hp⟩:=ih λy hy=>h y (dW _ hy);obtain⟨a,ha,pa⟩:=h x (er ..)
  exact⟨a::l,by rw[hl,ha];rfl,λb hb=>by
   rcases cZ.1 hb with e|hb
   .rw[e];exact pa
   .exact hp b hb⟩
def DTy.ints_inv {d:D}(h:DTy (.slice (.int .i64)) d):∃l:List Int,d=ints l/\l.length<=maxLen/\∀x,x∈l->aX x:=by
 obtain⟨xs,rfl,hm,hx⟩:=h.slice_inv;obtain⟨l,rfl,hl⟩:=lE (enc:=D.int) (P:=aX) λx hh=>(hx x hh).i64_inv;exact⟨l,rfl,by simpa using hm,hl⟩
section
variable (O:Env) (T:dI)
@[simp] def aBi (t:Nat):PE.ev O (.r t)=O.r t:=zyy
@[simp] def aBf (t:Nat):PE.ev O (.o t)=O.o t:=zyy
@[simp] def aA1 (d:D):PE.ev O (.con d)=d:=zyy
@[simp] def aAY (e:PE)(i:Nat):PE.ev O (.cell e i)=(PE.ev O e).c i:=zyy
@[simp] def aBq (e:PE)(a n:Nat):PE.ev O (.sub e a n)=.agg (((PE.ev O e).cells.drop a).take n):=zyy
@[simp] def aBl (e x:PE)(n:Nat):PE.ev O (.setc e n x)=.agg (eh (PE.ev O e).cells n (PE.ev O x).cells):=zyy
@[simp] def aA8 (es:List PE):PE.ev O (.mk es)=.agg (PE.evc O es):=zyy
@[simp] def aAT (op:BinOp)(k:IntKind)(x y:PE):PE.ev O (.ai op k x y)=.v (.int k (cJ op k (PE.ev O x).i (PE.ev O y).i)):=zyy
@[simp] def aAZ (op:BinOp)(x y:PE):PE.ev O (.ci op x y)=.v (.bool (j5 op (PE.ev O x).i (PE.ev O y).i)):=zyy
@[simp] def aAX (op:BinOp)(x y:PE):PE.ev O (.cb op x y)=.v (.bool (A3 op (PE.ev O x).b (PE.ev O y).b)):=zyy
@[simp] def aA3 (op:BinOp)(x y:PE):PE.ev O (.cs op x y)=.v (.bool (A5 op (PE.ev O x).s (PE.ev O y).s)):=zyy
@[simp] def aBd (x:PE):PE.ev O (.nt x)=.v (.bool (!(PE.ev O x).b)):=zyy
@[simp] def aA2 (k:IntKind)(x:PE):PE.ev O (.conv k x)=.v (.int k (k.wrap (PE.ev O x).i)):=zyy
@[simp] def aBg (c a b:PE):PE.ev O (.pick c a b)=if(PE.ev O c).b=true then PE.ev O a else PE.ev O b:=by
  simp only[PE.ev];cases(PE.ev O c).b<;>rfl
@[simp] def aA9 (n:Nat)(e:PE):PE.ev O (ax n e)=nq n (PE.ev O e):=aks O n e
@[simp] def aAW (x:PE):PE.ev O (.bytes x)=.list ((PE.ev O x).s.data.toList.map λb=>.v (.int .u8 b.toNat)):=zyy
@[simp] def aA6 (x:PE):PE.ev O (.llen x)=.v (.int .i64 (PE.ev O x).l.length):=zyy
@[simp] def aBo (x:PE):PE.ev O (.slen x)=.v (.int .i64 (PE.ev O x).s.size):=zyy
@[simp] def aBa (x:PE):PE.ev O (.mlen x)=.v (.int .i64 (PE.ev O x).m.length):=zyy
@[simp] def aBe (x i:PE):PE.ev O (.nth x i)=(PE.ev O x).l.getD (PE.ev O i).i.toNat .none:=zyy
@[simp] def aA5 (x i:PE):PE.ev O (.idx x i)=.v (.bool (decide (0<=(PE.ev O i).i/\(PE.ev O i).i<(PE.ev O x).l.length))):=zyy
@[simp] def aBm (x i y:PE)(n:Nat):PE.ev O (.setn x i n y)=.list ((PE.ev O x).l.set (PE.ev O i).i.toNat (va ((PE.ev O x).l.getD (PE.ev O i).i.toNat .none) n (PE.ev O y))):=zyy
@[simp] def aAV (x y:PE):PE.ev O (.app x y)=.list ((PE.ev O x).l++(PE.ev O y).l):=zyy
@[simp] def aA7 (es:List PE):PE.ev O (.lst es)=.list (PE.evs O es):=zyy
@[simp] def aBk (x y:PE):PE.ev O (.rep x y)=.list (List.replicate (PE.ev O x).i.toNat (PE.ev O y)):=zyy
@[simp] def aBn (x a b:PE):PE.ev O (.slc x a b)=.list (((PE.ev O x).l.take (PE.ev O b).i.toNat).drop (PE.ev O a).i.toNat):=zyy
@[simp] def aBp (x a b:PE):PE.ev O (.slok x a b)=.v (.bool (decide (0<=(PE.ev O a).i/\(PE.ev O a).i<=(PE.ev O b).i/\(PE.ev O b).i<=(PE.ev O x).l.length))):=zyy
@[simp] def aBj (x:PE):PE.ev O (.ref x)=.ref (PE.ev O x):=zyy
@[simp] def aA4 (x:PE):PE.ev O (.deref x)=(PE.ev O x).deref:=zyy
@[simp] def aBh (m k v:PE):PE.ev O (.put m k v)=.map (ml (PE.ev O k) (PE.ev O v) (PE.ev O m).m):=zyy
@[simp] def aBb (x y:PE):PE.ev O (.mn x y)=if(PE.ev O y).i<(PE.ev O x).i then PE.ev O y else PE.ev O x:=by
  simp only[PE.ev];by_cases h:(PE.ev O y).i<(PE.ev O x).i<;>simp[h]
@[simp] def aBc (x y:PE):PE.ev O (.mx x y)=if(PE.ev O y).i>(PE.ev O x).i then PE.ev O y else PE.ev O x:=by
  simp only[PE.ev];by_cases h:(PE.ev O y).i>(PE.ev O x).i<;>simp[h]
@[simp] def aBs (es:List PE):PE.ev O (.tup es)=.tup (PE.evs O es):=zyy
@[simp] def aBr (x:PE)(i:Nat):PE.ev O (.tget x i)=(PE.ev O x).tget i:=zyy
@[simp] def aA0 (f:Nat)(es:List PE):PE.ev O (.clo f es)=.clo f (PE.evs O es):=zyy
@[simp] def aAU (x y:PE):PE.ev O (.an x y)=.v (.bool ((PE.ev O x).b&&(PE.ev O y).b)):=zyy
@[simp] def aBw:PE.evs O []=[]:=zyy
@[simp] def aBv (e:PE)(es:List PE):PE.evs O (e::es)=PE.ev O e::PE.evs O es:=zyy
@[simp] def aBu:PE.evc O []=[]:=zyy
@[simp] def aBt (e:PE)(es:List PE):PE.evc O (e::es)=(PE.ev O e).cells++PE.evc O es:=zyy
@[simp] def aju (x:Bool):(D.bool x).b=x:=zyy
@[simp] def aAQ (k:IntKind)(n:Int):(D.v (.int k n)).i=n:=zyy
@[simp] def aAF (n:Int):(D.int n).i=n:=zyy
@[simp] def aAL (x:List D):(D.list x).l=x:=zyy
@[simp] def aAJ (l:List Int):(ints l).l=l.map .int:=zyy
@[simp] def aAM (x:List (D×D)):(D.map x).m=x:=zyy
@[simp] def aAz (x:List D)(i:Nat):(D.agg x).c i=x.getD i .none:=zyy
@[simp] def aAA (x:List D):(D.agg x).cells=x:=zyy
@[simp] def aAK (x:List D):(D.list x).cells=[.list x]:=zyy
@[simp] def aAI (x:List Int):(ints x).cells=[ints x]:=zyy
@[simp] def aAE (n:Int):(D.int n).cells=[.int n]:=zyy
@[simp] def aAB (n:Bool):(D.bool n).cells=[.bool n]:=zyy
@[simp] def aAP (x:Value):(D.v x).cells=[.v x]:=zyy
@[simp] def aAO (x:List D)(i:Nat):(D.tup x).tget i=x.getD i .none:=zyy
@[simp] def aAN (x:D):(D.ref x).deref=x:=zyy
@[simp] def aDp (s:SE)(t:Nat):(s.ev O).r t=PE.ev O (s.getR t):=zyy
@[simp] def aDo (s:SE)(t:Nat):(s.ev O).o t=PE.ev O (s.getO t):=zyy
@[simp] def aBG (o:List (Nat×PE))(u:Nat):SE.getR ⟨[],o⟩ u=.r u:=zyy
@[simp] def aBF (t:Nat)(e:PE)(r o:List (Nat×PE))(u:Nat):SE.getR ⟨(t,e)::r,o⟩ u=if t=u then e else SE.getR ⟨r,o⟩ u:=by
  simp only[SE.getR,bS];by_cases h:t=u
  .subst h;simp
  .simp[fS h,h]
@[simp] def aBE (r:List (Nat×PE))(u:Nat):SE.getO ⟨r,[]⟩ u=.o u:=zyy
@[simp] def aBD (t:Nat)(e:PE)(r o:List (Nat×PE))(u:Nat):SE.getO ⟨r,(t,e)::o⟩ u=if t=u then e else SE.getO ⟨r,o⟩ u:=by
  simp only[SE.getO,bS];by_cases h:t=u
  .subst h;simp
  .simp[fS h,h]
@[simp] def setR_r (t u:Nat)(d:D):(O.setR t d).r u=if u=t then d else O.r u:=Env.setR_r O t u d
@[simp] def aDv (t u:Nat)(d:D):(O.setR t d).o u=O.o u:=zyy
@[simp] def setO_o (t u:Nat)(d:D):(O.setO t d).o u=if u=t then d else O.o u:=Env.setO_o O t u d
@[simp] def aDu (t u:Nat)(d:D):(O.setO t d).r u=O.r u:=zyy
@[simp] def aDe (lr lo:List Nat)(vr vo:List D)(u:Nat):(O.put lr vr lo vo).r u=putL O.r lr vr u:=zyy
@[simp] def aDd (lr lo:List Nat)(vr vo:List D)(u:Nat):(O.put lr vr lo vo).o u=putL O.o lo vo u:=zyy
@[simp] def join_r (O':Env)(lr lo:List Nat)(u:Nat):(O.join lr lo O').r u=if u∈lr then O'.r u else O.r u:=Env.join_r O O' lr lo u
@[simp] def join_o (O':Env)(lr lo:List Nat)(u:Nat):(O.join lr lo O').o u=if u∈lo then O'.o u else O.o u:=Env.join_o O O' lr lo u
@[simp] def aDb (f:Nat->D)(i:Nat)(is:List Nat)(x:D)(xs:List D)(u:Nat):putL f (i::is) (x::xs) u=if u=i then x else putL f is xs u:=L4 f i is x xs u
@[simp] def aDc (f:Nat->D)(xs:List D)(u:Nat):putL f [] xs u=f u:=L5 f xs u
@[simp] def aAR (ds:List D)(u:Nat):(mE ds).r u=ds.getD u .none:=zyy
@[simp] def aCe:holds [] O=true:=zyy
@[simp] def aCd (g:Nat×Bool)(gs:List (Nat×Bool)):holds (g::gs) O=((O.r g.1).b==g.2&&holds gs O):=zyy
variable (Q:Out->Prop)
@[simp] def aD7 (s:SE):aL T (.next s) O Q=Q (.next (s.ev O)):=zyy
@[simp] def aD4 (id:Nat)(s:SE):aL T (.exit id s) O Q=Q (.exit id (s.ev O)):=zyy
@[simp] def aD8 (e:PE):aL T (.ret e) O Q=Q (.ret (e.ev O)):=zyy
@[simp] def aD3 (e:PE)(k:PT):aL T (.chk e k) O Q=((e.ev O).b=true/\aL T k O Q):=zyy
@[simp] def aD5 (c:PE)(a b:PT):aL T (.ite c a b) O Q=if(c.ev O).b=true then aL T a O Q else aL T b O Q:=zyy
@[simp] def aD1 (s:SE)(gs:List (Nat×Bool))(dst f:Nat)(args:List PE)(k:PT):aL T (.call s gs dst f args k) O Q=if holds gs (s.ev O)=true then ∃d,au T f (PE.evs O args) d/\aL T k ((s.ev O).setR dst d) Q else aL T k (s.ev O) Q:=zyy
@[simp] def aD6 (s:SE)(c:PE)(lr lo:List Nat)(a b k:PT):aL T (.iteS s c lr lo a b k) O Q=if(c.ev O).b=true then aL T a (s.ev O) (mh (s.ev O) lr lo (iV (λO'=>aL T k O' Q) Q)) else aL T b (s.ev O) (mh (s.ev O) lr lo (iV (λO'=>aL T k O' Q) Q)):=zyy
@[simp] def aDZ (s:SE)(id:Nat)(lr lo:List Nat)(a k:PT):aL T (.blockS s id lr lo a k) O Q=aL T a (s.ev O) (ns (s.ev O) id lr lo (iV (λO'=>aL T k O' Q) Q)):=zyy
@[simp] def aD0 (s:SE)(c:PC)(k:PT):aL T (.brk s c k) O Q=aP T c (s.ev O) (iV (λO'=>aL T k O' Q) Q):=zyy
variable (K:Env->Prop) (id:Nat) (lr lo bG bF:List Nat) (K2:List D->List D->Prop)
@[simp] def aDs (O':Env):iV K Q (.next O')=K O':=zyy
@[simp] def aDr (i:Nat)(O':Env):iV K Q (.exit i O')=Q (.exit i O'):=zyy
@[simp] def aDt (d:D):iV K Q (.ret d)=Q (.ret d):=zyy
@[simp] def aCt (O':Env):mh O lr lo Q (.next O')=Q (.next (O.join lr lo O')):=zyy
@[simp] def aCu (d:D):mh O lr lo Q (.ret d)=Q (.ret d):=zyy
@[simp] def aAi (O':Env):ns O id lr lo Q (.next O')=Q (.next (O.join lr lo O')):=zyy
@[simp] def aAh (i:Nat)(O':Env):ns O id lr lo Q (.exit i O')=if i=id then Q (.next (O.join lr lo O')) else Q (.exit i O'):=zyy
@[simp] def aAj (d:D):ns O id lr lo Q (.ret d)=Q (.ret d):=zyy
@[simp] def aDl (O':Env):gl O id bG bF lr lo K2 Q (.next O')=K2 (lr.map O'.r) (lo.map O'.o):=zyy
@[simp] def aDk (i:Nat)(O':Env):gl O id bG bF lr lo K2 Q (.exit i O')=if i=id then Q (.next (O.put bG (bG.map O'.r) bF (bF.map O'.o))) else Q (.exit i O'):=zyy
@[simp] def aDm (d:D):gl O id bG bF lr lo K2 Q (.ret d)=Q (.ret d):=zyy
@[simp] def aD2 (s:SE)(gs:List (Nat×Bool))(dst:Nat)(e:PE)(args:List PE)(k:PT):aL T (.callc s gs dst e args k) O Q=if holds gs (s.ev O)=true then ∃f caps d,e.ev O=.clo f caps/\au T f (PE.evs O args++caps) d/\aL T k ((s.ev O).setR dst d) Q else aL T k (s.ev O) Q:=zyy
end
section
variable (k:IntKind) (a b:Int)
@[simp] def aAa:cJ .add k a b=k.wrap (a+b):=zyy
@[simp] def aAe:cJ .sub k a b=k.wrap (a-b):=zyy
@[simp] def aAb:cJ .mul k a b=k.wrap (a*b):=zyy
@[simp] def aAc:cJ .quo k a b=k.wrap (a.tdiv b):=zyy
@[simp] def aAd:cJ .rem k a b=a.tmod b:=zyy
@[simp] def aAr:j5 .eql a b=(a==b):=zyy
@[simp] def aAw:j5 .neq a b=(a !=b):=zyy
@[simp] def aAv:j5 .lss a b=decide (a<b):=zyy
@[simp] def aAu:j5 .leq a b=decide (a<=b):=zyy
@[simp] def aAt:j5 .gtr a b=decide (a>b):=zyy
@[simp] def aAs:j5 .geq a b=decide (a>=b):=zyy
variable (x y:Bool)
@[simp] def aAk:A3 .eql x y=(x==y):=zyy
@[simp] def aAl:A3 .neq x y=(!(x==y)):=zyy
end
def au.of_tree {tab:Nat->Option PC}{ext:Nat->Option (aV->List D->Option D)}{f:Nat}{pc:PC}{t:PT}{ds:List D}{d:D}(hx:ext f=none)(ht:tab f=some pc)(he:tree pc=t)(h:aL (gr tab ext) t (mE ds) (λx=>x=.ret d)):au (gr tab ext) f ds d:=
 .of_pc hx ht (W0 (he▸h))
@[simp] def aAH (n:Int):D.v (.int .i64 n)=D.int n:=zyy
@[simp] def aAD (b:Bool):D.v (.bool b)=D.bool b:=zyy
@[simp] def aAG (a b:Int):(D.int a=D.int b)=(a=b):=by
  apply propext;constructor
  .intro h;injection h with h;injection h
  .intro h;rw[h]
@[simp] def aAC (a b:Bool):(D.bool a=D.bool b)=(a=b):=by
  apply propext;constructor
  .intro h;injection h with h;injection h
  .intro h;rw[h]
section
variable (c:Prop) [Decidable c] (x y:D)
@[simp] def aCr:(if c then x else y).b=if c then x.b else y.b:=by split<;>rfl
@[simp] def aCs:(if c then x else y).i=if c then x.i else y.i:=by split<;>rfl
end
@[simp] def aD9:IntKind.i64.wrap 1=1:=bu (by omega)
@[simp] def aEa:IntKind.i64.wrap 0=0:=bu (by omega)
end Cx
namespace Cx
open Go
inductive Tm where
 |mk (op n:Int) (args:List Tm)
instance:Inhabited Tm:=⟨.mk 0 0 []⟩
namespace Tm
def op:Tm->Int|.mk o _ _=>o
def n:Tm->Int|.mk _ n _=>n
def args:Tm->List Tm|.mk _ _ aa=>aa
end Tm
mutual
def dB:Tm->D
 |.mk o n aa=>.agg [.int o,.int n,.list (JW aa)]
def JW:List Tm->List D
 |[]=>[]
 |t::ts=>dB t::JW ts
end
def Pw:∀l:List Tm,JW l=l.map dB
 |[]=>rfl
 |t::l=>by rw[JW,Pw l];rfl
def D5 (t:Tm):dB t=.agg [.int t.op,.int t.n,.list (t.args.map dB)]:=by
 cases t with
 |mk o n aa=>rw[dB,Pw];rfl
inductive Tm.OK:Tm->Prop where
 |mk (o n:Int) (aa:List Tm) (h1:aX o) (h2:aX n) (h3:aa.length<=maxLen) (h:∀a,a∈aa->Tm.OK a):Tm.OK (.mk o n aa)
def DTy.trm_inv {d:D}(h:DTy .trmA d):∃t:Tm,d=dB t/\t.OK:=by
 suffices hs:∀(m:Nat) (d:D),sizeOf d<=m->DTy .trmA d->∃t:Tm,d=dB t/\t.OK from hs _ d (aY _) h
 intro m
 induction m with
 |zero=>
  intro d hm h;cases d<;>simp at hm
 |succ m ih=>
  intro d hm h;obtain⟨ds,rfl,hs⟩:=DTy.agg_inv h;obtain⟨d1,ds,rfl,h1,hs⟩:=hs.cons_inv;obtain⟨d2,ds,rfl,h2,hs⟩:=hs.cons_inv;obtain⟨d3,ds,rfl,h3,hs⟩:=hs.cons_inv;obtain rfl:=hs.nil_inv;obtain⟨o,rfl,b1⟩:=h1.i64_inv;obtain⟨n,rfl,b2⟩:=h2.i64_inv;obtain⟨xs,rfl,hl,hx⟩:=h3.slice_inv
  obtain⟨l,rfl,az⟩:=lE (enc:=dB) (P:=Tm.OK) λx hh=>ih x (by
   have:=List.sizeOf_lt_of_mem hh;simp at hm;omega) (hx x hh)
  exact⟨.mk o n l,by rw[dB,Pw],.mk o n l b1 b2 (by simpa using hl) az⟩
def DTy.trms_inv {d:D}(h:DTy (.slice .trm) d):∃l:List Tm,d=.list (l.map dB)/\l.length<=maxLen/\∀t,t∈l->t.OK:=by
 obtain⟨xs,rfl,hl,hx⟩:=h.slice_inv;obtain⟨l,rfl,az⟩:=lE (enc:=dB) (P:=Tm.OK) λx hh=>DTy.trm_inv (hx x hh);exact⟨l,rfl,by simpa using hl,az⟩
def UU (g:Nat)(zs:List Int):Nat->Option (Ty×D):=λk=>bif Nat.beq k g then some (.agg (zs.map λ_=>.int .i64),.agg (zs.map λz=>.v (.int .i64 z))) else none
def auB {C:Ctx}{g:Nat}{zs:List Int}{name:String}{W:World}(hC:C.glob=UU g zs)(hg:C.P.globalNamed name=some g)(hz:zs.all (λz=>decide (IntKind.i64.min<=z)&&decide (z<=IntKind.i64.max))=true)
 (h:Lib.TabIs C.P W name .i64 zs):CtxOK C (oI W):=by
 refine⟨λk x hx=>?_⟩;rw[hC] at hx;unfold UU at hx;cases hk:Nat.beq k g<;>simp only[hk,zyx,zyw] at hx
 .cases hx
 cases hx;obtain rfl:=aA hk
 have gd:Rep C.cap (oI W) (.agg (zs.map λ_=>.int .i64)) (.agg (zs.map λz=>Value.int .i64 z).toArray) (.agg (zs.map λz=>.v (.int .i64 z))):=by
  refine .agg _ _ _ (by simp) (by simp) (λi t ht=>?_) (λi t ht=>?_)
  .rw[cV,aC] at ht;obtain⟨z,mf,rfl⟩:=ht;rw[aN,aN,cV,cV,mf];have:=bJ.1 hz z (lf mf);simp only[aq,decide_eq_true_eq] at this;exact .int _ _ this.1 this.2
  .rw[cV,aC] at ht;obtain⟨z,_,rfl⟩:=ht;rfl
 refine .ref _ k 0 _ _ gd λj u hu=>?_;simp only[Value.cells,HS,cV,aC] at hu;obtain⟨z,mf,rfl⟩:=hu;have ah:=(eV.1 mf).1;have:=h.cell hg j ah;show W.cell? ⟨k,0+j,none⟩=_;rw[fR,this,aN,mf];rfl
end Cx
namespace Cx
open Go Go.RowKit
def loops:PC->List PC
 |.seq a b=>loops a++loops b
 |.ite _ _ _ a b=>loops a++loops b
 |.block id lr lo (.loop RZ RU a)=>loops a++[.block id lr lo (.loop RZ RU a)]
 |.block _ _ _ a=>loops a
 |.loop _ _ a=>loops a
 |.each e ps lo rt a=>loops a++[.each e ps lo rt a]
 |.meach J ps dF lo a=>loops a++[.meach J ps dF lo a]
 |_=>[]
def O6:PC->PC
 |.block _ _ _ (.loop _ _ a)=>a
 |.each _ _ _ _ a=>a
 |.meach _ _ _ _ a=>a
 |_=>.skip
def Lt (c:PC)(k:Nat):PC:=(loops c).getD k .skip
def rnd:PC->PT
 |.block id lr lo (.loop RZ RU a)=>round id lr lo RZ RU a
 |.each _ _ lo _ a=>u6 lo a
 |.meach _ _ _ lo a=>u6 lo a
 |_=>.next .id
inductive Shp where
 |lp (id:Nat) (bG bF lr lo:List Nat)
 |ea (lo:List Nat)
 |no
def CZ:PC->Shp
 |.block id bG bF (.loop lr lo _)=>.lp id bG bF lr lo
 |.each _ _ lo _ _=>.ea lo
 |.meach _ _ _ lo _=>.ea lo
 |_=>.no
def told (c:PC):PT×List (Shp×PT):=(tree c,(loops c).map λl=>(CZ l,rnd l))
def Nq {o:Option PC}{t:PT}{l:List (Shp×PT)}(h:o.map told=some (t,l)):o=some (o.getD .skip)/\tree (o.getD .skip)=t/\∀k x,l[k]?=some x->(CZ (Lt (o.getD .skip) k),rnd (Lt (o.getD .skip) k))=x:=by
 cases o with
 |none=>cases h
 |some c=>
  have h1:told c=(t,l):=by injection h
  unfold told at h1;injection h1 with h1 h2
  refine⟨rfl,h1,λk x hx=>?_⟩;subst h2;simp only[cV,aC] at hx;obtain⟨y,hy,rfl⟩:=hx;have:Lt ((some c:Option PC).getD .skip) k=y:=by
   show(loops c).getD k .skip=y;rw[aN,hy];rfl
  rw[this]
def atp {c:PC}{id:Nat}{bG bF lr lo:List Nat}{t:PT}(h:(CZ c,rnd c)=(.lp id bG bF lr lo,t)):round id bG bF lr lo (O6 c)=t:=by
 injection h with h1 h2
 subst h2;unfold CZ at h1;split at h1
 .cases h1;rfl
 all_goals cases h1
def ake {c:PC}{lo:List Nat}{t:PT}(h:(CZ c,rnd c)=(.ea lo,t)):u6 lo (O6 c)=t:=by
 injection h with h1 h2
 subst h2;unfold CZ at h1;split at h1
 .cases h1
 .cases h1;rfl
 .cases h1;rfl
 .cases h1
def dy {α:Type}(x:α):α:=Classical.choose (⟨x,rfl⟩:∃y,y=x)
def EO {α:Type}(x:α):dy x=x:=XC (⟨x,rfl⟩:∃y,y=x)
def bz (o:Option PC):Nat->PC:=λk=>O6 (Lt (o.getD .skip) k)
abbrev ae (o:Option PC):PC:=dy (o.getD .skip)
abbrev bI (o:Option PC):Nat->PC:=dy (bz o)
section
variable {o:Option PC} {F:(Nat->PC)->PT×List (Shp×PT)}
def auP (h:o.map told=some (F (bz o))):o=some (ae o):=by unfold ae;rw[EO];exact(Nq (t:=(F (bz o)).1) (l:=(F (bz o)).2) h).1
def cl (h:o.map told=some (F (bz o))):tree (ae o)=(F (bI o)).1:=by unfold ae bI;rw[EO,EO];exact(Nq (t:=(F (bz o)).1) (l:=(F (bz o)).2) h).2.1
def bl (h:o.map told=some (F (bz o)))(k:Nat){id:Nat}{bG bF lr lo:List Nat}{t:(Nat->PC)->PT}(hk:∀b,(F b).2[k]?=some (.lp id bG bF lr lo,t b)):round id bG bF lr lo (bI o k)=t (bI o):=by
 unfold bI;rw[EO];exact atp ((Nq (t:=(F (bz o)).1) (l:=(F (bz o)).2) h).2.2 k _ (hk _))
def agz (h:o.map told=some (F (bz o)))(k:Nat){lo:List Nat}{t:(Nat->PC)->PT}(hk:∀b,(F b).2[k]?=some (.ea lo,t b)):u6 lo (bI o k)=t (bI o):=by
 unfold bI;rw[EO];exact ake ((Nq (t:=(F (bz o)).1) (l:=(F (bz o)).2) h).2.2 k _ (hk _))
end
def aE {α:Type}{R:Nat->α->Prop}{f:Nat}{x:α}{l:List (Nat×α)}(h:R f x)(k:Hz R l):Hz R ((f,x)::l):=⟨h,k⟩
def ab0 {α:Type}:∀{l:List (Nat×α)},(l.map (·.1)).Nodup->∀{k f:Nat} {x:α},l[k]?=some (f,x)->bS l f=some x
 |[],_,k,f,x,h=>by simp at h
 |y::l,hn,0,f,x,h=>by
  simp only[NV,aS] at h;subst h;simp[bS]
 |y::l,hn,k+1,f,x,h=>by
  simp only[HR] at h;rw[gq,nX] at hn;have hm:f∈l.map (·.1):=dX.2 ⟨(f,x),lf h,rfl⟩;have hb:Nat.beq y.1 f=false:=by
   cases e:Nat.beq y.1 f with
   |false=>rfl
   |true=>rw[dq e] at hn;exact absurd hm hn.1
  simp only[bS,hb,zyw];exact ab0 hn.2 h
abbrev pT:PE:=.con (.bool true)
abbrev pF:PE:=.con (.bool false)
abbrev pN:PE:=.con .none
abbrev pL:PE:=.con (.list [])
abbrev pi (n:Int):PE:=.con (.int n)
abbrev bH (a b:PE):PE:=.ai .add .i64 a b
abbrev bx (a b:PE):PE:=.ai .sub .i64 a b
abbrev af (a b:PE):PE:=.ci .eql a b
abbrev aW (a b:PE):PE:=.ci .neq a b
abbrev aj (a b:PE):PE:=.ci .lss a b
abbrev bD (a b:PE):PE:=.ci .leq a b
abbrev bP (a b:PE):PE:=.ci .gtr a b
abbrev cB (a b:PE):PE:=.ci .geq a b
abbrev pc (a:PE)(i:Nat):PE:=.cell a i
abbrev pn (a b:PE):PE:=.nth a b
abbrev ak (a b:PE):PE:=.idx a b
abbrev z2:PE:=.con (.agg [(.int 0),(.int 0)])
abbrev z3:PE:=.con (.agg [(.int 0),(.int 0),(.int 0)])
abbrev z4:PE:=.con (.agg [(.int 0),(.int 0),(.int 0),(.int 0)])
abbrev z5:PE:=.con (.agg [(.int 0),(.int 0),(.int 0),(.int 0),(.int 0)])
abbrev z6:PE:=.con (.agg [(.int 0),(.int 0),(.int 0),(.int 0),(.int 0),(.int 0)])
abbrev z9:PE:=.con (.agg [(.int 0),(.int 0),(.int 0),(.int 0),(.int 0),(.int 0),(.int 0),(.int 0),(.int 0)])
abbrev NK:PE:=.con (.agg [(.int 0),(.int 0),(.int 0),(.int 0),(.int 0),(.int 0),(.int 0),(.int 0),(.int 0),(.int 0),(.int 0),(.int 0),(.int 0),(.int 0),(.int 0)])
abbrev r0:PE:=.r 0
abbrev r1:PE:=.r 1
abbrev r2:PE:=.r 2
abbrev r3:PE:=.r 3
abbrev r4:PE:=.r 4
abbrev r5:PE:=.r 5
abbrev r6:PE:=.r 6
abbrev r7:PE:=.r 7
abbrev r8:PE:=.r 8
abbrev r9:PE:=.r 9
abbrev cC:PE:=.r 10
abbrev bQ:PE:=.r 11
abbrev cP:PE:=.r 12
abbrev dS:PE:=.r 13
abbrev cG:PE:=.r 14
abbrev fj:PE:=.r 15
abbrev dt:PE:=.r 16
abbrev gi:PE:=.r 17
abbrev jU:PE:=.r 18
abbrev gR:PE:=.r 19
abbrev gS:PE:=.r 20
abbrev kV:PE:=.r 21
abbrev p7:PE:=.r 22
abbrev ju:PE:=.r 23
abbrev mu:PE:=.r 24
abbrev hH:PE:=.r 25
abbrev sN:PE:=.r 26
abbrev gj:PE:=.r 27
abbrev zl:PE:=.r 28
abbrev sO:PE:=.r 29
abbrev zm:PE:=.r 30
abbrev sP:PE:=.r 31
abbrev m3:PE:=.r 32
abbrev Mm:PE:=.r 33
abbrev Mn:PE:=.r 34
abbrev wV:PE:=.r 35
abbrev m4:PE:=.r 36
abbrev rq:PE:=.r 37
abbrev lI:PE:=.r 38
abbrev Mo:PE:=.r 39
abbrev p8:PE:=.r 40
abbrev zn:PE:=.r 41
abbrev r42:PE:=.r 42
abbrev wW:PE:=.r 43
abbrev Gc:PE:=.r 44
abbrev oP:PE:=.r 45
abbrev CH:PE:=.r 46
abbrev TC:PE:=.r 47
abbrev sQ:PE:=.r 48
abbrev wX:PE:=.r 49
abbrev kW:PE:=.r 50
abbrev ru:PE:=.r 51
abbrev Gd:PE:=.r 52
abbrev TD:PE:=.r 53
abbrev uX:PE:=.r 54
abbrev CI:PE:=.r 55
abbrev nN:PE:=.r 56
abbrev zo:PE:=.r 57
abbrev wY:PE:=.r 58
abbrev r59:PE:=.r 59
abbrev uY:PE:=.r 60
abbrev TE:PE:=.r 61
abbrev lJ:PE:=.r 62
abbrev zp:PE:=.r 63
abbrev jx:PE:=.r 64
abbrev uZ:PE:=.r 65
abbrev r66:PE:=.r 66
abbrev sR:PE:=.r 67
abbrev Ge:PE:=.r 68
abbrev u3:PE:=.r 69
abbrev Gf:PE:=.r 70
abbrev r71:PE:=.r 71
abbrev CJ:PE:=.r 72
abbrev zq:PE:=.r 73
abbrev Mp:PE:=.r 74
abbrev Gg:PE:=.r 75
abbrev wZ:PE:=.r 76
abbrev Mq:PE:=.r 77
abbrev r78:PE:=.r 78
abbrev r79:PE:=.r 79
abbrev sS:PE:=.r 80
abbrev w5:PE:=.r 81
abbrev mw:PE:=.r 82
abbrev r83:PE:=.r 83
abbrev Mr:PE:=.r 84
abbrev CK:PE:=.r 85
abbrev r86:PE:=.r 86
abbrev TF:PE:=.r 87
abbrev TG:PE:=.r 88
abbrev r89:PE:=.r 89
abbrev r90:PE:=.r 90
abbrev r91:PE:=.r 91
abbrev r92:PE:=.r 92
abbrev Ms:PE:=.r 93
abbrev r94:PE:=.r 94
abbrev r95:PE:=.r 95
abbrev TH:PE:=.r 96
abbrev r98:PE:=.r 98
abbrev r99:PE:=.r 99
abbrev aeR:PE:=.r 103
abbrev asI:PE:=.r 104
abbrev asJ:PE:=.r 106
abbrev Gb:PE:=.r 108
abbrev asK:PE:=.r 109
abbrev Tu:PE:=.r 112
abbrev aeS:PE:=.r 113
abbrev aDf:PE:=.r 117
abbrev aeT:PE:=.r 119
abbrev aeU:PE:=.r 120
abbrev asL:PE:=.r 121
abbrev aDg:PE:=.r 122
abbrev aeV:PE:=.r 126
abbrev Tv:PE:=.r 127
abbrev aDh:PE:=.r 128
abbrev aDi:PE:=.r 129
abbrev o0:PE:=.o 0
abbrev o1:PE:=.o 1
abbrev o2:PE:=.o 2
abbrev o3:PE:=.o 3
abbrev o4:PE:=.o 4
abbrev o5:PE:=.o 5
abbrev o6:PE:=.o 6
abbrev o7:PE:=.o 7
abbrev o8:PE:=.o 8
abbrev o9:PE:=.o 9
abbrev cX:PE:=.o 10
abbrev iT:PE:=.o 11
abbrev q8:PE:=.o 12
abbrev R8:PE:=.o 13
abbrev R9:PE:=.o 15
abbrev B5:PE:=.o 45
end Cx
set_option maxRecDepth 100000
namespace Rm
open Go Go.Proofs Cx
abbrev I:Ty:=.int .i64
abbrev Y0:Ty:=.agg [.str,I,I,(.slice I),(.slice I),(.slice I)]
abbrev Y1:Ty:=.agg [I]
abbrev Y2:Ty:=.agg [.str,I,I]
abbrev Y3:Ty:=.agg [I,I,.bool]
abbrev Y4:Ty:=.agg [I,I,I,(.slice .trm)]
abbrev Y5:Ty:=.agg [.str,.bool,(.slice Y3),(.slice Y4)]
abbrev Y6:Ty:=.agg [I,I,I]
abbrev Y7:Ty:=.agg [I,I,I,I,I]
abbrev Y8:Ty:=.agg [(.slice .str),(.slice Y0),(.slice Y1),(.slice Y2),(.slice Y5),(.slice Y6),(.slice Y7),(.slice Y6)]
abbrev Y9:Ty:=.agg [I,I,I,I,I,I,I,I,I]
abbrev rK:Ty:=.agg [I,I]
abbrev fE:Ty:=.agg [I,I,I,I,I,I,I,I,I,I,I,I,I,I,I,(.slice Y9),(.slice rK),(.slice Y9),(.slice Y6),I,I,I,I,I]
abbrev gG:Ty:=.agg [I,I,I,I,I,I,I,I,I,I,I,I,I,I,I,(.slice Y9),(.slice rK),(.slice Y9),(.slice Y6)]
abbrev Oa:Ty:=.agg [.bool,I,I,(.slice I),I]
abbrev X0:Ty:=.agg [I,I,I,I,I,I,I,I,I,I,I,I,I,I,I]
abbrev eu:Ty:=.agg [.bool,I]
abbrev nl:Ty:=.agg [I,I,(.slice .trm)]
abbrev X1:Ty:=.agg [(.slice eu)]
abbrev Y18:Ty:=.agg [(.slice I),I]
abbrev zzw (a:List Ty)(r:Ty):Sig:=⟨a,r,.dat⟩
def xg:List (Nat×Sig):=[
 (3,zzw [Y8,I,I,I,fE,I,I,I] .bool),
 (8,zzw [] .bool),
 (9,zzw [Y8,fE] .bool),
 (10,zzw [Y8,I,I,I,fE] (.tup [(.slice I),(.slice I),.bool])),
 (11,zzw [Y8,I,I,I,fE] (.tup [(.slice I),(.slice I),.bool])),
 (12,zzw [(.slice I),(.slice I)] .bool),
 (13,zzw [Y8,I,I,I,fE] I),
 (14,zzw [Y8,I,I,I,fE] I),
 (15,zzw [gG,gG] .bool),
 (16,zzw [gG,I,I,I] gG),
 (17,zzw [gG,I,I,I] gG),
 (19,zzw [I] (.tup [(.slice I),(.slice I)])),
 (20,zzw [(.slice I),(.slice I),(.slice I),(.slice I)] .bool),
 (21,zzw [Y8,gG] I),
 (22,zzw [(.slice Y6),I,(.slice I),(.slice I)] .bool),
 (23,zzw [(.slice Y6)] (.tup [Y8,fE])),
 (24,zzw [Y8,gG] .bool),
 (25,zzw [Y8] I),
 (26,zzw [gG] .bool),
 (27,zzw [I,I] (.slice (.slice I))),
 (28,zzw [fE,(.slice I),I] fE),
 (29,zzw [Y8,I,I,I,fE,(.slice I),(.slice I)] .bool),
 (30,zzw [Y8,I,I,fE] Oa),
 (31,zzw [Y8,I,I,fE] Oa),
 (32,zzw [Y6,(.ref I),(.ref I)] .bool),
 (34,zzw [(.slice Y6),(.fn [Y6] .bool)] I),
 (36,zzw [Y6,(.ref I),(.ref I)] .bool),
 (37,zzw [(.slice I)] I),
 (38,zzw [I,I] I),
 (40,zzw [Y6,Y6] .bool),
 (41,zzw [fE,I] I),
 (42,zzw [Y8,X0] I),
 (43,zzw [Y8,gG,I] I),
 (44,zzw [I,I,I] .bool),
 (45,zzw [Y8,gG] I),
 (46,zzw [gG] I),
 (47,zzw [Y8] .bool),
 (48,zzw [gG] .bool),
 (49,zzw [Y5] .bool),
 (50,zzw [Y8] (.tup [(.slice .str),(.slice .str),(.slice .str)])),
 (51,zzw [(.slice .str),I,(.fn [I] .bool)] I),
 (52,zzw [I] .bool),
 (53,zzw [I,(.ref Y8)] .bool),
 (54,zzw [Y8,Y0] .bool),
 (55,zzw [I,I] .bool),
 (56,zzw [I,(.ref Y8)] .bool),
 (57,zzw [I,(.ref Y8)] .bool),
 (58,zzw [Y5] .bool),
 (59,zzw [Y8] I),
 (60,zzw [Y8] I),
 (61,zzw [fE,I] I),
 (62,zzw [fE,(.slice I),(.slice I)] fE),
 (63,zzw [Y8,I,I,fE] (.tup [Oa,(.slice eu)])),
 (64,zzw [Y5,I,(.slice eu)] (.tup [eu,I])),
 (65,zzw [Y8,I,fE] (.slice I)),
 (66,zzw [I] .bool),
 (67,zzw [Y8,I,I,(.slice I)] (.tup [(.slice I),I])),
 (68,zzw [Y5,I,(.slice eu)] (.tup [eu,I])),
 (69,zzw [Y8,fE] (.slice eu)),
 (70,zzw [I] .bool),
 (73,zzw [I,I] .bool),
 (74,zzw [X0] .bool),
 (75,zzw [Y8,I,I] (.tup [I,I])),
 (76,zzw [Y8,gG,I] .bool),
 (77,zzw [Y8,gG,Y9] .bool),
 (78,zzw [nl] .bool),
 (79,zzw [(.slice .str),I] I),
 (80,zzw [(.slice I),I,I] .bool),
 (81,zzw [Y8,fE] (.tup [fE,(.slice eu)])),
 (82,zzw [I] (.tup [I,.bool])),
 (83,zzw [Y8,I,fE] (.nsl I)),
 (84,zzw [Y8,I,I,(.slice I)] (.tup [(.slice I),I])),
 (85,zzw [Y5,I] (.tup [nl,I])),
 (86,zzw [nl,(.slice eu)] eu),
 (87,zzw [Y8,I] I),
 (88,zzw [Y8,(.slice I)] .bool),
 (89,zzw [I,I,I] .bool),
 (90,zzw [Y8,I,I,(.slice I)] (.tup [I,.bool])),
 (91,zzw [Y5,I] I),
 (92,zzw [nl,(.slice eu)] eu),
 (93,zzw [Y5,I] I),
 (94,zzw [I] .bool),
 (95,zzw [gG,I] gG),
 (96,zzw [Y8,fE] (.slice eu)),
 (98,zzw [gG,I,(.slice I)] .bool),
 (99,zzw [gG,I,I] .bool),
 (100,zzw [nl,I,I] I),
 (101,zzw [.str] .bool),
 (102,zzw [(.slice .str),.str] .bool),
 (103,⟨[gG,I],gG,(.rows [.dat I,.dat I,.dat I,.dat I,.dat I,.dat I,.dat I,.dat I,.dat I,.dat I,.dat I,.dat I,.dat I,.dat I,.dat I,.row 81 Y9,.row 83 rK,.row 85 Y9,.row 61 Y6])⟩),
 (104,zzw [Y8,fE] (.slice eu)),
 (105,zzw [(.slice I),I] .bool),
 (106,zzw [Y8,I] I),
 (107,zzw [Y8,I,I,(.slice I)] .bool),
 (108,zzw [Y8,I,I,(.slice I)] (.tup [I,.bool])),
 (109,zzw [(.slice Y4),(.fn [Y4] .bool)] I),
 (110,zzw [Y4,(.ref I)] .bool),
 (111,zzw [nl] (.tup [I,I])),
 (112,zzw [X1,nl] (.tup [eu,(.slice I)])),
 (113,zzw [Y5,I] Y3),
 (114,zzw [nl] (.tup [I,I])),
 (115,zzw [I] (.tup [I,.bool])),
 (116,zzw [nl,(.slice eu)] eu),
 (117,zzw [I] eu),
 (118,zzw [.bool] eu),
 (119,zzw [I,I] .bool),
 (120,zzw [gG,I,I] eu),
 (122,zzw [(.slice .str),.str] I),
 (123,zzw [I,I] .bool),
 (124,zzw [(.slice rK),(.fn [rK] .bool)] .bool),
 (125,zzw [rK,(.ref fE)] .bool),
 (126,zzw [.bool] eu),
 (127,zzw [gG,I,I] eu),
 (128,zzw [(.slice I),I] I),
 (129,zzw [(.slice I),(.fn [I] .bool)] .bool),
 (130,zzw [I,(.ref I)] .bool),
 (131,zzw [nl,I] I),
 (132,zzw [nl] (.tup [I,I])),
 (133,zzw [X1,I] eu),
 (134,zzw [I,(.slice eu)] eu),
 (135,zzw [(.slice (.slice I))] (.slice I)),
 (136,zzw [nl] (.tup [I,I])),
 (137,zzw [I,(.slice eu)] eu),
 (138,zzw [eu,eu,I] eu),
 (139,zzw [I,I,I] eu),
 (140,zzw [(.slice rK),(.fn [rK] .bool)] I),
 (141,zzw [(.slice I),(.fn [I] .bool)] I),
 (142,zzw [nl] (.tup [I,I])),
 (143,zzw [I] Y18),
 (144,zzw [I] (.tup [I,.bool])),
 (145,zzw [.bool] eu),
 (146,zzw [I] I),
 (147,zzw [I,I,I] I),
 (148,⟨[.nils .bool,I],(.slice I),(.row 3 I)⟩),
 (149,zzw [I] I),
 (150,zzw [nl] (.tup [I,I])),
 (151,zzw [I,(.slice I)] (.tup [I,.bool])),
 (152,zzw [I] (.tup [I,.bool])),
 (153,zzw [I] I),
 (154,zzw [.bool] eu),
 (155,zzw [I,I] I),
 (156,zzw [I,I] I),
 (157,zzw [(.int .u64),(.int .u64)] (.tup [(.int .u64),(.int .u64)]))]
def O9:List (Nat×CSig):=[
 (32,⟨[(.ref I),(.ref I)],[Y6],.bool⟩),
 (36,⟨[(.ref I),(.ref I)],[Y6],.bool⟩),
 (52,⟨[],[I],.bool⟩),
 (53,⟨[(.ref Y8)],[I],.bool⟩),
 (56,⟨[(.ref Y8)],[I],.bool⟩),
 (57,⟨[(.ref Y8)],[I],.bool⟩),
 (110,⟨[(.ref I)],[Y4],.bool⟩),
 (125,⟨[(.ref fE)],[rK],.bool⟩),
 (130,⟨[(.ref I)],[I],.bool⟩)]
def ctx:Ctx:={P:=Tryz.prog,cap:=bS O9,sig:=bS xg,aqX:=λ_=>none,glob:=UU 0 [6,7,10,12,13,14,15,16,20,21]}
abbrev Nh (i:Nat):Sig:=(bS xg i).getD default
def cF (a b:List Nat)(f:Func)(i:Nat)(l:List Nat):Option PC:=nu {ctx with fr:=a,nh:=b} f (Nh i) l
def aU {o:Option PC}{t:PT}{l:List (Shp×PT)}(h:o.map told=some (t,l)):tree (ae o)=t:=cl (F:=λ_=>(t,l)) h
def aD (o:Option PC){p:PT×List (Shp×PT)}(h:o.map told=some p):o=some (ae o):=auP (F:=λ_=>p) h
def aF (l a b:List Nat){f:Nat}{fn:Func}{c:PC}(h0:ctx.P.funcs[f]?=some fn)(h1:ctx.sig f=some (Nh f))(h2:nu {ctx with fr:=a,nh:=b} fn (Nh f) l=some c):∃fn s ids fr nh,ctx.P.funcs[f]?=some fn/\ctx.sig f=some s/\nu {ctx with fr:=fr,nh:=nh} fn s ids=some c:=⟨fn,Nh f,l,a,b,h0,h1,h2⟩
abbrev wN:PE:=.con (.agg [(.int 0),(.int 0),(.int 0),(.int 0),(.int 0),(.int 0),(.int 0),(.int 0),(.int 0),(.int 0),(.int 0),(.int 0),(.int 0),(.int 0),(.int 0),(.list []),(.list []),(.list []),(.list [])])
abbrev lG:PE:=.setc wN 0 (.mk [(.mk [(pi 0),(pi 1),(pi 1),(pi 100),(pi 0),z3,(pi 10),(pi 0),(pi 0),(pi (-1)),(pi 0),(pi 0),(pi 1)]),(.lst [(.mk [(pi 0),(pi 0),(pi 0),(pi (-1)),(pi (-1)),(pi 0),(pi 10),(pi 0),(pi 0)])]),pL,pL,r0])
abbrev dk:PE:=.con (.agg [(.bool false),(.int 0)])
abbrev zf:PE:=.con (.agg [(.int 0),(.int 0),(.int 0),(.int 0),(.int 0),(.int 0),(.int 0),(.int 0),(.int 0),(.int 0),(.int 0),(.int 0),(.int 0),(.int 0),(.int 0),(.list []),(.list []),(.list []),(.list []),(.int 0),(.int 0),(.int 0),(.int 0),(.int 0)])
abbrev jT:PE:=.con (.agg [(.bool false),(.int 0),(.int 0),(.list []),(.int 0)])
abbrev Mg:PE:=.setc (.setc (.con (.agg [(.list []),(.list []),(.list []),(.list []),(.list []),(.list []),(.list []),(.list [])])) 0 (.mk [(.lst [(.con (.v (.string ⟨#[102,114,97,110,99]⟩)))]),(.lst [(.mk [(.con (.v (.string ⟨#[76,121,111,110]⟩))),(pi 0),(pi 0),pL,pL,pL])]),(.lst [(.mk [(pi 0)])]),(.lst [(.mk [(.con (.v (.string ⟨#[65]⟩))),(pi 0),(pi 0)]),(.mk [(.con (.v (.string ⟨#[66]⟩))),(pi 0),(pi 0)])]),pL,pL,pL,pL])) 4 pN
abbrev sK:PE:=.deref (.con (.ref (.agg [(.int 6),(.int 7),(.int 10),(.int 12),(.int 13),(.int 14),(.int 15),(.int 16),(.int 20),(.int 21)])))
abbrev kz:PE:=.con (.agg [(.int 0),(.int 0),(.list [])])
abbrev mq:PE:=.setc z3 0 (.mk [(pc (.mk [r0]) 5),(pc (.mk [r0]) 6),(pc (.mk [r0]) 7)])
abbrev L8:PE:=.put (.put (.put (.put (.con (.map [])) (pi 7) (aW (.ai .and .i64 (pc o6 13) (pi 1)) (pi 0))) (pi 8) (af (pc o6 2) (pi (-1)))) (pi 9) (aW (.ai .and .i64 (pc o6 13) (pi 4)) (pi 0))) (pi 10) (aW (.ai .and .i64 (pc o6 13) (pi 2)) (pi 0))
abbrev L9:PE:=.pick (.pick sO (.nt sP) pF) (.pick (bP (pc (.pick (aj (pc o9 1) (pi 0)) (.setc o9 1 (pi 0)) o9) 1) (pi 20000)) (.setc (.pick (aj (pc o9 1) (pi 0)) (.setc o9 1 (pi 0)) o9) 1 (pi 20000)) (.pick (aj (pc o9 1) (pi 0)) (.setc o9 1 (pi 0)) o9)) o9
abbrev uP:PE:=.mk [(pc (.setc o4 0 (.mk [pF,(pi 0)])) 0),(pc (.setc o4 0 (.mk [pF,(pi 0)])) 1)]
abbrev cI:PE:=pi 4294967296
abbrev uQ:PE:=.con (.agg [(.int 0),(.int 0),(.bool false)])
abbrev mX:PE:=.con (.agg [(.list []),(.int 0)])
abbrev dQ:PE:=.setc o4 18 pN
abbrev pZ:PE:=.setc z9 0 (pn (pc (.mk [r1]) 15) r2)
abbrev CC:PE:=.mk [(pc (.setc dk 0 gj) 0),(pc (.setc dk 0 gj) 1)]
abbrev CD:PE:=.setc z9 0 (pn (pc (.mk [r2]) 15) (pc (.mk [r2]) 19))
abbrev Tg:PE:=.setc kz 0 (.mk [(pi 5),(pi 0),(.lst [(.mk [(pc (.setc kz 0 (.mk [(pi 2),(pi 15),pL])) 0),(pc (.setc kz 0 (.mk [(pi 2),(pi 15),pL])) 1),pL]),(.mk [(pi 2),(pi 17),pL])])])
abbrev Th:PE:=.put (.put (.put (.con (.map [])) (pi 0) (pc o6 3)) (pi 1) (pc o6 14)) (pi 2) (pc o6 5)
abbrev Mb:PE:=.pick (.pick (af (.tget zl 0) (pi 0)) (pc cX 0) pF) (.setc cX 1 (.mn (.mx (pc cX 1) (pi 0)) (pi 20000))) cX
abbrev F2:PE:=.mk [(pc o9 0),(pc o9 1),(pc o9 2)]
abbrev aeD:PE:=.ai .add .u64 (.ai .mul .u64 (.ai .shr .u64 r0 (.con (.v (.int .u64 32)))) (.ai .and .u64 r1 (.con (.v (.int .u64 4294967295))))) (.ai .shr .u64 (.ai .mul .u64 (.ai .and .u64 r0 (.con (.v (.int .u64 4294967295)))) (.ai .and .u64 r1 (.con (.v (.int .u64 4294967295))))) (.con (.v (.int .u64 32))))
abbrev ze:PE:=.setc (.setc cX 3 (.tget CH 0)) 4 (.tget CH 1)
abbrev wP:PE:=.setc wN 0 (ax 19 (.mk [r1]))
abbrev kU:PE:=ax 15 (.mk [r1])
abbrev ky:PE:=ax 8 (.mk [r0])
abbrev Mc:PE:=bP (.mx r0 (bx (pi 0) r0)) (.ai .quo .i64 (pi 1099511627776) (.mx r1 (bx (pi 0) r1)))
abbrev mY:PE:=pc (.mk [r0]) 1
abbrev mZ:PE:=pc (.mk [r0]) 0
abbrev Md:PE:=.mk [(pc (.setc dk 0 (.mk [pF,(pi 0)])) 0),(pc (.setc dk 0 (.mk [pF,(pi 0)])) 1)]
abbrev mm:PE:=ax 15 (.mk [r0])
abbrev Me:PE:=.mk [(pc (.setc o6 0 (.mk [pF,(pi 0)])) 0),(pc (.setc o6 0 (.mk [pF,(pi 0)])) 1)]
abbrev F3:PE:=pc (.mk [r0]) 2
abbrev Ti:PE:=.setc (.setc (.setc o9 3 (.tget m3 0)) 4 (.tget m3 1)) 2 (pn (.tget m3 0) (bx (.llen (.tget m3 0)) (pi 1)))
abbrev oO:PE:=pn r1 (pi 0)
abbrev wQ:PE:=.setc z3 0 (pn (pc o4 18) cG)
abbrev aeE:PE:=.pick (.pick (.pick (aj (pc (.mk [r4]) 19) (pi 0)) pT (cB (pc (.mk [r4]) 19) (.llen (pc (.mk [r4]) 15)))) pT (aj (pc (.mk [r4]) 20) (pi (-1)))) pT (cB (pc (.mk [r4]) 20) (.llen (pc (.mk [r4]) 15)))
abbrev Tj:PE:=.con (.agg [(.list []),(.list []),(.list []),(.list []),(.list []),(.list []),(.list []),(.list [])])
abbrev Tk:PE:=.mk [(pc (.setc o4 0 (.mk [(pi 0),(pi 0),pL])) 0),(pc (.setc o4 0 (.mk [(pi 0),(pi 0),pL])) 1),pL]
abbrev lH:PE:=pn r1 (pi 1)
abbrev m0:PE:=.setc o4 0 o5
abbrev Tl:PE:=.mk [(pc (.setc dk 0 (.mk [pT,(pi 1)])) 0),(pc (.setc dk 0 (.mk [pT,(pi 1)])) 1)]
abbrev Tn:PE:=.mk [(pc (.setc dk 0 (.mk [pT,(pi 0)])) 0),(pc (.setc dk 0 (.mk [pT,(pi 0)])) 1)]
abbrev rj:PE:=pi 1099511627776
abbrev To:PE:=ax 5 (.setc o8 0 (.mk [(pc cX 0),(pc cX 1),(pc cX 2),(.o 16394),(pc cX 4)]))
abbrev p5:PE:=.llen (pc o3 2)
abbrev aeF:PE:=.pick (.pick (af (.tget gR 0) (.con (.v (.int .u64 0)))) (aj (.tget gR 1) (.con (.v (.int .u64 1099511627776)))) pF) (.conv .i64 (.tget gR 1)) rj
abbrev aeG:PE:=.pick (.pick (.pick (aj (pc CD 2) (pi 0)) pT (cB (pc CD 2) (.llen (pc (.mk [r0]) 3)))) pT (aj r1 (pi 0))) pT (cB r1 (.llen (pc (.mk [r0]) 4)))
abbrev rk:PE:=pn (pc o2 15) r5
abbrev Tp:PE:=.put (.con (.map [])) (pi 7) (aW (.ai .and .i64 (pc o6 13) (pi 1)) (pi 0))
abbrev zg:PE:=aj r5 (.llen (pc o2 15))
abbrev rl:PE:=.llen (pc o4 4)
abbrev Mf:PE:=.lst [(.mk [(pc R9 0),(pc R9 1),(pc R9 2)])]
abbrev sI:PE:=pc (.mk [r0]) 15
abbrev sJ:PE:=.llen (pc o2 17)
abbrev aeH:PE:=.app o2 (.lst [(pc (.setc (.con (.agg [(.v (.string ⟨#[]⟩)),(.int 0),(.int 0),(.list []),(.list []),(.list [])])) 0 (pn cP cG)) 0)])
abbrev rn:PE:=bH r8 (pi 1)
abbrev F4:PE:=bx (pi 2) (pc (pn o7 (pi 0)) 1)
abbrev Mh:PE:=.setc kz 0 (.sub (pn (pc o2 3) ju) 1 3)
abbrev p6:PE:=pn o5 (pi 0)
abbrev uR:PE:=pn (pc o3 17) r7
abbrev uS:PE:=pn (pc o3 15) r5
abbrev uT:PE:=pn (pc o2 17) r7
abbrev rp:PE:=ak r1 (pi 1)
abbrev uU:PE:=.tget jx 0
abbrev aeI:PE:=.app o4 (.lst [(pc (.setc (.con (.agg [(.v (.string ⟨#[]⟩)),(.bool false),(.list []),(.list [])])) 0 (pn lI p8)) 0)])
abbrev F5:PE:=pc (.setc wN 0 sO) 18
abbrev CE:PE:=.con (.v (.int .u64 32))
abbrev aeJ:PE:=.put (.put (.put L8 (pi 11) (aW Gb Tu)) (pi 12) dS) (pi 13) (aW (.ai .and .i64 (pc o8 8) (pi 1)) (pi 0))
abbrev uV:PE:=pn o5 (pi 1)
abbrev CF:PE:=.app q8 (.lst [F2])
abbrev sL:PE:=ak r1 (pi 0)
abbrev Mi:PE:=.setc z9 0 (pn (pc o5 15) (pc o5 19))
abbrev Tq:PE:=.put (.put Th (pi 3) (pc o6 12)) (pi 4) (pc o8 0)
abbrev aeK:PE:=.pick (bP (.llen (pc (pn (pc o1 1) r3) 4)) (pi 70)) pT (bP (.llen (pc (pn (pc o1 1) r3) 5)) (pi 210))
abbrev Mj:PE:=.mk [(pc o1 0),(pc o1 1),(pc o1 2)]
abbrev F6:PE:=.setc uQ 0 (pn ju hH)
abbrev aeL:PE:=.app o3 (.lst [(pc (.setc (.con (.agg [(.v (.string ⟨#[]⟩)),(.int 0),(.int 0)])) 0 (pn hH gj)) 0)])
abbrev aeM:PE:=.app o4 (.lst [(pc (.setc (.con (.agg [(.int 0),(.int 0),(.int 0),(.list [])])) 0 (pn gj sO)) 0)])
abbrev wR:PE:=.llen (pc o1 4)
abbrev wS:PE:=.llen (pc o1 1)
abbrev aeN:PE:=.app (.o 69637) (.lst [(.mk [(pc (.setc z2 0 (pn uX nN)) 0),(pc (.setc z2 0 (pn uX nN)) 1)])])
abbrev Tr:PE:=.setc z9 0 (pn (pc wP 15) (pc (.mk [r1]) 19))
abbrev F7:PE:=aW (pc o3 22) (pi (-1))
abbrev F8:PE:=.llen (pc (.mk [r0]) 18)
abbrev wT:PE:=bH r5 (pi 1)
abbrev zh:PE:=.setc dk 0 sN
abbrev sM:PE:=.llen F3
abbrev zi:PE:=.llen (pc o2 18)
abbrev zj:PE:=.llen (pc o2 16)
abbrev aeO:PE:=.setc o4 0 (.mk [(pc (.setc dk 0 (.tget kV 0)) 0),(pc (.setc dk 0 (.tget kV 0)) 1)])
abbrev F9:PE:=.mk [mZ,mY,F3]
abbrev Ga:PE:=.app iT (.lst [uU])
abbrev aeP:PE:=.app iT (.lst [(.ai .and .i64 (.ai .shr .i64 jU (bx (bx fj (pi 1)) CK)) (pi 1))])
abbrev CG:PE:=.rep (pi 5) (pi 0)
abbrev Mk:PE:=bx (.llen (pc o3 3)) (pi 1)
abbrev Ts:PE:=.pick (pc uV 0) (pc (pn o5 (pi 2)) 0) pF
abbrev Tc:PE:=.an (cB (pi 5) (pi 0)) (bD (pi 5) cI)
abbrev aex:PE:=.an (.cb .eql (pc oO 0) (pc CC 0)) (.an (af (pc oO 1) (pc CC 1)) pT)
abbrev zc:PE:=bH r6 (pi 1)
abbrev Cv:PE:=af oO (pi 1)
abbrev Cw:PE:=.llen (pc o4 18)
abbrev zd:PE:=aj r0 (pi 0)
abbrev wO:PE:=aj bQ cC
abbrev Td:PE:=af (pc (.setc jT 0 gR) 4) (pi 0)
abbrev Cy:PE:=bH bQ (pi 1)
abbrev Te:PE:=.pick (cB r0 (pi 0)) (aj r0 r1) pF
abbrev Cz:PE:=.llen (pc o2 2)
abbrev CA:PE:=.llen (pc o1 3)
abbrev CB:PE:=.llen (pc o1 2)
abbrev aey:PE:=.setc o4 0 (.mk [(pc (.setc dk 0 TG) 0),(pc (.setc dk 0 TG) 1)])
abbrev Ma:PE:=bx (.llen iT) (pi 1)
abbrev aez:PE:=.setc mX 0 (.mk [(.lst [(pi 1),(pi (-1)),(pi (-1))]),(pi (-1))])
abbrev Tf:PE:=.ai .rem .i64 (pn r8 cC) (pi 100)
abbrev aeA:PE:=.pick (.pick (.pick r1 r2 pF) r3 pF) (af (.llen F5) (pi 2)) pF
abbrev aeB:PE:=pc (.setc (.con (.agg [(.int 0)])) 0 (.llen (pc (.mk [r0]) 4))) 0
abbrev aeC:PE:=.app (.o 77829) (.lst [(.mk [(pc R8 0),(pc R8 1),(pc R8 2)])])
end Rm
