/-
  Shared texts of this claim.
-/
import Derived.Test.YtipjidjopglknaaGreatDoorMAI
import Derived.Lib.LaidTab
set_option linter.defProp false
set_option linter.unusedSimpArgs false
set_option linter.unusedVariables false
noncomputable section
namespace Cx
open Go Go.RowKit
structure SE where
 r:List (Nat×PE)
 o:List (Nat×PE)
def SE.getR (s:SE)(t:Nat):PE:=match bk s.r t with|some e=>e|none=>.r t
def SE.getO (s:SE)(t:Nat):PE:=match bk s.o t with|some e=>e|none=>.o t
def SE.setR (s:SE)(t:Nat)(e:PE):SE:=⟨(t,e)::s.r,s.o⟩
def SE.setO (s:SE)(t:Nat)(e:PE):SE:=⟨s.r,(t,e)::s.o⟩
def SE.id:SE:=⟨[],[]⟩
def SE.ev (s:SE)(O:Env):Env:=⟨λt=>(s.getR t).ev O,λt=>(s.getO t).ev O⟩
def SE.join (s:SE)(lr lo:List Nat)(s':SE):SE:=⟨lr.map (λt=>(t,s'.getR t))++s.r,lo.map (λt=>(t,s'.getO t))++s.o⟩
def SE.setR_ev (s:SE)(t:Nat)(e:PE)(O:Env):(s.setR t e).ev O=(s.ev O).setR t (e.ev O):=by
 have h:(λu=>((s.setR t e).getR u).ev O)=cr (λu=>(s.getR u).ev O) t (e.ev O):=by
  funext u;simp only[SE.getR,SE.setR,bk,fY];by_cases h:t=u
  .subst h;simp
  .have h':¬u=t:=λe=>h e.symm;simp[ff h,h']
 simp only[SE.ev,Env.setR];rw[h];rfl
def SE.setO_ev (s:SE)(t:Nat)(e:PE)(O:Env):(s.setO t e).ev O=(s.ev O).setO t (e.ev O):=by
 have h:(λu=>((s.setO t e).getO u).ev O)=cr (λu=>(s.getO u).ev O) t (e.ev O):=by
  funext u;simp only[SE.getO,SE.setO,bk,fY];by_cases h:t=u
  .subst h;simp
  .have h':¬u=t:=λe=>h e.symm;simp[ff h,h']
 simp only[SE.ev,Env.setO];rw[h];rfl
def zu {f:Nat->PE}{l:List (Nat×PE)}{u:Nat}:∀(lr:List Nat),bk (lr.map (λt=>(t,f t))++l) u=if u∈lr then some (f u) else bk l u
 |[]=>by simp
 |t::lr=>by
  simp only[fO,Ja,bk,zu lr,cU];by_cases h:t=u
  .subst h;simp
  .have h':¬u=t:=λe=>h e.symm;simp[ff h,h']
def SE.join_ev (s s':SE)(lr lo:List Nat)(O:Env):(s.join lr lo s').ev O=(s.ev O).join lr lo (s'.ev O):=by
 have h1:∀u,((s.join lr lo s').getR u).ev O=((s.ev O).join lr lo (s'.ev O)).r u:=by
  intro u;rw[Env.join_r];have e:bk (s.join lr lo s').r u=if u∈lr then some (s'.getR u) else bk s.r u:=zu lr;unfold SE.getR;rw[e];by_cases h:u∈lr
  .simp only[h,if_true];rfl
  .simp only[h,if_false];rfl
 have h2:∀u,((s.join lr lo s').getO u).ev O=((s.ev O).join lr lo (s'.ev O)).o u:=by
  intro u;rw[Env.join_o];have e:bk (s.join lr lo s').o u=if u∈lo then some (s'.getO u) else bk s.o u:=zu lo;unfold SE.getO;rw[e];by_cases h:u∈lo
  .simp only[h,if_true];rfl
  .simp only[h,if_false];rfl
 have e1:(λu=>((s.join lr lo s').getR u).ev O)=((s.ev O).join lr lo (s'.ev O)).r:=funext h1;have e2:(λu=>((s.join lr lo s').getO u).ev O)=((s.ev O).join lr lo (s'.ev O)).o:=funext h2;show Env.mk _ _=_;rw[e1,e2]
abbrev cu:=List (PE×Bool)
def cu.ok (ae:cu)(O:Env):Prop:=∀x,x∈ae->(x.1.ev O).b=x.2
def Jq (e:PE):cu->Option Bool
 |[]=>none
 |x::l=>bif PE.beq x.1 e then some x.2 else Jq e l
def aaB {e:PE}{O:Env}{b:Bool}:∀{ae:cu},ae.ok O->Jq e ae=some b->(e.ev O).b=b
 |[],_,h=>by cases h
 |x::l,av,h=>by
  simp only[Jq] at h;cases hb:PE.beq x.1 e<;>simp only[hb,zyy,zyx] at h
  .exact aaB (λy hy=>av y (dV _ hy)) h
  .cases h;rw[<-PE.beq_eq _ _ hb];exact av x (dZ ..)
def xM (ae:cu):PE->Option Bool
 |.con (.v (.bool b))=>some b
 |.nt x=>(xM ae x).map (!·)
 |e=>Jq e ae
def Aw {ae:cu}{O:Env}(h:ae.ok O):∀{e:PE} {b:Bool},xM ae e=some b->(e.ev O).b=b
 |.con (.v (.bool b)),b',he=>by simp only[xM,aX] at he;subst he;rfl
 |.nt x,b',he=>by
  simp only[xM,aD] at he;obtain⟨c,hc,rfl⟩:=he;simp only[PE.ev,D.b_bool,Aw h hc]
 |e,b',he=>by
  unfold xM at he;split at he
  .cases he;rfl
  .rename_i x;simp only[aD] at he;obtain⟨c,hc,rfl⟩:=he;simp only[PE.ev,D.b_bool,Aw h hc]
  .exact aaB h he
def uQ (ae:cu)(c a b:PE):PE:=match xM ae c with|some true=>a|some false=>b|none=>.pick c a b
def Uy {ae:cu}{O:Env}(h:ae.ok O)(c a b:PE):(uQ ae c a b).ev O=(PE.pick c a b).ev O:=by
 unfold uQ;split
 .rename_i ht;simp[PE.ev,Aw h ht]
 .rename_i ht;simp[PE.ev,Aw h ht]
 .rfl
def QU:PE->PE
 |.ref x=>x
 |x=>.deref x
def anK (x:PE)(O:Env):(QU x).ev O=(PE.deref x).ev O:=by unfold QU;split<;>rfl
def WK:PE->Nat->PE
 |.tup es,i=>es.getD i (.con .none)
 |x,i=>.tget x i
def azs (x:PE)(i:Nat)(O:Env):(WK x i).ev O=(PE.tget x i).ev O:=by
 unfold WK;split
 .rename_i es;simp only[PE.ev,D.tget_tup,PE.evs_eq,aK,cL];cases es[i]?<;>rfl
 .rfl
def GZ:PE->Bool
 |.ai ..|.ci ..|.cb ..|.cs ..|.sadd ..|.nt _|.conv ..|.llen _|.bytes _|.slen _|.mlen _|.idx ..|.sidx ..|.sok ..|.slok ..|.lst _|.app ..|.setn ..|.rep ..|.slc ..|.ref _|.has ..|.put ..|.an ..|.imp ..|.tup _|.clo ..=>true
 |.con (.v _)|.con (.list _)|.con (.map _)=>true
 |_=>false
def awb {e:PE}(h:GZ e=true)(O:Env):(e.ev O).cells=[e.ev O]:=by
 unfold GZ at h;split at h<;>first|rfl|cases h
def QG:PE->Nat->PE
 |.mk es,i=>bif es.all GZ then es.getD i (.con .none) else .cell (.mk es) i
 |x,i=>.cell x i
def abv {O:Env}:∀{es:List PE},es.all GZ=true->PE.evc O es=PE.evs O es
 |[],_=>rfl
 |e::es,h=>by
  simp only[rW,au] at h;simp only[PE.evc,PE.evs,awb h.1,abv h.2];rfl
def amU (x:PE)(i:Nat)(O:Env):(QG x i).ev O=(PE.cell x i).ev O:=by
 unfold QG;split
 .rename_i es;cases hc:es.all GZ
  .rfl
  .simp only[zyy,PE.ev,abv hc,D.c_agg,PE.evs_eq,aK,cL];cases es[i]?<;>rfl
 .rfl
def FD (s:SE):List (Nat×Bool)->PE
 |[]=>.con (.v (.bool true))
 |g::gs=>.an (bif g.2 then s.getR g.1 else .nt (s.getR g.1)) (FD s gs)
def abY (s:SE)(O:Env):∀gs,((FD s gs).ev O).b=holds gs (s.ev O)
 |[]=>rfl
 |g::gs=>by
  have ih:=abY s O gs;rw[asn,<-ih];have e:((s.ev O).r g.1)=(s.getR g.1).ev O:=rfl;rw[e];cases hg:g.2
  .simp only[FD,hg,zyx,PE.ev,D.b_bool];cases((s.getR g.1).ev O).b<;>rfl
  .simp only[FD,hg,zyy,PE.ev,D.b_bool];cases((s.getR g.1).ev O).b<;>rfl
mutual
def PE.sub' (ae:cu)(s:SE):PE->PE
 |.r t=>s.getR t
 |.o j=>s.getO j
 |.con d=>.con d
 |.cell e i=>QG (PE.sub' ae s e) i
 |.sub e a b=>.sub (PE.sub' ae s e) a b
 |.setc e q x=>.setc (PE.sub' ae s e) q (PE.sub' ae s x)
 |.mk es=>.mk (PE.subs' ae s es)
 |.ai op k x y=>.ai op k (PE.sub' ae s x) (PE.sub' ae s y)
 |.ci op x y=>.ci op (PE.sub' ae s x) (PE.sub' ae s y)
 |.cb op x y=>.cb op (PE.sub' ae s x) (PE.sub' ae s y)
 |.cs op x y=>.cs op (PE.sub' ae s x) (PE.sub' ae s y)
 |.sadd x y=>.sadd (PE.sub' ae s x) (PE.sub' ae s y)
 |.nt x=>.nt (PE.sub' ae s x)
 |.conv k x=>.conv k (PE.sub' ae s x)
 |.pick c a b=>uQ ae (PE.sub' ae s c) (PE.sub' ae s a) (PE.sub' ae s b)
 |.llen x=>.llen (PE.sub' ae s x)
 |.bytes x=>.bytes (PE.sub' ae s x)
 |.slen x=>.slen (PE.sub' ae s x)
 |.mlen x=>.mlen (PE.sub' ae s x)
 |.nth x y=>.nth (PE.sub' ae s x) (PE.sub' ae s y)
 |.idx x y=>.idx (PE.sub' ae s x) (PE.sub' ae s y)
 |.sidx x y=>.sidx (PE.sub' ae s x) (PE.sub' ae s y)
 |.sok x y=>.sok (PE.sub' ae s x) (PE.sub' ae s y)
 |.setn x y n z=>.setn (PE.sub' ae s x) (PE.sub' ae s y) n (PE.sub' ae s z)
 |.app x y=>.app (PE.sub' ae s x) (PE.sub' ae s y)
 |.lst es=>.lst (PE.subs' ae s es)
 |.rep x y=>.rep (PE.sub' ae s x) (PE.sub' ae s y)
 |.slc x y z=>.slc (PE.sub' ae s x) (PE.sub' ae s y) (PE.sub' ae s z)
 |.slok x y z=>.slok (PE.sub' ae s x) (PE.sub' ae s y) (PE.sub' ae s z)
 |.ref x=>.ref (PE.sub' ae s x)
 |.deref x=>QU (PE.sub' ae s x)
 |.look x y z=>.look (PE.sub' ae s x) (PE.sub' ae s y) (PE.sub' ae s z)
 |.has x y=>.has (PE.sub' ae s x) (PE.sub' ae s y)
 |.put x y z=>.put (PE.sub' ae s x) (PE.sub' ae s y) (PE.sub' ae s z)
 |.mn x y=>.mn (PE.sub' ae s x) (PE.sub' ae s y)
 |.mx x y=>.mx (PE.sub' ae s x) (PE.sub' ae s y)
 |.tup es=>.tup (PE.subs' ae s es)
 |.tget x i=>WK (PE.sub' ae s x) i
 |.clo f es=>.clo f (PE.subs' ae s es)
 |.an x y=>.an (PE.sub' ae s x) (PE.sub' ae s y)
 |.imp c x=>.nt (.an (FD s c) (.nt (PE.sub' ae s x)))
def PE.subs' (ae:cu)(s:SE):List PE->List PE
 |[]=>[]
 |e::es=>PE.sub' ae s e::PE.subs' ae s es
end
mutual
def PE.sub_ev {ae:cu}{O:Env}(h:ae.ok O)(s:SE):∀(e:PE),(PE.sub' ae s e).ev O=e.ev (s.ev O)
 |.r t=>rfl
 |.o j=>rfl
 |.con d=>rfl
 |.cell e i=>by simp only[PE.sub',amU,PE.ev,PE.sub_ev h s e]
 |.sub e a b=>by simp only[PE.sub',PE.ev,PE.sub_ev h s e]
 |.setc e q x=>by simp only[PE.sub',PE.ev,PE.sub_ev h s e,PE.sub_ev h s x]
 |.mk es=>by simp only[PE.sub',PE.ev,PE.subc_ev h s es]
 |.ai op k x y=>by simp only[PE.sub',PE.ev,PE.sub_ev h s x,PE.sub_ev h s y]
 |.ci op x y=>by simp only[PE.sub',PE.ev,PE.sub_ev h s x,PE.sub_ev h s y]
 |.cb op x y=>by simp only[PE.sub',PE.ev,PE.sub_ev h s x,PE.sub_ev h s y]
 |.cs op x y=>by simp only[PE.sub',PE.ev,PE.sub_ev h s x,PE.sub_ev h s y]
 |.sadd x y=>by simp only[PE.sub',PE.ev,PE.sub_ev h s x,PE.sub_ev h s y]
 |.nt x=>by simp only[PE.sub',PE.ev,PE.sub_ev h s x]
 |.conv k x=>by simp only[PE.sub',PE.ev,PE.sub_ev h s x]
 |.pick c a b=>by simp only[PE.sub',Uy h,PE.ev,PE.sub_ev h s c,PE.sub_ev h s a,PE.sub_ev h s b]
 |.llen x=>by simp only[PE.sub',PE.ev,PE.sub_ev h s x]
 |.bytes x=>by simp only[PE.sub',PE.ev,PE.sub_ev h s x]
 |.slen x=>by simp only[PE.sub',PE.ev,PE.sub_ev h s x]
 |.mlen x=>by simp only[PE.sub',PE.ev,PE.sub_ev h s x]
 |.nth x y=>by simp only[PE.sub',PE.ev,PE.sub_ev h s x,PE.sub_ev h s y]
 |.idx x y=>by simp only[PE.sub',PE.ev,PE.sub_ev h s x,PE.sub_ev h s y]
 |.sidx x y=>by simp only[PE.sub',PE.ev,PE.sub_ev h s x,PE.sub_ev h s y]
 |.sok x y=>by simp only[PE.sub',PE.ev,PE.sub_ev h s x,PE.sub_ev h s y]
 |.setn x y n z=>by simp only[PE.sub',PE.ev,PE.sub_ev h s x,PE.sub_ev h s y,PE.sub_ev h s z]
 |.app x y=>by simp only[PE.sub',PE.ev,PE.sub_ev h s x,PE.sub_ev h s y]
 |.lst es=>by simp only[PE.sub',PE.ev,PE.subs_ev h s es]
 |.rep x y=>by simp only[PE.sub',PE.ev,PE.sub_ev h s x,PE.sub_ev h s y]
 |.slc x y z=>by simp only[PE.sub',PE.ev,PE.sub_ev h s x,PE.sub_ev h s y,PE.sub_ev h s z]
 |.slok x y z=>by simp only[PE.sub',PE.ev,PE.sub_ev h s x,PE.sub_ev h s y,PE.sub_ev h s z]
 |.ref x=>by simp only[PE.sub',PE.ev,PE.sub_ev h s x]
 |.deref x=>by simp only[PE.sub',anK,PE.ev,PE.sub_ev h s x]
 |.look x y z=>by simp only[PE.sub',PE.ev,PE.sub_ev h s x,PE.sub_ev h s y,PE.sub_ev h s z]
 |.has x y=>by simp only[PE.sub',PE.ev,PE.sub_ev h s x,PE.sub_ev h s y]
 |.put x y z=>by simp only[PE.sub',PE.ev,PE.sub_ev h s x,PE.sub_ev h s y,PE.sub_ev h s z]
 |.mn x y=>by simp only[PE.sub',PE.ev,PE.sub_ev h s x,PE.sub_ev h s y]
 |.mx x y=>by simp only[PE.sub',PE.ev,PE.sub_ev h s x,PE.sub_ev h s y]
 |.tup es=>by simp only[PE.sub',PE.ev,PE.subs_ev h s es]
 |.tget x i=>by simp only[PE.sub',azs,PE.ev,PE.sub_ev h s x]
 |.clo f es=>by simp only[PE.sub',PE.ev,PE.subs_ev h s es]
 |.an x y=>by simp only[PE.sub',PE.ev,PE.sub_ev h s x,PE.sub_ev h s y]
 |.imp c x=>by
  simp only[PE.sub',PE.ev,D.b_bool,abY,PE.sub_ev h s x];cases holds c (s.ev O)<;>cases(x.ev (s.ev O)).b<;>rfl
def PE.subs_ev {ae:cu}{O:Env}(h:ae.ok O)(s:SE):∀(es:List PE),PE.evs O (PE.subs' ae s es)=PE.evs (s.ev O) es
 |[]=>rfl
 |e::es=>by simp only[PE.subs',PE.evs,PE.sub_ev h s e,PE.subs_ev h s es]
def PE.subc_ev {ae:cu}{O:Env}(h:ae.ok O)(s:SE):∀(es:List PE),PE.evc O (PE.subs' ae s es)=PE.evc (s.ev O) es
 |[]=>rfl
 |e::es=>by simp only[PE.subs',PE.evc,PE.sub_ev h s e,PE.subc_ev h s es]
end
inductive PT where
 |next (s:SE)
 |exit (id:Nat) (s:SE)
 |ret (e:PE)
 |chk (e:PE) (k:PT)
 |ite (c:PE) (a b:PT)
 |call (s:SE) (gs:List (Nat×Bool)) (dst f:Nat) (args:List PE) (k:PT)
 |callc (s:SE) (gs:List (Nat×Bool)) (dst:Nat) (e:PE) (args:List PE) (k:PT)
 |mcall (s:SE) (j f:Nat) (args:List PE) (k:PT)
 |iteS (s:SE) (c:PE) (lr lo:List Nat) (a b k:PT)
 |blockS (s:SE) (id:Nat) (lr lo:List Nat) (a k:PT)
 |brk (s:SE) (c:PC) (k:PT)
def aJ (T:cT):PT->Env->(Out->Prop)->Prop
 |.next s,O,Q=>Q (.next (s.ev O))
 |.exit id s,O,Q=>Q (.exit id (s.ev O))
 |.ret e,O,Q=>Q (.ret (e.ev O))
 |.chk e k,O,Q=>(e.ev O).b=true/\aJ T k O Q
 |.ite c a b,O,Q=>if(c.ev O).b=true then aJ T a O Q else aJ T b O Q
 |.call s gs dst f args k,O,Q=>if holds gs (s.ev O)=true then ∃d,ah T f (PE.evs O args) d/\aJ T k ((s.ev O).setR dst d) Q else aJ T k (s.ev O) Q
 |.callc s gs dst e args k,O,Q=>if holds gs (s.ev O)=true then ∃f caps d,e.ev O=.clo f caps/\ah T f (PE.evs O args++caps) d/\aJ T k ((s.ev O).setR dst d) Q else aJ T k (s.ev O) Q
 |.mcall s j f args k,O,Q=>∃d,ah T f (PE.evs O args) d/\aJ T k ((s.ev O).setO j d) Q
 |.iteS s c lr lo a b k,O,Q=>if(c.ev O).b=true then aJ T a (s.ev O) (l5 (s.ev O) lr lo (iW (λO'=>aJ T k O' Q) Q)) else aJ T b (s.ev O) (l5 (s.ev O) lr lo (iW (λO'=>aJ T k O' Q) Q))
 |.blockS s id lr lo a k,O,Q=>aJ T a (s.ev O) (m8 (s.ev O) id lr lo (iW (λO'=>aJ T k O' Q) Q))
 |.brk s c k,O,Q=>aN T c (s.ev O) (iW (λO'=>aJ T k O' Q) Q)
def pX:PI->Bool
 |.setR ..|.setO ..|.chk _=>true
 |_=>false
def eL:PC->Bool
 |.loop ..=>false
 |.each ..=>false
 |.meach ..=>false
 |.seq a b=>eL a&&eL b
 |.ite _ _ _ a b=>eL a&&eL b
 |.block _ _ _ a=>eL a
 |.is l=>l.all pX
 |_=>true
abbrev Kn:=cu->SE->PT
abbrev Kx:=cu->Nat->SE->PT
def oO:List PI->cu->SE->Kn->PT
 |[],ae,s,k=>k ae s
 |.setR t e::l,ae,s,k=>oO l ae (s.setR t (e.sub' ae s)) k
 |.setO t e::l,ae,s,k=>oO l ae (s.setO t (e.sub' ae s)) k
 |.chk e::l,ae,s,k=>
  match xM ae (e.sub' ae s) with
  |some true=>oO l ae s k
  |_=>.chk (e.sub' ae s) (oO l ((e.sub' ae s,true)::ae) s k)
 |.call gs dst f args::l,ae,s,k=>.call s gs dst f (PE.subs' ae s args) (oO l [] .id k)
 |.callc gs dst e args::l,ae,s,k=>.callc s gs dst (e.sub' ae s) (PE.subs' ae s args) (oO l [] .id k)
 |.mcall j f args::l,ae,s,k=>.mcall s j f (PE.subs' ae s args) (oO l [] .id k)
def SE.merge (s:SE)(ae:cu)(lr lo:List Nat)(c:PE)(a b:SE):SE:=⟨lr.map (λt=>(t,uQ ae c (a.getR t) (b.getR t)))++s.r,lo.map (λt=>(t,uQ ae c (a.getO t) (b.getO t)))++s.o⟩
def rA:List PI->cu->SE->Option SE
 |[],_,s=>some s
 |.setR t e::l,ae,s=>rA l ae (s.setR t (e.sub' ae s))
 |.setO t e::l,ae,s=>rA l ae (s.setO t (e.sub' ae s))
 |_::_,_,_=>none
def plain:PC->cu->SE->Option SE
 |.skip,_,s=>some s
 |.is l,ae,s=>rA l ae s
 |.seq a b,ae,s=>(plain a ae s).bind λs=>plain b ae s
 |.ite c lr lo a b,ae,s=>(plain a ae s).bind λsa=>(plain b ae s).map λsb=>s.merge ae lr lo (c.sub' ae s) sa sb
 |_,_,_=>none
def adZ:PC->Bool
 |.loop ..=>true
 |_=>false
def sx:PC->cu->SE->Kn->Kx->PT
 |.skip,ae,s,k,_=>k ae s
 |.is l,ae,s,k,_=>oO l ae s k
 |.seq a b,ae,s,k,kx=>sx a ae s (λae s=>sx b ae s k kx) kx
 |.ite c lr lo a b,ae,s,k,kx=>
  match xM ae (c.sub' ae s) with
  |some true=>bif eL a then sx a ae s (λae s'=>k ae (s.join lr lo s')) kx else .iteS s (c.sub' ae s) lr lo (sx a [] .id (λ_ s=>.next s) (λ_ id s=>.exit id s)) (sx b [] .id (λ_ s=>.next s) (λ_ id s=>.exit id s)) (k [] .id)
  |some false=>bif eL b then sx b ae s (λae s'=>k ae (s.join lr lo s')) kx else .iteS s (c.sub' ae s) lr lo (sx a [] .id (λ_ s=>.next s) (λ_ id s=>.exit id s)) (sx b [] .id (λ_ s=>.next s) (λ_ id s=>.exit id s)) (k [] .id)
  |none=>
   match plain a ae s,plain b ae s with
   |some sa,some sb=>k ae (s.merge ae lr lo (c.sub' ae s) sa sb)
   |_,_=>
   bif eL a&&eL b then
    .ite (c.sub' ae s) (sx a ((c.sub' ae s,true)::ae) s (λae s'=>k ae (s.join lr lo s')) kx) (sx b ((c.sub' ae s,false)::ae) s (λae s'=>k ae (s.join lr lo s')) kx)
   else .iteS s (c.sub' ae s) lr lo (sx a [] .id (λ_ s=>.next s) (λ_ id s=>.exit id s)) (sx b [] .id (λ_ s=>.next s) (λ_ id s=>.exit id s)) (k [] .id)
 |.block id lr lo a,ae,s,k,kx=>
  bif eL a then sx a ae s (λae s'=>k ae (s.join lr lo s')) (λae cj s'=>bif Nat.beq cj id then k ae (s.join lr lo s') else kx ae cj s')
  else bif adZ a then .brk s (.block id lr lo a) (k [] .id)
  else .blockS s id lr lo (sx a [] .id (λ_ s=>.next s) (λ_ id s=>.exit id s)) (k [] .id)
 |.loop lr lo a,_,s,k,_=>.brk s (.loop lr lo a) (k [] .id)
 |.each e ps lo rt a,_,s,k,_=>.brk s (.each e ps lo rt a) (k [] .id)
 |.meach J ps dC lo a,_,s,k,_=>.brk s (.meach J ps dC lo a) (k [] .id)
 |.exit id,ae,s,_,kx=>kx ae id s
 |.ret e,ae,s,_,_=>.ret (e.sub' ae s)
def cu.ok_nil (O:Env):cu.ok [] O:=λ_ h=>nomatch h
def cu.ok_cons {ae:cu}{O:Env}{e:PE}{b:Bool}(h:ae.ok O)(he:(e.ev O).b=b):cu.ok ((e,b)::ae) O:=λx hx=>by
 rcases cU.1 hx with e'|hx
 .rw[e'];exact he
 .exact h x hx
def tB {T:cT}{Q:Out->Prop}{K:Env->Prop}{k:Kn}:∀{l:List PI} {ae:cu} {s:SE} {O:Env},ae.ok O->aJ T (oO l ae s k) O Q->
 (∀O' ae s,(l.all pX=true->O'=O)->ae.ok O'->aJ T (k ae s) O' Q->K (s.ev O'))->iX T l (s.ev O) K
 |[],ae,s,O,ha,h,hk=>hk O ae s (λ_=>rfl) ha h
 |.setR t e::l,ae,s,O,ha,h,hk=>by
  simp only[iX];rw[<-PE.sub_ev ha s e,<-SE.setR_ev];exact tB ha h λO' ae s hp=>hk O' ae s λhl=>hp (by simpa [pX] using hl)
 |.setO t e::l,ae,s,O,ha,h,hk=>by
  simp only[iX];rw[<-PE.sub_ev ha s e,<-SE.setO_ev];exact tB ha h λO' ae s hp=>hk O' ae s λhl=>hp (by simpa [pX] using hl)
 |.chk e::l,ae,s,O,ha,h,hk=>by
  simp only[iX];rw[<-PE.sub_ev ha s e];simp only[oO] at h;split at h
  .rename_i ht;exact⟨Aw ha ht,tB ha h λO' ae s hp=>hk O' ae s λhl=>hp (by simpa [pX] using hl)⟩
  .exact⟨h.1,tB (cu.ok_cons ha h.1) h.2 λO' ae s hp=>hk O' ae s λhl=>hp (by simpa [pX] using hl)⟩
 |.call gs dst f args::l,ae,s,O,ha,h,hk=>by
  simp only[iX];simp only[oO,aJ,PE.subs_ev ha,PE.sub_ev ha] at h;have br:∀{ρ0:Env},∀O' ae s,(l.all pX=true->O'=ρ0)->ae.ok O'->aJ T (k ae s) O' Q->K (s.ev O'):=λO' ae s _=>hk O' ae s λhl=>by simp[pX] at hl
  split at h
  .rename_i hg;rw[if_pos hg];obtain⟨d,hd,h⟩:=h;exact⟨d,hd,tB (s:=.id) (cu.ok_nil _) h br⟩
  .rename_i hg;rw[if_neg hg];exact tB (s:=.id) (cu.ok_nil _) h br
 |.callc gs dst e args::l,ae,s,O,ha,h,hk=>by
  simp only[iX];simp only[oO,aJ,PE.subs_ev ha,PE.sub_ev ha] at h;have br:∀{ρ0:Env},∀O' ae s,(l.all pX=true->O'=ρ0)->ae.ok O'->aJ T (k ae s) O' Q->K (s.ev O'):=λO' ae s _=>hk O' ae s λhl=>by simp[pX] at hl
  split at h
  .rename_i hg;rw[if_pos hg];obtain⟨f,caps,d,he,hd,h⟩:=h;exact⟨f,caps,d,he,hd,tB (s:=.id) (cu.ok_nil _) h br⟩
  .rename_i hg;rw[if_neg hg];exact tB (s:=.id) (cu.ok_nil _) h br
 |.mcall j f args::l,ae,s,O,ha,h,hk=>by
  simp only[iX];simp only[oO,aJ,PE.subs_ev ha,PE.sub_ev ha] at h;have br:∀{ρ0:Env},∀O' ae s,(l.all pX=true->O'=ρ0)->ae.ok O'->aJ T (k ae s) O' Q->K (s.ev O'):=λO' ae s _=>hk O' ae s λhl=>by simp[pX] at hl
  obtain⟨d,hd,h⟩:=h;exact⟨d,hd,tB (s:=.id) (cu.ok_nil _) h br⟩
def SE.merge_ev {ae:cu}{O:Env}(h:ae.ok O)(s a b:SE)(lr lo:List Nat)(c:PE):(s.merge ae lr lo c a b).ev O=(s.ev O).join lr lo (if(c.ev O).b=true then a.ev O else b.ev O):=by
 have h1:∀u,((s.merge ae lr lo c a b).getR u).ev O=((s.ev O).join lr lo (if(c.ev O).b=true then a.ev O else b.ev O)).r u:=by
  intro u;rw[Env.join_r];have e:bk (s.merge ae lr lo c a b).r u=if u∈lr then some (uQ ae c (a.getR u) (b.getR u)) else bk s.r u:=zu lr;have e2:(s.merge ae lr lo c a b).getR u=if u∈lr then uQ ae c (a.getR u) (b.getR u) else s.getR u:=by
   unfold SE.getR;rw[e];by_cases h:u∈lr<;>simp[h,SE.getR]
  rw[e2];by_cases hu:u∈lr
  .simp only[hu,if_true,Uy h,PE.ev];cases hc:(c.ev O).b<;>simp[SE.ev]
  .simp only[hu,if_false];rfl
 have h2:∀u,((s.merge ae lr lo c a b).getO u).ev O=((s.ev O).join lr lo (if(c.ev O).b=true then a.ev O else b.ev O)).o u:=by
  intro u;rw[Env.join_o];have e:bk (s.merge ae lr lo c a b).o u=if u∈lo then some (uQ ae c (a.getO u) (b.getO u)) else bk s.o u:=zu lo;have e2:(s.merge ae lr lo c a b).getO u=if u∈lo then uQ ae c (a.getO u) (b.getO u) else s.getO u:=by
   unfold SE.getO;rw[e];by_cases h:u∈lo<;>simp[h,SE.getO]
  rw[e2];by_cases hu:u∈lo
  .simp only[hu,if_true,Uy h,PE.ev];cases hc:(c.ev O).b<;>simp[SE.ev]
  .simp only[hu,if_false];rfl
 have e1:(λu=>((s.merge ae lr lo c a b).getR u).ev O)=((s.ev O).join lr lo (if(c.ev O).b=true then a.ev O else b.ev O)).r:=funext h1;have e2:(λu=>((s.merge ae lr lo c a b).getO u).ev O)=((s.ev O).join lr lo (if(c.ev O).b=true then a.ev O else b.ev O)).o:=funext h2;show Env.mk _ _=_;rw[e1,e2]
def UB {T:cT}{ae:cu}{O:Env}(ha:ae.ok O):∀{l:List PI} {s s':SE},rA l ae s=some s'->∀{K:Env->Prop},K (s'.ev O)->iX T l (s.ev O) K
 |[],s,s',h,K,hk=>by simp only[rA,aX] at h;subst h;exact hk
 |.setR t e::l,s,s',h,K,hk=>by simp only[iX];rw[<-PE.sub_ev ha s e,<-SE.setR_ev];exact UB (l:=l) ha (show rA l ae _=some s' from h) hk
 |.setO t e::l,s,s',h,K,hk=>by simp only[iX];rw[<-PE.sub_ev ha s e,<-SE.setO_ev];exact UB (l:=l) ha (show rA l ae _=some s' from h) hk
 |.chk _::_,_,_,h,_,_=>by simp[rA] at h
 |.call ..::_,_,_,h,_,_=>by simp[rA] at h
 |.callc ..::_,_,_,h,_,_=>by simp[rA] at h
 |.mcall ..::_,_,_,h,_,_=>by simp[rA] at h
def aw1 {T:cT}{ae:cu}{O:Env}(ha:ae.ok O):∀(c:PC) {s s':SE},plain c ae s=some s'->∀{Q:Out->Prop},Q (.next (s'.ev O))->aN T c (s.ev O) Q:=by
 intro c
 induction c with
 |skip=>intro s s' h Q hq;simp only[plain,aX] at h;subst h;exact .skip hq
 |is l=>intro s s' h Q hq;exact .is (UB ha h hq)
 |seq a b bO eY=>
  intro s s' h Q hq;simp only[plain,ay] at h;obtain⟨s1,h1,h2⟩:=h;exact .seq (bO h1 (eY h2 hq))
 |ite c lr lo a b bO eY=>
  intro s s' h Q hq;simp only[plain,ay,aD] at h;obtain⟨sa,h1,sb,h2,rfl⟩:=h;rw[SE.merge_ev ha,PE.sub_ev ha] at hq;refine .ite ?_;split
  .rename_i hc;rw[if_pos hc] at hq;exact bO h1 hq
  .rename_i hc;rw[if_neg hc] at hq;exact eY h2 hq
 |_=>intro s s' h;simp[plain] at h
def OG {T:cT}:∀(c:PC) {ae:cu} {s:SE} {k:Kn} {kx:Kx} {O:Env} {Q Q':Out->Prop},ae.ok O->aJ T (sx c ae s k kx) O Q->
 (∀O' ae s,(eL c=true->O'=O)->ae.ok O'->aJ T (k ae s) O' Q->Q' (.next (s.ev O')))->
 (∀O' ae id s,(eL c=true->O'=O)->ae.ok O'->aJ T (kx ae id s) O' Q->Q' (.exit id (s.ev O')))->(eL c=false->∀id O',Q (.exit id O')->Q' (.exit id O'))->(∀d,Q (.ret d)->Q' (.ret d))->aN T c (s.ev O) Q':=by
 intro c;have alone:∀(a:PC),(∀{ae:cu} {s:SE} {k:Kn} {kx:Kx} {O:Env} {Q Q':Out->Prop},ae.ok O->aJ T (sx a ae s k kx) O Q->
  (∀O' ae s,(eL a=true->O'=O)->ae.ok O'->aJ T (k ae s) O' Q->Q' (.next (s.ev O')))->
  (∀O' ae id s,(eL a=true->O'=O)->ae.ok O'->aJ T (kx ae id s) O' Q->Q' (.exit id (s.ev O')))->(eL a=false->∀id O',Q (.exit id O')->Q' (.exit id O'))->(∀d,Q (.ret d)->Q' (.ret d))->aN T a (s.ev O) Q')->
  ∀{O:Env} {Q:Out->Prop},aJ T (sx a [] .id (λ_ s=>.next s) (λ_ id s=>.exit id s)) O Q->aN T a O Q:=by
  intro a ih O Q h;exact ih (s:=.id) (cu.ok_nil _) h (λO' ae s _ _ h=>h) (λO' ae id s _ _ h=>h) (λ_ _ _ h=>h) (λ_ h=>h)
 induction c with
 |skip=>intro ae s k kx O Q Q' ha h hk _ _ _;exact .skip (hk O ae s (λ_=>rfl) ha h)
 |is l=>intro ae s k kx O Q Q' ha h hk _ _ _;exact .is (tB (K:=λO'=>Q' (.next O')) ha h hk)
 |seq a b bO eY=>
  intro ae s k kx O Q Q' ha h hk hx k9 hr;refine .seq (bO ha h (Q':=iW (λO'=>aN T b O' Q') Q') (λO' ae s hp yK h'=>?_) (λO' ae id s hp yK h'=>?_) (λhp=>?_) hr)
  .refine eY yK h' (λρ2 ae s iv=>hk ρ2 ae s λhl=>?_) (λρ2 ae id s iv=>hx ρ2 ae id s λhl=>?_) (λiv=>?_) hr
   .simp only[eL,au] at hl;rw[iv hl.2,hp hl.1]
   .simp only[eL,au] at hl;rw[iv hl.2,hp hl.1]
   .exact k9 (by simp[eL,iv])
  .exact hx O' ae id s (λhl=>by simp only[eL,au] at hl;exact hp hl.1) yK h'
  .exact k9 (by simp[eL,hp])
 |ite c lr lo a b bO eY=>
  intro ae s k kx O Q Q' ha h hk hx k9 hr;have bT:((c.sub' ae s).ev O).b=(c.ev (s.ev O)).b:=by rw[PE.sub_ev ha]
  have struct:(eL a&&eL b)=false->aJ T (.iteS s (c.sub' ae s) lr lo (sx a [] .id (λ_ s=>.next s) (λ_ id s=>.exit id s)) (sx b [] .id (λ_ s=>.next s) (λ_ id s=>.exit id s)) (k [] .id)) O Q->aN T (.ite c lr lo a b) (s.ev O) Q':=by
   intro Gm h;have q9:eL (.ite c lr lo a b)=false:=Gm;simp only[aJ,bT] at h
   have conv:∀x,l5 (s.ev O) lr lo (iW (λO'=>aJ T (k [] .id) O' Q) Q) x->l5 (s.ev O) lr lo Q' x:=by
      intro x dN;cases x with
      |next O'=>exact hk _ [] .id (λhl=>by rw[q9] at hl;cases hl) (cu.ok_nil _) dN
      |exit id O'=>exact k9 q9 id O' dN
      |ret d=>exact hr d dN
   refine .ite ?_;split at h
   .rename_i hc;rw[if_pos hc];exact(alone a bO h).mono conv
   .rename_i hc;rw[if_neg hc];exact(alone b eY h).mono conv
  have inA:∀yg,yg.ok O->eL a=true->aJ T (sx a yg s (λae s'=>k ae (s.join lr lo s')) kx) O Q->aN T a (s.ev O) (l5 (s.ev O) lr lo Q'):=by
   intro yg yK eX h';refine bO yK h' (λO' ae s' hp px lM=>?_) (λO' ae id s' hp px lM=>?_) (λhp=>by rw[eX] at hp;cases hp) hr
   .have e:=hp eX;subst e;show Q' (.next _);rw[<-SE.join_ev];exact hk O' ae _ (λ_=>rfl) px lM
   .have e:=hp eX;subst e;exact hx O' ae id s' (λ_=>rfl) px lM
  have aG:∀yg,yg.ok O->eL b=true->aJ T (sx b yg s (λae s'=>k ae (s.join lr lo s')) kx) O Q->aN T b (s.ev O) (l5 (s.ev O) lr lo Q'):=by
   intro yg yK eX h';refine eY yK h' (λO' ae s' hp px lM=>?_) (λO' ae id s' hp px lM=>?_) (λhp=>by rw[eX] at hp;cases hp) hr
   .have e:=hp eX;subst e;show Q' (.next _);rw[<-SE.join_ev];exact hk O' ae _ (λ_=>rfl) px lM
   .have e:=hp eX;subst e;exact hx O' ae id s' (λ_=>rfl) px lM
  simp only[sx] at h;split at h
  .rename_i ht;cases eX:eL a<;>simp only[eX,zyy,zyx] at h
   .exact struct (by simp[eX]) h
   .refine .ite ?_;rw[if_pos (by rw[<-bT];exact Aw ha ht)];exact inA ae ha eX h
  .rename_i ht;cases eX:eL b<;>simp only[eX,zyy,zyx] at h
   .exact struct (by simp[eX]) h
   .refine .ite ?_;rw[if_neg (by rw[<-bT,Aw ha ht];simp)];exact aG ae ha eX h
  .split at h
   .rename_i sa sb hsa kZ;have dM:plain (.ite c lr lo a b) ae s=some (s.merge ae lr lo (c.sub' ae s) sa sb):=by simp[plain,hsa,kZ]
    exact aw1 ha _ dM (hk O ae _ (λ_=>rfl) ha h)
   cases eX:(eL a&&eL b)<;>simp only[eX,zyy,zyx] at h
   .exact struct eX h
   .simp only[au] at eX;simp only[aJ] at h;refine .ite ?_;rw[<-bT];split at h
    .rename_i hc;rw[if_pos hc];exact inA _ (cu.ok_cons ha hc) eX.1 h
    .rename_i hc;rw[if_neg hc];exact aG _ (cu.ok_cons ha (by simpa using hc)) eX.2 h
 |block id lr lo a bO=>
  intro ae s k kx O Q Q' ha h hk hx k9 hr;simp only[sx] at h;cases eX:eL a<;>simp only[eX,zyy,zyx] at h
  .have q9:eL (.block id lr lo a)=false:=eX;cases hl:adZ a<;>simp only[hl,zyy,zyx] at h
   case true=>
        simp only[aJ] at h;refine aN.mono h λx dN=>?_;cases x with
        |next O'=>exact hk _ [] .id (λhl=>by rw[q9] at hl;cases hl) (cu.ok_nil _) dN
        |exit id O'=>exact k9 q9 id O' dN
        |ret d=>exact hr d dN
   simp only[aJ] at h;refine .block ((alone a bO h).mono λx dN=>?_);cases x with
   |next O'=>exact hk _ [] .id (λhl=>by rw[q9] at hl;cases hl) (cu.ok_nil _) dN
   |exit cj O'=>
    simp only[m8] at dN ⊢;split
    .rename_i e;rw[if_pos e] at dN;exact hk _ [] .id (λhl=>by rw[q9] at hl;cases hl) (cu.ok_nil _) dN
    .rename_i e;rw[if_neg e] at dN;exact k9 q9 cj O' dN
   |ret d=>exact hr d dN
  .refine .block (bO ha h (λO' ae s' hp px lM=>?_) (λO' ae cj s' hp px lM=>?_) (λhp=>by rw[eX] at hp;cases hp) hr)
   .have e:=hp eX;subst e;show Q' (.next _);rw[<-SE.join_ev];exact hk O' ae _ (λ_=>rfl) px lM
   .have e:=hp eX;subst e;simp only[m8];by_cases cX:cj=id
    .subst cX;simp only[iL,zyy] at lM;rw[if_pos rfl,<-SE.join_ev];exact hk O' ae _ (λ_=>rfl) px lM
    .rw[ff cX,zyx] at lM;rw[if_neg cX];exact hx O' ae cj s' (λ_=>rfl) px lM
 |loop lr lo a bO=>
  intro ae s k kx O Q Q' ha h hk hx k9 hr;simp only[sx,aJ] at h;refine aN.mono h λx dN=>?_;cases x with
  |next O'=>exact hk _ [] .id (λhl=>by cases hl) (cu.ok_nil _) dN
  |exit id O'=>exact k9 rfl id O' dN
  |ret d=>exact hr d dN
 |each e ps lo rt a bO=>
  intro ae s k kx O Q Q' ha h hk hx k9 hr;simp only[sx,aJ] at h;refine aN.mono h λx dN=>?_;cases x with
  |next O'=>exact hk _ [] .id (λhl=>by cases hl) (cu.ok_nil _) dN
  |exit id O'=>exact k9 rfl id O' dN
  |ret d=>exact hr d dN
 |meach J ps dC lo a bO=>
  intro ae s k kx O Q Q' ha h hk hx k9 hr;simp only[sx,aJ] at h;refine aN.mono h λx dN=>?_;cases x with
  |next O'=>exact hk _ [] .id (λhl=>by cases hl) (cu.ok_nil _) dN
  |exit id O'=>exact k9 rfl id O' dN
  |ret d=>exact hr d dN
 |exit id=>intro ae s k kx O Q Q' ha h _ hx _ _;exact .exit (hx O ae id s (λ_=>rfl) ha h)
 |ret e=>
  intro ae s k kx O Q Q' ha h _ _ _ hr;simp only[sx,aJ] at h;refine .ret (hr _ ?_);rw[PE.sub_ev ha] at h;exact h
def Lk.un (a b:Lk):Lk:=⟨Nat.lor a.r b.r,kj a.o b.o⟩
def bits (l:List Nat):Nat:=l.foldr (λt m=>Nat.lor (eC t) m) 0
def QA {l:List Nat}{t:Nat}(h:t∈l):aA (bits l) t=true:=by
 induction l with
 |nil=>cases h
 |cons x l ih=>
  show aA (Nat.lor (eC x) (bits l)) t=true;rw[gd];rcases cU.1 h with e|h
  .subst e;rw[se];rfl
  .rw[ih h,oR]
def ZG:∀{a b:List Nat} {x:Nat},x∈kj a b↔x∈a\/x∈b
 |[],b,x=>by simp[kj]
 |y::a,b,x=>by
  have ih:=ZG (a:=a) (b:=bif fR b y then b else y::b) (x:=x);show x∈kj a _↔_;rw[ih];cases hb:fR b y with
  |true=>simp only[zyy,cU];have:=(rp b y).1 hb;constructor
         .rintro(h|h);exact .inl (.inr h);exact .inr h
         .rintro((rfl|h)|h);exact .inr this;exact .inl h;exact .inr h
  |false=>simp only[zyx,cU];constructor
          .rintro(h|h|h);exact .inl (.inr h);exact .inl (.inl h);exact .inr h
          .rintro((h|h)|h);exact .inr (.inl h);exact .inl h;exact .inr (.inr h)
def Lk.Le (a K:Lk):Prop:=(∀t,aA a.r t=true->aA K.r t=true)/\∀j,j∈a.o->j∈K.o
def Lk.le_l (a b:Lk):a.Le (a.un b):=⟨λt h=>by simp only[Lk.un,gd,h,AF],λj h=>ZG.2 (.inl h)⟩
def Lk.le_r (a b:Lk):b.Le (a.un b):=⟨λt h=>by simp only[Lk.un,gd,h,oR],λj h=>ZG.2 (.inr h)⟩
def Lk.Le.trans {a b c:Lk}(h:a.Le b)(k:b.Le c):a.Le c:=⟨λt ht=>k.1 t (h.1 t ht),λj hj=>k.2 j (h.2 j hj)⟩
def Alike.le {a K:Lk}{O O':Env}(h:Alike K O O')(k:a.Le K):Alike a O O':=⟨λt ht=>h.r t (k.1 t ht),λj hj=>h.o j (k.2 j hj)⟩
def Lk.Le.of_un {a b K:Lk}(h:(a.un b).Le K):a.Le K/\b.Le K:=⟨(Lk.le_l a b).trans h,(Lk.le_r a b).trans h⟩
def Alike.setR {K:Lk}{O O':Env}(h:Alike K O O')(t:Nat)(d:D):Alike K (O.setR t d) (O'.setR t d):=⟨λu hu=>by rw[Env.setR_r,Env.setR_r];split;rfl;exact h.r u hu,h.o⟩
def Alike.setO {K:Lk}{O O':Env}(h:Alike K O O')(t:Nat)(d:D):Alike K (O.setO t d) (O'.setO t d):=⟨h.r,λu hu=>by rw[Env.setO_o,Env.setO_o];split;rfl;exact h.o u hu⟩
def Alike.join {K:Lk}{O O' H H':Env}(h:Alike K O O')(k:Alike K H H')(lr lo:List Nat):Alike K (O.join lr lo H) (O'.join lr lo H'):=
 ⟨λu hu=>by rw[Env.join_r,Env.join_r];split;exact k.r u hu;exact h.r u hu,λu hu=>by rw[Env.join_o,Env.join_o];split;exact k.o u hu;exact h.o u hu⟩
def UD {f g:Nat->D}{u:Nat}(h:g u=f u):∀(ts:List Nat) (xs:List D),putL g ts xs u=putL f ts xs u
 |[],xs=>by rw[Nl,Nl];exact h
 |t::ts,[]=>by simp only[putL];exact h
 |t::ts,x::xs=>by rw[Nk,Nk];split;rfl;exact UD h ts xs
def Alike.put {K:Lk}{O O':Env}(h:Alike K O O')(lr lo:List Nat)(vr vo:List D):Alike K (O.put lr vr lo vo) (O'.put lr vr lo vo):=⟨λu hu=>UD (h.r u hu) lr vr,λu hu=>UD (h.o u hu) lo vo⟩
def PI.lkw:PI->Lk
 |.setR t e=>e.lk.un ⟨eC t,[]⟩
 |.setO j e=>e.lk.un ⟨0,[j]⟩
 |.chk e=>e.lk
 |.call gs dst f aa=>(PI.call gs dst f aa).lk.un ⟨eC dst,[]⟩
 |.callc gs dst e aa=>(PI.callc gs dst e aa).lk.un ⟨eC dst,[]⟩
 |.mcall j f aa=>(PI.mcall j f aa).lk.un ⟨0,[j]⟩
def PC.lk:PC->Lk
 |.skip=>.none
 |.exit _=>.none
 |.is l=>l.foldr (λp k=>p.lkw.un k) .none
 |.seq a b=>(PC.lk a).un (PC.lk b)
 |.ite c _ _ a b=>c.lk.un ((PC.lk a).un (PC.lk b))
 |.block _ _ _ a=>PC.lk a
 |.loop lr lo a=>(⟨bits lr,lo⟩:Lk).un (PC.lk a)
 |.ret e=>e.lk
 |.each e _ lo rt a=>e.lk.un ((match rt with|some e=>e.lk|none=>.none).un ((⟨0,lo⟩:Lk).un (PC.lk a)))
 |.meach J _ _ lo a=>(⟨0,J::lo⟩:Lk).un (PC.lk a)
structure Off (K:Lk) (b H H':Env):Prop where
 al:Alike K H H'
 r:∀t,aA K.r t=false->H'.r t=b.r t
 o:∀j,j∉K.o->H'.o j=b.o j
def vL (K:Lk)(b:Env):Out->Out->Prop
 |.next H,x=>∃H',x=.next H'/\Off K b H H'
 |.exit i H,x=>∃H',x=.exit i H'/\Off K b H H'
 |.ret d,x=>x=.ret d
def Off.uniq {K:Lk}{b H H' η2:Env}(h:Off K b H H')(k:Off K b H η2):η2=H':=by
 have h1:∀t,η2.r t=H'.r t:=λt=>by
  cases hb:aA K.r t with
  |true=>rw[k.al.r t hb,h.al.r t hb]
  |false=>rw[k.r t hb,h.r t hb]
 have h2:∀t,η2.o t=H'.o t:=λt=>by
  by_cases hb:t∈K.o
  .rw[k.al.o t hb,h.al.o t hb]
  .rw[k.o t hb,h.o t hb]
 cases η2;cases H'
 congr
 .exact funext h1
 .exact funext h2
def vL.uniq {K:Lk}{b:Env}{x y z:Out}(h:vL K b x y)(k:vL K b x z):z=y:=by
 cases x with
 |next H=>obtain⟨a,rfl,h⟩:=h;obtain⟨c,rfl,k⟩:=k;rw[h.uniq k]
 |exit i H=>obtain⟨a,rfl,h⟩:=h;obtain⟨c,rfl,k⟩:=k;rw[h.uniq k]
 |ret d=>rw[h,k]
def Off.setR {K:Lk}{b H H':Env}(h:Off K b H H'){t:Nat}(ht:aA K.r t=true)(d:D):Off K b (H.setR t d) (H'.setR t d):=
 ⟨h.al.setR t d,λu hu=>by rw[Env.setR_r,if_neg (λe=>by rw[e,ht] at hu;cases hu)];exact h.r u hu,h.o⟩
def Off.setO {K:Lk}{b H H':Env}(h:Off K b H H'){t:Nat}(ht:t∈K.o)(d:D):Off K b (H.setO t d) (H'.setO t d):=
 ⟨h.al.setO t d,h.r,λu hu=>by rw[Env.setO_o,if_neg (λe=>hu (by rw[e];exact ht))];exact h.o u hu⟩
def Off.join {K:Lk}{b H H' ζ ζ':Env}(h:Off K b H H')(k:Off K b ζ ζ')(lr lo:List Nat):Off K b (H.join lr lo ζ) (H'.join lr lo ζ'):=
 ⟨h.al.join k.al lr lo,λu hu=>by rw[Env.join_r];split;exact k.r u hu;exact h.r u hu,λu hu=>by rw[Env.join_o];split;exact k.o u hu;exact h.o u hu⟩
def UG {f:Nat->D}{b:D}{u:Nat}(h:f u=b):∀(ts:List Nat) (xs:List D),u∉ts->putL f ts xs u=b
 |[],xs,_=>by rw[Nl];exact h
 |t::ts,[],_=>by simp only[putL];exact h
 |t::ts,x::xs,hu=>by rw[Nk,if_neg (λe=>hu (by simp[e]))];exact UG h ts xs (λe=>hu (by simp[e]))
def Off.put {K:Lk}{b H H':Env}(h:Off K b H H'){lr lo:List Nat}(hr:∀t,t∈lr->aA K.r t=true)(ho:∀t,t∈lo->t∈K.o)(vr vo:List D):Off K b (H.put lr vr lo vo) (H'.put lr vr lo vo):=
 ⟨h.al.put lr lo vr vo,λu hu=>UG (h.r u hu) lr vr (λe=>by rw[hr u e] at hu;cases hu),λu hu=>UG (h.o u hu) lo vo (λe=>hu (ho u e))⟩
def PI.run_off {Z:aQ}{K:Lk}{b O O' H:Env}{p:PI}(hp:p.lkw.Le K)(h:Off K b O O')(hr:p.run Z O=some H):∃H',p.run Z O'=some H'/\Off K b H H':=by
 have ux:p.lk.Le K:=by cases p<;>first|exact hp|exact hp.of_un.1
 rw[PI.run_eff,PI.eff_alike p (h.al.le ux)];rw[PI.run_eff] at hr;cases he:p.eff Z O with
 |none=>rw[he] at hr;cases hr
 |some x=>
  rw[he] at hr;simp only[kO,aX] at hr;subst hr;refine⟨_,rfl,?_⟩;have hb:∀{t:Nat} {a:Lk},(a.un ⟨eC t,[]⟩).Le K->aA K.r t=true:=λh=>h.of_un.2.1 _ (se _);have ho:∀{t:Nat} {a:Lk},(a.un ⟨0,[t]⟩).Le K->t∈K.o:=λh=>h.of_un.2.2 _ (by simp);cases p with
  |setR t e=>simp only[PI.eff,aX] at he;subst he;exact h.setR (hb hp) _
  |setO t e=>simp only[PI.eff,aX] at he;subst he;exact h.setO (ho hp) _
  |chk e=>simp only[PI.eff] at he;cases yN:(e.ev O).b<;>rw[yN] at he<;>cases he;exact h
  |call gs d f aa=>
   simp only[PI.eff] at he;cases yN:holds gs O<;>simp only[yN,zyy,zyx,aX,aD] at he
   .subst he;exact h
   .obtain⟨y,_,rfl⟩:=he;exact h.setR (hb hp) _
  |callc gs d e aa=>
   simp only[PI.eff] at he;cases yN:holds gs O<;>simp only[yN,zyy,zyx,aX] at he
   .subst he;exact h
   .split at he
    .simp only[aD] at he;obtain⟨y,_,rfl⟩:=he;exact h.setR (hb hp) _
    .cases he
  |mcall j f aa=>simp only[PI.eff,aD] at he;obtain⟨y,_,rfl⟩:=he;exact h.setO (ho hp) _
def PI.runs_off {Z:aQ}{K:Lk}{b:Env}:∀{l:List PI} {O O' H:Env},(l.foldr (λp k=>p.lkw.un k) Lk.none).Le K->Off K b O O'->PI.runs Z l O=some H->∃H',PI.runs Z l O'=some H'/\Off K b H H'
 |[],O,O',H,_,h,hr=>by simp only[PI.runs,aX] at hr ⊢;subst hr;exact⟨_,rfl,h⟩
 |p::l,O,O',H,hl,h,hr=>by
  simp only[PI.runs,ay] at hr;obtain⟨ρ1,h1,h2⟩:=hr;obtain⟨ρ2,h3,h4⟩:=PI.run_off hl.of_un.1 h h1;obtain⟨H',h5,h6⟩:=PI.runs_off (l:=l) hl.of_un.2 h4 h2;exact⟨H',by simp only[PI.runs,h3,kM,h5],h6⟩
def zz {K:Lk}{b H H':Env}(h:Off K b H H'){lo:List Nat}(ho:∀t,t∈lo->t∈K.o):lo.map H'.o=lo.map H.o:=AN λt ht=>h.al.o t (ho t ht)
def aez {K:Lk}{b H H':Env}(h:Off K b H H'){lr:List Nat}(hr:∀t,t∈lr->aA K.r t=true):lr.map H'.r=lr.map H.r:=AN λt ht=>h.al.r t (hr t ht)
def PC.ev_off {Z:aQ}{n:Nat}{K:Lk}:∀(c:PC),c.lk.Le K->∀{b O O':Env} {x:Out},Off K b O O'->c.ev Z n O=some x->∃x',c.ev Z n O'=some x'/\vL K b x x':=by
 intro c
 induction c with
 |skip=>intro _ b O O' x h hr;simp only[PC.ev,aX] at hr ⊢;subst hr;exact⟨_,rfl,_,rfl,h⟩
 |exit id=>intro _ b O O' x h hr;simp only[PC.ev,aX] at hr ⊢;subst hr;exact⟨_,rfl,_,rfl,h⟩
 |ret e=>intro hk B O O' x h hr;simp only[PC.ev,aX] at hr ⊢;subst hr;exact⟨_,rfl,by rw[PE.ev_alike e (h.al.le hk)];rfl⟩
 |is l=>
  intro hk B O O' x h hr;simp only[PC.ev,aD] at hr;obtain⟨H,h1,rfl⟩:=hr;obtain⟨H',h2,h3⟩:=PI.runs_off hk h h1;exact⟨.next H',by simp only[PC.ev,h2,kO],H',rfl,h3⟩
 |seq a b bO eY=>
  intro hk B O O' x h hr;simp only[PC.ev] at hr ⊢;cases ha:a.ev Z n O with
  |none=>rw[ha] at hr;cases hr
  |some y=>
   obtain⟨y',h1,h2⟩:=bO hk.of_un.1 h ha;rw[ha] at hr;rw[h1];cases y with
   |next H=>obtain⟨H',rfl,h3⟩:=h2;exact eY hk.of_un.2 h3 hr
   |exit i H=>obtain⟨H',rfl,h3⟩:=h2;cases hr;exact⟨_,rfl,H',rfl,h3⟩
   |ret d=>cases h2;cases hr;exact⟨_,rfl,rfl⟩
 |ite c lr lo a b bO eY=>
  intro hk B O O' x h hr;have hc:(c.ev O').b=(c.ev O).b:=by rw[PE.ev_alike c (h.al.le hk.of_un.1)]
  have key:∀(d:PC),(∀{O O':Env} {x:Out},Off K B O O'->d.ev Z n O=some x->∃x',d.ev Z n O'=some x'/\vL K B x x')->(match d.ev Z n O with|some (.next H)=>some (.next (O.join lr lo H))|x=>x)=some x->
      ∃x',(match d.ev Z n O' with|some (.next H)=>some (.next (O'.join lr lo H))|x=>x)=some x'/\vL K B x x':=by
   intro d ih hr;cases ha:d.ev Z n O with
   |none=>rw[ha] at hr;cases hr
   |some y=>
    obtain⟨y',h1,h2⟩:=ih h ha;rw[ha] at hr;rw[h1];cases y with
    |next H=>obtain⟨H',rfl,h3⟩:=h2;cases hr;exact⟨_,rfl,_,rfl,h.join h3 lr lo⟩
    |exit i H=>obtain⟨H',rfl,h3⟩:=h2;cases hr;exact⟨_,rfl,H',rfl,h3⟩
    |ret d=>cases h2;cases hr;exact⟨_,rfl,rfl⟩
  simp only[PC.ev,hc] at hr ⊢;cases jG:(c.ev O).b<;>simp only[jG,zyy,zyx] at hr ⊢
  .exact key b (λh1 h2=>eY hk.of_un.2.of_un.2 h1 h2) hr
  .exact key a (λh1 h2=>bO hk.of_un.2.of_un.1 h1 h2) hr
 |block id lr lo a bO=>
  intro hk B O O' x h hr;simp only[PC.ev] at hr ⊢;cases ha:a.ev Z n O with
  |none=>rw[ha] at hr;cases hr
  |some y=>
   obtain⟨y',h1,h2⟩:=bO hk h ha;rw[ha] at hr;rw[h1];cases y with
   |next H=>obtain⟨H',rfl,h3⟩:=h2;cases hr;exact⟨_,rfl,_,rfl,h.join h3 lr lo⟩
   |exit i H=>
    obtain⟨H',rfl,h3⟩:=h2;simp only at hr ⊢;cases hb:Nat.beq i id<;>simp only[hb,zyy,zyx] at hr ⊢<;>cases hr
    .exact⟨_,rfl,H',rfl,h3⟩
    .exact⟨_,rfl,_,rfl,h.join h3 lr lo⟩
   |ret d=>cases h2;cases hr;exact⟨_,rfl,rfl⟩
 |loop lr lo a bO=>
  intro hk B O O' x h hr;have jM:∀t,t∈lr->aA K.r t=true:=λt ht=>hk.of_un.1.1 t (QA ht);have kA:∀t,t∈lo->t∈K.o:=λt ht=>hk.of_un.1.2 t ht;have key:∀(m:Nat) (vr vo:List D),jn (a.ev Z n) O lr lo m vr vo=some x->∃x',jn (a.ev Z n) O' lr lo m vr vo=some x'/\vL K B x x':=by
   intro m
   induction m with
   |zero=>intro vr vo h;simp[jn] at h
   |succ m Ta=>
    intro vr vo hr;simp only[jn] at hr ⊢;cases ha:a.ev Z n (O.put lr vr lo vo) with
    |none=>rw[ha] at hr;cases hr
    |some y=>
     obtain⟨y',h1,h2⟩:=bO hk.of_un.2 (h.put jM kA vr vo) ha;rw[ha] at hr;rw[h1];cases y with
     |next H=>obtain⟨H',rfl,h3⟩:=h2;simp only[zz h3 kA,aez h3 jM];exact Ta _ _ hr
     |exit i H=>obtain⟨H',rfl,h3⟩:=h2;cases hr;exact⟨_,rfl,H',rfl,h3⟩
     |ret d=>cases h2;cases hr;exact⟨_,rfl,rfl⟩
  simp only[PC.ev] at hr ⊢;rw[zz h kA,aez h jM];exact key n _ _ hr
 |each e ps lo rt a bO=>
  intro hk B O O' x h hr;obtain⟨bN,dj⟩:=hk.of_un;obtain⟨dj,sG⟩:=dj.of_un;obtain⟨sG,RZ⟩:=sG.of_un;have kA:∀t,t∈lo->t∈K.o:=λt ht=>sG.2 t ht;have key:∀(xs vo:List D),jD (a.ev Z n) O ps lo rt xs vo=some x->∃x',jD (a.ev Z n) O' ps lo rt xs vo=some x'/\vL K B x x':=by
   intro xs
   induction xs with
   |nil=>intro vo hr;simp only[jD,aX] at hr ⊢;subst hr;exact⟨_,rfl,_,rfl,h.put (λ_ h=>by cases h) kA _ _⟩
   |cons y xs j6=>
    intro vo hr;simp only[jD] at hr ⊢;cases ha:a.ev Z n (O.put ps (partsOf ps y) lo vo) with
    |none=>rw[ha] at hr;cases hr
    |some z=>
     have j3:Off K (O'.put ps (partsOf ps y) lo vo) (O.put ps (partsOf ps y) lo vo) (O'.put ps (partsOf ps y) lo vo):=⟨h.al.put ps lo _ _,λ_ _=>rfl,λ_ _=>rfl⟩
     obtain⟨z',h1,h2⟩:=bO RZ j3 ha;rw[ha] at hr;rw[h1];cases z with
     |next H=>obtain⟨H',rfl,h3⟩:=h2;simp only[zz h3 kA];exact j6 _ hr
     |exit i H=>
      obtain⟨H',rfl,h3⟩:=h2;simp only[zz h3 kA] at hr ⊢;have hp:=h.put (lr:=[]) (λ_ h=>by cases h) kA [] (lo.map H.o);cases hb:Nat.beq i di<;>simp only[hb,zyy,zyx] at hr ⊢
      .cases hr;exact⟨_,rfl,_,rfl,hp⟩
      .cases rt with
       |none=>cases hr
       |some e2=>cases hr;exact⟨_,rfl,by show Out.ret _=Out.ret _;rw[PE.ev_alike e2 (hp.al.le dj)]⟩
     |ret d=>cases hr
  simp only[PC.ev] at hr ⊢;rw[PE.ev_alike e (h.al.le bN),zz h kA];exact key _ _ hr
 |meach J ps dC lo a bO=>
  intro hk B O O' x h hr;obtain⟨sG,RZ⟩:=hk.of_un;have kA:∀t,t∈lo->t∈K.o:=λt ht=>sG.2 t (dV _ ht);have hJ:O'.o J=O.o J:=h.al.o J (sG.2 J (dZ ..));have key:∀(es:D) (xs done vo tF:List D),pW (a.ev Z n) O J es ps dC lo xs done vo=some tF->pW (a.ev Z n) O' J es ps dC lo xs done vo=some tF:=by
   intro es xs
   induction xs with
   |nil=>intro done vo tF h;exact h
   |cons y xs j6=>
    intro done vo tF hr;simp only[pW] at hr ⊢;cases ha:a.ev Z n ((O.put ps (dC.map y.tget) lo vo).setO J (.tup [.list (done++[y]),es])) with
    |none=>rw[ha] at hr;cases hr
    |some z=>
     have j3:Off K ((O'.put ps (dC.map y.tget) lo vo).setO J (.tup [.list (done++[y]),es])) ((O.put ps (dC.map y.tget) lo vo).setO J (.tup [.list (done++[y]),es])) ((O'.put ps (dC.map y.tget) lo vo).setO J (.tup [.list (done++[y]),es])):=
          ⟨(h.al.put ps lo _ _).setO J _,λ_ _=>rfl,λ_ _=>rfl⟩
     obtain⟨z',h1,h2⟩:=bO RZ j3 ha;rw[ha] at hr;rw[h1];cases z with
     |next H=>obtain⟨H',rfl,h3⟩:=h2;simp only[zz h3 kA];exact j6 _ _ _ hr
     |exit i H=>cases hr
     |ret d=>cases hr
  simp only[PC.ev,Df] at hr;obtain⟨vo,⟨h1,h2⟩,rfl⟩:=hr;refine⟨.next (O'.put [] [] lo vo),?_,_,rfl,h.put (λ_ h=>by cases h) kA _ _⟩;simp only[PC.ev,Df];refine⟨vo,⟨by rw[hJ];exact h1,λys hy=>?_⟩,rfl⟩;rw[hJ] at hy ⊢;rw[zz h kA];exact key _ _ _ _ _ (h2 ys hy)
def pj:List Nat->PC->Bool
 |l,.exit id=>fR l id
 |l,.seq a b=>pj l a&&pj l b
 |l,.ite _ _ _ a b=>pj l a&&pj l b
 |l,.block id _ _ a=>pj (id::l) a
 |l,.loop _ _ a=>pj l a
 |l,.each _ _ _ _ a=>pj (di::l) a
 |_,_=>true
def aoM {Z:aQ}{n:Nat}:∀(c:PC) {l:List Nat},pj l c=true->∀{O:Env} {i:Nat} {H:Env},c.ev Z n O=some (.exit i H)->i∈l:=by
 intro c
 induction c with
 |skip=>intro l _ O i H h;simp[PC.ev] at h
 |exit id=>intro l hl O i H h;simp only[PC.ev,aX] at h;injection h with h1 h2;subst h1;exact(rp _ _).1 hl
 |ret e=>intro l _ O i H h;simp[PC.ev] at h
 |is _=>intro l _ O i H h;simp[PC.ev] at h
 |seq a b bO eY=>
  intro l hl O i H h;simp only[pj,au] at hl;simp only[PC.ev] at h;split at h
  .exact eY hl.2 h
  .exact bO hl.1 h
 |ite c lr lo a b bO eY=>
  intro l hl O i H h;simp only[pj,au] at hl;simp only[PC.ev] at h;cases hc:(c.ev O).b<;>simp only[hc,zyy,zyx] at h
  .split at h
   .cases h
   .exact eY hl.2 h
  .split at h
   .cases h
   .exact bO hl.1 h
 |block id lr lo a bO=>
  intro l hl O i H h;simp only[PC.ev] at h;split at h
  .cases h
  .rename_i cj ρ2 ha;cases hb:Nat.beq cj id<;>simp only[hb,zyy,zyx] at h<;>cases h;rcases cU.1 (bO hl ha) with e|e
   .subst e;rw[iL] at hb;cases hb
   .exact e
  .rename_i h1 h2;exact absurd h (h2 _ _)
 |loop lr lo a bO=>
  intro l hl O i H h;have key:∀(m:Nat) (vr vo:List D),jn (a.ev Z n) O lr lo m vr vo=some (.exit i H)->i∈l:=by
   intro m
   induction m with
   |zero=>intro vr vo h;simp[jn] at h
   |succ m Ta=>
    intro vr vo h;simp only[jn] at h;split at h
    .exact Ta _ _ h
    .exact bO hl h
  exact key _ _ _ h
 |each e ps lo rt a bO=>
  intro l hl O i H h;have key:∀(xs vo:List D),jD (a.ev Z n) O ps lo rt xs vo=some (.exit i H)->i∈l:=by
   intro xs
   induction xs with
   |nil=>intro vo h;simp[jD] at h
   |cons x xs j6=>
    intro vo h;simp only[jD] at h;split at h
    .exact j6 _ h
    .rename_i cj ρ2 ha;cases hb:Nat.beq cj di<;>simp only[hb,zyy,zyx] at h
     .injection h with h;injection h with h1 h2;subst h1
      rcases cU.1 (bO hl ha) with e|e
      .subst e;rw[iL] at hb;cases hb
      .exact e
     .cases rt<;>simp at h
    .cases h
  exact key _ _ h
 |meach J ps dC lo a _=>
  intro l _ O i H h;simp only[PC.ev,Df] at h;obtain⟨vo,_,h⟩:=h;cases h
def adW (t:Nat):PE->Bool
 |.r u=>Nat.beq u t
 |_=>false
def adX (t:Nat):PE->Bool
 |.o u=>Nat.beq u t
 |_=>false
def fk (pJ:Nat->PE->Bool)(p:Nat->Bool):List Nat->List (Nat×PE)->List (Nat×PE)
 |_,[]=>[]
 |seen,x::l=>bif p x.1&& !fR seen x.1 then(bif pJ x.1 x.2 then fk pJ p (x.1::seen) l else x::fk pJ p (x.1::seen) l) else fk pJ p seen l
def Lm {pJ:Nat->PE->Bool}{p:Nat->Bool}:∀{l:List (Nat×PE)} {seen:List Nat} {t:Nat},fR seen t=true->bk (fk pJ p seen l) t=none
 |[],_,_,_=>rfl
 |x::l,seen,t,h=>by
  have h':fR (x.1::seen) t=true:=by rw[rp] at h ⊢;exact dV _ h
  simp only[fk];cases hb:(p x.1&& !fR seen x.1) with
  |false=>exact Lm h
  |true=>
   simp only[zyy];cases pJ x.1 x.2 with
   |true=>exact Lm h'
   |false=>
    simp only[zyx,bk];have:Nat.beq x.1 t=false:=by
      cases e:Nat.beq x.1 t with
      |false=>rfl
      |true=>rw[dp e,h] at hb;simp at hb
    rw[this];exact Lm h'
def Fw {pJ:Nat->PE->Bool}{p:Nat->Bool}{dflt:Nat->PE}(cX:∀t e,pJ t e=true->e=dflt t):∀{l:List (Nat×PE)} {seen:List Nat} {t:Nat},p t=true->fR seen t=false->
 (match bk (fk pJ p seen l) t with|some e=>e|none=>dflt t)=(match bk l t with|some e=>e|none=>dflt t)
 |[],_,_,_,_=>rfl
 |x::l,seen,t,hp,hs=>by
  simp only[fk,bk];cases e:Nat.beq x.1 t with
  |true=>
   have e':=dp e;rw[e',hp,hs];simp only[Bool.not_false,Bool.and_self,zyy];cases hi:pJ t x.2 with
   |true=>simp only[zyy];rw[Lm (by rw[rp];exact dZ ..)];exact(cX _ _ hi).symm
   |false=>simp only[zyx,bk,e,zyy]
  |false=>
   simp only[zyx];cases hb:(p x.1&& !fR seen x.1) with
   |false=>exact Fw cX hp hs
   |true=>
    have fG:fR (x.1::seen) t=false:=by
      cases hm:fR (x.1::seen) t with
      |false=>rfl
      |true=>
       rcases cU.1 ((rp _ _).1 hm) with h|h
       .rw[h,iL] at e;cases e
       .rw[(rp _ _).2 h] at hs;cases hs
    simp only[zyy];cases pJ x.1 x.2 with
    |true=>exact Fw cX hp fG
    |false=>simp only[zyx,bk,e];exact Fw cX hp fG
def SE.cut (s:SE)(k:Lk):SE:=⟨fk adW (aA k.r) [] s.r,fk adX (fR k.o) [] s.o⟩
def Tk (l:List (Nat×PE)):Lk:=l.foldr (λx k=>x.2.lk.un k) .none
def SE.lks (s:SE):Lk:=(Tk s.r).un (Tk s.o)
def Tl:∀{l:List (Nat×PE)} {t:Nat} {e:PE},bk l t=some e->e.lk.Le (Tk l)
 |[],_,_,h=>by cases h
 |x::l,t,e,h=>by
  simp only[bk] at h;cases hb:Nat.beq x.1 t<;>simp only[hb,zyy,zyx] at h
  .exact(Tl h).trans (Lk.le_r _ _)
  .cases h;exact Lk.le_l _ _
def SE.cut_al {s:SE}{L:Lk}{ρ1 ρ2:Env}(h:Alike (L.un (s.cut L).lks) ρ1 ρ2):Alike L ((s.cut L).ev ρ1) (s.ev ρ2):=by
 have hL:=h.le (Lk.le_l _ _);have hs:=h.le (Lk.le_r _ _);constructor
 .intro t ht;show(s.getR t).ev ρ2=((s.cut L).getR t).ev ρ1;have e:(s.cut L).getR t=s.getR t:=Fw (dflt:=.r) (λt e he=>by unfold adW at he;split at he;rw[dp he];cases he) ht rfl;rw[<-e];cases hl:bk (s.cut L).r t with
  |none=>have:(s.cut L).getR t=.r t:=by unfold SE.getR;rw[hl]
         rw[this];exact hL.r t ht
  |some x=>have:(s.cut L).getR t=x:=by unfold SE.getR;rw[hl]
           rw[this];exact PE.ev_alike x (hs.le ((Tl hl).trans (Lk.le_l _ _)))
 .intro t ht;show(s.getO t).ev ρ2=((s.cut L).getO t).ev ρ1;have e:(s.cut L).getO t=s.getO t:=Fw (dflt:=.o) (λt e he=>by unfold adX at he;split at he;rw[dp he];cases he) ((rp _ _).2 ht) rfl;rw[<-e];cases hl:bk (s.cut L).o t with
  |none=>have:(s.cut L).getO t=.o t:=by unfold SE.getO;rw[hl]
         rw[this];exact hL.o t ht
  |some x=>have:(s.cut L).getO t=x:=by unfold SE.getO;rw[hl]
           rw[this];exact PE.ev_alike x (hs.le ((Tl hl).trans (Lk.le_r _ _)))
structure LC where
 next:Lk
 ov:List (Nat×Lk)
def LC.all (c:LC):Lk:=c.ov.foldr (λx k=>x.2.un k) .none
def Pt (c:LC)(Q1 Q2:Out->Prop):Prop:=
 (∀ρ1 ρ2,Alike c.next ρ1 ρ2->Q1 (.next ρ1)->Q2 (.next ρ2))/\(∀id k ρ1 ρ2,bk c.ov id=some k->Alike k ρ1 ρ2->Q1 (.exit id ρ1)->Q2 (.exit id ρ2))/\∀d,Q1 (.ret d)->Q2 (.ret d)
def gJ:LC->PT->Option (PT×Lk)
 |c,.next s=>some (.next (s.cut c.next),c.next.un (s.cut c.next).lks)
 |c,.exit id s=>(bk c.ov id).map λk=>(.exit id (s.cut k),k.un (s.cut k).lks)
 |_,.ret e=>some (.ret e,e.lk)
 |c,.chk e k=>(gJ c k).map λr=>(.chk e r.1,e.lk.un r.2)
 |c,.ite e a b=>(gJ c a).bind λx=>(gJ c b).map λy=>(.ite e x.1 y.1,e.lk.un (x.2.un y.2))
 |c,.call s gs dst f args k=>(gJ c k).map λr=>(.call (s.cut (r.2.un (nf gs))) gs dst f args r.1,(PE.lks args).un ((r.2.un (nf gs)).un (s.cut (r.2.un (nf gs))).lks))
 |c,.callc s gs dst e args k=>(gJ c k).map λr=>(.callc (s.cut (r.2.un (nf gs))) gs dst e args r.1,(e.lk.un (PE.lks args)).un ((r.2.un (nf gs)).un (s.cut (r.2.un (nf gs))).lks))
 |c,.mcall s j f args k=>(gJ c k).map λr=>(.mcall (s.cut r.2) j f args r.1,(PE.lks args).un (r.2.un (s.cut r.2).lks))
 |c,.iteS s e lr lo a b k=>(gJ c k).bind λr=>(gJ ⟨r.2,c.ov⟩ a).bind λx=>(gJ ⟨r.2,c.ov⟩ b).map λy=>
    (.iteS (s.cut (r.2.un (x.2.un y.2))) e lr lo x.1 y.1 r.1,e.lk.un ((r.2.un (x.2.un y.2)).un (s.cut (r.2.un (x.2.un y.2))).lks))
 |c,.blockS s id lr lo a k=>(gJ c k).bind λr=>(gJ ⟨r.2,(id,r.2)::c.ov⟩ a).map λx=>(.blockS (s.cut (r.2.un x.2)) id lr lo x.1 r.1,(r.2.un x.2).un (s.cut (r.2.un x.2)).lks)
 |c,.brk s p k=>(gJ c k).bind λr=>bif pj (c.ov.map (·.1)) p then some (.brk (s.cut (p.lk.un (r.2.un c.all))) p r.1,(p.lk.un (r.2.un c.all)).un (s.cut (p.lk.un (r.2.un c.all))).lks) else none
def LC.all_le:∀{l:List (Nat×Lk)} {id:Nat} {k:Lk},bk l id=some k->k.Le (l.foldr (λx k=>x.2.un k) .none)
 |[],_,_,h=>by cases h
 |x::l,t,e,h=>by
  simp only[bk] at h;cases hb:Nat.beq x.1 t<;>simp only[hb,zyy,zyx] at h
  .exact(LC.all_le h).trans (Lk.le_r _ _)
  .cases h;exact Lk.le_l _ _
def aeh:∀{l:List (Nat×Lk)} {id:Nat},id∈l.map (·.1)->∃k,bk l id=some k
 |[],_,h=>by cases h
 |x::l,id,h=>by
  simp only[bk];cases hb:Nat.beq x.1 id with
  |true=>exact⟨_,rfl⟩
  |false=>
   simp only[zyx];rcases cU.1 h with e|h
   .rw[e,iL] at hb;cases hb
   .exact aeh h
def aw7 {T:cT}:∀(t:PT) {c:LC} {t':PT} {L:Lk},gJ c t=some (t',L)->∀{Q1 Q2:Out->Prop} {ρ1 ρ2:Env},Pt c Q1 Q2->Alike L ρ1 ρ2->aJ T t' ρ1 Q1->aJ T t ρ2 Q2:=by
 intro t
 induction t with
 |next s=>
  intro c t' L hp Q1 Q2 ρ1 ρ2 hQ hA h;simp only[gJ,aX,oV] at hp;obtain⟨rfl,rfl⟩:=hp;exact hQ.1 _ _ (SE.cut_al hA) h
 |exit id s=>
  intro c t' L hp Q1 Q2 ρ1 ρ2 hQ hA h;simp only[gJ,aD,oV] at hp;obtain⟨k,hk,rfl,rfl⟩:=hp;exact hQ.2.1 _ k _ _ hk (SE.cut_al hA) h
 |ret e=>
  intro c t' L hp Q1 Q2 ρ1 ρ2 hQ hA h;simp only[gJ,aX,oV] at hp;obtain⟨rfl,rfl⟩:=hp;show Q2 (.ret (e.ev ρ2));rw[PE.ev_alike e hA];exact hQ.2.2 _ h
 |chk e k ih=>
  intro c t' L hp Q1 Q2 ρ1 ρ2 hQ hA h;simp only[gJ,aD,oV] at hp;obtain⟨r,hr,rfl,rfl⟩:=hp;exact⟨by rw[PE.ev_alike e (hA.le (Lk.le_l _ _))];exact h.1,ih hr hQ (hA.le (Lk.le_r _ _)) h.2⟩
 |ite e a b bO eY=>
  intro c t' L hp Q1 Q2 ρ1 ρ2 hQ hA h;simp only[gJ,ay,aD,oV] at hp;obtain⟨x,hx,y,hy,rfl,rfl⟩:=hp;have h2:=hA.le (Lk.le_r _ _);simp only[aJ] at h ⊢;rw[PE.ev_alike e (hA.le (Lk.le_l _ _))];split
  .rename_i hc;rw[if_pos hc] at h;exact bO hx hQ (h2.le (Lk.le_l _ _)) h
  .rename_i hc;rw[if_neg hc] at h;exact eY hy hQ (h2.le (Lk.le_r _ _)) h
 |call s gs dst f args k ih=>
  intro c t' L hp Q1 Q2 ρ1 ρ2 hQ hA h;simp only[gJ,aD,oV] at hp;obtain⟨r,hr,rfl,rfl⟩:=hp;have hS:=SE.cut_al (hA.le (Lk.le_r _ _));simp only[aJ] at h ⊢;rw[PE.evs_alike args (hA.le (Lk.le_l _ _)),Cv (hS.le (Lk.le_r _ _))];split
  .rename_i hc;rw[if_pos hc] at h;obtain⟨d,hd,h⟩:=h;exact⟨d,hd,ih hr hQ ((hS.le (Lk.le_l _ _)).setR dst d) h⟩
  .rename_i hc;rw[if_neg hc] at h;exact ih hr hQ (hS.le (Lk.le_l _ _)) h
 |callc s gs dst e args k ih=>
  intro c t' L hp Q1 Q2 ρ1 ρ2 hQ hA h;simp only[gJ,aD,oV] at hp;obtain⟨r,hr,rfl,rfl⟩:=hp;have hS:=SE.cut_al (hA.le (Lk.le_r _ _));have hE:=hA.le (Lk.le_l _ _);simp only[aJ] at h ⊢;rw[PE.ev_alike e (hE.le (Lk.le_l _ _)),PE.evs_alike args (hE.le (Lk.le_r _ _)),Cv (hS.le (Lk.le_r _ _))];split
  .rename_i hc;rw[if_pos hc] at h;obtain⟨f,caps,d,he,hd,h⟩:=h;exact⟨f,caps,d,he,hd,ih hr hQ ((hS.le (Lk.le_l _ _)).setR dst d) h⟩
  .rename_i hc;rw[if_neg hc] at h;exact ih hr hQ (hS.le (Lk.le_l _ _)) h
 |mcall s j f args k ih=>
  intro c t' L hp Q1 Q2 ρ1 ρ2 hQ hA h;simp only[gJ,aD,oV] at hp;obtain⟨r,hr,rfl,rfl⟩:=hp;have hS:=SE.cut_al (hA.le (Lk.le_r _ _));simp only[aJ] at h ⊢;rw[PE.evs_alike args (hA.le (Lk.le_l _ _))];obtain⟨d,hd,h⟩:=h;exact⟨d,hd,ih hr hQ (hS.setO j d) h⟩
 |iteS s e lr lo a b k bO eY kD=>
  intro c t' L hp Q1 Q2 ρ1 ρ2 hQ hA h;simp only[gJ,ay,aD,oV] at hp;obtain⟨r,hr,x,hx,y,hy,rfl,rfl⟩:=hp;have hS:=SE.cut_al (hA.le (Lk.le_r _ _));have LD:=hS.le (Lk.le_l _ _);have FI:=hS.le ((Lk.le_l _ _).trans (Lk.le_r _ _));have hSy:=hS.le ((Lk.le_r _ _).trans (Lk.le_r _ _))
  have rel:Pt ⟨r.2,c.ov⟩ (l5 ((s.cut (r.2.un (x.2.un y.2))).ev ρ1) lr lo (iW (λO'=>aJ T r.1 O' Q1) Q1)) (l5 (s.ev ρ2) lr lo (iW (λO'=>aJ T k O' Q2) Q2)):=
   ⟨λH1 η2 ha hq=>kD hr hQ (LD.join ha lr lo) hq,λid k' H1 η2 hk ha hq=>hQ.2.1 id k' _ _ hk ha hq,λd hq=>hQ.2.2 d hq⟩
  simp only[aJ] at h ⊢;rw[PE.ev_alike e (hA.le (Lk.le_l _ _))];split
  .rename_i hc;rw[if_pos hc] at h;exact bO hx rel FI h
  .rename_i hc;rw[if_neg hc] at h;exact eY hy rel hSy h
 |blockS s id lr lo a k bO kD=>
  intro c t' L hp Q1 Q2 ρ1 ρ2 hQ hA h;simp only[gJ,ay,aD,oV] at hp;obtain⟨r,hr,x,hx,rfl,rfl⟩:=hp;have hS:=SE.cut_al hA;have LD:=hS.le (Lk.le_l _ _);refine bO hx (Q1:=m8 ((s.cut (r.2.un x.2)).ev ρ1) id lr lo (iW (λO'=>aJ T r.1 O' Q1) Q1)) ⟨λH1 η2 ha hq=>kD hr hQ (LD.join ha lr lo) hq,λcj k' H1 η2 hk ha hq=>?_,λd hq=>hQ.2.2 d hq⟩ (hS.le (Lk.le_r _ _)) h;simp only[m8] at hq ⊢;simp only[bk] at hk;by_cases e:cj=id
  .subst e;simp only[iL,zyy,aX] at hk;subst hk;rw[if_pos rfl] at hq ⊢;exact kD hr hQ (LD.join ha lr lo) hq
  .rw[if_neg e] at hq ⊢;rw[ff (λh=>e h.symm),zyx] at hk;exact hQ.2.1 cj k' _ _ hk ha hq
 |brk s p k kD=>
  intro c t' L hp Q1 Q2 ρ1 ρ2 hQ hA h;simp only[gJ,ay] at hp;obtain⟨r,hr,hp⟩:=hp;cases hx:pj (c.ov.map (·.1)) p<;>simp only[hx,zyy,zyx,aX,oV] at hp
  .cases hp
  obtain⟨rfl,rfl⟩:=hp;have hS:=SE.cut_al hA;have j3:Off (p.lk.un (r.2.un c.all)) (s.ev ρ2) ((s.cut (p.lk.un (r.2.un c.all))).ev ρ1) (s.ev ρ2):=⟨hS,λ_ _=>rfl,λ_ _=>rfl⟩
  obtain⟨x,hq,n0,hn⟩:=h;have step:=λn (hle:n0<=n)=>PC.ev_off p (Lk.le_l _ _) j3 (hn n hle);obtain⟨x',h1,h2⟩:=step n0 (bj _);refine⟨x',?_,n0,λn hle=>?_⟩
  .cases x with
   |next H=>obtain⟨H',rfl,h3⟩:=h2;exact kD hr hQ (h3.al.le ((Lk.le_l _ _).trans (Lk.le_r _ _))) hq
   |exit i H=>
    obtain⟨H',rfl,h3⟩:=h2;obtain⟨k',br⟩:=aeh (aoM p hx (hn n0 (bj _)));exact hQ.2.1 i k' _ _ br (h3.al.le ((LC.all_le br).trans ((Lk.le_r _ _).trans (Lk.le_r _ _)))) hq
   |ret d=>cases h2;exact hQ.2.2 d hq
  .obtain⟨x2,h3,h4⟩:=step n hle;rw[h3,h2.uniq h4]
def G8 (c:LC)(t:PT):PT:=match gJ c t with|some r=>r.1|none=>t
def Nj {T:cT}{c:LC}{t:PT}{Q:Out->Prop}{O:Env}(hQ:Pt c Q Q)(h:aJ T (G8 c t) O Q):aJ T t O Q:=by
 unfold G8 at h;split at h
 .rename_i r hr;exact aw7 t hr hQ ⟨λ_ _=>rfl,λ_ _=>rfl⟩ h
 .exact h
def aju (c:PC):PT:=sx c [] .id (λ_ s=>.next s) (λ_ id s=>.exit id s)
def ajv {T:cT}{c:PC}{O:Env}{Q:Out->Prop}(h:aJ T (aju c) O Q):aN T c O Q:=
 OG (s:=.id) c (cu.ok_nil _) h (λO' ae s _ _ h=>h) (λO' ae id s _ _ h=>h) (λ_ _ _ h=>h) (λ_ h=>h)
def tree (c:PC):PT:=G8 ⟨.none,[]⟩ (aju c)
def O1 {T:cT}{c:PC}{O:Env}{d:D}(h:aJ T (tree c) O λx=>x=.ret d):aN T c O λx=>x=.ret d:=
 ajv (Nj ⟨λ_ _ _ h=>(by cases h),λ_ _ _ _ _ _ h=>(by cases h),λ_ h=>h⟩ h)
def SE.keep (s:SE)(lr lo:List Nat):SE:=⟨lr.map λt=>(t,s.getR t),lo.map λt=>(t,s.getO t)⟩
def SE.keep_r (s:SE)(lr lo:List Nat)(O:Env):lr.map ((s.keep lr lo).ev O).r=lr.map (s.ev O).r:=by
 apply AN;intro t ht;show((s.keep lr lo).getR t).ev O=(s.getR t).ev O;have:=zu (f:=λt=>s.getR t) (l:=[]) (u:=t) lr;rw[km,if_pos ht] at this;have e:(s.keep lr lo).getR t=s.getR t:=by unfold SE.getR SE.keep;simp only[];rw[this];rfl
 rw[e]
def SE.keep_o (s:SE)(lr lo:List Nat)(O:Env):lo.map ((s.keep lr lo).ev O).o=lo.map (s.ev O).o:=by
 apply AN;intro t ht;show((s.keep lr lo).getO t).ev O=(s.getO t).ev O;have:=zu (f:=λt=>s.getO t) (l:=[]) (u:=t) lo;rw[km,if_pos ht] at this;have e:(s.keep lr lo).getO t=s.getO t:=by unfold SE.getO SE.keep;simp only[];rw[this];rfl
 rw[e]
def aiS (id:Nat)(bL bK lr lo:List Nat)(a:PC):PT:=
 sx a [] .id (λ_ s=>.next (s.keep lr lo)) (λ_ cj s=>bif Nat.beq cj id then .exit id (s.keep bL bK) else .exit cj s)
def fV (O:Env)(id:Nat)(bL bK lr lo:List Nat)(K:List D->List D->Prop)(Q:Out->Prop):Out->Prop
 |.next O'=>K (lr.map O'.r) (lo.map O'.o)
 |.exit cj O'=>if cj=id then Q (.next (O.put bL (bL.map O'.r) bK (bK.map O'.o))) else Q (.exit cj O')
 |.ret d=>Q (.ret d)
def round (id:Nat)(bL bK lr lo:List Nat)(a:PC):PT:=G8 ⟨⟨bits lr,lo⟩,[(id,⟨bits bL,bK⟩)]⟩ (aiS id bL bK lr lo a)
def aey {k:Lk}{lr:List Nat}{ρ1 ρ2:Env}(h:Alike k ρ1 ρ2)(hk:∀t,t∈lr->aA k.r t=true):lr.map ρ2.r=lr.map ρ1.r:=AN λt ht=>h.r t (hk t ht)
def ME {k:Lk}{lo:List Nat}{ρ1 ρ2:Env}(h:Alike k ρ1 ρ2)(hk:∀t,t∈lo->t∈k.o):lo.map ρ2.o=lo.map ρ1.o:=AN λt ht=>h.o t (hk t ht)
def ayy {T:cT}{id:Nat}{bL bK lr lo:List Nat}{a:PC}{O ρ0:Env}{K:List D->List D->Prop}{Q:Out->Prop}(h:aJ T (round id bL bK lr lo a) O (fV ρ0 id bL bK lr lo K Q)):aJ T (aiS id bL bK lr lo a) O (fV ρ0 id bL bK lr lo K Q):=by
 refine Nj ⟨λρ1 ρ2 ha hq=>?_,λcj k ρ1 ρ2 hk ha hq=>?_,λd hq=>hq⟩ h
 .simp only[fV] at hq ⊢;rw[aey ha λt ht=>QA ht,ME ha λt ht=>ht];exact hq
 .simp only[bk] at hk;cases hb:Nat.beq id cj<;>simp only[hb,zyy,zyx] at hk
  .cases hk
  .cases hk;have:=dp hb;subst this;simp only[fV,if_true] at hq ⊢;rw[aey ha λt ht=>QA ht,ME ha λt ht=>ht];exact hq
def aN.forLoop {T:cT}{id:Nat}{bL bK lr lo:List Nat}{a:PC}{O:Env}{Q:Out->Prop}{α:Type}(inv:α->List D->List D->Prop)(w9:α->Nat)(s0:α)(h0:inv s0 (lr.map O.r) (lo.map O.o))
 (step:∀s vr vo,inv s vr vo->aJ T (round id bL bK lr lo a) (O.put lr vr lo vo) (fV O id bL bK lr lo (λvr vo=>∃s',w9 s'<w9 s/\inv s' vr vo) Q)):aN T (.block id bL bK (.loop lr lo a)) O Q:=by
 refine .block (.loop inv w9 s0 h0 λs vr vo hi=>?_);have h:=ayy (step s vr vo hi);refine OG (s:=.id) a (cu.ok_nil _) h (λO' ae s' _ _ h=>?_) (λO' ae cj s' _ _ h=>?_) (λ_ cj O' h=>?_) (λd h=>h)
 .simp only[aJ,fV] at h;rw[SE.keep_r,SE.keep_o] at h;exact h
 .simp only[iW,m8];by_cases cX:cj=id
  .subst cX;simp only[iL,zyy,aJ,fV,if_true] at h;rw[SE.keep_r,SE.keep_o] at h;rw[if_pos rfl];exact h
  .rw[ff cX,zyx] at h;simp only[aJ,fV] at h;rw[if_neg cX] at h ⊢;exact h
 .simp only[iW,m8];simp only[fV] at h;split
  .rename_i e;rw[if_pos e] at h;exact h
  .rename_i e;rw[if_neg e] at h;exact h
def aiT (lo:List Nat)(a:PC):PT:=sx a [] .id (λ_ s=>.next (s.keep [] lo)) (λ_ id s=>.exit id (s.keep [] lo))
def rP (lo:List Nat)(a:PC):PT:=G8 ⟨⟨0,lo⟩,[(di,⟨0,lo⟩)]⟩ (aiT lo a)
def aiU {T:cT}{lo:List Nat}{a:PC}{O:Env}{Q:Out->Prop}(hn:∀ρ1 ρ2,lo.map ρ2.o=lo.map ρ1.o->Q (.next ρ1)->Q (.next ρ2))(hx:∀ρ1 ρ2,lo.map ρ2.o=lo.map ρ1.o->Q (.exit di ρ1)->Q (.exit di ρ2))(h:aJ T (rP lo a) O Q):aJ T (aiT lo a) O Q:=by
 refine Nj ⟨λρ1 ρ2 ha hq=>hn ρ1 ρ2 (ME ha λt ht=>ht) hq,λcj k ρ1 ρ2 hk ha hq=>?_,λd hq=>hq⟩ h;simp only[bk] at hk;cases hb:Nat.beq di cj<;>simp only[hb,zyy,zyx] at hk
 .cases hk
 .cases hk;have:=dp hb;subst this;exact hx ρ1 ρ2 (ME ha λt ht=>ht) hq
def aN.eachR {T:cT}{e:PE}{ps lo:List Nat}{rt:Option PE}{a:PC}{O:Env}{Q:Out->Prop}(xs:List D)(he:(e.ev O).l=xs)(inv:Nat->List D->Prop)(h0:inv 0 (lo.map O.o))
 (step:∀k x vo,xs[k]?=some x->inv k vo->aJ T (rP lo a) (O.put ps (partsOf ps x) lo vo) (vY O lo rt (inv (k+1)) Q)) (done:∀vo,inv xs.length vo->Q (.next (O.put [] [] lo vo))):aN T (.each e ps lo rt a) O Q:=by
 refine .each xs he inv h0 (λk x vo hx hi=>?_) done;have h:=aiU (λρ1 ρ2 e hq=>by simp only[vY] at hq ⊢;rw[e];exact hq) (λρ1 ρ2 e hq=>by simp only[vY,if_true] at hq ⊢;rw[e];exact hq) (step k x vo hx hi);refine OG (s:=.id) a (cu.ok_nil _) h (λO' ae s' _ _ h=>?_) (λO' ae cj s' _ _ h=>?_) (λ_ cj O' h=>h) (λd h=>h)
 .simp only[aJ,vY] at h;rw[SE.keep_o] at h;exact h
 .simp only[aJ,vY] at h;rw[SE.keep_o] at h;exact h
def aN.meachR {T:cT}{J:Nat}{ps dC lo:List Nat}{a:PC}{O:Env}{Q:Out->Prop}(es:List (D×D))(he:O.o J=.tup [.list [],.map es])(inv:List D->List D->Prop)(h0:inv [] (lo.map O.o))
 (step:∀done x rest vo,(done++x::rest).Perm (jr (.map es))->inv done vo->aJ T (rP lo a) ((O.put ps (dC.map x.tget) lo vo).setO J (.tup [.list (done++[x]),.map es])) (λy=>∃O',y=.next O'/\inv (done++[x]) (lo.map O'.o)))
 (last:∃vo,(∀done,done.Perm (jr (.map es))->∀tF,inv done tF->tF=vo)/\Q (.next (O.put [] [] lo vo))):aN T (.meach J ps dC lo a) O Q:=by
 refine .meach es he inv h0 (λdone x rest vo hp hi=>?_) last;have h:=aiU (λρ1 ρ2 e ⟨O',e1,hq⟩=>by cases e1;exact⟨_,rfl,by rw[e];exact hq⟩) (λρ1 ρ2 e ⟨O',e1,hq⟩=>by cases e1) (step done x rest vo hp hi);refine OG (s:=.id) a (cu.ok_nil _) h (λO' ae s' _ _ h=>?_) (λO' ae cj s' _ _ h=>?_) (λ_ cj O' h=>?_) (λd h=>?_)
 .simp only[aJ] at h;obtain⟨ρ2,e,h⟩:=h;injection e with e;subst e;rw[SE.keep_o] at h;exact⟨_,rfl,h⟩
 .simp only[aJ] at h;obtain⟨ρ2,e,h⟩:=h;cases e
 .obtain⟨ρ2,e,_⟩:=h;cases e
 .obtain⟨ρ2,e,_⟩:=h;cases e
def AP {T:cT}:∀(t:PT) {O:Env} {Q Q':Out->Prop},(∀x,Q x->Q' x)->aJ T t O Q->aJ T t O Q':=by
 intro t
 induction t with
 |next s=>intro O Q Q' h hx;exact h _ hx
 |exit id s=>intro O Q Q' h hx;exact h _ hx
 |ret e=>intro O Q Q' h hx;exact h _ hx
 |chk e k ih=>intro O Q Q' h hx;exact⟨hx.1,ih h hx.2⟩
 |ite c a b bO eY=>
  intro O Q Q' h hx;simp only[aJ] at hx ⊢;split
  .rename_i hc;rw[if_pos hc] at hx;exact bO h hx
  .rename_i hc;rw[if_neg hc] at hx;exact eY h hx
 |call s gs dst f args k ih=>
  intro O Q Q' h hx;simp only[aJ] at hx ⊢;split
  .rename_i hc;rw[if_pos hc] at hx;obtain⟨d,hd,hx⟩:=hx;exact⟨d,hd,ih h hx⟩
  .rename_i hc;rw[if_neg hc] at hx;exact ih h hx
 |callc s gs dst e args k ih=>
  intro O Q Q' h hx;simp only[aJ] at hx ⊢;split
  .rename_i hc;rw[if_pos hc] at hx;obtain⟨f,c,d,he,hd,hx⟩:=hx;exact⟨f,c,d,he,hd,ih h hx⟩
  .rename_i hc;rw[if_neg hc] at hx;exact ih h hx
 |mcall s j f args k ih=>intro O Q Q' h hx;obtain⟨d,hd,hx⟩:=hx;exact⟨d,hd,ih h hx⟩
 |iteS s c lr lo a b k bO eY kD=>
  intro O Q Q' h hx
  have hq:∀x,l5 (s.ev O) lr lo (iW (λO'=>aJ T k O' Q) Q) x->l5 (s.ev O) lr lo (iW (λO'=>aJ T k O' Q') Q') x:=by
   intro x hx;cases x with
   |next O'=>exact kD h hx
   |exit id O'=>exact h _ hx
   |ret d=>exact h _ hx
  simp only[aJ] at hx ⊢;split
  .rename_i hc;rw[if_pos hc] at hx;exact bO hq hx
  .rename_i hc;rw[if_neg hc] at hx;exact eY hq hx
 |blockS s id lr lo a k bO kD=>
  intro O Q Q' h hx;refine bO (λx hx=>?_) hx;cases x with
  |next O'=>exact kD h hx
  |exit cj O'=>
   simp only[m8] at hx ⊢;split
   .rename_i e;rw[if_pos e] at hx;exact kD h hx
   .rename_i e;rw[if_neg e] at hx;exact h _ hx
  |ret d=>exact h _ hx
 |brk s c k ih=>
  intro O Q Q' h hx;refine aN.mono hx λx hx=>?_;cases x with
  |next O'=>exact ih h hx
  |exit id O'=>exact h _ hx
  |ret d=>exact h _ hx
def aN.forRounds {T:cT}{id:Nat}{bL bK lr lo:List Nat}{a:PC}{O:Env}{Q:Out->Prop}(N:Nat)(str gr:Nat->List D)(h0:lr.map O.r=str 0/\lo.map O.o=gr 0)
 (step:∀k,k<N->aJ T (round id bL bK lr lo a) (O.put lr (str k) lo (gr k)) (fV O id bL bK lr lo (λvr vo=>vr=str (k+1)/\vo=gr (k+1)) Q))
 (last:aJ T (round id bL bK lr lo a) (O.put lr (str N) lo (gr N)) (fV O id bL bK lr lo (λ_ _=>False) Q)):aN T (.block id bL bK (.loop lr lo a)) O Q:=by
 refine .forLoop (α:=Nat) (λk vr vo=>k<=N/\vr=str k/\vo=gr k) (λk=>N-k) 0 ⟨qx _,h0.1,h0.2⟩ ?_;rintro k vr vo ⟨hk,rfl,rfl⟩;have mono:∀{K K':List D->List D->Prop},(∀a b,K a b->K' a b)->∀x,fV O id bL bK lr lo K Q x->fV O id bL bK lr lo K' Q x:=by
  intro K K' h x hx;cases x with
  |next O'=>exact h _ _ hx
  |exit cj O'=>exact hx
  |ret d=>exact hx
 by_cases ak:k<N
 .exact AP _ (mono λa b ⟨h1,h2⟩=>⟨k+1,by omega,by omega,h1,h2⟩) (step k ak)
 .obtain rfl:k=N:=by omega
  exact AP _ (mono λa b h=>h.elim) last
def Wp {O:Env}{id:Nat}{bL bK lr lo:List Nat}{K K':List D->List D->Prop}{Q:Out->Prop}(h:∀a b,K a b->K' a b):∀x,fV O id bL bK lr lo K Q x->fV O id bL bK lr lo K' Q x:=by
 intro x hx;cases x with
 |next O'=>exact h _ _ hx
 |exit cj O'=>exact hx
 |ret d=>exact hx
def aN.scan {T:cT}{id:Nat}{bL bK lr lo:List Nat}{a:PC}{O:Env}{Q:Out->Prop}(N:Nat)(ok:Nat->Prop)(str gr:Nat->List D)(h0:lr.map O.r=str 0/\lo.map O.o=gr 0)
 (step:∀k,k<N->(∀j,j<k->ok j)->ok k->aJ T (round id bL bK lr lo a) (O.put lr (str k) lo (gr k)) (fV O id bL bK lr lo (λvr vo=>vr=str (k+1)/\vo=gr (k+1)) Q))
 (bad:∀k,k<N->(∀j,j<k->ok j)->¬ok k->aJ T (round id bL bK lr lo a) (O.put lr (str k) lo (gr k)) (fV O id bL bK lr lo (λ_ _=>False) Q))
 (last:(∀j,j<N->ok j)->aJ T (round id bL bK lr lo a) (O.put lr (str N) lo (gr N)) (fV O id bL bK lr lo (λ_ _=>False) Q)):aN T (.block id bL bK (.loop lr lo a)) O Q:=by
 refine .forLoop (α:=Nat) (λk vr vo=>k<=N/\(∀j,j<k->ok j)/\vr=str k/\vo=gr k) (λk=>N-k) 0 ⟨qx _,λj hj=>by omega,h0.1,h0.2⟩ ?_;rintro k vr vo ⟨hk,hj,rfl,rfl⟩;by_cases ak:k<N
 .by_cases av:ok k
  .refine AP _ (Wp λa b ⟨h1,h2⟩=>⟨k+1,by omega,by omega,λj wx=>?_,h1,h2⟩) (step k ak hj av);by_cases e:j=k
   .subst e;exact av
   .exact hj j (by omega)
  .exact AP _ (Wp λa b h=>h.elim) (bad k ak hj av)
 .obtain rfl:k=N:=by omega
  exact AP _ (Wp λa b h=>h.elim) (last hj)
def aq (n:Nat)(e:PE):PE:=.mk ((List.range n).map λi=>.cell e i)
def lH (n:Nat)(d:D):D:=.agg ((List.range n).flatMap λi=>(d.c i).cells)
def aoK (O:Env)(n:Nat)(e:PE):(aq n e).ev O=lH n (e.ev O):=by
 have key:∀l:List Nat,PE.evc O (l.map λi=>.cell e i)=l.flatMap λi=>((e.ev O).c i).cells:=by
  intro l
  induction l with
  |nil=>rfl
  |cons i l ih=>simp only[fO,PE.evc,PE.ev,xZ,ih]
 show D.agg _=_;rw[key];rfl
def bl (n:Int):Prop:=-9223372036854775808<=n/\n<=9223372036854775807
def ints (l:List Int):D:=.list (l.map .int)
def aW {n:Int}(h:-9223372036854775808<=n/\n<=9223372036854775807):IntKind.i64.wrap n=n:=by
 simp only[IntKind.wrap,IntKind.signed,IntKind.bits];simp;split<;>omega
def DTy.int_inv {k:IntKind}{d:D}(h:DTy (.int k) d):∃n,d=.v (.int k n)/\k.min<=n/\n<=k.max:=by
 cases h with
 |int k n h1 h2=>exact⟨n,rfl,h1,h2⟩
 |other t d h=>exact h.elim
def DTy.i64_inv {d:D}(h:DTy (.int .i64) d):∃n,d=.int n/\bl n:=by
 obtain⟨n,rfl,h1,h2⟩:=h.int_inv;exact⟨n,rfl,by simpa [IntKind.min,IntKind.max,IntKind.signed,IntKind.bits] using h1,by simpa [IntKind.min,IntKind.max,IntKind.signed,IntKind.bits] using h2⟩
def DTy.bool_inv {d:D}(h:DTy .bool d):∃b,d=.bool b:=by
 cases h with
 |bool b=>exact⟨b,rfl⟩
 |other t d h=>exact h.elim
def DTy.slice_inv {e:Ty}{d:D}(h:DTy (.slice e) d):∃xs,d=.list xs/\xs.length<=maxLen/\∀x,x∈xs->DTy e.unf x:=by
 cases h with
 |slice e xs hm h=>exact⟨xs,rfl,hm,h⟩
 |other t d h=>exact h.elim
def DTy.agg_inv {ts:List Ty}{d:D}(h:DTy (.agg ts) d):∃ds,d=.agg ds/\DTys ts ds:=by
 cases h with
 |agg ts ds h=>exact⟨ds,rfl,h⟩
 |other t d h=>exact h.elim
def DTys.cons_inv {t:Ty}{ts:List Ty}{ds:List D}(h:DTys (t::ts) ds):∃d ds',ds=d::ds'/\DTy t d/\DTys ts ds':=by
 cases h with
 |cons h hs=>exact⟨_,_,rfl,h,hs⟩
def DTys.nil_inv {ds:List D}(h:DTys [] ds):ds=[]:=by cases h;rfl
def lb {α:Type}{enc:α->D}{P:α->Prop}{xs:List D}(h:∀x,x∈xs->∃a,x=enc a/\P a):∃l:List α,xs=l.map enc/\∀a,a∈l->P a:=by
 induction xs with
 |nil=>exact⟨[],rfl,λ_ h=>nomatch h⟩
 |cons x xs ih=>
  obtain⟨l,hl,hp⟩:=ih λy hy=>h y (dV _ hy);obtain⟨a,ha,pa⟩:=h x (dZ ..)
  exact⟨a::l,by rw[hl,ha];rfl,λb hb=>by
   rcases cU.1 hb with e|hb
   .rw[e];exact pa
   .exact hp b hb⟩
def DTy.ints_inv {d:D}(h:DTy (.slice (.int .i64)) d):∃l:List Int,d=ints l/\l.length<=maxLen/\∀x,x∈l->bl x:=by
 obtain⟨xs,rfl,hm,hx⟩:=h.slice_inv;obtain⟨l,rfl,hl⟩:=lb (enc:=D.int) (P:=bl) λx hh=>(hx x hh).i64_inv;exact⟨l,rfl,by simpa using hm,hl⟩
section
variable (O:Env) (T:cT)
@[simp] def aGp (t:Nat):PE.ev O (.r t)=O.r t:=zyz
@[simp] def aGm (t:Nat):PE.ev O (.o t)=O.o t:=zyz
@[simp] def aF8 (d:D):PE.ev O (.con d)=d:=zyz
@[simp] def aF5 (e:PE)(i:Nat):PE.ev O (.cell e i)=(PE.ev O e).c i:=zyz
@[simp] def aGz (e:PE)(a n:Nat):PE.ev O (.sub e a n)=.agg (((PE.ev O e).cells.drop a).take n):=zyz
@[simp] def aGs (e x:PE)(n:Nat):PE.ev O (.setc e n x)=.agg (eU (PE.ev O e).cells n (PE.ev O x).cells):=zyz
@[simp] def aGf (es:List PE):PE.ev O (.mk es)=.agg (PE.evc O es):=zyz
@[simp] def aF0 (op:BinOp)(k:IntKind)(x y:PE):PE.ev O (.ai op k x y)=.v (.int k (ed op k (PE.ev O x).i (PE.ev O y).i)):=zyz
@[simp] def aF6 (op:BinOp)(x y:PE):PE.ev O (.ci op x y)=.v (.bool (jW op (PE.ev O x).i (PE.ev O y).i)):=zyz
@[simp] def aF4 (op:BinOp)(x y:PE):PE.ev O (.cb op x y)=.v (.bool (BQ op (PE.ev O x).b (PE.ev O y).b)):=zyz
@[simp] def aGa (op:BinOp)(x y:PE):PE.ev O (.cs op x y)=.v (.bool (BS op (PE.ev O x).s (PE.ev O y).s)):=zyz
@[simp] def aGk (x:PE):PE.ev O (.nt x)=.v (.bool (!(PE.ev O x).b)):=zyz
@[simp] def aF9 (k:IntKind)(x:PE):PE.ev O (.conv k x)=.v (.int k (k.wrap (PE.ev O x).i)):=zyz
@[simp] def aGn (c a b:PE):PE.ev O (.pick c a b)=if(PE.ev O c).b=true then PE.ev O a else PE.ev O b:=by
  simp only[PE.ev];cases(PE.ev O c).b<;>rfl
@[simp] def aGg (n:Nat)(e:PE):PE.ev O (aq n e)=lH n (PE.ev O e):=aoK O n e
@[simp] def aF3 (x:PE):PE.ev O (.bytes x)=.list ((PE.ev O x).s.data.toList.map λb=>.v (.int .u8 b.toNat)):=zyz
@[simp] def aGd (x:PE):PE.ev O (.llen x)=.v (.int .i64 (PE.ev O x).l.length):=zyz
@[simp] def aGw (x:PE):PE.ev O (.slen x)=.v (.int .i64 (PE.ev O x).s.size):=zyz
@[simp] def aGh (x:PE):PE.ev O (.mlen x)=.v (.int .i64 (PE.ev O x).m.length):=zyz
@[simp] def aGl (x i:PE):PE.ev O (.nth x i)=(PE.ev O x).l.getD (PE.ev O i).i.toNat .none:=zyz
@[simp] def aGc (x i:PE):PE.ev O (.idx x i)=.v (.bool (decide (0<=(PE.ev O i).i/\(PE.ev O i).i<(PE.ev O x).l.length))):=zyz
@[simp] def aGt (x i y:PE)(n:Nat):PE.ev O (.setn x i n y)=.list ((PE.ev O x).l.set (PE.ev O i).i.toNat (vl ((PE.ev O x).l.getD (PE.ev O i).i.toNat .none) n (PE.ev O y))):=zyz
@[simp] def aF2 (x y:PE):PE.ev O (.app x y)=.list ((PE.ev O x).l++(PE.ev O y).l):=zyz
@[simp] def aGe (es:List PE):PE.ev O (.lst es)=.list (PE.evs O es):=zyz
@[simp] def aGr (x y:PE):PE.ev O (.rep x y)=.list (List.replicate (PE.ev O x).i.toNat (PE.ev O y)):=zyz
@[simp] def aGv (x a b:PE):PE.ev O (.slc x a b)=.list (((PE.ev O x).l.take (PE.ev O b).i.toNat).drop (PE.ev O a).i.toNat):=zyz
@[simp] def aGx (x a b:PE):PE.ev O (.slok x a b)=.v (.bool (decide (0<=(PE.ev O a).i/\(PE.ev O a).i<=(PE.ev O b).i/\(PE.ev O b).i<=(PE.ev O x).l.length))):=zyz
@[simp] def aGq (x:PE):PE.ev O (.ref x)=.ref (PE.ev O x):=zyz
@[simp] def aGb (x:PE):PE.ev O (.deref x)=(PE.ev O x).deref:=zyz
@[simp] def aGo (m k v:PE):PE.ev O (.put m k v)=.map (l9 (PE.ev O k) (PE.ev O v) (PE.ev O m).m):=zyz
@[simp] def aGi (x y:PE):PE.ev O (.mn x y)=if(PE.ev O y).i<(PE.ev O x).i then PE.ev O y else PE.ev O x:=by
  simp only[PE.ev];by_cases h:(PE.ev O y).i<(PE.ev O x).i<;>simp[h]
@[simp] def aGj (x y:PE):PE.ev O (.mx x y)=if(PE.ev O y).i>(PE.ev O x).i then PE.ev O y else PE.ev O x:=by
  simp only[PE.ev];by_cases h:(PE.ev O y).i>(PE.ev O x).i<;>simp[h]
@[simp] def aGB (es:List PE):PE.ev O (.tup es)=.tup (PE.evs O es):=zyz
@[simp] def aGA (x:PE)(i:Nat):PE.ev O (.tget x i)=(PE.ev O x).tget i:=zyz
@[simp] def aF7 (f:Nat)(es:List PE):PE.ev O (.clo f es)=.clo f (PE.evs O es):=zyz
@[simp] def aF1 (x y:PE):PE.ev O (.an x y)=.v (.bool ((PE.ev O x).b&&(PE.ev O y).b)):=zyz
@[simp] def aGF:PE.evs O []=[]:=zyz
@[simp] def aGE (e:PE)(es:List PE):PE.evs O (e::es)=PE.ev O e::PE.evs O es:=zyz
@[simp] def aGD:PE.evc O []=[]:=zyz
@[simp] def aGC (e:PE)(es:List PE):PE.evc O (e::es)=(PE.ev O e).cells++PE.evc O es:=zyz
@[simp] def abc (x:Bool):(D.bool x).b=x:=zyz
@[simp] def aFV (k:IntKind)(n:Int):(D.v (.int k n)).i=n:=zyz
@[simp] def abe (n:Int):(D.int n).i=n:=zyz
@[simp] def aFQ (x:List D):(D.list x).l=x:=zyz
@[simp] def aFO (l:List Int):(ints l).l=l.map .int:=zyz
@[simp] def aFR (x:List (D×D)):(D.map x).m=x:=zyz
@[simp] def aFF (x:List D)(i:Nat):(D.agg x).c i=x.getD i .none:=zyz
@[simp] def aFG (x:List D):(D.agg x).cells=x:=zyz
@[simp] def aFP (x:List D):(D.list x).cells=[.list x]:=zyz
@[simp] def aFN (x:List Int):(ints x).cells=[ints x]:=zyz
@[simp] def aFK (n:Int):(D.int n).cells=[.int n]:=zyz
@[simp] def aFH (n:Bool):(D.bool n).cells=[.bool n]:=zyz
@[simp] def aFU (x:Value):(D.v x).cells=[.v x]:=zyz
@[simp] def aFT (x:List D)(i:Nat):(D.tup x).tget i=x.getD i .none:=zyz
@[simp] def aFS (x:D):(D.ref x).deref=x:=zyz
@[simp] def aIB (s:SE)(t:Nat):(s.ev O).r t=PE.ev O (s.getR t):=zyz
@[simp] def aIA (s:SE)(t:Nat):(s.ev O).o t=PE.ev O (s.getO t):=zyz
@[simp] def aGP (o:List (Nat×PE))(u:Nat):SE.getR ⟨[],o⟩ u=.r u:=zyz
@[simp] def aGO (t:Nat)(e:PE)(r o:List (Nat×PE))(u:Nat):SE.getR ⟨(t,e)::r,o⟩ u=if t=u then e else SE.getR ⟨r,o⟩ u:=by
  simp only[SE.getR,bk];by_cases h:t=u
  .subst h;simp
  .simp[ff h,h]
@[simp] def aGN (r:List (Nat×PE))(u:Nat):SE.getO ⟨r,[]⟩ u=.o u:=zyz
@[simp] def aGM (t:Nat)(e:PE)(r o:List (Nat×PE))(u:Nat):SE.getO ⟨r,(t,e)::o⟩ u=if t=u then e else SE.getO ⟨r,o⟩ u:=by
  simp only[SE.getO,bk];by_cases h:t=u
  .subst h;simp
  .simp[ff h,h]
@[simp] def setR_r (t u:Nat)(d:D):(O.setR t d).r u=if u=t then d else O.r u:=Env.setR_r O t u d
@[simp] def aIH (t u:Nat)(d:D):(O.setR t d).o u=O.o u:=zyz
@[simp] def setO_o (t u:Nat)(d:D):(O.setO t d).o u=if u=t then d else O.o u:=Env.setO_o O t u d
@[simp] def aIG (t u:Nat)(d:D):(O.setO t d).r u=O.r u:=zyz
@[simp] def aIq (lr lo:List Nat)(vr vo:List D)(u:Nat):(O.put lr vr lo vo).r u=putL O.r lr vr u:=zyz
@[simp] def aIp (lr lo:List Nat)(vr vo:List D)(u:Nat):(O.put lr vr lo vo).o u=putL O.o lo vo u:=zyz
@[simp] def join_r (O':Env)(lr lo:List Nat)(u:Nat):(O.join lr lo O').r u=if u∈lr then O'.r u else O.r u:=Env.join_r O O' lr lo u
@[simp] def join_o (O':Env)(lr lo:List Nat)(u:Nat):(O.join lr lo O').o u=if u∈lo then O'.o u else O.o u:=Env.join_o O O' lr lo u
@[simp] def aIn (f:Nat->D)(i:Nat)(is:List Nat)(x:D)(xs:List D)(u:Nat):putL f (i::is) (x::xs) u=if u=i then x else putL f is xs u:=Nk f i is x xs u
@[simp] def aIo (f:Nat->D)(xs:List D)(u:Nat):putL f [] xs u=f u:=Nl f xs u
@[simp] def aFX (ds:List D)(u:Nat):(lL ds).r u=ds.getD u .none:=zyz
@[simp] def aHk:holds [] O=true:=zyz
@[simp] def aHj (g:Nat×Bool)(gs:List (Nat×Bool)):holds (g::gs) O=((O.r g.1).b==g.2&&holds gs O):=zyz
variable (Q:Out->Prop)
@[simp] def aJj (s:SE):aJ T (.next s) O Q=Q (.next (s.ev O)):=zyz
@[simp] def aJg (id:Nat)(s:SE):aJ T (.exit id s) O Q=Q (.exit id (s.ev O)):=zyz
@[simp] def aJk (e:PE):aJ T (.ret e) O Q=Q (.ret (e.ev O)):=zyz
@[simp] def aJf (e:PE)(k:PT):aJ T (.chk e k) O Q=((e.ev O).b=true/\aJ T k O Q):=zyz
@[simp] def aJh (c:PE)(a b:PT):aJ T (.ite c a b) O Q=if(c.ev O).b=true then aJ T a O Q else aJ T b O Q:=zyz
@[simp] def aJd (s:SE)(gs:List (Nat×Bool))(dst f:Nat)(args:List PE)(k:PT):aJ T (.call s gs dst f args k) O Q=if holds gs (s.ev O)=true then ∃d,ah T f (PE.evs O args) d/\aJ T k ((s.ev O).setR dst d) Q else aJ T k (s.ev O) Q:=zyz
@[simp] def aJi (s:SE)(c:PE)(lr lo:List Nat)(a b k:PT):aJ T (.iteS s c lr lo a b k) O Q=if(c.ev O).b=true then aJ T a (s.ev O) (l5 (s.ev O) lr lo (iW (λO'=>aJ T k O' Q) Q)) else aJ T b (s.ev O) (l5 (s.ev O) lr lo (iW (λO'=>aJ T k O' Q) Q)):=zyz
@[simp] def aJb (s:SE)(id:Nat)(lr lo:List Nat)(a k:PT):aJ T (.blockS s id lr lo a k) O Q=aJ T a (s.ev O) (m8 (s.ev O) id lr lo (iW (λO'=>aJ T k O' Q) Q)):=zyz
@[simp] def aJc (s:SE)(c:PC)(k:PT):aJ T (.brk s c k) O Q=aN T c (s.ev O) (iW (λO'=>aJ T k O' Q) Q):=zyz
variable (K:Env->Prop) (id:Nat) (lr lo bL bK:List Nat) (K2:List D->List D->Prop)
@[simp] def aIE (O':Env):iW K Q (.next O')=K O':=zyz
@[simp] def aID (i:Nat)(O':Env):iW K Q (.exit i O')=Q (.exit i O'):=zyz
@[simp] def aIF (d:D):iW K Q (.ret d)=Q (.ret d):=zyz
@[simp] def aHC (O':Env):l5 O lr lo Q (.next O')=Q (.next (O.join lr lo O')):=zyz
@[simp] def aHD (d:D):l5 O lr lo Q (.ret d)=Q (.ret d):=zyz
@[simp] def aFo (O':Env):m8 O id lr lo Q (.next O')=Q (.next (O.join lr lo O')):=zyz
@[simp] def aFn (i:Nat)(O':Env):m8 O id lr lo Q (.exit i O')=if i=id then Q (.next (O.join lr lo O')) else Q (.exit i O'):=zyz
@[simp] def aFp (d:D):m8 O id lr lo Q (.ret d)=Q (.ret d):=zyz
@[simp] def aIx (O':Env):fV O id bL bK lr lo K2 Q (.next O')=K2 (lr.map O'.r) (lo.map O'.o):=zyz
@[simp] def aIw (i:Nat)(O':Env):fV O id bL bK lr lo K2 Q (.exit i O')=if i=id then Q (.next (O.put bL (bL.map O'.r) bK (bK.map O'.o))) else Q (.exit i O'):=zyz
@[simp] def aIy (d:D):fV O id bL bK lr lo K2 Q (.ret d)=Q (.ret d):=zyz
@[simp] def aJe (s:SE)(gs:List (Nat×Bool))(dst:Nat)(e:PE)(args:List PE)(k:PT):aJ T (.callc s gs dst e args k) O Q=if holds gs (s.ev O)=true then ∃f caps d,e.ev O=.clo f caps/\ah T f (PE.evs O args++caps) d/\aJ T k ((s.ev O).setR dst d) Q else aJ T k (s.ev O) Q:=zyz
@[simp] def aFW (rt:Option PE)(K3:List D->Prop)(i:Nat)(O':Env):vY O lo rt K3 Q (.exit i O')=if i=di then ∃e,rt=some e/\Q (.ret (e.ev (O.put [] [] lo (lo.map O'.o)))) else Q (.exit i (O.put [] [] lo (lo.map O'.o))):=zyz
@[simp] def aFY (J:Nat)(ds:List D)(u:Nat):(BY J ds).r u=(D.none::ds).getD u .none:=zyz
def aoH (J:Nat)(ds:List D)(u:Nat):(BY J ds).o u=if u=J then .list [] else .none:=by
 show(bif Nat.beq u J then D.list [] else .none)=_;by_cases h:u=J
 .subst h;simp
 .simp[ff h,h]
@[simp] def aIm (p:Nat)(x:D):partsOf [p] x=[x.tget 0]:=zyz
end
section
variable (k:IntKind) (a b:Int)
@[simp] def aFg:ed .add k a b=k.wrap (a+b):=zyz
@[simp] def aFk:ed .sub k a b=k.wrap (a-b):=zyz
@[simp] def aFh:ed .mul k a b=k.wrap (a*b):=zyz
@[simp] def aFi:ed .quo k a b=k.wrap (a.tdiv b):=zyz
@[simp] def aFj:ed .rem k a b=a.tmod b:=zyz
@[simp] def aFx:jW .eql a b=(a==b):=zyz
@[simp] def aFC:jW .neq a b=(a !=b):=zyz
@[simp] def aFB:jW .lss a b=decide (a<b):=zyz
@[simp] def aFA:jW .leq a b=decide (a<=b):=zyz
@[simp] def aFz:jW .gtr a b=decide (a>b):=zyz
@[simp] def aFy:jW .geq a b=decide (a>=b):=zyz
variable (x y:Bool)
@[simp] def aFq:BQ .eql x y=(x==y):=zyz
@[simp] def aFr:BQ .neq x y=(!(x==y)):=zyz
end
def ah.of_tree {tab:Nat->Option PC}{ext:Nat->Option (aQ->List D->Option D)}{f:Nat}{pc:PC}{t:PT}{ds:List D}{d:D}(hx:ext f=none)(ht:tab f=some pc)(he:tree pc=t)(h:aJ (fP tab ext) t (lL ds) (λx=>x=.ret d)):ah (fP tab ext) f ds d:=
 .of_pc hx ht (O1 (he▸h))
@[simp] def aFM (n:Int):D.v (.int .i64 n)=D.int n:=zyz
@[simp] def aFJ (b:Bool):D.v (.bool b)=D.bool b:=zyz
@[simp] def aFL (a b:Int):(D.int a=D.int b)=(a=b):=by
  apply propext;constructor
  .intro h;injection h with h;injection h
  .intro h;rw[h]
@[simp] def aFI (a b:Bool):(D.bool a=D.bool b)=(a=b):=by
  apply propext;constructor
  .intro h;injection h with h;injection h
  .intro h;rw[h]
section
variable (c:Prop) [Decidable c] (x y:D)
@[simp] def aHA:(if c then x else y).b=if c then x.b else y.b:=by split<;>rfl
@[simp] def aHB:(if c then x else y).i=if c then x.i else y.i:=by split<;>rfl
end
@[simp] def aJl:IntKind.i64.wrap 1=1:=aW (by omega)
@[simp] def aJm:IntKind.i64.wrap 0=0:=aW (by omega)
end Cx
namespace Cx
open Go
inductive Tm where
 |mk (op n:Int) (args:List Tm)
instance:Inhabited Tm:=⟨.mk 0 0 []⟩
namespace Tm
def op:Tm->Int|.mk o _ _=>o
def n:Tm->Int|.mk _ n _=>n
def args:Tm->List Tm|.mk _ _ aa=>aa
end Tm
mutual
def cQ:Tm->D
 |.mk o n aa=>.agg [.int o,.int n,.list (Lh aa)]
def Lh:List Tm->List D
 |[]=>[]
 |t::ts=>cQ t::Lh ts
end
def Q4:∀l:List Tm,Lh l=l.map cQ
 |[]=>rfl
 |t::l=>by rw[Lh,Q4 l];rfl
def Fm (t:Tm):cQ t=.agg [.int t.op,.int t.n,.list (t.args.map cQ)]:=by
 cases t with
 |mk o n aa=>rw[cQ,Q4];rfl
inductive Tm.OK:Tm->Prop where
 |mk (o n:Int) (aa:List Tm) (h1:bl o) (h2:bl n) (h3:aa.length<=maxLen) (h:∀a,a∈aa->Tm.OK a):Tm.OK (.mk o n aa)
def DTy.trm_inv {d:D}(h:DTy .trmA d):∃t:Tm,d=cQ t/\t.OK:=by
 suffices hs:∀(m:Nat) (d:D),sizeOf d<=m->DTy .trmA d->∃t:Tm,d=cQ t/\t.OK from hs _ d (bj _) h
 intro m
 induction m with
 |zero=>
  intro d hm h;cases d<;>simp at hm
 |succ m ih=>
  intro d hm h;obtain⟨ds,rfl,hs⟩:=DTy.agg_inv h;obtain⟨d1,ds,rfl,h1,hs⟩:=hs.cons_inv;obtain⟨d2,ds,rfl,h2,hs⟩:=hs.cons_inv;obtain⟨d3,ds,rfl,h3,hs⟩:=hs.cons_inv;obtain rfl:=hs.nil_inv;obtain⟨o,rfl,b1⟩:=h1.i64_inv;obtain⟨n,rfl,b2⟩:=h2.i64_inv;obtain⟨xs,rfl,hl,hx⟩:=h3.slice_inv
  obtain⟨l,rfl,av⟩:=lb (enc:=cQ) (P:=Tm.OK) λx hh=>ih x (by
   have:=List.sizeOf_lt_of_mem hh;simp at hm;omega) (hx x hh)
  exact⟨.mk o n l,by rw[cQ,Q4],.mk o n l b1 b2 (by simpa using hl) av⟩
def DTy.trms_inv {d:D}(h:DTy (.slice .trm) d):∃l:List Tm,d=.list (l.map cQ)/\l.length<=maxLen/\∀t,t∈l->t.OK:=by
 obtain⟨xs,rfl,hl,hx⟩:=h.slice_inv;obtain⟨l,rfl,av⟩:=lb (enc:=cQ) (P:=Tm.OK) λx hh=>DTy.trm_inv (hx x hh);exact⟨l,rfl,by simpa using hl,av⟩
def OH (g:Nat)(zs:List Int):Nat->Option (Ty×D):=λk=>bif Nat.beq k g then some (.agg (zs.map λ_=>.int .i64),.agg (zs.map λz=>.v (.int .i64 z))) else none
def azc {C:Ctx}{g:Nat}{zs:List Int}{name:String}{W:World}(hC:C.glob=OH g zs)(hg:C.P.globalNamed name=some g)(hz:zs.all (λz=>decide (IntKind.i64.min<=z)&&decide (z<=IntKind.i64.max))=true)
 (h:Lib.TabIs C.P W name .i64 zs) (h0:g=0:=by rfl) (aB:0<zs.length:=by decide):CtxOK C (lY W):=by
 have wC:∀g' x,C.glob g'=some x->g'=g:=λg' x hx=>by
  rw[hC] at hx;unfold OH at hx;cases hk:Nat.beq g' g<;>simp only[hk,zyy,zyx] at hx
  .cases hx
  .exact aC hk
 refine⟨λk x hx=>?_,λk x hx=>?_⟩
 rotate_right
 .obtain rfl:=wC k x hx;exact adM (h.cell hg 0 aB)
 rw[hC] at hx;unfold OH at hx;cases hk:Nat.beq k g<;>simp only[hk,zyy,zyx] at hx
 .cases hx
 cases hx;obtain rfl:=aC hk
 have uz:Rep C.cap (lY W) (.agg (zs.map λ_=>.int .i64)) (.agg (zs.map λz=>Value.int .i64 z).toArray) (.agg (zs.map λz=>.v (.int .i64 z))):=by
  refine .agg _ _ _ (by simp) (by simp) (λi t ht=>?_) (λi t ht=>?_)
  .rw[cL,aD] at ht;obtain⟨z,uF,rfl⟩:=ht;rw[aK,aK,cL,cL,uF];have:=bR.1 hz z (ko uF);simp only[au,decide_eq_true_eq] at this;exact .int _ _ this.1 this.2
  .rw[cL,aD] at ht;obtain⟨z,_,rfl⟩:=ht;rfl
 refine .ref _ k 0 _ _ uz λj u hu=>?_;simp only[Value.cells,Je,cL,aD] at hu;obtain⟨z,uF,rfl⟩:=hu;have ak:=(ga.1 uF).1;have:=h.cell hg j ak;refine adL ?_ (.inl h0);rw[iM,this,aK,uF];rfl
end Cx
namespace Cx
open Go Go.RowKit
def loops:PC->List PC
 |.seq a b=>loops a++loops b
 |.ite _ _ _ a b=>loops a++loops b
 |.block id lr lo (.loop Ts Tn a)=>loops a++[.block id lr lo (.loop Ts Tn a)]
 |.block _ _ _ a=>loops a
 |.loop _ _ a=>loops a
 |.each e ps lo rt a=>loops a++[.each e ps lo rt a]
 |.meach J ps dC lo a=>loops a++[.meach J ps dC lo a]
 |_=>[]
def QB:PC->PC
 |.block _ _ _ (.loop _ _ a)=>a
 |.each _ _ _ _ a=>a
 |.meach _ _ _ _ a=>a
 |_=>.skip
def MD (c:PC)(k:Nat):PC:=(loops c).getD k .skip
def rnd:PC->PT
 |.block id lr lo (.loop Ts Tn a)=>round id lr lo Ts Tn a
 |.each _ _ lo _ a=>rP lo a
 |.meach _ _ _ lo a=>rP lo a
 |_=>.next .id
inductive Shp where
 |lp (id:Nat) (bL bK lr lo:List Nat)
 |ea (lo:List Nat)
 |no
def DP:PC->Shp
 |.block id bL bK (.loop lr lo _)=>.lp id bL bK lr lo
 |.each _ _ lo _ _=>.ea lo
 |.meach _ _ _ lo _=>.ea lo
 |_=>.no
def told (c:PC):PT×List (Shp×PT):=(tree c,(loops c).map λl=>(DP l,rnd l))
def OL {o:Option PC}{t:PT}{l:List (Shp×PT)}(h:o.map told=some (t,l)):o=some (o.getD .skip)/\tree (o.getD .skip)=t/\∀k x,l[k]?=some x->(DP (MD (o.getD .skip) k),rnd (MD (o.getD .skip) k))=x:=by
 cases o with
 |none=>cases h
 |some c=>
  have h1:told c=(t,l):=by injection h
  unfold told at h1;injection h1 with h1 h2
  refine⟨rfl,h1,λk x hx=>?_⟩;subst h2;simp only[cL,aD] at hx;obtain⟨y,hy,rfl⟩:=hx;have:MD ((some c:Option PC).getD .skip) k=y:=by
   show(loops c).getD k .skip=y;rw[aK,hy];rfl
  rw[this]
def ax1 {c:PC}{id:Nat}{bL bK lr lo:List Nat}{t:PT}(h:(DP c,rnd c)=(.lp id bL bK lr lo,t)):round id bL bK lr lo (QB c)=t:=by
 injection h with h1 h2
 subst h2;unfold DP at h1;split at h1
 .cases h1;rfl
 all_goals cases h1
def aov {c:PC}{lo:List Nat}{t:PT}(h:(DP c,rnd c)=(.ea lo,t)):rP lo (QB c)=t:=by
 injection h with h1 h2
 subst h2;unfold DP at h1;split at h1
 .cases h1
 .cases h1;rfl
 .cases h1;rfl
 .cases h1
def cX {α:Type}(x:α):α:=Classical.choose (⟨x,rfl⟩:∃y,y=x)
def F1 {α:Type}(x:α):cX x=x:=ZX (⟨x,rfl⟩:∃y,y=x)
def bx (o:Option PC):Nat->PC:=λk=>QB (MD (o.getD .skip) k)
abbrev ab (o:Option PC):PC:=cX (o.getD .skip)
abbrev bn (o:Option PC):Nat->PC:=cX (bx o)
section
variable {o:Option PC} {F:(Nat->PC)->PT×List (Shp×PT)}
def azt (h:o.map told=some (F (bx o))):o=some (ab o):=by unfold ab;rw[F1];exact(OL (t:=(F (bx o)).1) (l:=(F (bx o)).2) h).1
def bJ (h:o.map told=some (F (bx o))):tree (ab o)=(F (bn o)).1:=by unfold ab bn;rw[F1,F1];exact(OL (t:=(F (bx o)).1) (l:=(F (bx o)).2) h).2.1
def aZ (h:o.map told=some (F (bx o)))(k:Nat){id:Nat}{bL bK lr lo:List Nat}{t:(Nat->PC)->PT}(hk:∀b,(F b).2[k]?=some (.lp id bL bK lr lo,t b)):round id bL bK lr lo (bn o k)=t (bn o):=by
 unfold bn;rw[F1];exact ax1 ((OL (t:=(F (bx o)).1) (l:=(F (bx o)).2) h).2.2 k _ (hk _))
def WM (h:o.map told=some (F (bx o)))(k:Nat){lo:List Nat}{t:(Nat->PC)->PT}(hk:∀b,(F b).2[k]?=some (.ea lo,t b)):rP lo (bn o k)=t (bn o):=by
 unfold bn;rw[F1];exact aov ((OL (t:=(F (bx o)).1) (l:=(F (bx o)).2) h).2.2 k _ (hk _))
end
def ax {α:Type}{R:Nat->α->Prop}{f:Nat}{x:α}{l:List (Nat×α)}(h:R f x)(k:I7 R l):I7 R ((f,x)::l):=⟨h,k⟩
def pP {α:Type}:∀{l:List (Nat×α)},(l.map (·.1)).Nodup->∀{k f:Nat} {x:α},l[k]?=some (f,x)->bk l f=some x
 |[],_,k,f,x,h=>by simp at h
 |y::l,hn,0,f,x,h=>by
  simp only[Pj,aX] at h;subst h;simp[bk]
 |y::l,hn,k+1,f,x,h=>by
  simp only[Jd] at h;rw[fO,nO] at hn;have hm:f∈l.map (·.1):=dW.2 ⟨(f,x),ko h,rfl⟩;have hb:Nat.beq y.1 f=false:=by
   cases e:Nat.beq y.1 f with
   |false=>rfl
   |true=>rw[dp e] at hn;exact absurd hm hn.1
  simp only[bk,hb,zyx];exact pP hn.2 h
abbrev pT:PE:=.con (.bool true)
abbrev pF:PE:=.con (.bool false)
abbrev pN:PE:=.con .none
abbrev pL:PE:=.con (.list [])
abbrev pi (n:Int):PE:=.con (.int n)
abbrev aL (a b:PE):PE:=.ai .add .i64 a b
abbrev bp (a b:PE):PE:=.ai .sub .i64 a b
abbrev peq (a b:PE):PE:=.ci .eql a b
abbrev aR (a b:PE):PE:=.ci .neq a b
abbrev aj (a b:PE):PE:=.ci .lss a b
abbrev bB (a b:PE):PE:=.ci .leq a b
abbrev bq (a b:PE):PE:=.ci .gtr a b
abbrev bY (a b:PE):PE:=.ci .geq a b
abbrev pc (a:PE)(i:Nat):PE:=.cell a i
abbrev pn (a b:PE):PE:=.nth a b
abbrev ao (a b:PE):PE:=.idx a b
abbrev z2:PE:=.con (.agg [(.int 0),(.int 0)])
abbrev z3:PE:=.con (.agg [(.int 0),(.int 0),(.int 0)])
abbrev z4:PE:=.con (.agg [(.int 0),(.int 0),(.int 0),(.int 0)])
abbrev z5:PE:=.con (.agg [(.int 0),(.int 0),(.int 0),(.int 0),(.int 0)])
abbrev z6:PE:=.con (.agg [(.int 0),(.int 0),(.int 0),(.int 0),(.int 0),(.int 0)])
abbrev z9:PE:=.con (.agg [(.int 0),(.int 0),(.int 0),(.int 0),(.int 0),(.int 0),(.int 0),(.int 0),(.int 0)])
abbrev O7:PE:=.con (.agg [(.int 0),(.int 0),(.int 0),(.int 0),(.int 0),(.int 0),(.int 0),(.int 0),(.int 0),(.int 0),(.int 0),(.int 0),(.int 0),(.int 0),(.int 0)])
abbrev r0:PE:=.r 0
abbrev r1:PE:=.r 1
abbrev r2:PE:=.r 2
abbrev r3:PE:=.r 3
abbrev r4:PE:=.r 4
abbrev r5:PE:=.r 5
abbrev r6:PE:=.r 6
abbrev r7:PE:=.r 7
abbrev r8:PE:=.r 8
abbrev r9:PE:=.r 9
abbrev bZ:PE:=.r 10
abbrev bV:PE:=.r 11
abbrev bS:PE:=.r 12
abbrev dP:PE:=.r 13
abbrev dB:PE:=.r 14
abbrev fm:PE:=.r 15
abbrev fo:PE:=.r 16
abbrev iy:PE:=.r 17
abbrev kg:PE:=.r 18
abbrev gV:PE:=.r 19
abbrev eT:PE:=.r 20
abbrev jt:PE:=.r 21
abbrev NI:PE:=.r 22
abbrev kh:PE:=.r 23
abbrev nA:PE:=.r 24
abbrev fp:PE:=.r 25
abbrev mN:PE:=.r 26
abbrev fM:PE:=.r 27
abbrev nB:PE:=.r 28
abbrev p6:PE:=.r 29
abbrev p7:PE:=.r 30
abbrev mO:PE:=.r 31
abbrev mP:PE:=.r 32
abbrev oH:PE:=.r 33
abbrev Hs:PE:=.r 34
abbrev p8:PE:=.r 35
abbrev kH:PE:=.r 36
abbrev p9:PE:=.r 37
abbrev ju:PE:=.r 38
abbrev Ht:PE:=.r 39
abbrev ma:PE:=.r 40
abbrev s9:PE:=.r 41
abbrev r42:PE:=.r 42
abbrev tc:PE:=.r 43
abbrev Ad:PE:=.r 44
abbrev nC:PE:=.r 45
abbrev NJ:PE:=.r 46
abbrev Vd:PE:=.r 47
abbrev rG:PE:=.r 48
abbrev td:PE:=.r 49
abbrev nD:PE:=.r 50
abbrev NK:PE:=.r 51
abbrev tg:PE:=.r 52
abbrev r53:PE:=.r 53
abbrev rH:PE:=.r 54
abbrev va:PE:=.r 55
abbrev qa:PE:=.r 56
abbrev NL:PE:=.r 57
abbrev xq:PE:=.r 58
abbrev Ve:PE:=.r 59
abbrev xr:PE:=.r 60
abbrev Dv:PE:=.r 61
abbrev qd:PE:=.r 62
abbrev Hu:PE:=.r 63
abbrev Ae:PE:=.r 64
abbrev Hv:PE:=.r 65
abbrev Hw:PE:=.r 66
abbrev qe:PE:=.r 67
abbrev NM:PE:=.r 68
abbrev oI:PE:=.r 69
abbrev r70:PE:=.r 70
abbrev r71:PE:=.r 71
abbrev Hx:PE:=.r 72
abbrev xt:PE:=.r 73
abbrev Hy:PE:=.r 74
abbrev vb:PE:=.r 75
abbrev rI:PE:=.r 76
abbrev Vf:PE:=.r 77
abbrev Vg:PE:=.r 78
abbrev Dw:PE:=.r 79
abbrev th:PE:=.r 80
abbrev rJ:PE:=.r 81
abbrev mc:PE:=.r 82
abbrev r84:PE:=.r 84
abbrev Hz:PE:=.r 85
abbrev HA:PE:=.r 86
abbrev r87:PE:=.r 87
abbrev NN:PE:=.r 88
abbrev r89:PE:=.r 89
abbrev r90:PE:=.r 90
abbrev Dx:PE:=.r 91
abbrev Af:PE:=.r 92
abbrev HB:PE:=.r 93
abbrev r94:PE:=.r 94
abbrev r95:PE:=.r 95
abbrev NO:PE:=.r 96
abbrev HC:PE:=.r 97
abbrev NP:PE:=.r 98
abbrev NQ:PE:=.r 99
abbrev ahP:PE:=.r 102
abbrev ND:PE:=.r 103
abbrev Ho:PE:=.r 104
abbrev ahQ:PE:=.r 105
abbrev ahR:PE:=.r 106
abbrev Hp:PE:=.r 108
abbrev aIr:PE:=.r 109
abbrev ahS:PE:=.r 110
abbrev Hq:PE:=.r 112
abbrev ahT:PE:=.r 113
abbrev ahU:PE:=.r 119
abbrev ahW:PE:=.r 120
abbrev aIs:PE:=.r 121
abbrev ahX:PE:=.r 126
abbrev ahY:PE:=.r 127
abbrev o0:PE:=.o 0
abbrev o1:PE:=.o 1
abbrev o2:PE:=.o 2
abbrev o3:PE:=.o 3
abbrev o4:PE:=.o 4
abbrev o5:PE:=.o 5
abbrev o6:PE:=.o 6
abbrev o7:PE:=.o 7
abbrev o8:PE:=.o 8
abbrev o9:PE:=.o 9
abbrev cq:PE:=.o 10
abbrev xh:PE:=.o 11
abbrev MR:PE:=.o 12
abbrev zG:PE:=.o 13
abbrev MS:PE:=.o 14
abbrev MT:PE:=.o 15
abbrev o17:PE:=.o 17
abbrev CS:PE:=.o 45
end Cx
