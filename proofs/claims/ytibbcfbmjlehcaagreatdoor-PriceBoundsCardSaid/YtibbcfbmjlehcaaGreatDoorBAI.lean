/-
  Shared texts of this claim.
-/
import Derived.Test.YtibbcfbmjlehcaaGreatDoorBAH
import Derived.Lib.LaidTab
set_option linter.defProp false
set_option linter.unusedSimpArgs false
set_option linter.unusedVariables false
noncomputable section
namespace Cx
open Go Go.RowKit
structure SE where
 r:List (Nat×PE)
 o:List (Nat×PE)
def SE.getR (s:SE)(t:Nat):PE:=match bH s.r t with|some e=>e|none=>.r t
def SE.getO (s:SE)(t:Nat):PE:=match bH s.o t with|some e=>e|none=>.o t
def SE.setR (s:SE)(t:Nat)(e:PE):SE:=⟨(t,e)::s.r,s.o⟩
def SE.setO (s:SE)(t:Nat)(e:PE):SE:=⟨s.r,(t,e)::s.o⟩
def SE.id:SE:=⟨[],[]⟩
def SE.ev (s:SE)(O:Env):Env:=⟨λt=>(s.getR t).ev O,λt=>(s.getO t).ev O⟩
def SE.join (s:SE)(lr lo:List Nat)(s':SE):SE:=⟨lr.map (λt=>(t,s'.getR t))++s.r,lo.map (λt=>(t,s'.getO t))++s.o⟩
def SE.setR_ev (s:SE)(t:Nat)(e:PE)(O:Env):(s.setR t e).ev O=(s.ev O).setR t (e.ev O):=by
 have h:(λu=>((s.setR t e).getR u).ev O)=bY (λu=>(s.getR u).ev O) t (e.ev O):=by
  funext u;simp only[SE.getR,SE.setR,bH,fj];by_cases h:t=u
  .subst h;simp
  .have h':¬u=t:=λe=>h e.symm;simp[fp h,h']
 simp only[SE.ev,Env.setR];rw[h];rfl
def SE.setO_ev (s:SE)(t:Nat)(e:PE)(O:Env):(s.setO t e).ev O=(s.ev O).setO t (e.ev O):=by
 have h:(λu=>((s.setO t e).getO u).ev O)=bY (λu=>(s.getO u).ev O) t (e.ev O):=by
  funext u;simp only[SE.getO,SE.setO,bH,fj];by_cases h:t=u
  .subst h;simp
  .have h':¬u=t:=λe=>h e.symm;simp[fp h,h']
 simp only[SE.ev,Env.setO];rw[h];rfl
def y8 {f:Nat->PE}{l:List (Nat×PE)}{u:Nat}:∀(lr:List Nat),bH (lr.map (λt=>(t,f t))++l) u=if u∈lr then some (f u) else bH l u
 |[]=>by simp
 |t::lr=>by
  simp only[iO,DK,bH,y8 lr,cA];by_cases h:t=u
  .subst h;simp
  .have h':¬u=t:=λe=>h e.symm;simp[fp h,h']
def SE.join_ev (s s':SE)(lr lo:List Nat)(O:Env):(s.join lr lo s').ev O=(s.ev O).join lr lo (s'.ev O):=by
 have h1:∀u,((s.join lr lo s').getR u).ev O=((s.ev O).join lr lo (s'.ev O)).r u:=by
  intro u;rw[Env.join_r];have e:bH (s.join lr lo s').r u=if u∈lr then some (s'.getR u) else bH s.r u:=y8 lr;unfold SE.getR;rw[e];by_cases h:u∈lr
  .simp only[h,if_true];rfl
  .simp only[h,if_false];rfl
 have h2:∀u,((s.join lr lo s').getO u).ev O=((s.ev O).join lr lo (s'.ev O)).o u:=by
  intro u;rw[Env.join_o];have e:bH (s.join lr lo s').o u=if u∈lo then some (s'.getO u) else bH s.o u:=y8 lo;unfold SE.getO;rw[e];by_cases h:u∈lo
  .simp only[h,if_true];rfl
  .simp only[h,if_false];rfl
 have e1:(λu=>((s.join lr lo s').getR u).ev O)=((s.ev O).join lr lo (s'.ev O)).r:=funext h1;have e2:(λu=>((s.join lr lo s').getO u).ev O)=((s.ev O).join lr lo (s'.ev O)).o:=funext h2;show Env.mk _ _=_;rw[e1,e2]
abbrev bV:=List (PE×Bool)
def bV.ok (ae:bV)(O:Env):Prop:=∀x,x∈ae->(x.1.ev O).b=x.2
def I7 (e:PE):bV->Option Bool
 |[]=>none
 |x::l=>bif PE.beq x.1 e then some x.2 else I7 e l
def aaU {e:PE}{O:Env}{b:Bool}:∀{ae:bV},ae.ok O->I7 e ae=some b->(e.ev O).b=b
 |[],_,h=>by cases h
 |x::l,ar,h=>by
  simp only[I7] at h;cases hb:PE.beq x.1 e<;>simp only[hb,zyy,zyx] at h
  .exact aaU (λy hy=>ar y (fo _ hy)) h
  .cases h;rw[<-PE.beq_eq _ _ hb];exact ar x (fO ..)
def w7 (ae:bV):PE->Option Bool
 |.con (.v (.bool b))=>some b
 |.nt x=>(w7 ae x).map (!·)
 |e=>I7 e ae
def zT {ae:bV}{O:Env}(h:ae.ok O):∀{e:PE} {b:Bool},w7 ae e=some b->(e.ev O).b=b
 |.con (.v (.bool b)),b',he=>by simp only[w7,ba] at he;subst he;rfl
 |.nt x,b',he=>by
  simp only[w7,aB] at he;obtain⟨c,hc,rfl⟩:=he;simp only[PE.ev,D.b_bool,zT h hc]
 |e,b',he=>by
  unfold w7 at he;split at he
  .cases he;rfl
  .rename_i x;simp only[aB] at he;obtain⟨c,hc,rfl⟩:=he;simp only[PE.ev,D.b_bool,zT h hc]
  .exact aaU h he
def uU (ae:bV)(c a b:PE):PE:=match w7 ae c with|some true=>a|some false=>b|none=>.pick c a b
def U0 {ae:bV}{O:Env}(h:ae.ok O)(c a b:PE):(uU ae c a b).ev O=(PE.pick c a b).ev O:=by
 unfold uU;split
 .rename_i ht;simp[PE.ev,zT h ht]
 .rename_i ht;simp[PE.ev,zT h ht]
 .rfl
def QP:PE->PE
 |.ref x=>x
 |x=>.deref x
def ams (x:PE)(O:Env):(QP x).ev O=(PE.deref x).ev O:=by unfold QP;split<;>rfl
def W5:PE->Nat->PE
 |.tup es,i=>es.getD i (.con .none)
 |x,i=>.tget x i
def axI (x:PE)(i:Nat)(O:Env):(W5 x i).ev O=(PE.tget x i).ev O:=by
 unfold W5;split
 .rename_i es;simp only[PE.ev,D.tget_tup,PE.evs_eq,aE,cj];cases es[i]?<;>rfl
 .rfl
def GF:PE->Bool
 |.ai ..|.ci ..|.cb ..|.cs ..|.sadd ..|.nt _|.conv ..|.llen _|.bytes _|.slen _|.mlen _|.idx ..|.sidx ..|.sok ..|.slok ..|.lst _|.app ..|.setn ..|.rep ..|.slc ..|.ref _|.has ..|.put ..|.an ..|.imp ..|.tup _|.clo ..=>true
 |.con (.v _)|.con (.list _)|.con (.map _)=>true
 |_=>false
def auF {e:PE}(h:GF e=true)(O:Env):(e.ev O).cells=[e.ev O]:=by
 unfold GF at h;split at h<;>first|rfl|cases h
def Qw:PE->Nat->PE
 |.mk es,i=>bif es.all GF then es.getD i (.con .none) else .cell (.mk es) i
 |x,i=>.cell x i
def ab0 {O:Env}:∀{es:List PE},es.all GF=true->PE.evc O es=PE.evs O es
 |[],_=>rfl
 |e::es,h=>by
  simp only[sq,ao] at h;simp only[PE.evc,PE.evs,auF h.1,ab0 h.2];rfl
def alr (x:PE)(i:Nat)(O:Env):(Qw x i).ev O=(PE.cell x i).ev O:=by
 unfold Qw;split
 .rename_i es;cases hc:es.all GF
  .rfl
  .simp only[zyy,PE.ev,ab0 hc,D.c_agg,PE.evs_eq,aE,cj];cases es[i]?<;>rfl
 .rfl
def Fe (s:SE):List (Nat×Bool)->PE
 |[]=>.con (.v (.bool true))
 |g::gs=>.an (bif g.2 then s.getR g.1 else .nt (s.getR g.1)) (Fe s gs)
def acp (s:SE)(O:Env):∀gs,((Fe s gs).ev O).b=holds gs (s.ev O)
 |[]=>rfl
 |g::gs=>by
  have ih:=acp s O gs;rw[aq4,<-ih];have e:((s.ev O).r g.1)=(s.getR g.1).ev O:=rfl;rw[e];cases hg:g.2
  .simp only[Fe,hg,zyx,PE.ev,D.b_bool];cases((s.getR g.1).ev O).b<;>rfl
  .simp only[Fe,hg,zyy,PE.ev,D.b_bool];cases((s.getR g.1).ev O).b<;>rfl
mutual
def PE.sub' (ae:bV)(s:SE):PE->PE
 |.r t=>s.getR t
 |.o j=>s.getO j
 |.con d=>.con d
 |.cell e i=>Qw (PE.sub' ae s e) i
 |.sub e a b=>.sub (PE.sub' ae s e) a b
 |.setc e q x=>.setc (PE.sub' ae s e) q (PE.sub' ae s x)
 |.mk es=>.mk (PE.subs' ae s es)
 |.ai op k x y=>.ai op k (PE.sub' ae s x) (PE.sub' ae s y)
 |.ci op x y=>.ci op (PE.sub' ae s x) (PE.sub' ae s y)
 |.cb op x y=>.cb op (PE.sub' ae s x) (PE.sub' ae s y)
 |.cs op x y=>.cs op (PE.sub' ae s x) (PE.sub' ae s y)
 |.sadd x y=>.sadd (PE.sub' ae s x) (PE.sub' ae s y)
 |.nt x=>.nt (PE.sub' ae s x)
 |.conv k x=>.conv k (PE.sub' ae s x)
 |.pick c a b=>uU ae (PE.sub' ae s c) (PE.sub' ae s a) (PE.sub' ae s b)
 |.llen x=>.llen (PE.sub' ae s x)
 |.bytes x=>.bytes (PE.sub' ae s x)
 |.slen x=>.slen (PE.sub' ae s x)
 |.mlen x=>.mlen (PE.sub' ae s x)
 |.nth x y=>.nth (PE.sub' ae s x) (PE.sub' ae s y)
 |.idx x y=>.idx (PE.sub' ae s x) (PE.sub' ae s y)
 |.sidx x y=>.sidx (PE.sub' ae s x) (PE.sub' ae s y)
 |.sok x y=>.sok (PE.sub' ae s x) (PE.sub' ae s y)
 |.setn x y n z=>.setn (PE.sub' ae s x) (PE.sub' ae s y) n (PE.sub' ae s z)
 |.app x y=>.app (PE.sub' ae s x) (PE.sub' ae s y)
 |.lst es=>.lst (PE.subs' ae s es)
 |.rep x y=>.rep (PE.sub' ae s x) (PE.sub' ae s y)
 |.slc x y z=>.slc (PE.sub' ae s x) (PE.sub' ae s y) (PE.sub' ae s z)
 |.slok x y z=>.slok (PE.sub' ae s x) (PE.sub' ae s y) (PE.sub' ae s z)
 |.ref x=>.ref (PE.sub' ae s x)
 |.deref x=>QP (PE.sub' ae s x)
 |.look x y z=>.look (PE.sub' ae s x) (PE.sub' ae s y) (PE.sub' ae s z)
 |.has x y=>.has (PE.sub' ae s x) (PE.sub' ae s y)
 |.put x y z=>.put (PE.sub' ae s x) (PE.sub' ae s y) (PE.sub' ae s z)
 |.mn x y=>.mn (PE.sub' ae s x) (PE.sub' ae s y)
 |.mx x y=>.mx (PE.sub' ae s x) (PE.sub' ae s y)
 |.tup es=>.tup (PE.subs' ae s es)
 |.tget x i=>W5 (PE.sub' ae s x) i
 |.clo f es=>.clo f (PE.subs' ae s es)
 |.an x y=>.an (PE.sub' ae s x) (PE.sub' ae s y)
 |.imp c x=>.nt (.an (Fe s c) (.nt (PE.sub' ae s x)))
def PE.subs' (ae:bV)(s:SE):List PE->List PE
 |[]=>[]
 |e::es=>PE.sub' ae s e::PE.subs' ae s es
end
mutual
def PE.sub_ev {ae:bV}{O:Env}(h:ae.ok O)(s:SE):∀(e:PE),(PE.sub' ae s e).ev O=e.ev (s.ev O)
 |.r t=>rfl
 |.o j=>rfl
 |.con d=>rfl
 |.cell e i=>by simp only[PE.sub',alr,PE.ev,PE.sub_ev h s e]
 |.sub e a b=>by simp only[PE.sub',PE.ev,PE.sub_ev h s e]
 |.setc e q x=>by simp only[PE.sub',PE.ev,PE.sub_ev h s e,PE.sub_ev h s x]
 |.mk es=>by simp only[PE.sub',PE.ev,PE.subc_ev h s es]
 |.ai op k x y=>by simp only[PE.sub',PE.ev,PE.sub_ev h s x,PE.sub_ev h s y]
 |.ci op x y=>by simp only[PE.sub',PE.ev,PE.sub_ev h s x,PE.sub_ev h s y]
 |.cb op x y=>by simp only[PE.sub',PE.ev,PE.sub_ev h s x,PE.sub_ev h s y]
 |.cs op x y=>by simp only[PE.sub',PE.ev,PE.sub_ev h s x,PE.sub_ev h s y]
 |.sadd x y=>by simp only[PE.sub',PE.ev,PE.sub_ev h s x,PE.sub_ev h s y]
 |.nt x=>by simp only[PE.sub',PE.ev,PE.sub_ev h s x]
 |.conv k x=>by simp only[PE.sub',PE.ev,PE.sub_ev h s x]
 |.pick c a b=>by simp only[PE.sub',U0 h,PE.ev,PE.sub_ev h s c,PE.sub_ev h s a,PE.sub_ev h s b]
 |.llen x=>by simp only[PE.sub',PE.ev,PE.sub_ev h s x]
 |.bytes x=>by simp only[PE.sub',PE.ev,PE.sub_ev h s x]
 |.slen x=>by simp only[PE.sub',PE.ev,PE.sub_ev h s x]
 |.mlen x=>by simp only[PE.sub',PE.ev,PE.sub_ev h s x]
 |.nth x y=>by simp only[PE.sub',PE.ev,PE.sub_ev h s x,PE.sub_ev h s y]
 |.idx x y=>by simp only[PE.sub',PE.ev,PE.sub_ev h s x,PE.sub_ev h s y]
 |.sidx x y=>by simp only[PE.sub',PE.ev,PE.sub_ev h s x,PE.sub_ev h s y]
 |.sok x y=>by simp only[PE.sub',PE.ev,PE.sub_ev h s x,PE.sub_ev h s y]
 |.setn x y n z=>by simp only[PE.sub',PE.ev,PE.sub_ev h s x,PE.sub_ev h s y,PE.sub_ev h s z]
 |.app x y=>by simp only[PE.sub',PE.ev,PE.sub_ev h s x,PE.sub_ev h s y]
 |.lst es=>by simp only[PE.sub',PE.ev,PE.subs_ev h s es]
 |.rep x y=>by simp only[PE.sub',PE.ev,PE.sub_ev h s x,PE.sub_ev h s y]
 |.slc x y z=>by simp only[PE.sub',PE.ev,PE.sub_ev h s x,PE.sub_ev h s y,PE.sub_ev h s z]
 |.slok x y z=>by simp only[PE.sub',PE.ev,PE.sub_ev h s x,PE.sub_ev h s y,PE.sub_ev h s z]
 |.ref x=>by simp only[PE.sub',PE.ev,PE.sub_ev h s x]
 |.deref x=>by simp only[PE.sub',ams,PE.ev,PE.sub_ev h s x]
 |.look x y z=>by simp only[PE.sub',PE.ev,PE.sub_ev h s x,PE.sub_ev h s y,PE.sub_ev h s z]
 |.has x y=>by simp only[PE.sub',PE.ev,PE.sub_ev h s x,PE.sub_ev h s y]
 |.put x y z=>by simp only[PE.sub',PE.ev,PE.sub_ev h s x,PE.sub_ev h s y,PE.sub_ev h s z]
 |.mn x y=>by simp only[PE.sub',PE.ev,PE.sub_ev h s x,PE.sub_ev h s y]
 |.mx x y=>by simp only[PE.sub',PE.ev,PE.sub_ev h s x,PE.sub_ev h s y]
 |.tup es=>by simp only[PE.sub',PE.ev,PE.subs_ev h s es]
 |.tget x i=>by simp only[PE.sub',axI,PE.ev,PE.sub_ev h s x]
 |.clo f es=>by simp only[PE.sub',PE.ev,PE.subs_ev h s es]
 |.an x y=>by simp only[PE.sub',PE.ev,PE.sub_ev h s x,PE.sub_ev h s y]
 |.imp c x=>by
  simp only[PE.sub',PE.ev,D.b_bool,acp,PE.sub_ev h s x];cases holds c (s.ev O)<;>cases(x.ev (s.ev O)).b<;>rfl
def PE.subs_ev {ae:bV}{O:Env}(h:ae.ok O)(s:SE):∀(es:List PE),PE.evs O (PE.subs' ae s es)=PE.evs (s.ev O) es
 |[]=>rfl
 |e::es=>by simp only[PE.subs',PE.evs,PE.sub_ev h s e,PE.subs_ev h s es]
def PE.subc_ev {ae:bV}{O:Env}(h:ae.ok O)(s:SE):∀(es:List PE),PE.evc O (PE.subs' ae s es)=PE.evc (s.ev O) es
 |[]=>rfl
 |e::es=>by simp only[PE.subs',PE.evc,PE.sub_ev h s e,PE.subc_ev h s es]
end
inductive PT where
 |next (s:SE)
 |exit (id:Nat) (s:SE)
 |ret (e:PE)
 |chk (e:PE) (k:PT)
 |ite (c:PE) (a b:PT)
 |call (s:SE) (gs:List (Nat×Bool)) (dst f:Nat) (args:List PE) (k:PT)
 |callc (s:SE) (gs:List (Nat×Bool)) (dst:Nat) (e:PE) (args:List PE) (k:PT)
 |mcall (s:SE) (j f:Nat) (args:List PE) (k:PT)
 |iteS (s:SE) (c:PE) (lr lo:List Nat) (a b k:PT)
 |blockS (s:SE) (id:Nat) (lr lo:List Nat) (a k:PT)
 |brk (s:SE) (c:PC) (k:PT)
def aH (T:cK):PT->Env->(Out->Prop)->Prop
 |.next s,O,Q=>Q (.next (s.ev O))
 |.exit id s,O,Q=>Q (.exit id (s.ev O))
 |.ret e,O,Q=>Q (.ret (e.ev O))
 |.chk e k,O,Q=>(e.ev O).b=true/\aH T k O Q
 |.ite c a b,O,Q=>if(c.ev O).b=true then aH T a O Q else aH T b O Q
 |.call s gs dst f args k,O,Q=>if holds gs (s.ev O)=true then ∃d,ah T f (PE.evs O args) d/\aH T k ((s.ev O).setR dst d) Q else aH T k (s.ev O) Q
 |.callc s gs dst e args k,O,Q=>if holds gs (s.ev O)=true then ∃f caps d,e.ev O=.clo f caps/\ah T f (PE.evs O args++caps) d/\aH T k ((s.ev O).setR dst d) Q else aH T k (s.ev O) Q
 |.mcall s j f args k,O,Q=>∃d,ah T f (PE.evs O args) d/\aH T k ((s.ev O).setO j d) Q
 |.iteS s c lr lo a b k,O,Q=>if(c.ev O).b=true then aH T a (s.ev O) (lJ (s.ev O) lr lo (gH (λO'=>aH T k O' Q) Q)) else aH T b (s.ev O) (lJ (s.ev O) lr lo (gH (λO'=>aH T k O' Q) Q))
 |.blockS s id lr lo a k,O,Q=>aH T a (s.ev O) (mJ (s.ev O) id lr lo (gH (λO'=>aH T k O' Q) Q))
 |.brk s c k,O,Q=>aL T c (s.ev O) (gH (λO'=>aH T k O' Q) Q)
def p9:PI->Bool
 |.setR ..|.setO ..|.chk _=>true
 |_=>false
def dW:PC->Bool
 |.loop ..=>false
 |.each ..=>false
 |.meach ..=>false
 |.seq a b=>dW a&&dW b
 |.ite _ _ _ a b=>dW a&&dW b
 |.block _ _ _ a=>dW a
 |.is l=>l.all p9
 |_=>true
abbrev Kn:=bV->SE->PT
abbrev Kx:=bV->Nat->SE->PT
def oU:List PI->bV->SE->Kn->PT
 |[],ae,s,k=>k ae s
 |.setR t e::l,ae,s,k=>oU l ae (s.setR t (e.sub' ae s)) k
 |.setO t e::l,ae,s,k=>oU l ae (s.setO t (e.sub' ae s)) k
 |.chk e::l,ae,s,k=>
  match w7 ae (e.sub' ae s) with
  |some true=>oU l ae s k
  |_=>.chk (e.sub' ae s) (oU l ((e.sub' ae s,true)::ae) s k)
 |.call gs dst f args::l,ae,s,k=>.call s gs dst f (PE.subs' ae s args) (oU l [] .id k)
 |.callc gs dst e args::l,ae,s,k=>.callc s gs dst (e.sub' ae s) (PE.subs' ae s args) (oU l [] .id k)
 |.mcall j f args::l,ae,s,k=>.mcall s j f (PE.subs' ae s args) (oU l [] .id k)
def SE.merge (s:SE)(ae:bV)(lr lo:List Nat)(c:PE)(a b:SE):SE:=⟨lr.map (λt=>(t,uU ae c (a.getR t) (b.getR t)))++s.r,lo.map (λt=>(t,uU ae c (a.getO t) (b.getO t)))++s.o⟩
def rK:List PI->bV->SE->Option SE
 |[],_,s=>some s
 |.setR t e::l,ae,s=>rK l ae (s.setR t (e.sub' ae s))
 |.setO t e::l,ae,s=>rK l ae (s.setO t (e.sub' ae s))
 |_::_,_,_=>none
def plain:PC->bV->SE->Option SE
 |.skip,_,s=>some s
 |.is l,ae,s=>rK l ae s
 |.seq a b,ae,s=>(plain a ae s).bind λs=>plain b ae s
 |.ite c lr lo a b,ae,s=>(plain a ae s).bind λsa=>(plain b ae s).map λsb=>s.merge ae lr lo (c.sub' ae s) sa sb
 |_,_,_=>none
def aer:PC->Bool
 |.loop ..=>true
 |_=>false
def sx:PC->bV->SE->Kn->Kx->PT
 |.skip,ae,s,k,_=>k ae s
 |.is l,ae,s,k,_=>oU l ae s k
 |.seq a b,ae,s,k,kx=>sx a ae s (λae s=>sx b ae s k kx) kx
 |.ite c lr lo a b,ae,s,k,kx=>
  match w7 ae (c.sub' ae s) with
  |some true=>bif dW a then sx a ae s (λae s'=>k ae (s.join lr lo s')) kx else .iteS s (c.sub' ae s) lr lo (sx a [] .id (λ_ s=>.next s) (λ_ id s=>.exit id s)) (sx b [] .id (λ_ s=>.next s) (λ_ id s=>.exit id s)) (k [] .id)
  |some false=>bif dW b then sx b ae s (λae s'=>k ae (s.join lr lo s')) kx else .iteS s (c.sub' ae s) lr lo (sx a [] .id (λ_ s=>.next s) (λ_ id s=>.exit id s)) (sx b [] .id (λ_ s=>.next s) (λ_ id s=>.exit id s)) (k [] .id)
  |none=>
   match plain a ae s,plain b ae s with
   |some sa,some sb=>k ae (s.merge ae lr lo (c.sub' ae s) sa sb)
   |_,_=>
   bif dW a&&dW b then
    .ite (c.sub' ae s) (sx a ((c.sub' ae s,true)::ae) s (λae s'=>k ae (s.join lr lo s')) kx) (sx b ((c.sub' ae s,false)::ae) s (λae s'=>k ae (s.join lr lo s')) kx)
   else .iteS s (c.sub' ae s) lr lo (sx a [] .id (λ_ s=>.next s) (λ_ id s=>.exit id s)) (sx b [] .id (λ_ s=>.next s) (λ_ id s=>.exit id s)) (k [] .id)
 |.block id lr lo a,ae,s,k,kx=>
  bif dW a then sx a ae s (λae s'=>k ae (s.join lr lo s')) (λae bQ s'=>bif Nat.beq bQ id then k ae (s.join lr lo s') else kx ae bQ s')
  else bif aer a then .brk s (.block id lr lo a) (k [] .id)
  else .blockS s id lr lo (sx a [] .id (λ_ s=>.next s) (λ_ id s=>.exit id s)) (k [] .id)
 |.loop lr lo a,_,s,k,_=>.brk s (.loop lr lo a) (k [] .id)
 |.each e ps lo rt a,_,s,k,_=>.brk s (.each e ps lo rt a) (k [] .id)
 |.meach J ps da lo a,_,s,k,_=>.brk s (.meach J ps da lo a) (k [] .id)
 |.exit id,ae,s,_,kx=>kx ae id s
 |.ret e,ae,s,_,_=>.ret (e.sub' ae s)
def bV.ok_nil (O:Env):bV.ok [] O:=λ_ h=>nomatch h
def bV.ok_cons {ae:bV}{O:Env}{e:PE}{b:Bool}(h:ae.ok O)(he:(e.ev O).b=b):bV.ok ((e,b)::ae) O:=λx hx=>by
 rcases cA.1 hx with e'|hx
 .rw[e'];exact he
 .exact h x hx
def tL {T:cK}{Q:Out->Prop}{K:Env->Prop}{k:Kn}:∀{l:List PI} {ae:bV} {s:SE} {O:Env},ae.ok O->aH T (oU l ae s k) O Q->
 (∀O' ae s,(l.all p9=true->O'=O)->ae.ok O'->aH T (k ae s) O' Q->K (s.ev O'))->iK T l (s.ev O) K
 |[],ae,s,O,ha,h,hk=>hk O ae s (λ_=>rfl) ha h
 |.setR t e::l,ae,s,O,ha,h,hk=>by
  simp only[iK];rw[<-PE.sub_ev ha s e,<-SE.setR_ev];exact tL ha h λO' ae s hp=>hk O' ae s λhl=>hp (by simpa [p9] using hl)
 |.setO t e::l,ae,s,O,ha,h,hk=>by
  simp only[iK];rw[<-PE.sub_ev ha s e,<-SE.setO_ev];exact tL ha h λO' ae s hp=>hk O' ae s λhl=>hp (by simpa [p9] using hl)
 |.chk e::l,ae,s,O,ha,h,hk=>by
  simp only[iK];rw[<-PE.sub_ev ha s e];simp only[oU] at h;split at h
  .rename_i ht;exact⟨zT ha ht,tL ha h λO' ae s hp=>hk O' ae s λhl=>hp (by simpa [p9] using hl)⟩
  .exact⟨h.1,tL (bV.ok_cons ha h.1) h.2 λO' ae s hp=>hk O' ae s λhl=>hp (by simpa [p9] using hl)⟩
 |.call gs dst f args::l,ae,s,O,ha,h,hk=>by
  simp only[iK];simp only[oU,aH,PE.subs_ev ha,PE.sub_ev ha] at h;have bf:∀{ρ0:Env},∀O' ae s,(l.all p9=true->O'=ρ0)->ae.ok O'->aH T (k ae s) O' Q->K (s.ev O'):=λO' ae s _=>hk O' ae s λhl=>by simp[p9] at hl
  split at h
  .rename_i hg;rw[if_pos hg];obtain⟨d,hd,h⟩:=h;exact⟨d,hd,tL (s:=.id) (bV.ok_nil _) h bf⟩
  .rename_i hg;rw[if_neg hg];exact tL (s:=.id) (bV.ok_nil _) h bf
 |.callc gs dst e args::l,ae,s,O,ha,h,hk=>by
  simp only[iK];simp only[oU,aH,PE.subs_ev ha,PE.sub_ev ha] at h;have bf:∀{ρ0:Env},∀O' ae s,(l.all p9=true->O'=ρ0)->ae.ok O'->aH T (k ae s) O' Q->K (s.ev O'):=λO' ae s _=>hk O' ae s λhl=>by simp[p9] at hl
  split at h
  .rename_i hg;rw[if_pos hg];obtain⟨f,caps,d,he,hd,h⟩:=h;exact⟨f,caps,d,he,hd,tL (s:=.id) (bV.ok_nil _) h bf⟩
  .rename_i hg;rw[if_neg hg];exact tL (s:=.id) (bV.ok_nil _) h bf
 |.mcall j f args::l,ae,s,O,ha,h,hk=>by
  simp only[iK];simp only[oU,aH,PE.subs_ev ha,PE.sub_ev ha] at h;have bf:∀{ρ0:Env},∀O' ae s,(l.all p9=true->O'=ρ0)->ae.ok O'->aH T (k ae s) O' Q->K (s.ev O'):=λO' ae s _=>hk O' ae s λhl=>by simp[p9] at hl
  obtain⟨d,hd,h⟩:=h;exact⟨d,hd,tL (s:=.id) (bV.ok_nil _) h bf⟩
def SE.merge_ev {ae:bV}{O:Env}(h:ae.ok O)(s a b:SE)(lr lo:List Nat)(c:PE):(s.merge ae lr lo c a b).ev O=(s.ev O).join lr lo (if(c.ev O).b=true then a.ev O else b.ev O):=by
 have h1:∀u,((s.merge ae lr lo c a b).getR u).ev O=((s.ev O).join lr lo (if(c.ev O).b=true then a.ev O else b.ev O)).r u:=by
  intro u;rw[Env.join_r];have e:bH (s.merge ae lr lo c a b).r u=if u∈lr then some (uU ae c (a.getR u) (b.getR u)) else bH s.r u:=y8 lr;have e2:(s.merge ae lr lo c a b).getR u=if u∈lr then uU ae c (a.getR u) (b.getR u) else s.getR u:=by
   unfold SE.getR;rw[e];by_cases h:u∈lr<;>simp[h,SE.getR]
  rw[e2];by_cases hu:u∈lr
  .simp only[hu,if_true,U0 h,PE.ev];cases hc:(c.ev O).b<;>simp[SE.ev]
  .simp only[hu,if_false];rfl
 have h2:∀u,((s.merge ae lr lo c a b).getO u).ev O=((s.ev O).join lr lo (if(c.ev O).b=true then a.ev O else b.ev O)).o u:=by
  intro u;rw[Env.join_o];have e:bH (s.merge ae lr lo c a b).o u=if u∈lo then some (uU ae c (a.getO u) (b.getO u)) else bH s.o u:=y8 lo;have e2:(s.merge ae lr lo c a b).getO u=if u∈lo then uU ae c (a.getO u) (b.getO u) else s.getO u:=by
   unfold SE.getO;rw[e];by_cases h:u∈lo<;>simp[h,SE.getO]
  rw[e2];by_cases hu:u∈lo
  .simp only[hu,if_true,U0 h,PE.ev];cases hc:(c.ev O).b<;>simp[SE.ev]
  .simp only[hu,if_false];rfl
 have e1:(λu=>((s.merge ae lr lo c a b).getR u).ev O)=((s.ev O).join lr lo (if(c.ev O).b=true then a.ev O else b.ev O)).r:=funext h1;have e2:(λu=>((s.merge ae lr lo c a b).getO u).ev O)=((s.ev O).join lr lo (if(c.ev O).b=true then a.ev O else b.ev O)).o:=funext h2;show Env.mk _ _=_;rw[e1,e2]
def U3 {T:cK}{ae:bV}{O:Env}(ha:ae.ok O):∀{l:List PI} {s s':SE},rK l ae s=some s'->∀{K:Env->Prop},K (s'.ev O)->iK T l (s.ev O) K
 |[],s,s',h,K,hk=>by simp only[rK,ba] at h;subst h;exact hk
 |.setR t e::l,s,s',h,K,hk=>by simp only[iK];rw[<-PE.sub_ev ha s e,<-SE.setR_ev];exact U3 (l:=l) ha (show rK l ae _=some s' from h) hk
 |.setO t e::l,s,s',h,K,hk=>by simp only[iK];rw[<-PE.sub_ev ha s e,<-SE.setO_ev];exact U3 (l:=l) ha (show rK l ae _=some s' from h) hk
 |.chk _::_,_,_,h,_,_=>by simp[rK] at h
 |.call ..::_,_,_,h,_,_=>by simp[rK] at h
 |.callc ..::_,_,_,h,_,_=>by simp[rK] at h
 |.mcall ..::_,_,_,h,_,_=>by simp[rK] at h
def avs {T:cK}{ae:bV}{O:Env}(ha:ae.ok O):∀(c:PC) {s s':SE},plain c ae s=some s'->∀{Q:Out->Prop},Q (.next (s'.ev O))->aL T c (s.ev O) Q:=by
 intro c
 induction c with
 |skip=>intro s s' h Q hq;simp only[plain,ba] at h;subst h;exact .skip hq
 |is l=>intro s s' h Q hq;exact .is (U3 ha h hq)
 |seq a b bG eD=>
  intro s s' h Q hq;simp only[plain,az] at h;obtain⟨s1,h1,h2⟩:=h;exact .seq (bG h1 (eD h2 hq))
 |ite c lr lo a b bG eD=>
  intro s s' h Q hq;simp only[plain,az,aB] at h;obtain⟨sa,h1,sb,h2,rfl⟩:=h;rw[SE.merge_ev ha,PE.sub_ev ha] at hq;refine .ite ?_;split
  .rename_i hc;rw[if_pos hc] at hq;exact bG h1 hq
  .rename_i hc;rw[if_neg hc] at hq;exact eD h2 hq
 |_=>intro s s' h;simp[plain] at h
def Ov {T:cK}:∀(c:PC) {ae:bV} {s:SE} {k:Kn} {kx:Kx} {O:Env} {Q Q':Out->Prop},ae.ok O->aH T (sx c ae s k kx) O Q->
 (∀O' ae s,(dW c=true->O'=O)->ae.ok O'->aH T (k ae s) O' Q->Q' (.next (s.ev O')))->
 (∀O' ae id s,(dW c=true->O'=O)->ae.ok O'->aH T (kx ae id s) O' Q->Q' (.exit id (s.ev O')))->(dW c=false->∀id O',Q (.exit id O')->Q' (.exit id O'))->(∀d,Q (.ret d)->Q' (.ret d))->aL T c (s.ev O) Q':=by
 intro c;have alone:∀(a:PC),(∀{ae:bV} {s:SE} {k:Kn} {kx:Kx} {O:Env} {Q Q':Out->Prop},ae.ok O->aH T (sx a ae s k kx) O Q->
  (∀O' ae s,(dW a=true->O'=O)->ae.ok O'->aH T (k ae s) O' Q->Q' (.next (s.ev O')))->
  (∀O' ae id s,(dW a=true->O'=O)->ae.ok O'->aH T (kx ae id s) O' Q->Q' (.exit id (s.ev O')))->(dW a=false->∀id O',Q (.exit id O')->Q' (.exit id O'))->(∀d,Q (.ret d)->Q' (.ret d))->aL T a (s.ev O) Q')->
  ∀{O:Env} {Q:Out->Prop},aH T (sx a [] .id (λ_ s=>.next s) (λ_ id s=>.exit id s)) O Q->aL T a O Q:=by
  intro a ih O Q h;exact ih (s:=.id) (bV.ok_nil _) h (λO' ae s _ _ h=>h) (λO' ae id s _ _ h=>h) (λ_ _ _ h=>h) (λ_ h=>h)
 induction c with
 |skip=>intro ae s k kx O Q Q' ha h hk _ _ _;exact .skip (hk O ae s (λ_=>rfl) ha h)
 |is l=>intro ae s k kx O Q Q' ha h hk _ _ _;exact .is (tL (K:=λO'=>Q' (.next O')) ha h hk)
 |seq a b bG eD=>
  intro ae s k kx O Q Q' ha h hk hx kS hr;refine .seq (bG ha h (Q':=gH (λO'=>aL T b O' Q') Q') (λO' ae s hp yn h'=>?_) (λO' ae id s hp yn h'=>?_) (λhp=>?_) hr)
  .refine eD yn h' (λρ2 ae s fE=>hk ρ2 ae s λhl=>?_) (λρ2 ae id s fE=>hx ρ2 ae id s λhl=>?_) (λfE=>?_) hr
   .simp only[dW,ao] at hl;rw[fE hl.2,hp hl.1]
   .simp only[dW,ao] at hl;rw[fE hl.2,hp hl.1]
   .exact kS (by simp[dW,fE])
  .exact hx O' ae id s (λhl=>by simp only[dW,ao] at hl;exact hp hl.1) yn h'
  .exact kS (by simp[dW,hp])
 |ite c lr lo a b bG eD=>
  intro ae s k kx O Q Q' ha h hk hx kS hr;have bL:((c.sub' ae s).ev O).b=(c.ev (s.ev O)).b:=by rw[PE.sub_ev ha]
  have struct:(dW a&&dW b)=false->aH T (.iteS s (c.sub' ae s) lr lo (sx a [] .id (λ_ s=>.next s) (λ_ id s=>.exit id s)) (sx b [] .id (λ_ s=>.next s) (λ_ id s=>.exit id s)) (k [] .id)) O Q->aL T (.ite c lr lo a b) (s.ev O) Q':=by
   intro F1 h;have sW:dW (.ite c lr lo a b)=false:=F1;simp only[aH,bL] at h
   have conv:∀x,lJ (s.ev O) lr lo (gH (λO'=>aH T (k [] .id) O' Q) Q) x->lJ (s.ev O) lr lo Q' x:=by
      intro x cZ;cases x with
      |next O'=>exact hk _ [] .id (λhl=>by rw[sW] at hl;cases hl) (bV.ok_nil _) cZ
      |exit id O'=>exact kS sW id O' cZ
      |ret d=>exact hr d cZ
   refine .ite ?_;split at h
   .rename_i hc;rw[if_pos hc];exact(alone a bG h).mono conv
   .rename_i hc;rw[if_neg hc];exact(alone b eD h).mono conv
  have inA:∀xL,xL.ok O->dW a=true->aH T (sx a xL s (λae s'=>k ae (s.join lr lo s')) kx) O Q->aL T a (s.ev O) (lJ (s.ev O) lr lo Q'):=by
   intro xL yn eB h';refine bG yn h' (λO' ae s' hp pB ls=>?_) (λO' ae id s' hp pB ls=>?_) (λhp=>by rw[eB] at hp;cases hp) hr
   .have e:=hp eB;subst e;show Q' (.next _);rw[<-SE.join_ev];exact hk O' ae _ (λ_=>rfl) pB ls
   .have e:=hp eB;subst e;exact hx O' ae id s' (λ_=>rfl) pB ls
  have aD:∀xL,xL.ok O->dW b=true->aH T (sx b xL s (λae s'=>k ae (s.join lr lo s')) kx) O Q->aL T b (s.ev O) (lJ (s.ev O) lr lo Q'):=by
   intro xL yn eB h';refine eD yn h' (λO' ae s' hp pB ls=>?_) (λO' ae id s' hp pB ls=>?_) (λhp=>by rw[eB] at hp;cases hp) hr
   .have e:=hp eB;subst e;show Q' (.next _);rw[<-SE.join_ev];exact hk O' ae _ (λ_=>rfl) pB ls
   .have e:=hp eB;subst e;exact hx O' ae id s' (λ_=>rfl) pB ls
  simp only[sx] at h;split at h
  .rename_i ht;cases eB:dW a<;>simp only[eB,zyy,zyx] at h
   .exact struct (by simp[eB]) h
   .refine .ite ?_;rw[if_pos (by rw[<-bL];exact zT ha ht)];exact inA ae ha eB h
  .rename_i ht;cases eB:dW b<;>simp only[eB,zyy,zyx] at h
   .exact struct (by simp[eB]) h
   .refine .ite ?_;rw[if_neg (by rw[<-bL,zT ha ht];simp)];exact aD ae ha eB h
  .split at h
   .rename_i sa sb hsa kQ;have fF:plain (.ite c lr lo a b) ae s=some (s.merge ae lr lo (c.sub' ae s) sa sb):=by simp[plain,hsa,kQ]
    exact avs ha _ fF (hk O ae _ (λ_=>rfl) ha h)
   cases eB:(dW a&&dW b)<;>simp only[eB,zyy,zyx] at h
   .exact struct eB h
   .simp only[ao] at eB;simp only[aH] at h;refine .ite ?_;rw[<-bL];split at h
    .rename_i hc;rw[if_pos hc];exact inA _ (bV.ok_cons ha hc) eB.1 h
    .rename_i hc;rw[if_neg hc];exact aD _ (bV.ok_cons ha (by simpa using hc)) eB.2 h
 |block id lr lo a bG=>
  intro ae s k kx O Q Q' ha h hk hx kS hr;simp only[sx] at h;cases eB:dW a<;>simp only[eB,zyy,zyx] at h
  .have sW:dW (.block id lr lo a)=false:=eB;cases hl:aer a<;>simp only[hl,zyy,zyx] at h
   case true=>
        simp only[aH] at h;refine aL.mono h λx cZ=>?_;cases x with
        |next O'=>exact hk _ [] .id (λhl=>by rw[sW] at hl;cases hl) (bV.ok_nil _) cZ
        |exit id O'=>exact kS sW id O' cZ
        |ret d=>exact hr d cZ
   simp only[aH] at h;refine .block ((alone a bG h).mono λx cZ=>?_);cases x with
   |next O'=>exact hk _ [] .id (λhl=>by rw[sW] at hl;cases hl) (bV.ok_nil _) cZ
   |exit bQ O'=>
    simp only[mJ] at cZ ⊢;split
    .rename_i e;rw[if_pos e] at cZ;exact hk _ [] .id (λhl=>by rw[sW] at hl;cases hl) (bV.ok_nil _) cZ
    .rename_i e;rw[if_neg e] at cZ;exact kS sW bQ O' cZ
   |ret d=>exact hr d cZ
  .refine .block (bG ha h (λO' ae s' hp pB ls=>?_) (λO' ae bQ s' hp pB ls=>?_) (λhp=>by rw[eB] at hp;cases hp) hr)
   .have e:=hp eB;subst e;show Q' (.next _);rw[<-SE.join_ev];exact hk O' ae _ (λ_=>rfl) pB ls
   .have e:=hp eB;subst e;simp only[mJ];by_cases cL:bQ=id
    .subst cL;simp only[j9,zyy] at ls;rw[if_pos rfl,<-SE.join_ev];exact hk O' ae _ (λ_=>rfl) pB ls
    .rw[fp cL,zyx] at ls;rw[if_neg cL];exact hx O' ae bQ s' (λ_=>rfl) pB ls
 |loop lr lo a bG=>
  intro ae s k kx O Q Q' ha h hk hx kS hr;simp only[sx,aH] at h;refine aL.mono h λx cZ=>?_;cases x with
  |next O'=>exact hk _ [] .id (λhl=>by cases hl) (bV.ok_nil _) cZ
  |exit id O'=>exact kS rfl id O' cZ
  |ret d=>exact hr d cZ
 |each e ps lo rt a bG=>
  intro ae s k kx O Q Q' ha h hk hx kS hr;simp only[sx,aH] at h;refine aL.mono h λx cZ=>?_;cases x with
  |next O'=>exact hk _ [] .id (λhl=>by cases hl) (bV.ok_nil _) cZ
  |exit id O'=>exact kS rfl id O' cZ
  |ret d=>exact hr d cZ
 |meach J ps da lo a bG=>
  intro ae s k kx O Q Q' ha h hk hx kS hr;simp only[sx,aH] at h;refine aL.mono h λx cZ=>?_;cases x with
  |next O'=>exact hk _ [] .id (λhl=>by cases hl) (bV.ok_nil _) cZ
  |exit id O'=>exact kS rfl id O' cZ
  |ret d=>exact hr d cZ
 |exit id=>intro ae s k kx O Q Q' ha h _ hx _ _;exact .exit (hx O ae id s (λ_=>rfl) ha h)
 |ret e=>
  intro ae s k kx O Q Q' ha h _ _ _ hr;simp only[sx,aH] at h;refine .ret (hr _ ?_);rw[PE.sub_ev ha] at h;exact h
def Lk.un (a b:Lk):Lk:=⟨Nat.lor a.r b.r,j0 a.o b.o⟩
def bits (l:List Nat):Nat:=l.foldr (λt m=>Nat.lor (ij t) m) 0
def Qo {l:List Nat}{t:Nat}(h:t∈l):aR (bits l) t=true:=by
 induction l with
 |nil=>cases h
 |cons x l ih=>
  show aR (Nat.lor (ij x) (bits l)) t=true;rw[gN];rcases cA.1 h with e|h
  .subst e;rw[sD];rfl
  .rw[ih h,tS]
def ZL:∀{a b:List Nat} {x:Nat},x∈j0 a b↔x∈a\/x∈b
 |[],b,x=>by simp[j0]
 |y::a,b,x=>by
  have ih:=ZL (a:=a) (b:=bif fH b y then b else y::b) (x:=x);show x∈j0 a _↔_;rw[ih];cases hb:fH b y with
  |true=>simp only[zyy,cA];have:=(rG b y).1 hb;constructor
         .rintro(h|h);exact .inl (.inr h);exact .inr h
         .rintro((rfl|h)|h);exact .inr this;exact .inl h;exact .inr h
  |false=>simp only[zyx,cA];constructor
          .rintro(h|h|h);exact .inl (.inr h);exact .inl (.inl h);exact .inr h
          .rintro((h|h)|h);exact .inr (.inl h);exact .inl h;exact .inr (.inr h)
def Lk.Le (a K:Lk):Prop:=(∀t,aR a.r t=true->aR K.r t=true)/\∀j,j∈a.o->j∈K.o
def Lk.le_l (a b:Lk):a.Le (a.un b):=⟨λt h=>by simp only[Lk.un,gN,h,DE],λj h=>ZL.2 (.inl h)⟩
def Lk.le_r (a b:Lk):b.Le (a.un b):=⟨λt h=>by simp only[Lk.un,gN,h,tS],λj h=>ZL.2 (.inr h)⟩
def Lk.Le.trans {a b c:Lk}(h:a.Le b)(k:b.Le c):a.Le c:=⟨λt ht=>k.1 t (h.1 t ht),λj hj=>k.2 j (h.2 j hj)⟩
def Alike.le {a K:Lk}{O O':Env}(h:Alike K O O')(k:a.Le K):Alike a O O':=⟨λt ht=>h.r t (k.1 t ht),λj hj=>h.o j (k.2 j hj)⟩
def Lk.Le.of_un {a b K:Lk}(h:(a.un b).Le K):a.Le K/\b.Le K:=⟨(Lk.le_l a b).trans h,(Lk.le_r a b).trans h⟩
def Alike.setR {K:Lk}{O O':Env}(h:Alike K O O')(t:Nat)(d:D):Alike K (O.setR t d) (O'.setR t d):=⟨λu hu=>by rw[Env.setR_r,Env.setR_r];split;rfl;exact h.r u hu,h.o⟩
def Alike.setO {K:Lk}{O O':Env}(h:Alike K O O')(t:Nat)(d:D):Alike K (O.setO t d) (O'.setO t d):=⟨h.r,λu hu=>by rw[Env.setO_o,Env.setO_o];split;rfl;exact h.o u hu⟩
def Alike.join {K:Lk}{O O' H H':Env}(h:Alike K O O')(k:Alike K H H')(lr lo:List Nat):Alike K (O.join lr lo H) (O'.join lr lo H'):=
 ⟨λu hu=>by rw[Env.join_r,Env.join_r];split;exact k.r u hu;exact h.r u hu,λu hu=>by rw[Env.join_o,Env.join_o];split;exact k.o u hu;exact h.o u hu⟩
def U6 {f g:Nat->D}{u:Nat}(h:g u=f u):∀(ts:List Nat) (xs:List D),putL g ts xs u=putL f ts xs u
 |[],xs=>by rw[MZ,MZ];exact h
 |t::ts,[]=>by simp only[putL];exact h
 |t::ts,x::xs=>by rw[MY,MY];split;rfl;exact U6 h ts xs
def Alike.put {K:Lk}{O O':Env}(h:Alike K O O')(lr lo:List Nat)(vr vo:List D):Alike K (O.put lr vr lo vo) (O'.put lr vr lo vo):=⟨λu hu=>U6 (h.r u hu) lr vr,λu hu=>U6 (h.o u hu) lo vo⟩
def PI.lkw:PI->Lk
 |.setR t e=>e.lk.un ⟨ij t,[]⟩
 |.setO j e=>e.lk.un ⟨0,[j]⟩
 |.chk e=>e.lk
 |.call gs dst f aa=>(PI.call gs dst f aa).lk.un ⟨ij dst,[]⟩
 |.callc gs dst e aa=>(PI.callc gs dst e aa).lk.un ⟨ij dst,[]⟩
 |.mcall j f aa=>(PI.mcall j f aa).lk.un ⟨0,[j]⟩
def PC.lk:PC->Lk
 |.skip=>.none
 |.exit _=>.none
 |.is l=>l.foldr (λp k=>p.lkw.un k) .none
 |.seq a b=>(PC.lk a).un (PC.lk b)
 |.ite c _ _ a b=>c.lk.un ((PC.lk a).un (PC.lk b))
 |.block _ _ _ a=>PC.lk a
 |.loop lr lo a=>(⟨bits lr,lo⟩:Lk).un (PC.lk a)
 |.ret e=>e.lk
 |.each e _ lo rt a=>e.lk.un ((match rt with|some e=>e.lk|none=>.none).un ((⟨0,lo⟩:Lk).un (PC.lk a)))
 |.meach J _ _ lo a=>(⟨0,J::lo⟩:Lk).un (PC.lk a)
structure Off (K:Lk) (b H H':Env):Prop where
 al:Alike K H H'
 r:∀t,aR K.r t=false->H'.r t=b.r t
 o:∀j,j∉K.o->H'.o j=b.o j
def vn (K:Lk)(b:Env):Out->Out->Prop
 |.next H,x=>∃H',x=.next H'/\Off K b H H'
 |.exit i H,x=>∃H',x=.exit i H'/\Off K b H H'
 |.ret d,x=>x=.ret d
def Off.uniq {K:Lk}{b H H' η2:Env}(h:Off K b H H')(k:Off K b H η2):η2=H':=by
 have h1:∀t,η2.r t=H'.r t:=λt=>by
  cases hb:aR K.r t with
  |true=>rw[k.al.r t hb,h.al.r t hb]
  |false=>rw[k.r t hb,h.r t hb]
 have h2:∀t,η2.o t=H'.o t:=λt=>by
  by_cases hb:t∈K.o
  .rw[k.al.o t hb,h.al.o t hb]
  .rw[k.o t hb,h.o t hb]
 cases η2;cases H'
 congr
 .exact funext h1
 .exact funext h2
def vn.uniq {K:Lk}{b:Env}{x y z:Out}(h:vn K b x y)(k:vn K b x z):z=y:=by
 cases x with
 |next H=>obtain⟨a,rfl,h⟩:=h;obtain⟨c,rfl,k⟩:=k;rw[h.uniq k]
 |exit i H=>obtain⟨a,rfl,h⟩:=h;obtain⟨c,rfl,k⟩:=k;rw[h.uniq k]
 |ret d=>rw[h,k]
def Off.setR {K:Lk}{b H H':Env}(h:Off K b H H'){t:Nat}(ht:aR K.r t=true)(d:D):Off K b (H.setR t d) (H'.setR t d):=
 ⟨h.al.setR t d,λu hu=>by rw[Env.setR_r,if_neg (λe=>by rw[e,ht] at hu;cases hu)];exact h.r u hu,h.o⟩
def Off.setO {K:Lk}{b H H':Env}(h:Off K b H H'){t:Nat}(ht:t∈K.o)(d:D):Off K b (H.setO t d) (H'.setO t d):=
 ⟨h.al.setO t d,h.r,λu hu=>by rw[Env.setO_o,if_neg (λe=>hu (by rw[e];exact ht))];exact h.o u hu⟩
def Off.join {K:Lk}{b H H' ζ ζ':Env}(h:Off K b H H')(k:Off K b ζ ζ')(lr lo:List Nat):Off K b (H.join lr lo ζ) (H'.join lr lo ζ'):=
 ⟨h.al.join k.al lr lo,λu hu=>by rw[Env.join_r];split;exact k.r u hu;exact h.r u hu,λu hu=>by rw[Env.join_o];split;exact k.o u hu;exact h.o u hu⟩
def U9 {f:Nat->D}{b:D}{u:Nat}(h:f u=b):∀(ts:List Nat) (xs:List D),u∉ts->putL f ts xs u=b
 |[],xs,_=>by rw[MZ];exact h
 |t::ts,[],_=>by simp only[putL];exact h
 |t::ts,x::xs,hu=>by rw[MY,if_neg (λe=>hu (by simp[e]))];exact U9 h ts xs (λe=>hu (by simp[e]))
def Off.put {K:Lk}{b H H':Env}(h:Off K b H H'){lr lo:List Nat}(hr:∀t,t∈lr->aR K.r t=true)(ho:∀t,t∈lo->t∈K.o)(vr vo:List D):Off K b (H.put lr vr lo vo) (H'.put lr vr lo vo):=
 ⟨h.al.put lr lo vr vo,λu hu=>U9 (h.r u hu) lr vr (λe=>by rw[hr u e] at hu;cases hu),λu hu=>U9 (h.o u hu) lo vo (λe=>hu (ho u e))⟩
def PI.run_off {Z:aT}{K:Lk}{b O O' H:Env}{p:PI}(hp:p.lkw.Le K)(h:Off K b O O')(hr:p.run Z O=some H):∃H',p.run Z O'=some H'/\Off K b H H':=by
 have yD:p.lk.Le K:=by cases p<;>first|exact hp|exact hp.of_un.1
 rw[PI.run_eff,PI.eff_alike p (h.al.le yD)];rw[PI.run_eff] at hr;cases he:p.eff Z O with
 |none=>rw[he] at hr;cases hr
 |some x=>
  rw[he] at hr;simp only[kG,ba] at hr;subst hr;refine⟨_,rfl,?_⟩;have hb:∀{t:Nat} {a:Lk},(a.un ⟨ij t,[]⟩).Le K->aR K.r t=true:=λh=>h.of_un.2.1 _ (sD _);have ho:∀{t:Nat} {a:Lk},(a.un ⟨0,[t]⟩).Le K->t∈K.o:=λh=>h.of_un.2.2 _ (by simp);cases p with
  |setR t e=>simp only[PI.eff,ba] at he;subst he;exact h.setR (hb hp) _
  |setO t e=>simp only[PI.eff,ba] at he;subst he;exact h.setO (ho hp) _
  |chk e=>simp only[PI.eff] at he;cases yq:(e.ev O).b<;>rw[yq] at he<;>cases he;exact h
  |call gs d f aa=>
   simp only[PI.eff] at he;cases yq:holds gs O<;>simp only[yq,zyy,zyx,ba,aB] at he
   .subst he;exact h
   .obtain⟨y,_,rfl⟩:=he;exact h.setR (hb hp) _
  |callc gs d e aa=>
   simp only[PI.eff] at he;cases yq:holds gs O<;>simp only[yq,zyy,zyx,ba] at he
   .subst he;exact h
   .split at he
    .simp only[aB] at he;obtain⟨y,_,rfl⟩:=he;exact h.setR (hb hp) _
    .cases he
  |mcall j f aa=>simp only[PI.eff,aB] at he;obtain⟨y,_,rfl⟩:=he;exact h.setO (ho hp) _
def PI.runs_off {Z:aT}{K:Lk}{b:Env}:∀{l:List PI} {O O' H:Env},(l.foldr (λp k=>p.lkw.un k) Lk.none).Le K->Off K b O O'->PI.runs Z l O=some H->∃H',PI.runs Z l O'=some H'/\Off K b H H'
 |[],O,O',H,_,h,hr=>by simp only[PI.runs,ba] at hr ⊢;subst hr;exact⟨_,rfl,h⟩
 |p::l,O,O',H,hl,h,hr=>by
  simp only[PI.runs,az] at hr;obtain⟨ρ1,h1,h2⟩:=hr;obtain⟨ρ2,h3,h4⟩:=PI.run_off hl.of_un.1 h h1;obtain⟨H',h5,h6⟩:=PI.runs_off (l:=l) hl.of_un.2 h4 h2;exact⟨H',by simp only[PI.runs,h3,pj,h5],h6⟩
def zb {K:Lk}{b H H':Env}(h:Off K b H H'){lo:List Nat}(ho:∀t,t∈lo->t∈K.o):lo.map H'.o=lo.map H.o:=tW λt ht=>h.al.o t (ho t ht)
def afc {K:Lk}{b H H':Env}(h:Off K b H H'){lr:List Nat}(hr:∀t,t∈lr->aR K.r t=true):lr.map H'.r=lr.map H.r:=tW λt ht=>h.al.r t (hr t ht)
def PC.ev_off {Z:aT}{n:Nat}{K:Lk}:∀(c:PC),c.lk.Le K->∀{b O O':Env} {x:Out},Off K b O O'->c.ev Z n O=some x->∃x',c.ev Z n O'=some x'/\vn K b x x':=by
 intro c
 induction c with
 |skip=>intro _ b O O' x h hr;simp only[PC.ev,ba] at hr ⊢;subst hr;exact⟨_,rfl,_,rfl,h⟩
 |exit id=>intro _ b O O' x h hr;simp only[PC.ev,ba] at hr ⊢;subst hr;exact⟨_,rfl,_,rfl,h⟩
 |ret e=>intro hk B O O' x h hr;simp only[PC.ev,ba] at hr ⊢;subst hr;exact⟨_,rfl,by rw[PE.ev_alike e (h.al.le hk)];rfl⟩
 |is l=>
  intro hk B O O' x h hr;simp only[PC.ev,aB] at hr;obtain⟨H,h1,rfl⟩:=hr;obtain⟨H',h2,h3⟩:=PI.runs_off hk h h1;exact⟨.next H',by simp only[PC.ev,h2,kG],H',rfl,h3⟩
 |seq a b bG eD=>
  intro hk B O O' x h hr;simp only[PC.ev] at hr ⊢;cases ha:a.ev Z n O with
  |none=>rw[ha] at hr;cases hr
  |some y=>
   obtain⟨y',h1,h2⟩:=bG hk.of_un.1 h ha;rw[ha] at hr;rw[h1];cases y with
   |next H=>obtain⟨H',rfl,h3⟩:=h2;exact eD hk.of_un.2 h3 hr
   |exit i H=>obtain⟨H',rfl,h3⟩:=h2;cases hr;exact⟨_,rfl,H',rfl,h3⟩
   |ret d=>cases h2;cases hr;exact⟨_,rfl,rfl⟩
 |ite c lr lo a b bG eD=>
  intro hk B O O' x h hr;have hc:(c.ev O').b=(c.ev O).b:=by rw[PE.ev_alike c (h.al.le hk.of_un.1)]
  have key:∀(d:PC),(∀{O O':Env} {x:Out},Off K B O O'->d.ev Z n O=some x->∃x',d.ev Z n O'=some x'/\vn K B x x')->(match d.ev Z n O with|some (.next H)=>some (.next (O.join lr lo H))|x=>x)=some x->
      ∃x',(match d.ev Z n O' with|some (.next H)=>some (.next (O'.join lr lo H))|x=>x)=some x'/\vn K B x x':=by
   intro d ih hr;cases ha:d.ev Z n O with
   |none=>rw[ha] at hr;cases hr
   |some y=>
    obtain⟨y',h1,h2⟩:=ih h ha;rw[ha] at hr;rw[h1];cases y with
    |next H=>obtain⟨H',rfl,h3⟩:=h2;cases hr;exact⟨_,rfl,_,rfl,h.join h3 lr lo⟩
    |exit i H=>obtain⟨H',rfl,h3⟩:=h2;cases hr;exact⟨_,rfl,H',rfl,h3⟩
    |ret d=>cases h2;cases hr;exact⟨_,rfl,rfl⟩
  simp only[PC.ev,hc] at hr ⊢;cases jr:(c.ev O).b<;>simp only[jr,zyy,zyx] at hr ⊢
  .exact key b (λh1 h2=>eD hk.of_un.2.of_un.2 h1 h2) hr
  .exact key a (λh1 h2=>bG hk.of_un.2.of_un.1 h1 h2) hr
 |block id lr lo a bG=>
  intro hk B O O' x h hr;simp only[PC.ev] at hr ⊢;cases ha:a.ev Z n O with
  |none=>rw[ha] at hr;cases hr
  |some y=>
   obtain⟨y',h1,h2⟩:=bG hk h ha;rw[ha] at hr;rw[h1];cases y with
   |next H=>obtain⟨H',rfl,h3⟩:=h2;cases hr;exact⟨_,rfl,_,rfl,h.join h3 lr lo⟩
   |exit i H=>
    obtain⟨H',rfl,h3⟩:=h2;simp only at hr ⊢;cases hb:Nat.beq i id<;>simp only[hb,zyy,zyx] at hr ⊢<;>cases hr
    .exact⟨_,rfl,H',rfl,h3⟩
    .exact⟨_,rfl,_,rfl,h.join h3 lr lo⟩
   |ret d=>cases h2;cases hr;exact⟨_,rfl,rfl⟩
 |loop lr lo a bG=>
  intro hk B O O' x h hr;have l6:∀t,t∈lr->aR K.r t=true:=λt ht=>hk.of_un.1.1 t (Qo ht);have ko:∀t,t∈lo->t∈K.o:=λt ht=>hk.of_un.1.2 t ht;have key:∀(m:Nat) (vr vo:List D),jd (a.ev Z n) O lr lo m vr vo=some x->∃x',jd (a.ev Z n) O' lr lo m vr vo=some x'/\vn K B x x':=by
   intro m
   induction m with
   |zero=>intro vr vo h;simp[jd] at h
   |succ m Tf=>
    intro vr vo hr;simp only[jd] at hr ⊢;cases ha:a.ev Z n (O.put lr vr lo vo) with
    |none=>rw[ha] at hr;cases hr
    |some y=>
     obtain⟨y',h1,h2⟩:=bG hk.of_un.2 (h.put l6 ko vr vo) ha;rw[ha] at hr;rw[h1];cases y with
     |next H=>obtain⟨H',rfl,h3⟩:=h2;simp only[zb h3 ko,afc h3 l6];exact Tf _ _ hr
     |exit i H=>obtain⟨H',rfl,h3⟩:=h2;cases hr;exact⟨_,rfl,H',rfl,h3⟩
     |ret d=>cases h2;cases hr;exact⟨_,rfl,rfl⟩
  simp only[PC.ev] at hr ⊢;rw[zb h ko,afc h l6];exact key n _ _ hr
 |each e ps lo rt a bG=>
  intro hk B O O' x h hr;obtain⟨bC,cE⟩:=hk.of_un;obtain⟨cE,mQ⟩:=cE.of_un;obtain⟨mQ,B2⟩:=mQ.of_un;have ko:∀t,t∈lo->t∈K.o:=λt ht=>mQ.2 t ht;have key:∀(xs vo:List D),jn (a.ev Z n) O ps lo rt xs vo=some x->∃x',jn (a.ev Z n) O' ps lo rt xs vo=some x'/\vn K B x x':=by
   intro xs
   induction xs with
   |nil=>intro vo hr;simp only[jn,ba] at hr ⊢;subst hr;exact⟨_,rfl,_,rfl,h.put (λ_ h=>by cases h) ko _ _⟩
   |cons y xs jP=>
    intro vo hr;simp only[jn] at hr ⊢;cases ha:a.ev Z n (O.put ps (partsOf ps y) lo vo) with
    |none=>rw[ha] at hr;cases hr
    |some z=>
     have iY:Off K (O'.put ps (partsOf ps y) lo vo) (O.put ps (partsOf ps y) lo vo) (O'.put ps (partsOf ps y) lo vo):=⟨h.al.put ps lo _ _,λ_ _=>rfl,λ_ _=>rfl⟩
     obtain⟨z',h1,h2⟩:=bG B2 iY ha;rw[ha] at hr;rw[h1];cases z with
     |next H=>obtain⟨H',rfl,h3⟩:=h2;simp only[zb h3 ko];exact jP _ hr
     |exit i H=>
      obtain⟨H',rfl,h3⟩:=h2;simp only[zb h3 ko] at hr ⊢;have hp:=h.put (lr:=[]) (λ_ h=>by cases h) ko [] (lo.map H.o);cases hb:Nat.beq i cP<;>simp only[hb,zyy,zyx] at hr ⊢
      .cases hr;exact⟨_,rfl,_,rfl,hp⟩
      .cases rt with
       |none=>cases hr
       |some e2=>cases hr;exact⟨_,rfl,by show Out.ret _=Out.ret _;rw[PE.ev_alike e2 (hp.al.le cE)]⟩
     |ret d=>cases hr
  simp only[PC.ev] at hr ⊢;rw[PE.ev_alike e (h.al.le bC),zb h ko];exact key _ _ hr
 |meach J ps da lo a bG=>
  intro hk B O O' x h hr;obtain⟨mQ,B2⟩:=hk.of_un;have ko:∀t,t∈lo->t∈K.o:=λt ht=>mQ.2 t (fo _ ht);have hJ:O'.o J=O.o J:=h.al.o J (mQ.2 J (fO ..));have key:∀(es:D) (xs done vo tN:List D),p8 (a.ev Z n) O J es ps da lo xs done vo=some tN->p8 (a.ev Z n) O' J es ps da lo xs done vo=some tN:=by
   intro es xs
   induction xs with
   |nil=>intro done vo tN h;exact h
   |cons y xs jP=>
    intro done vo tN hr;simp only[p8] at hr ⊢;cases ha:a.ev Z n ((O.put ps (da.map y.tget) lo vo).setO J (.tup [.list (done++[y]),es])) with
    |none=>rw[ha] at hr;cases hr
    |some z=>
     have iY:Off K ((O'.put ps (da.map y.tget) lo vo).setO J (.tup [.list (done++[y]),es])) ((O.put ps (da.map y.tget) lo vo).setO J (.tup [.list (done++[y]),es])) ((O'.put ps (da.map y.tget) lo vo).setO J (.tup [.list (done++[y]),es])):=
          ⟨(h.al.put ps lo _ _).setO J _,λ_ _=>rfl,λ_ _=>rfl⟩
     obtain⟨z',h1,h2⟩:=bG B2 iY ha;rw[ha] at hr;rw[h1];cases z with
     |next H=>obtain⟨H',rfl,h3⟩:=h2;simp only[zb h3 ko];exact jP _ _ _ hr
     |exit i H=>cases hr
     |ret d=>cases hr
  simp only[PC.ev,CJ] at hr;obtain⟨vo,⟨h1,h2⟩,rfl⟩:=hr;refine⟨.next (O'.put [] [] lo vo),?_,_,rfl,h.put (λ_ h=>by cases h) ko _ _⟩;simp only[PC.ev,CJ];refine⟨vo,⟨by rw[hJ];exact h1,λys hy=>?_⟩,rfl⟩;rw[hJ] at hy ⊢;rw[zb h ko];exact key _ _ _ _ _ (h2 ys hy)
def pz:List Nat->PC->Bool
 |l,.exit id=>fH l id
 |l,.seq a b=>pz l a&&pz l b
 |l,.ite _ _ _ a b=>pz l a&&pz l b
 |l,.block id _ _ a=>pz (id::l) a
 |l,.loop _ _ a=>pz l a
 |l,.each _ _ _ _ a=>pz (cP::l) a
 |_,_=>true
def anA {Z:aT}{n:Nat}:∀(c:PC) {l:List Nat},pz l c=true->∀{O:Env} {i:Nat} {H:Env},c.ev Z n O=some (.exit i H)->i∈l:=by
 intro c
 induction c with
 |skip=>intro l _ O i H h;simp[PC.ev] at h
 |exit id=>intro l hl O i H h;simp only[PC.ev,ba] at h;injection h with h1 h2;subst h1;exact(rG _ _).1 hl
 |ret e=>intro l _ O i H h;simp[PC.ev] at h
 |is _=>intro l _ O i H h;simp[PC.ev] at h
 |seq a b bG eD=>
  intro l hl O i H h;simp only[pz,ao] at hl;simp only[PC.ev] at h;split at h
  .exact eD hl.2 h
  .exact bG hl.1 h
 |ite c lr lo a b bG eD=>
  intro l hl O i H h;simp only[pz,ao] at hl;simp only[PC.ev] at h;cases hc:(c.ev O).b<;>simp only[hc,zyy,zyx] at h
  .split at h
   .cases h
   .exact eD hl.2 h
  .split at h
   .cases h
   .exact bG hl.1 h
 |block id lr lo a bG=>
  intro l hl O i H h;simp only[PC.ev] at h;split at h
  .cases h
  .rename_i bQ ρ2 ha;cases hb:Nat.beq bQ id<;>simp only[hb,zyy,zyx] at h<;>cases h;rcases cA.1 (bG hl ha) with e|e
   .subst e;rw[j9] at hb;cases hb
   .exact e
  .rename_i h1 h2;exact absurd h (h2 _ _)
 |loop lr lo a bG=>
  intro l hl O i H h;have key:∀(m:Nat) (vr vo:List D),jd (a.ev Z n) O lr lo m vr vo=some (.exit i H)->i∈l:=by
   intro m
   induction m with
   |zero=>intro vr vo h;simp[jd] at h
   |succ m Tf=>
    intro vr vo h;simp only[jd] at h;split at h
    .exact Tf _ _ h
    .exact bG hl h
  exact key _ _ _ h
 |each e ps lo rt a bG=>
  intro l hl O i H h;have key:∀(xs vo:List D),jn (a.ev Z n) O ps lo rt xs vo=some (.exit i H)->i∈l:=by
   intro xs
   induction xs with
   |nil=>intro vo h;simp[jn] at h
   |cons x xs jP=>
    intro vo h;simp only[jn] at h;split at h
    .exact jP _ h
    .rename_i bQ ρ2 ha;cases hb:Nat.beq bQ cP<;>simp only[hb,zyy,zyx] at h
     .injection h with h;injection h with h1 h2;subst h1
      rcases cA.1 (bG hl ha) with e|e
      .subst e;rw[j9] at hb;cases hb
      .exact e
     .cases rt<;>simp at h
    .cases h
  exact key _ _ h
 |meach J ps da lo a _=>
  intro l _ O i H h;simp only[PC.ev,CJ] at h;obtain⟨vo,_,h⟩:=h;cases h
def aeo (t:Nat):PE->Bool
 |.r u=>Nat.beq u t
 |_=>false
def aep (t:Nat):PE->Bool
 |.o u=>Nat.beq u t
 |_=>false
def fk (pQ:Nat->PE->Bool)(p:Nat->Bool):List Nat->List (Nat×PE)->List (Nat×PE)
 |_,[]=>[]
 |seen,x::l=>bif p x.1&& !fH seen x.1 then(bif pQ x.1 x.2 then fk pQ p (x.1::seen) l else x::fk pQ p (x.1::seen) l) else fk pQ p seen l
def KT {pQ:Nat->PE->Bool}{p:Nat->Bool}:∀{l:List (Nat×PE)} {seen:List Nat} {t:Nat},fH seen t=true->bH (fk pQ p seen l) t=none
 |[],_,_,_=>rfl
 |x::l,seen,t,h=>by
  have h':fH (x.1::seen) t=true:=by rw[rG] at h ⊢;exact fo _ h
  simp only[fk];cases hb:(p x.1&& !fH seen x.1) with
  |false=>exact KT h
  |true=>
   simp only[zyy];cases pQ x.1 x.2 with
   |true=>exact KT h'
   |false=>
    simp only[zyx,bH];have:Nat.beq x.1 t=false:=by
      cases e:Nat.beq x.1 t with
      |false=>rfl
      |true=>rw[dC e,h] at hb;simp at hb
    rw[this];exact KT h'
def E5 {pQ:Nat->PE->Bool}{p:Nat->Bool}{dflt:Nat->PE}(cL:∀t e,pQ t e=true->e=dflt t):∀{l:List (Nat×PE)} {seen:List Nat} {t:Nat},p t=true->fH seen t=false->
 (match bH (fk pQ p seen l) t with|some e=>e|none=>dflt t)=(match bH l t with|some e=>e|none=>dflt t)
 |[],_,_,_,_=>rfl
 |x::l,seen,t,hp,hs=>by
  simp only[fk,bH];cases e:Nat.beq x.1 t with
  |true=>
   have e':=dC e;rw[e',hp,hs];simp only[Bool.not_false,Bool.and_self,zyy];cases hi:pQ t x.2 with
   |true=>simp only[zyy];rw[KT (by rw[rG];exact fO ..)];exact(cL _ _ hi).symm
   |false=>simp only[zyx,bH,e,zyy]
  |false=>
   simp only[zyx];cases hb:(p x.1&& !fH seen x.1) with
   |false=>exact E5 cL hp hs
   |true=>
    have ef:fH (x.1::seen) t=false:=by
      cases hm:fH (x.1::seen) t with
      |false=>rfl
      |true=>
       rcases cA.1 ((rG _ _).1 hm) with h|h
       .rw[h,j9] at e;cases e
       .rw[(rG _ _).2 h] at hs;cases hs
    simp only[zyy];cases pQ x.1 x.2 with
    |true=>exact E5 cL hp ef
    |false=>simp only[zyx,bH,e];exact E5 cL hp ef
def SE.cut (s:SE)(k:Lk):SE:=⟨fk aeo (aR k.r) [] s.r,fk aep (fH k.o) [] s.o⟩
def Tv (l:List (Nat×PE)):Lk:=l.foldr (λx k=>x.2.lk.un k) .none
def SE.lks (s:SE):Lk:=(Tv s.r).un (Tv s.o)
def Tw:∀{l:List (Nat×PE)} {t:Nat} {e:PE},bH l t=some e->e.lk.Le (Tv l)
 |[],_,_,h=>by cases h
 |x::l,t,e,h=>by
  simp only[bH] at h;cases hb:Nat.beq x.1 t<;>simp only[hb,zyy,zyx] at h
  .exact(Tw h).trans (Lk.le_r _ _)
  .cases h;exact Lk.le_l _ _
def SE.cut_al {s:SE}{L:Lk}{ρ1 ρ2:Env}(h:Alike (L.un (s.cut L).lks) ρ1 ρ2):Alike L ((s.cut L).ev ρ1) (s.ev ρ2):=by
 have hL:=h.le (Lk.le_l _ _);have hs:=h.le (Lk.le_r _ _);constructor
 .intro t ht;show(s.getR t).ev ρ2=((s.cut L).getR t).ev ρ1;have e:(s.cut L).getR t=s.getR t:=E5 (dflt:=.r) (λt e he=>by unfold aeo at he;split at he;rw[dC he];cases he) ht rfl;rw[<-e];cases hl:bH (s.cut L).r t with
  |none=>have:(s.cut L).getR t=.r t:=by unfold SE.getR;rw[hl]
         rw[this];exact hL.r t ht
  |some x=>have:(s.cut L).getR t=x:=by unfold SE.getR;rw[hl]
           rw[this];exact PE.ev_alike x (hs.le ((Tw hl).trans (Lk.le_l _ _)))
 .intro t ht;show(s.getO t).ev ρ2=((s.cut L).getO t).ev ρ1;have e:(s.cut L).getO t=s.getO t:=E5 (dflt:=.o) (λt e he=>by unfold aep at he;split at he;rw[dC he];cases he) ((rG _ _).2 ht) rfl;rw[<-e];cases hl:bH (s.cut L).o t with
  |none=>have:(s.cut L).getO t=.o t:=by unfold SE.getO;rw[hl]
         rw[this];exact hL.o t ht
  |some x=>have:(s.cut L).getO t=x:=by unfold SE.getO;rw[hl]
           rw[this];exact PE.ev_alike x (hs.le ((Tw hl).trans (Lk.le_r _ _)))
structure LC where
 next:Lk
 ov:List (Nat×Lk)
def LC.all (c:LC):Lk:=c.ov.foldr (λx k=>x.2.un k) .none
def Pq (c:LC)(Q1 Q2:Out->Prop):Prop:=
 (∀ρ1 ρ2,Alike c.next ρ1 ρ2->Q1 (.next ρ1)->Q2 (.next ρ2))/\(∀id k ρ1 ρ2,bH c.ov id=some k->Alike k ρ1 ρ2->Q1 (.exit id ρ1)->Q2 (.exit id ρ2))/\∀d,Q1 (.ret d)->Q2 (.ret d)
def ga:LC->PT->Option (PT×Lk)
 |c,.next s=>some (.next (s.cut c.next),c.next.un (s.cut c.next).lks)
 |c,.exit id s=>(bH c.ov id).map λk=>(.exit id (s.cut k),k.un (s.cut k).lks)
 |_,.ret e=>some (.ret e,e.lk)
 |c,.chk e k=>(ga c k).map λr=>(.chk e r.1,e.lk.un r.2)
 |c,.ite e a b=>(ga c a).bind λx=>(ga c b).map λy=>(.ite e x.1 y.1,e.lk.un (x.2.un y.2))
 |c,.call s gs dst f args k=>(ga c k).map λr=>(.call (s.cut (r.2.un (mN gs))) gs dst f args r.1,(PE.lks args).un ((r.2.un (mN gs)).un (s.cut (r.2.un (mN gs))).lks))
 |c,.callc s gs dst e args k=>(ga c k).map λr=>(.callc (s.cut (r.2.un (mN gs))) gs dst e args r.1,(e.lk.un (PE.lks args)).un ((r.2.un (mN gs)).un (s.cut (r.2.un (mN gs))).lks))
 |c,.mcall s j f args k=>(ga c k).map λr=>(.mcall (s.cut r.2) j f args r.1,(PE.lks args).un (r.2.un (s.cut r.2).lks))
 |c,.iteS s e lr lo a b k=>(ga c k).bind λr=>(ga ⟨r.2,c.ov⟩ a).bind λx=>(ga ⟨r.2,c.ov⟩ b).map λy=>
    (.iteS (s.cut (r.2.un (x.2.un y.2))) e lr lo x.1 y.1 r.1,e.lk.un ((r.2.un (x.2.un y.2)).un (s.cut (r.2.un (x.2.un y.2))).lks))
 |c,.blockS s id lr lo a k=>(ga c k).bind λr=>(ga ⟨r.2,(id,r.2)::c.ov⟩ a).map λx=>(.blockS (s.cut (r.2.un x.2)) id lr lo x.1 r.1,(r.2.un x.2).un (s.cut (r.2.un x.2)).lks)
 |c,.brk s p k=>(ga c k).bind λr=>bif pz (c.ov.map (·.1)) p then some (.brk (s.cut (p.lk.un (r.2.un c.all))) p r.1,(p.lk.un (r.2.un c.all)).un (s.cut (p.lk.un (r.2.un c.all))).lks) else none
def LC.all_le:∀{l:List (Nat×Lk)} {id:Nat} {k:Lk},bH l id=some k->k.Le (l.foldr (λx k=>x.2.un k) .none)
 |[],_,_,h=>by cases h
 |x::l,t,e,h=>by
  simp only[bH] at h;cases hb:Nat.beq x.1 t<;>simp only[hb,zyy,zyx] at h
  .exact(LC.all_le h).trans (Lk.le_r _ _)
  .cases h;exact Lk.le_l _ _
def aeT:∀{l:List (Nat×Lk)} {id:Nat},id∈l.map (·.1)->∃k,bH l id=some k
 |[],_,h=>by cases h
 |x::l,id,h=>by
  simp only[bH];cases hb:Nat.beq x.1 id with
  |true=>exact⟨_,rfl⟩
  |false=>
   simp only[zyx];rcases cA.1 h with e|h
   .rw[e,j9] at hb;cases hb
   .exact aeT h
def avG {T:cK}:∀(t:PT) {c:LC} {t':PT} {L:Lk},ga c t=some (t',L)->∀{Q1 Q2:Out->Prop} {ρ1 ρ2:Env},Pq c Q1 Q2->Alike L ρ1 ρ2->aH T t' ρ1 Q1->aH T t ρ2 Q2:=by
 intro t
 induction t with
 |next s=>
  intro c t' L hp Q1 Q2 ρ1 ρ2 hQ hA h;simp only[ga,ba,pk] at hp;obtain⟨rfl,rfl⟩:=hp;exact hQ.1 _ _ (SE.cut_al hA) h
 |exit id s=>
  intro c t' L hp Q1 Q2 ρ1 ρ2 hQ hA h;simp only[ga,aB,pk] at hp;obtain⟨k,hk,rfl,rfl⟩:=hp;exact hQ.2.1 _ k _ _ hk (SE.cut_al hA) h
 |ret e=>
  intro c t' L hp Q1 Q2 ρ1 ρ2 hQ hA h;simp only[ga,ba,pk] at hp;obtain⟨rfl,rfl⟩:=hp;show Q2 (.ret (e.ev ρ2));rw[PE.ev_alike e hA];exact hQ.2.2 _ h
 |chk e k ih=>
  intro c t' L hp Q1 Q2 ρ1 ρ2 hQ hA h;simp only[ga,aB,pk] at hp;obtain⟨r,hr,rfl,rfl⟩:=hp;exact⟨by rw[PE.ev_alike e (hA.le (Lk.le_l _ _))];exact h.1,ih hr hQ (hA.le (Lk.le_r _ _)) h.2⟩
 |ite e a b bG eD=>
  intro c t' L hp Q1 Q2 ρ1 ρ2 hQ hA h;simp only[ga,az,aB,pk] at hp;obtain⟨x,hx,y,hy,rfl,rfl⟩:=hp;have h2:=hA.le (Lk.le_r _ _);simp only[aH] at h ⊢;rw[PE.ev_alike e (hA.le (Lk.le_l _ _))];split
  .rename_i hc;rw[if_pos hc] at h;exact bG hx hQ (h2.le (Lk.le_l _ _)) h
  .rename_i hc;rw[if_neg hc] at h;exact eD hy hQ (h2.le (Lk.le_r _ _)) h
 |call s gs dst f args k ih=>
  intro c t' L hp Q1 Q2 ρ1 ρ2 hQ hA h;simp only[ga,aB,pk] at hp;obtain⟨r,hr,rfl,rfl⟩:=hp;have hS:=SE.cut_al (hA.le (Lk.le_r _ _));simp only[aH] at h ⊢;rw[PE.evs_alike args (hA.le (Lk.le_l _ _)),B6 (hS.le (Lk.le_r _ _))];split
  .rename_i hc;rw[if_pos hc] at h;obtain⟨d,hd,h⟩:=h;exact⟨d,hd,ih hr hQ ((hS.le (Lk.le_l _ _)).setR dst d) h⟩
  .rename_i hc;rw[if_neg hc] at h;exact ih hr hQ (hS.le (Lk.le_l _ _)) h
 |callc s gs dst e args k ih=>
  intro c t' L hp Q1 Q2 ρ1 ρ2 hQ hA h;simp only[ga,aB,pk] at hp;obtain⟨r,hr,rfl,rfl⟩:=hp;have hS:=SE.cut_al (hA.le (Lk.le_r _ _));have hE:=hA.le (Lk.le_l _ _);simp only[aH] at h ⊢;rw[PE.ev_alike e (hE.le (Lk.le_l _ _)),PE.evs_alike args (hE.le (Lk.le_r _ _)),B6 (hS.le (Lk.le_r _ _))];split
  .rename_i hc;rw[if_pos hc] at h;obtain⟨f,caps,d,he,hd,h⟩:=h;exact⟨f,caps,d,he,hd,ih hr hQ ((hS.le (Lk.le_l _ _)).setR dst d) h⟩
  .rename_i hc;rw[if_neg hc] at h;exact ih hr hQ (hS.le (Lk.le_l _ _)) h
 |mcall s j f args k ih=>
  intro c t' L hp Q1 Q2 ρ1 ρ2 hQ hA h;simp only[ga,aB,pk] at hp;obtain⟨r,hr,rfl,rfl⟩:=hp;have hS:=SE.cut_al (hA.le (Lk.le_r _ _));simp only[aH] at h ⊢;rw[PE.evs_alike args (hA.le (Lk.le_l _ _))];obtain⟨d,hd,h⟩:=h;exact⟨d,hd,ih hr hQ (hS.setO j d) h⟩
 |iteS s e lr lo a b k bG eD kU=>
  intro c t' L hp Q1 Q2 ρ1 ρ2 hQ hA h;simp only[ga,az,aB,pk] at hp;obtain⟨r,hr,x,hx,y,hy,rfl,rfl⟩:=hp;have hS:=SE.cut_al (hA.le (Lk.le_r _ _));have Lc:=hS.le (Lk.le_l _ _);have Fh:=hS.le ((Lk.le_l _ _).trans (Lk.le_r _ _));have hSy:=hS.le ((Lk.le_r _ _).trans (Lk.le_r _ _))
  have rel:Pq ⟨r.2,c.ov⟩ (lJ ((s.cut (r.2.un (x.2.un y.2))).ev ρ1) lr lo (gH (λO'=>aH T r.1 O' Q1) Q1)) (lJ (s.ev ρ2) lr lo (gH (λO'=>aH T k O' Q2) Q2)):=
   ⟨λH1 η2 ha hq=>kU hr hQ (Lc.join ha lr lo) hq,λid k' H1 η2 hk ha hq=>hQ.2.1 id k' _ _ hk ha hq,λd hq=>hQ.2.2 d hq⟩
  simp only[aH] at h ⊢;rw[PE.ev_alike e (hA.le (Lk.le_l _ _))];split
  .rename_i hc;rw[if_pos hc] at h;exact bG hx rel Fh h
  .rename_i hc;rw[if_neg hc] at h;exact eD hy rel hSy h
 |blockS s id lr lo a k bG kU=>
  intro c t' L hp Q1 Q2 ρ1 ρ2 hQ hA h;simp only[ga,az,aB,pk] at hp;obtain⟨r,hr,x,hx,rfl,rfl⟩:=hp;have hS:=SE.cut_al hA;have Lc:=hS.le (Lk.le_l _ _);refine bG hx (Q1:=mJ ((s.cut (r.2.un x.2)).ev ρ1) id lr lo (gH (λO'=>aH T r.1 O' Q1) Q1)) ⟨λH1 η2 ha hq=>kU hr hQ (Lc.join ha lr lo) hq,λbQ k' H1 η2 hk ha hq=>?_,λd hq=>hQ.2.2 d hq⟩ (hS.le (Lk.le_r _ _)) h;simp only[mJ] at hq ⊢;simp only[bH] at hk;by_cases e:bQ=id
  .subst e;simp only[j9,zyy,ba] at hk;subst hk;rw[if_pos rfl] at hq ⊢;exact kU hr hQ (Lc.join ha lr lo) hq
  .rw[if_neg e] at hq ⊢;rw[fp (λh=>e h.symm),zyx] at hk;exact hQ.2.1 bQ k' _ _ hk ha hq
 |brk s p k kU=>
  intro c t' L hp Q1 Q2 ρ1 ρ2 hQ hA h;simp only[ga,az] at hp;obtain⟨r,hr,hp⟩:=hp;cases hx:pz (c.ov.map (·.1)) p<;>simp only[hx,zyy,zyx,ba,pk] at hp
  .cases hp
  obtain⟨rfl,rfl⟩:=hp;have hS:=SE.cut_al hA;have iY:Off (p.lk.un (r.2.un c.all)) (s.ev ρ2) ((s.cut (p.lk.un (r.2.un c.all))).ev ρ1) (s.ev ρ2):=⟨hS,λ_ _=>rfl,λ_ _=>rfl⟩
  obtain⟨x,hq,n0,hn⟩:=h;have step:=λn (hle:n0<=n)=>PC.ev_off p (Lk.le_l _ _) iY (hn n hle);obtain⟨x',h1,h2⟩:=step n0 (aX _);refine⟨x',?_,n0,λn hle=>?_⟩
  .cases x with
   |next H=>obtain⟨H',rfl,h3⟩:=h2;exact kU hr hQ (h3.al.le ((Lk.le_l _ _).trans (Lk.le_r _ _))) hq
   |exit i H=>
    obtain⟨H',rfl,h3⟩:=h2;obtain⟨k',bf⟩:=aeT (anA p hx (hn n0 (aX _)));exact hQ.2.1 i k' _ _ bf (h3.al.le ((LC.all_le bf).trans ((Lk.le_r _ _).trans (Lk.le_r _ _)))) hq
   |ret d=>cases h2;exact hQ.2.2 d hq
  .obtain⟨x2,h3,h4⟩:=step n hle;rw[h3,h2.uniq h4]
def GL (c:LC)(t:PT):PT:=match ga c t with|some r=>r.1|none=>t
def MX {T:cK}{c:LC}{t:PT}{Q:Out->Prop}{O:Env}(hQ:Pq c Q Q)(h:aH T (GL c t) O Q):aH T t O Q:=by
 unfold GL at h;split at h
 .rename_i r hr;exact avG t hr hQ ⟨λ_ _=>rfl,λ_ _=>rfl⟩ h
 .exact h
def ajB (c:PC):PT:=sx c [] .id (λ_ s=>.next s) (λ_ id s=>.exit id s)
def ajC {T:cK}{c:PC}{O:Env}{Q:Out->Prop}(h:aH T (ajB c) O Q):aL T c O Q:=
 Ov (s:=.id) c (bV.ok_nil _) h (λO' ae s _ _ h=>h) (λO' ae id s _ _ h=>h) (λ_ _ _ h=>h) (λ_ h=>h)
def tree (c:PC):PT:=GL ⟨.none,[]⟩ (ajB c)
def OP {T:cK}{c:PC}{O:Env}{d:D}(h:aH T (tree c) O λx=>x=.ret d):aL T c O λx=>x=.ret d:=
 ajC (MX ⟨λ_ _ _ h=>(by cases h),λ_ _ _ _ _ _ h=>(by cases h),λ_ h=>h⟩ h)
def SE.keep (s:SE)(lr lo:List Nat):SE:=⟨lr.map λt=>(t,s.getR t),lo.map λt=>(t,s.getO t)⟩
def SE.keep_r (s:SE)(lr lo:List Nat)(O:Env):lr.map ((s.keep lr lo).ev O).r=lr.map (s.ev O).r:=by
 apply tW;intro t ht;show((s.keep lr lo).getR t).ev O=(s.getR t).ev O;have:=y8 (f:=λt=>s.getR t) (l:=[]) (u:=t) lr;rw[tU,if_pos ht] at this;have e:(s.keep lr lo).getR t=s.getR t:=by unfold SE.getR SE.keep;simp only[];rw[this];rfl
 rw[e]
def SE.keep_o (s:SE)(lr lo:List Nat)(O:Env):lo.map ((s.keep lr lo).ev O).o=lo.map (s.ev O).o:=by
 apply tW;intro t ht;show((s.keep lr lo).getO t).ev O=(s.getO t).ev O;have:=y8 (f:=λt=>s.getO t) (l:=[]) (u:=t) lo;rw[tU,if_pos ht] at this;have e:(s.keep lr lo).getO t=s.getO t:=by unfold SE.getO SE.keep;simp only[];rw[this];rfl
 rw[e]
def aiY (id:Nat)(bE bD lr lo:List Nat)(a:PC):PT:=
 sx a [] .id (λ_ s=>.next (s.keep lr lo)) (λ_ bQ s=>bif Nat.beq bQ id then .exit id (s.keep bE bD) else .exit bQ s)
def ff (O:Env)(id:Nat)(bE bD lr lo:List Nat)(K:List D->List D->Prop)(Q:Out->Prop):Out->Prop
 |.next O'=>K (lr.map O'.r) (lo.map O'.o)
 |.exit bQ O'=>if bQ=id then Q (.next (O.put bE (bE.map O'.r) bD (bD.map O'.o))) else Q (.exit bQ O')
 |.ret d=>Q (.ret d)
def round (id:Nat)(bE bD lr lo:List Nat)(a:PC):PT:=GL ⟨⟨bits lr,lo⟩,[(id,⟨bits bE,bD⟩)]⟩ (aiY id bE bD lr lo a)
def afb {k:Lk}{lr:List Nat}{ρ1 ρ2:Env}(h:Alike k ρ1 ρ2)(hk:∀t,t∈lr->aR k.r t=true):lr.map ρ2.r=lr.map ρ1.r:=tW λt ht=>h.r t (hk t ht)
def Mh {k:Lk}{lo:List Nat}{ρ1 ρ2:Env}(h:Alike k ρ1 ρ2)(hk:∀t,t∈lo->t∈k.o):lo.map ρ2.o=lo.map ρ1.o:=tW λt ht=>h.o t (hk t ht)
def awO {T:cK}{id:Nat}{bE bD lr lo:List Nat}{a:PC}{O ρ0:Env}{K:List D->List D->Prop}{Q:Out->Prop}(h:aH T (round id bE bD lr lo a) O (ff ρ0 id bE bD lr lo K Q)):aH T (aiY id bE bD lr lo a) O (ff ρ0 id bE bD lr lo K Q):=by
 refine MX ⟨λρ1 ρ2 ha hq=>?_,λbQ k ρ1 ρ2 hk ha hq=>?_,λd hq=>hq⟩ h
 .simp only[ff] at hq ⊢;rw[afb ha λt ht=>Qo ht,Mh ha λt ht=>ht];exact hq
 .simp only[bH] at hk;cases hb:Nat.beq id bQ<;>simp only[hb,zyy,zyx] at hk
  .cases hk
  .cases hk;have:=dC hb;subst this;simp only[ff,if_true] at hq ⊢;rw[afb ha λt ht=>Qo ht,Mh ha λt ht=>ht];exact hq
def aL.forLoop {T:cK}{id:Nat}{bE bD lr lo:List Nat}{a:PC}{O:Env}{Q:Out->Prop}{α:Type}(inv:α->List D->List D->Prop)(wx:α->Nat)(s0:α)(h0:inv s0 (lr.map O.r) (lo.map O.o))
 (step:∀s vr vo,inv s vr vo->aH T (round id bE bD lr lo a) (O.put lr vr lo vo) (ff O id bE bD lr lo (λvr vo=>∃s',wx s'<wx s/\inv s' vr vo) Q)):aL T (.block id bE bD (.loop lr lo a)) O Q:=by
 refine .block (.loop inv wx s0 h0 λs vr vo hi=>?_);have h:=awO (step s vr vo hi);refine Ov (s:=.id) a (bV.ok_nil _) h (λO' ae s' _ _ h=>?_) (λO' ae bQ s' _ _ h=>?_) (λ_ bQ O' h=>?_) (λd h=>h)
 .simp only[aH,ff] at h;rw[SE.keep_r,SE.keep_o] at h;exact h
 .simp only[gH,mJ];by_cases cL:bQ=id
  .subst cL;simp only[j9,zyy,aH,ff,if_true] at h;rw[SE.keep_r,SE.keep_o] at h;rw[if_pos rfl];exact h
  .rw[fp cL,zyx] at h;simp only[aH,ff] at h;rw[if_neg cL] at h ⊢;exact h
 .simp only[gH,mJ];simp only[ff] at h;split
  .rename_i e;rw[if_pos e] at h;exact h
  .rename_i e;rw[if_neg e] at h;exact h
def aiZ (lo:List Nat)(a:PC):PT:=sx a [] .id (λ_ s=>.next (s.keep [] lo)) (λ_ id s=>.exit id (s.keep [] lo))
def sc (lo:List Nat)(a:PC):PT:=GL ⟨⟨0,lo⟩,[(cP,⟨0,lo⟩)]⟩ (aiZ lo a)
def ai0 {T:cK}{lo:List Nat}{a:PC}{O:Env}{Q:Out->Prop}(hn:∀ρ1 ρ2,lo.map ρ2.o=lo.map ρ1.o->Q (.next ρ1)->Q (.next ρ2))(hx:∀ρ1 ρ2,lo.map ρ2.o=lo.map ρ1.o->Q (.exit cP ρ1)->Q (.exit cP ρ2))(h:aH T (sc lo a) O Q):aH T (aiZ lo a) O Q:=by
 refine MX ⟨λρ1 ρ2 ha hq=>hn ρ1 ρ2 (Mh ha λt ht=>ht) hq,λbQ k ρ1 ρ2 hk ha hq=>?_,λd hq=>hq⟩ h;simp only[bH] at hk;cases hb:Nat.beq cP bQ<;>simp only[hb,zyy,zyx] at hk
 .cases hk
 .cases hk;have:=dC hb;subst this;exact hx ρ1 ρ2 (Mh ha λt ht=>ht) hq
def aL.eachR {T:cK}{e:PE}{ps lo:List Nat}{rt:Option PE}{a:PC}{O:Env}{Q:Out->Prop}(xs:List D)(he:(e.ev O).l=xs)(inv:Nat->List D->Prop)(h0:inv 0 (lo.map O.o))
 (step:∀k x vo,xs[k]?=some x->inv k vo->aH T (sc lo a) (O.put ps (partsOf ps x) lo vo) (vB O lo rt (inv (k+1)) Q)) (done:∀vo,inv xs.length vo->Q (.next (O.put [] [] lo vo))):aL T (.each e ps lo rt a) O Q:=by
 refine .each xs he inv h0 (λk x vo hx hi=>?_) done;have h:=ai0 (λρ1 ρ2 e hq=>by simp only[vB] at hq ⊢;rw[e];exact hq) (λρ1 ρ2 e hq=>by simp only[vB,if_true] at hq ⊢;rw[e];exact hq) (step k x vo hx hi);refine Ov (s:=.id) a (bV.ok_nil _) h (λO' ae s' _ _ h=>?_) (λO' ae bQ s' _ _ h=>?_) (λ_ bQ O' h=>h) (λd h=>h)
 .simp only[aH,vB] at h;rw[SE.keep_o] at h;exact h
 .simp only[aH,vB] at h;rw[SE.keep_o] at h;exact h
def aL.meachR {T:cK}{J:Nat}{ps da lo:List Nat}{a:PC}{O:Env}{Q:Out->Prop}(es:List (D×D))(he:O.o J=.tup [.list [],.map es])(inv:List D->List D->Prop)(h0:inv [] (lo.map O.o))
 (step:∀done x rest vo,(done++x::rest).Perm (je (.map es))->inv done vo->aH T (sc lo a) ((O.put ps (da.map x.tget) lo vo).setO J (.tup [.list (done++[x]),.map es])) (λy=>∃O',y=.next O'/\inv (done++[x]) (lo.map O'.o)))
 (last:∃vo,(∀done,done.Perm (je (.map es))->∀tN,inv done tN->tN=vo)/\Q (.next (O.put [] [] lo vo))):aL T (.meach J ps da lo a) O Q:=by
 refine .meach es he inv h0 (λdone x rest vo hp hi=>?_) last;have h:=ai0 (λρ1 ρ2 e ⟨O',e1,hq⟩=>by cases e1;exact⟨_,rfl,by rw[e];exact hq⟩) (λρ1 ρ2 e ⟨O',e1,hq⟩=>by cases e1) (step done x rest vo hp hi);refine Ov (s:=.id) a (bV.ok_nil _) h (λO' ae s' _ _ h=>?_) (λO' ae bQ s' _ _ h=>?_) (λ_ bQ O' h=>?_) (λd h=>?_)
 .simp only[aH] at h;obtain⟨ρ2,e,h⟩:=h;injection e with e;subst e;rw[SE.keep_o] at h;exact⟨_,rfl,h⟩
 .simp only[aH] at h;obtain⟨ρ2,e,h⟩:=h;cases e
 .obtain⟨ρ2,e,_⟩:=h;cases e
 .obtain⟨ρ2,e,_⟩:=h;cases e
def An {T:cK}:∀(t:PT) {O:Env} {Q Q':Out->Prop},(∀x,Q x->Q' x)->aH T t O Q->aH T t O Q':=by
 intro t
 induction t with
 |next s=>intro O Q Q' h hx;exact h _ hx
 |exit id s=>intro O Q Q' h hx;exact h _ hx
 |ret e=>intro O Q Q' h hx;exact h _ hx
 |chk e k ih=>intro O Q Q' h hx;exact⟨hx.1,ih h hx.2⟩
 |ite c a b bG eD=>
  intro O Q Q' h hx;simp only[aH] at hx ⊢;split
  .rename_i hc;rw[if_pos hc] at hx;exact bG h hx
  .rename_i hc;rw[if_neg hc] at hx;exact eD h hx
 |call s gs dst f args k ih=>
  intro O Q Q' h hx;simp only[aH] at hx ⊢;split
  .rename_i hc;rw[if_pos hc] at hx;obtain⟨d,hd,hx⟩:=hx;exact⟨d,hd,ih h hx⟩
  .rename_i hc;rw[if_neg hc] at hx;exact ih h hx
 |callc s gs dst e args k ih=>
  intro O Q Q' h hx;simp only[aH] at hx ⊢;split
  .rename_i hc;rw[if_pos hc] at hx;obtain⟨f,c,d,he,hd,hx⟩:=hx;exact⟨f,c,d,he,hd,ih h hx⟩
  .rename_i hc;rw[if_neg hc] at hx;exact ih h hx
 |mcall s j f args k ih=>intro O Q Q' h hx;obtain⟨d,hd,hx⟩:=hx;exact⟨d,hd,ih h hx⟩
 |iteS s c lr lo a b k bG eD kU=>
  intro O Q Q' h hx
  have hq:∀x,lJ (s.ev O) lr lo (gH (λO'=>aH T k O' Q) Q) x->lJ (s.ev O) lr lo (gH (λO'=>aH T k O' Q') Q') x:=by
   intro x hx;cases x with
   |next O'=>exact kU h hx
   |exit id O'=>exact h _ hx
   |ret d=>exact h _ hx
  simp only[aH] at hx ⊢;split
  .rename_i hc;rw[if_pos hc] at hx;exact bG hq hx
  .rename_i hc;rw[if_neg hc] at hx;exact eD hq hx
 |blockS s id lr lo a k bG kU=>
  intro O Q Q' h hx;refine bG (λx hx=>?_) hx;cases x with
  |next O'=>exact kU h hx
  |exit bQ O'=>
   simp only[mJ] at hx ⊢;split
   .rename_i e;rw[if_pos e] at hx;exact kU h hx
   .rename_i e;rw[if_neg e] at hx;exact h _ hx
  |ret d=>exact h _ hx
 |brk s c k ih=>
  intro O Q Q' h hx;refine aL.mono hx λx hx=>?_;cases x with
  |next O'=>exact ih h hx
  |exit id O'=>exact h _ hx
  |ret d=>exact h _ hx
def aL.forRounds {T:cK}{id:Nat}{bE bD lr lo:List Nat}{a:PC}{O:Env}{Q:Out->Prop}(N:Nat)(str fK:Nat->List D)(h0:lr.map O.r=str 0/\lo.map O.o=fK 0)
 (step:∀k,k<N->aH T (round id bE bD lr lo a) (O.put lr (str k) lo (fK k)) (ff O id bE bD lr lo (λvr vo=>vr=str (k+1)/\vo=fK (k+1)) Q))
 (last:aH T (round id bE bD lr lo a) (O.put lr (str N) lo (fK N)) (ff O id bE bD lr lo (λ_ _=>False) Q)):aL T (.block id bE bD (.loop lr lo a)) O Q:=by
 refine .forLoop (α:=Nat) (λk vr vo=>k<=N/\vr=str k/\vo=fK k) (λk=>N-k) 0 ⟨jI _,h0.1,h0.2⟩ ?_;rintro k vr vo ⟨hk,rfl,rfl⟩;have mono:∀{K K':List D->List D->Prop},(∀a b,K a b->K' a b)->∀x,ff O id bE bD lr lo K Q x->ff O id bE bD lr lo K' Q x:=by
  intro K K' h x hx;cases x with
  |next O'=>exact h _ _ hx
  |exit bQ O'=>exact hx
  |ret d=>exact hx
 by_cases af:k<N
 .exact An _ (mono λa b ⟨h1,h2⟩=>⟨k+1,by omega,by omega,h1,h2⟩) (step k af)
 .obtain rfl:k=N:=by omega
  exact An _ (mono λa b h=>h.elim) last
def WD {O:Env}{id:Nat}{bE bD lr lo:List Nat}{K K':List D->List D->Prop}{Q:Out->Prop}(h:∀a b,K a b->K' a b):∀x,ff O id bE bD lr lo K Q x->ff O id bE bD lr lo K' Q x:=by
 intro x hx;cases x with
 |next O'=>exact h _ _ hx
 |exit bQ O'=>exact hx
 |ret d=>exact hx
def aL.scan {T:cK}{id:Nat}{bE bD lr lo:List Nat}{a:PC}{O:Env}{Q:Out->Prop}(N:Nat)(ok:Nat->Prop)(str fK:Nat->List D)(h0:lr.map O.r=str 0/\lo.map O.o=fK 0)
 (step:∀k,k<N->(∀j,j<k->ok j)->ok k->aH T (round id bE bD lr lo a) (O.put lr (str k) lo (fK k)) (ff O id bE bD lr lo (λvr vo=>vr=str (k+1)/\vo=fK (k+1)) Q))
 (bad:∀k,k<N->(∀j,j<k->ok j)->¬ok k->aH T (round id bE bD lr lo a) (O.put lr (str k) lo (fK k)) (ff O id bE bD lr lo (λ_ _=>False) Q))
 (last:(∀j,j<N->ok j)->aH T (round id bE bD lr lo a) (O.put lr (str N) lo (fK N)) (ff O id bE bD lr lo (λ_ _=>False) Q)):aL T (.block id bE bD (.loop lr lo a)) O Q:=by
 refine .forLoop (α:=Nat) (λk vr vo=>k<=N/\(∀j,j<k->ok j)/\vr=str k/\vo=fK k) (λk=>N-k) 0 ⟨jI _,λj hj=>by omega,h0.1,h0.2⟩ ?_;rintro k vr vo ⟨hk,hj,rfl,rfl⟩;by_cases af:k<N
 .by_cases ar:ok k
  .refine An _ (WD λa b ⟨h1,h2⟩=>⟨k+1,by omega,by omega,λj mP=>?_,h1,h2⟩) (step k af hj ar);by_cases e:j=k
   .subst e;exact ar
   .exact hj j (by omega)
  .exact An _ (WD λa b h=>h.elim) (bad k af hj ar)
 .obtain rfl:k=N:=by omega
  exact An _ (WD λa b h=>h.elim) (last hj)
def aA (n:Nat)(e:PE):PE:=.mk ((List.range n).map λi=>.cell e i)
def kc (n:Nat)(d:D):D:=.agg ((List.range n).flatMap λi=>(d.c i).cells)
def anx (O:Env)(n:Nat)(e:PE):(aA n e).ev O=kc n (e.ev O):=by
 have key:∀l:List Nat,PE.evc O (l.map λi=>.cell e i)=l.flatMap λi=>((e.ev O).c i).cells:=by
  intro l
  induction l with
  |nil=>rfl
  |cons i l ih=>simp only[iO,PE.evc,PE.ev,vk,ih]
 show D.agg _=_;rw[key];rfl
def aZ (n:Int):Prop:=-9223372036854775808<=n/\n<=9223372036854775807
def ints (l:List Int):D:=.list (l.map .int)
def aO {n:Int}(h:-9223372036854775808<=n/\n<=9223372036854775807):IntKind.i64.wrap n=n:=by
 simp only[IntKind.wrap,IntKind.signed,IntKind.bits];simp;split<;>omega
def DTy.int_inv {k:IntKind}{d:D}(h:DTy (.int k) d):∃n,d=.v (.int k n)/\k.min<=n/\n<=k.max:=by
 cases h with
 |int k n h1 h2=>exact⟨n,rfl,h1,h2⟩
 |other t d h=>exact h.elim
def DTy.i64_inv {d:D}(h:DTy (.int .i64) d):∃n,d=.int n/\aZ n:=by
 obtain⟨n,rfl,h1,h2⟩:=h.int_inv;exact⟨n,rfl,by simpa [IntKind.min,IntKind.max,IntKind.signed,IntKind.bits] using h1,by simpa [IntKind.min,IntKind.max,IntKind.signed,IntKind.bits] using h2⟩
def DTy.bool_inv {d:D}(h:DTy .bool d):∃b,d=.bool b:=by
 cases h with
 |bool b=>exact⟨b,rfl⟩
 |other t d h=>exact h.elim
def DTy.slice_inv {e:Ty}{d:D}(h:DTy (.slice e) d):∃xs,d=.list xs/\xs.length<=maxLen/\∀x,x∈xs->DTy e.unf x:=by
 cases h with
 |slice e xs hm h=>exact⟨xs,rfl,hm,h⟩
 |other t d h=>exact h.elim
def DTy.agg_inv {ts:List Ty}{d:D}(h:DTy (.agg ts) d):∃ds,d=.agg ds/\DTys ts ds:=by
 cases h with
 |agg ts ds h=>exact⟨ds,rfl,h⟩
 |other t d h=>exact h.elim
def DTys.cons_inv {t:Ty}{ts:List Ty}{ds:List D}(h:DTys (t::ts) ds):∃d ds',ds=d::ds'/\DTy t d/\DTys ts ds':=by
 cases h with
 |cons h hs=>exact⟨_,_,rfl,h,hs⟩
def DTys.nil_inv {ds:List D}(h:DTys [] ds):ds=[]:=by cases h;rfl
def ky {α:Type}{enc:α->D}{P:α->Prop}{xs:List D}(h:∀x,x∈xs->∃a,x=enc a/\P a):∃l:List α,xs=l.map enc/\∀a,a∈l->P a:=by
 induction xs with
 |nil=>exact⟨[],rfl,λ_ h=>nomatch h⟩
 |cons x xs ih=>
  obtain⟨l,hl,hp⟩:=ih λy hy=>h y (fo _ hy);obtain⟨a,ha,pa⟩:=h x (fO ..)
  exact⟨a::l,by rw[hl,ha];rfl,λb hb=>by
   rcases cA.1 hb with e|hb
   .rw[e];exact pa
   .exact hp b hb⟩
def DTy.ints_inv {d:D}(h:DTy (.slice (.int .i64)) d):∃l:List Int,d=ints l/\l.length<=maxLen/\∀x,x∈l->aZ x:=by
 obtain⟨xs,rfl,hm,hx⟩:=h.slice_inv;obtain⟨l,rfl,hl⟩:=ky (enc:=D.int) (P:=aZ) λx hh=>(hx x hh).i64_inv;exact⟨l,rfl,by simpa using hm,hl⟩
section
variable (O:Env) (T:cK)
@[simp] def aE2 (t:Nat):PE.ev O (.r t)=O.r t:=zyz
@[simp] def aEZ (t:Nat):PE.ev O (.o t)=O.o t:=zyz
@[simp] def aEK (d:D):PE.ev O (.con d)=d:=zyz
@[simp] def aEH (e:PE)(i:Nat):PE.ev O (.cell e i)=(PE.ev O e).c i:=zyz
@[simp] def aFc (e:PE)(a n:Nat):PE.ev O (.sub e a n)=.agg (((PE.ev O e).cells.drop a).take n):=zyz
@[simp] def aE5 (e x:PE)(n:Nat):PE.ev O (.setc e n x)=.agg (dJ (PE.ev O e).cells n (PE.ev O x).cells):=zyz
@[simp] def aES (es:List PE):PE.ev O (.mk es)=.agg (PE.evc O es):=zyz
@[simp] def aEC (op:BinOp)(k:IntKind)(x y:PE):PE.ev O (.ai op k x y)=.v (.int k (bW op k (PE.ev O x).i (PE.ev O y).i)):=zyz
@[simp] def aEI (op:BinOp)(x y:PE):PE.ev O (.ci op x y)=.v (.bool (jL op (PE.ev O x).i (PE.ev O y).i)):=zyz
@[simp] def aEG (op:BinOp)(x y:PE):PE.ev O (.cb op x y)=.v (.bool (Bu op (PE.ev O x).b (PE.ev O y).b)):=zyz
@[simp] def aEM (op:BinOp)(x y:PE):PE.ev O (.cs op x y)=.v (.bool (Bw op (PE.ev O x).s (PE.ev O y).s)):=zyz
@[simp] def aEX (x:PE):PE.ev O (.nt x)=.v (.bool (!(PE.ev O x).b)):=zyz
@[simp] def aEL (k:IntKind)(x:PE):PE.ev O (.conv k x)=.v (.int k (k.wrap (PE.ev O x).i)):=zyz
@[simp] def aE0 (c a b:PE):PE.ev O (.pick c a b)=if(PE.ev O c).b=true then PE.ev O a else PE.ev O b:=by
  simp only[PE.ev];cases(PE.ev O c).b<;>rfl
@[simp] def aET (n:Nat)(e:PE):PE.ev O (aA n e)=kc n (PE.ev O e):=anx O n e
@[simp] def aEF (x:PE):PE.ev O (.bytes x)=.list ((PE.ev O x).s.data.toList.map λb=>.v (.int .u8 b.toNat)):=zyz
@[simp] def aEP (x:PE):PE.ev O (.llen x)=.v (.int .i64 (PE.ev O x).l.length):=zyz
@[simp] def aE9 (x:PE):PE.ev O (.slen x)=.v (.int .i64 (PE.ev O x).s.size):=zyz
@[simp] def aEU (x:PE):PE.ev O (.mlen x)=.v (.int .i64 (PE.ev O x).m.length):=zyz
@[simp] def aEY (x i:PE):PE.ev O (.nth x i)=(PE.ev O x).l.getD (PE.ev O i).i.toNat .none:=zyz
@[simp] def aEO (x i:PE):PE.ev O (.idx x i)=.v (.bool (decide (0<=(PE.ev O i).i/\(PE.ev O i).i<(PE.ev O x).l.length))):=zyz
@[simp] def aE6 (x i y:PE)(n:Nat):PE.ev O (.setn x i n y)=.list ((PE.ev O x).l.set (PE.ev O i).i.toNat (wW ((PE.ev O x).l.getD (PE.ev O i).i.toNat .none) n (PE.ev O y))):=zyz
@[simp] def aEE (x y:PE):PE.ev O (.app x y)=.list ((PE.ev O x).l++(PE.ev O y).l):=zyz
@[simp] def aER (es:List PE):PE.ev O (.lst es)=.list (PE.evs O es):=zyz
@[simp] def aE4 (x y:PE):PE.ev O (.rep x y)=.list (List.replicate (PE.ev O x).i.toNat (PE.ev O y)):=zyz
@[simp] def aE8 (x a b:PE):PE.ev O (.slc x a b)=.list (((PE.ev O x).l.take (PE.ev O b).i.toNat).drop (PE.ev O a).i.toNat):=zyz
@[simp] def aFa (x a b:PE):PE.ev O (.slok x a b)=.v (.bool (decide (0<=(PE.ev O a).i/\(PE.ev O a).i<=(PE.ev O b).i/\(PE.ev O b).i<=(PE.ev O x).l.length))):=zyz
@[simp] def aE3 (x:PE):PE.ev O (.ref x)=.ref (PE.ev O x):=zyz
@[simp] def aEN (x:PE):PE.ev O (.deref x)=(PE.ev O x).deref:=zyz
@[simp] def aEQ (m k z:PE):PE.ev O (.look m k z)=(jc (PE.ev O k) (PE.ev O m).m).getD (PE.ev O z):=zyz
@[simp] def aE1 (m k v:PE):PE.ev O (.put m k v)=.map (fc (PE.ev O k) (PE.ev O v) (PE.ev O m).m):=zyz
@[simp] def aEV (x y:PE):PE.ev O (.mn x y)=if(PE.ev O y).i<(PE.ev O x).i then PE.ev O y else PE.ev O x:=by
  simp only[PE.ev];by_cases h:(PE.ev O y).i<(PE.ev O x).i<;>simp[h]
@[simp] def aEW (x y:PE):PE.ev O (.mx x y)=if(PE.ev O y).i>(PE.ev O x).i then PE.ev O y else PE.ev O x:=by
  simp only[PE.ev];by_cases h:(PE.ev O y).i>(PE.ev O x).i<;>simp[h]
@[simp] def aFe (es:List PE):PE.ev O (.tup es)=.tup (PE.evs O es):=zyz
@[simp] def aFd (x:PE)(i:Nat):PE.ev O (.tget x i)=(PE.ev O x).tget i:=zyz
@[simp] def aEJ (f:Nat)(es:List PE):PE.ev O (.clo f es)=.clo f (PE.evs O es):=zyz
@[simp] def aED (x y:PE):PE.ev O (.an x y)=.v (.bool ((PE.ev O x).b&&(PE.ev O y).b)):=zyz
@[simp] def aFi:PE.evs O []=[]:=zyz
@[simp] def aFh (e:PE)(es:List PE):PE.evs O (e::es)=PE.ev O e::PE.evs O es:=zyz
@[simp] def aFg:PE.evc O []=[]:=zyz
@[simp] def aFf (e:PE)(es:List PE):PE.evc O (e::es)=(PE.ev O e).cells++PE.evc O es:=zyz
@[simp] def amj (x:Bool):(D.bool x).b=x:=zyz
@[simp] def aEw (k:IntKind)(n:Int):(D.v (.int k n)).i=n:=zyz
@[simp] def amt (n:Int):(D.int n).i=n:=zyz
@[simp] def aEr (x:List D):(D.list x).l=x:=zyz
@[simp] def aEp (l:List Int):(ints l).l=l.map .int:=zyz
@[simp] def aEs (x:List (D×D)):(D.map x).m=x:=zyz
@[simp] def aEg (x:List D)(i:Nat):(D.agg x).c i=x.getD i .none:=zyz
@[simp] def aEh (x:List D):(D.agg x).cells=x:=zyz
@[simp] def aEq (x:List D):(D.list x).cells=[.list x]:=zyz
@[simp] def aEo (x:List Int):(ints x).cells=[ints x]:=zyz
@[simp] def aEl (n:Int):(D.int n).cells=[.int n]:=zyz
@[simp] def aEi (n:Bool):(D.bool n).cells=[.bool n]:=zyz
@[simp] def aEv (x:Value):(D.v x).cells=[.v x]:=zyz
@[simp] def aEu (x:List D)(i:Nat):(D.tup x).tget i=x.getD i .none:=zyz
@[simp] def aEt (x:D):(D.ref x).deref=x:=zyz
@[simp] def aHI (s:SE)(t:Nat):(s.ev O).r t=PE.ev O (s.getR t):=zyz
@[simp] def aHH (s:SE)(t:Nat):(s.ev O).o t=PE.ev O (s.getO t):=zyz
@[simp] def aFs (o:List (Nat×PE))(u:Nat):SE.getR ⟨[],o⟩ u=.r u:=zyz
@[simp] def aFr (t:Nat)(e:PE)(r o:List (Nat×PE))(u:Nat):SE.getR ⟨(t,e)::r,o⟩ u=if t=u then e else SE.getR ⟨r,o⟩ u:=by
  simp only[SE.getR,bH];by_cases h:t=u
  .subst h;simp
  .simp[fp h,h]
@[simp] def aFq (r:List (Nat×PE))(u:Nat):SE.getO ⟨r,[]⟩ u=.o u:=zyz
@[simp] def aFp (t:Nat)(e:PE)(r o:List (Nat×PE))(u:Nat):SE.getO ⟨r,(t,e)::o⟩ u=if t=u then e else SE.getO ⟨r,o⟩ u:=by
  simp only[SE.getO,bH];by_cases h:t=u
  .subst h;simp
  .simp[fp h,h]
@[simp] def setR_r (t u:Nat)(d:D):(O.setR t d).r u=if u=t then d else O.r u:=Env.setR_r O t u d
@[simp] def aHO (t u:Nat)(d:D):(O.setR t d).o u=O.o u:=zyz
@[simp] def setO_o (t u:Nat)(d:D):(O.setO t d).o u=if u=t then d else O.o u:=Env.setO_o O t u d
@[simp] def aHN (t u:Nat)(d:D):(O.setO t d).r u=O.r u:=zyz
@[simp] def aHv (lr lo:List Nat)(vr vo:List D)(u:Nat):(O.put lr vr lo vo).r u=putL O.r lr vr u:=zyz
@[simp] def aHu (lr lo:List Nat)(vr vo:List D)(u:Nat):(O.put lr vr lo vo).o u=putL O.o lo vo u:=zyz
@[simp] def join_r (O':Env)(lr lo:List Nat)(u:Nat):(O.join lr lo O').r u=if u∈lr then O'.r u else O.r u:=Env.join_r O O' lr lo u
@[simp] def join_o (O':Env)(lr lo:List Nat)(u:Nat):(O.join lr lo O').o u=if u∈lo then O'.o u else O.o u:=Env.join_o O O' lr lo u
@[simp] def aHs (f:Nat->D)(i:Nat)(is:List Nat)(x:D)(xs:List D)(u:Nat):putL f (i::is) (x::xs) u=if u=i then x else putL f is xs u:=MY f i is x xs u
@[simp] def aHt (f:Nat->D)(xs:List D)(u:Nat):putL f [] xs u=f u:=MZ f xs u
@[simp] def aEz (ds:List D)(u:Nat):(lX ds).r u=ds.getD u .none:=zyz
@[simp] def aF9:holds [] O=true:=zyz
@[simp] def aF8 (g:Nat×Bool)(gs:List (Nat×Bool)):holds (g::gs) O=((O.r g.1).b==g.2&&holds gs O):=zyz
variable (Q:Out->Prop)
@[simp] def aIw (s:SE):aH T (.next s) O Q=Q (.next (s.ev O)):=zyz
@[simp] def aIs (id:Nat)(s:SE):aH T (.exit id s) O Q=Q (.exit id (s.ev O)):=zyz
@[simp] def aIx (e:PE):aH T (.ret e) O Q=Q (.ret (e.ev O)):=zyz
@[simp] def aIr (e:PE)(k:PT):aH T (.chk e k) O Q=((e.ev O).b=true/\aH T k O Q):=zyz
@[simp] def aIt (c:PE)(a b:PT):aH T (.ite c a b) O Q=if(c.ev O).b=true then aH T a O Q else aH T b O Q:=zyz
@[simp] def aIp (s:SE)(gs:List (Nat×Bool))(dst f:Nat)(args:List PE)(k:PT):aH T (.call s gs dst f args k) O Q=if holds gs (s.ev O)=true then ∃d,ah T f (PE.evs O args) d/\aH T k ((s.ev O).setR dst d) Q else aH T k (s.ev O) Q:=zyz
@[simp] def aIv (s:SE)(j f:Nat)(args:List PE)(k:PT):aH T (.mcall s j f args k) O Q=∃d,ah T f (PE.evs O args) d/\aH T k ((s.ev O).setO j d) Q:=zyz
@[simp] def aIu (s:SE)(c:PE)(lr lo:List Nat)(a b k:PT):aH T (.iteS s c lr lo a b k) O Q=if(c.ev O).b=true then aH T a (s.ev O) (lJ (s.ev O) lr lo (gH (λO'=>aH T k O' Q) Q)) else aH T b (s.ev O) (lJ (s.ev O) lr lo (gH (λO'=>aH T k O' Q) Q)):=zyz
@[simp] def aIn (s:SE)(id:Nat)(lr lo:List Nat)(a k:PT):aH T (.blockS s id lr lo a k) O Q=aH T a (s.ev O) (mJ (s.ev O) id lr lo (gH (λO'=>aH T k O' Q) Q)):=zyz
@[simp] def aIo (s:SE)(c:PC)(k:PT):aH T (.brk s c k) O Q=aL T c (s.ev O) (gH (λO'=>aH T k O' Q) Q):=zyz
variable (K:Env->Prop) (id:Nat) (lr lo bE bD:List Nat) (K2:List D->List D->Prop)
@[simp] def aHL (O':Env):gH K Q (.next O')=K O':=zyz
@[simp] def aHK (i:Nat)(O':Env):gH K Q (.exit i O')=Q (.exit i O'):=zyz
@[simp] def aHM (d:D):gH K Q (.ret d)=Q (.ret d):=zyz
@[simp] def aGz (O':Env):lJ O lr lo Q (.next O')=Q (.next (O.join lr lo O')):=zyz
@[simp] def aGA (d:D):lJ O lr lo Q (.ret d)=Q (.ret d):=zyz
@[simp] def aDY (O':Env):mJ O id lr lo Q (.next O')=Q (.next (O.join lr lo O')):=zyz
@[simp] def aDX (i:Nat)(O':Env):mJ O id lr lo Q (.exit i O')=if i=id then Q (.next (O.join lr lo O')) else Q (.exit i O'):=zyz
@[simp] def aDZ (d:D):mJ O id lr lo Q (.ret d)=Q (.ret d):=zyz
@[simp] def aHE (O':Env):ff O id bE bD lr lo K2 Q (.next O')=K2 (lr.map O'.r) (lo.map O'.o):=zyz
@[simp] def aHD (i:Nat)(O':Env):ff O id bE bD lr lo K2 Q (.exit i O')=if i=id then Q (.next (O.put bE (bE.map O'.r) bD (bD.map O'.o))) else Q (.exit i O'):=zyz
@[simp] def aHF (d:D):ff O id bE bD lr lo K2 Q (.ret d)=Q (.ret d):=zyz
@[simp] def aIq (s:SE)(gs:List (Nat×Bool))(dst:Nat)(e:PE)(args:List PE)(k:PT):aH T (.callc s gs dst e args k) O Q=if holds gs (s.ev O)=true then ∃f caps d,e.ev O=.clo f caps/\ah T f (PE.evs O args++caps) d/\aH T k ((s.ev O).setR dst d) Q else aH T k (s.ev O) Q:=zyz
@[simp] def aEx (rt:Option PE)(K3:List D->Prop)(i:Nat)(O':Env):vB O lo rt K3 Q (.exit i O')=if i=cP then ∃e,rt=some e/\Q (.ret (e.ev (O.put [] [] lo (lo.map O'.o)))) else Q (.exit i (O.put [] [] lo (lo.map O'.o))):=zyz
@[simp] def aEA (J:Nat)(ds:List D)(u:Nat):(BC J ds).r u=(D.none::ds).getD u .none:=zyz
def anu (J:Nat)(ds:List D)(u:Nat):(BC J ds).o u=if u=J then .list [] else .none:=by
 show(bif Nat.beq u J then D.list [] else .none)=_;by_cases h:u=J
 .subst h;simp
 .simp[fp h,h]
@[simp] def aHq (p:Nat)(x:D):partsOf [p] x=[x.tget 0]:=zyz
end
section
variable (k:IntKind) (a b:Int)
@[simp] def aDQ:bW .add k a b=k.wrap (a+b):=zyz
@[simp] def aDU:bW .sub k a b=k.wrap (a-b):=zyz
@[simp] def aDR:bW .mul k a b=k.wrap (a*b):=zyz
@[simp] def aDS:bW .quo k a b=k.wrap (a.tdiv b):=zyz
@[simp] def aDT:bW .rem k a b=a.tmod b:=zyz
@[simp] def aD7:jL .eql a b=(a==b):=zyz
@[simp] def aEc:jL .neq a b=(a !=b):=zyz
@[simp] def aEb:jL .lss a b=decide (a<b):=zyz
@[simp] def aEa:jL .leq a b=decide (a<=b):=zyz
@[simp] def aD9:jL .gtr a b=decide (a>b):=zyz
@[simp] def aD8:jL .geq a b=decide (a>=b):=zyz
variable (x y:Bool)
@[simp] def aD0:Bu .eql x y=(x==y):=zyz
@[simp] def aD1:Bu .neq x y=(!(x==y)):=zyz
end
def ah.of_tree {tab:Nat->Option PC}{ext:Nat->Option (aT->List D->Option D)}{f:Nat}{pc:PC}{t:PT}{ds:List D}{d:D}(hx:ext f=none)(ht:tab f=some pc)(he:tree pc=t)(h:aH (eJ tab ext) t (lX ds) (λx=>x=.ret d)):ah (eJ tab ext) f ds d:=
 .of_pc hx ht (OP (he▸h))
@[simp] def aEn (n:Int):D.v (.int .i64 n)=D.int n:=zyz
@[simp] def aEk (b:Bool):D.v (.bool b)=D.bool b:=zyz
@[simp] def aEm (a b:Int):(D.int a=D.int b)=(a=b):=by
  apply propext;constructor
  .intro h;injection h with h;injection h
  .intro h;rw[h]
@[simp] def aEj (a b:Bool):(D.bool a=D.bool b)=(a=b):=by
  apply propext;constructor
  .intro h;injection h with h;injection h
  .intro h;rw[h]
section
variable (c:Prop) [Decidable c] (x y:D)
@[simp] def aGx:(if c then x else y).b=if c then x.b else y.b:=by split<;>rfl
@[simp] def aGy:(if c then x else y).i=if c then x.i else y.i:=by split<;>rfl
end
@[simp] def aIy:IntKind.i64.wrap 1=1:=aO (by omega)
@[simp] def aIz:IntKind.i64.wrap 0=0:=aO (by omega)
end Cx
namespace Cx
open Go
inductive Tm where
 |mk (op n:Int) (args:List Tm)
instance:Inhabited Tm:=⟨.mk 0 0 []⟩
namespace Tm
def op:Tm->Int|.mk o _ _=>o
def n:Tm->Int|.mk _ n _=>n
def args:Tm->List Tm|.mk _ _ aa=>aa
end Tm
mutual
def dN:Tm->D
 |.mk o n aa=>.agg [.int o,.int n,.list (KM aa)]
def KM:List Tm->List D
 |[]=>[]
 |t::ts=>dN t::KM ts
end
def Q3:∀l:List Tm,KM l=l.map dN
 |[]=>rfl
 |t::l=>by rw[KM,Q3 l];rfl
def EX (t:Tm):dN t=.agg [.int t.op,.int t.n,.list (t.args.map dN)]:=by
 cases t with
 |mk o n aa=>rw[dN,Q3];rfl
inductive Tm.OK:Tm->Prop where
 |mk (o n:Int) (aa:List Tm) (h1:aZ o) (h2:aZ n) (h3:aa.length<=maxLen) (h:∀a,a∈aa->Tm.OK a):Tm.OK (.mk o n aa)
def DTy.trm_inv {d:D}(h:DTy .trmA d):∃t:Tm,d=dN t/\t.OK:=by
 suffices hs:∀(m:Nat) (d:D),sizeOf d<=m->DTy .trmA d->∃t:Tm,d=dN t/\t.OK from hs _ d (aX _) h
 intro m
 induction m with
 |zero=>
  intro d hm h;cases d<;>simp at hm
 |succ m ih=>
  intro d hm h;obtain⟨ds,rfl,hs⟩:=DTy.agg_inv h;obtain⟨d1,ds,rfl,h1,hs⟩:=hs.cons_inv;obtain⟨d2,ds,rfl,h2,hs⟩:=hs.cons_inv;obtain⟨d3,ds,rfl,h3,hs⟩:=hs.cons_inv;obtain rfl:=hs.nil_inv;obtain⟨o,rfl,b1⟩:=h1.i64_inv;obtain⟨n,rfl,b2⟩:=h2.i64_inv;obtain⟨xs,rfl,hl,hx⟩:=h3.slice_inv
  obtain⟨l,rfl,ar⟩:=ky (enc:=dN) (P:=Tm.OK) λx hh=>ih x (by
   have:=List.sizeOf_lt_of_mem hh;simp at hm;omega) (hx x hh)
  exact⟨.mk o n l,by rw[dN,Q3],.mk o n l b1 b2 (by simpa using hl) ar⟩
def DTy.trms_inv {d:D}(h:DTy (.slice .trm) d):∃l:List Tm,d=.list (l.map dN)/\l.length<=maxLen/\∀t,t∈l->t.OK:=by
 obtain⟨xs,rfl,hl,hx⟩:=h.slice_inv;obtain⟨l,rfl,ar⟩:=ky (enc:=dN) (P:=Tm.OK) λx hh=>DTy.trm_inv (hx x hh);exact⟨l,rfl,by simpa using hl,ar⟩
def Ow (g:Nat)(zs:List Int):Nat->Option (Ty×D):=λk=>bif Nat.beq k g then some (.agg (zs.map λ_=>.int .i64),.agg (zs.map λz=>.v (.int .i64 z))) else none
def axv {C:Ctx}{g:Nat}{zs:List Int}{name:String}{W:World}(hC:C.glob=Ow g zs)(hg:C.P.globalNamed name=some g)(hz:zs.all (λz=>decide (IntKind.i64.min<=z)&&decide (z<=IntKind.i64.max))=true)
 (h:Lib.TabIs C.P W name .i64 zs) (h0:g<=2:=by decide) (au:0<zs.length:=by decide):CtxOK C (lF W):=by
 have vN:∀g' x,C.glob g'=some x->g'=g:=λg' x hx=>by
  rw[hC] at hx;unfold Ow at hx;cases hk:Nat.beq g' g<;>simp only[hk,zyy,zyx] at hx
  .cases hx
  .exact ay hk
 refine⟨λk x hx=>?_,λk x hx=>?_⟩
 rotate_right
 .obtain rfl:=vN k x hx;exact aee (h.cell hg 0 au)
 rw[hC] at hx;unfold Ow at hx;cases hk:Nat.beq k g<;>simp only[hk,zyy,zyx] at hx
 .cases hx
 cases hx;obtain rfl:=ay hk
 have cW:Rep C.cap (lF W) (.agg (zs.map λ_=>.int .i64)) (.agg (zs.map λz=>Value.int .i64 z).toArray) (.agg (zs.map λz=>.v (.int .i64 z))):=by
  refine .agg _ _ _ (by simp) (by simp) (λi t ht=>?_) (λi t ht=>?_)
  .rw[cj,aB] at ht;obtain⟨z,pP,rfl⟩:=ht;rw[aE,aE,cj,cj,pP];have:=cN.1 hz z (j6 pP);simp only[ao,decide_eq_true_eq] at this;exact .int _ _ this.1 this.2
  .rw[cj,aB] at ht;obtain⟨z,_,rfl⟩:=ht;rfl
 refine .ref _ k 0 _ _ cW λj u hu=>?_;simp only[Value.cells,xx,cj,aB] at hu;obtain⟨z,pP,rfl⟩:=hu;have af:=(eG.1 pP).1;have:=h.cell hg j af;refine aed ?_ (.inl h0);rw[fQ,this,aE,pP];rfl
end Cx
namespace Cx
open Go Go.RowKit
def loops:PC->List PC
 |.seq a b=>loops a++loops b
 |.ite _ _ _ a b=>loops a++loops b
 |.block id lr lo (.loop TD Tx a)=>loops a++[.block id lr lo (.loop TD Tx a)]
 |.block _ _ _ a=>loops a
 |.loop _ _ a=>loops a
 |.each e ps lo rt a=>loops a++[.each e ps lo rt a]
 |.meach J ps da lo a=>loops a++[.meach J ps da lo a]
 |_=>[]
def Qq:PC->PC
 |.block _ _ _ (.loop _ _ a)=>a
 |.each _ _ _ _ a=>a
 |.meach _ _ _ _ a=>a
 |_=>.skip
def Mg (c:PC)(k:Nat):PC:=(loops c).getD k .skip
def rnd:PC->PT
 |.block id lr lo (.loop TD Tx a)=>round id lr lo TD Tx a
 |.each _ _ lo _ a=>sc lo a
 |.meach _ _ _ lo a=>sc lo a
 |_=>.next .id
inductive Shp where
 |lp (id:Nat) (bE bD lr lo:List Nat)
 |ea (lo:List Nat)
 |no
def Dk:PC->Shp
 |.block id bE bD (.loop lr lo _)=>.lp id bE bD lr lo
 |.each _ _ lo _ _=>.ea lo
 |.meach _ _ _ lo _=>.ea lo
 |_=>.no
def told (c:PC):PT×List (Shp×PT):=(tree c,(loops c).map λl=>(Dk l,rnd l))
def OB {o:Option PC}{t:PT}{l:List (Shp×PT)}(h:o.map told=some (t,l)):o=some (o.getD .skip)/\tree (o.getD .skip)=t/\∀k x,l[k]?=some x->(Dk (Mg (o.getD .skip) k),rnd (Mg (o.getD .skip) k))=x:=by
 cases o with
 |none=>cases h
 |some c=>
  have h1:told c=(t,l):=by injection h
  unfold told at h1;injection h1 with h1 h2
  refine⟨rfl,h1,λk x hx=>?_⟩;subst h2;simp only[cj,aB] at hx;obtain⟨y,hy,rfl⟩:=hx;have:Mg ((some c:Option PC).getD .skip) k=y:=by
   show(loops c).getD k .skip=y;rw[aE,hy];rfl
  rw[this]
def awn {c:PC}{id:Nat}{bE bD lr lo:List Nat}{t:PT}(h:(Dk c,rnd c)=(.lp id bE bD lr lo,t)):round id bE bD lr lo (Qq c)=t:=by
 injection h with h1 h2
 subst h2;unfold Dk at h1;split at h1
 .cases h1;rfl
 all_goals cases h1
def anf {c:PC}{lo:List Nat}{t:PT}(h:(Dk c,rnd c)=(.ea lo,t)):sc lo (Qq c)=t:=by
 injection h with h1 h2
 subst h2;unfold Dk at h1;split at h1
 .cases h1
 .cases h1;rfl
 .cases h1;rfl
 .cases h1
def cL {α:Type}(x:α):α:=Classical.choose (⟨x,rfl⟩:∃y,y=x)
def FC {α:Type}(x:α):cL x=x:=aad (⟨x,rfl⟩:∃y,y=x)
def bp (o:Option PC):Nat->PC:=λk=>Qq (Mg (o.getD .skip) k)
abbrev ab (o:Option PC):PC:=cL (o.getD .skip)
abbrev bn (o:Option PC):Nat->PC:=cL (bp o)
section
variable {o:Option PC} {F:(Nat->PC)->PT×List (Shp×PT)}
def axM (h:o.map told=some (F (bp o))):o=some (ab o):=by unfold ab;rw[FC];exact(OB (t:=(F (bp o)).1) (l:=(F (bp o)).2) h).1
def bF (h:o.map told=some (F (bp o))):tree (ab o)=(F (bn o)).1:=by unfold ab bn;rw[FC,FC];exact(OB (t:=(F (bp o)).1) (l:=(F (bp o)).2) h).2.1
def bh (h:o.map told=some (F (bp o)))(k:Nat){id:Nat}{bE bD lr lo:List Nat}{t:(Nat->PC)->PT}(hk:∀b,(F b).2[k]?=some (.lp id bE bD lr lo,t b)):round id bE bD lr lo (bn o k)=t (bn o):=by
 unfold bn;rw[FC];exact awn ((OB (t:=(F (bp o)).1) (l:=(F (bp o)).2) h).2.2 k _ (hk _))
def W7 (h:o.map told=some (F (bp o)))(k:Nat){lo:List Nat}{t:(Nat->PC)->PT}(hk:∀b,(F b).2[k]?=some (.ea lo,t b)):sc lo (bn o k)=t (bn o):=by
 unfold bn;rw[FC];exact anf ((OB (t:=(F (bp o)).1) (l:=(F (bp o)).2) h).2.2 k _ (hk _))
end
def aw {α:Type}{R:Nat->α->Prop}{f:Nat}{x:α}{l:List (Nat×α)}(h:R f x)(k:IG R l):IG R ((f,x)::l):=⟨h,k⟩
def ae3 {α:Type}:∀{l:List (Nat×α)},(l.map (·.1)).Nodup->∀{k f:Nat} {x:α},l[k]?=some (f,x)->bH l f=some x
 |[],_,k,f,x,h=>by simp at h
 |y::l,hn,0,f,x,h=>by
  simp only[O9,ba] at h;subst h;simp[bH]
 |y::l,hn,k+1,f,x,h=>by
  simp only[IP] at h;rw[iO,pg] at hn;have hm:f∈l.map (·.1):=cr.2 ⟨(f,x),j6 h,rfl⟩;have hb:Nat.beq y.1 f=false:=by
   cases e:Nat.beq y.1 f with
   |false=>rfl
   |true=>rw[dC e] at hn;exact absurd hm hn.1
  simp only[bH,hb,zyx];exact ae3 hn.2 h
abbrev pT:PE:=.con (.bool true)
abbrev pF:PE:=.con (.bool false)
abbrev pN:PE:=.con .none
abbrev pL:PE:=.con (.list [])
abbrev pi (n:Int):PE:=.con (.int n)
abbrev aF (a b:PE):PE:=.ai .add .i64 a b
abbrev bm (a b:PE):PE:=.ai .sub .i64 a b
abbrev peq (a b:PE):PE:=.ci .eql a b
abbrev aI (a b:PE):PE:=.ci .neq a b
abbrev aj (a b:PE):PE:=.ci .lss a b
abbrev bI (a b:PE):PE:=.ci .leq a b
abbrev aS (a b:PE):PE:=.ci .gtr a b
abbrev bk (a b:PE):PE:=.ci .geq a b
abbrev pc (a:PE)(i:Nat):PE:=.cell a i
abbrev pn (a b:PE):PE:=.nth a b
abbrev aq (a b:PE):PE:=.idx a b
abbrev z2:PE:=.con (.agg [(.int 0),(.int 0)])
abbrev z3:PE:=.con (.agg [(.int 0),(.int 0),(.int 0)])
abbrev z4:PE:=.con (.agg [(.int 0),(.int 0),(.int 0),(.int 0)])
abbrev z5:PE:=.con (.agg [(.int 0),(.int 0),(.int 0),(.int 0),(.int 0)])
abbrev z6:PE:=.con (.agg [(.int 0),(.int 0),(.int 0),(.int 0),(.int 0),(.int 0)])
abbrev z9:PE:=.con (.agg [(.int 0),(.int 0),(.int 0),(.int 0),(.int 0),(.int 0),(.int 0),(.int 0),(.int 0)])
abbrev IE:PE:=.con (.agg [(.int 0),(.int 0),(.int 0),(.int 0),(.int 0),(.int 0),(.int 0),(.int 0),(.int 0),(.int 0),(.int 0),(.int 0),(.int 0),(.int 0),(.int 0)])
abbrev r0:PE:=.r 0
abbrev r1:PE:=.r 1
abbrev r2:PE:=.r 2
abbrev r3:PE:=.r 3
abbrev r4:PE:=.r 4
abbrev r5:PE:=.r 5
abbrev r6:PE:=.r 6
abbrev r7:PE:=.r 7
abbrev r8:PE:=.r 8
abbrev r9:PE:=.r 9
abbrev dw:PE:=.r 10
abbrev bK:PE:=.r 11
abbrev bR:PE:=.r 12
abbrev dx:PE:=.r 13
abbrev bX:PE:=.r 14
abbrev de:PE:=.r 15
abbrev bN:PE:=.r 16
abbrev jW:PE:=.r 17
abbrev cf:PE:=.r 18
abbrev jC:PE:=.r 19
abbrev fe:PE:=.r 20
abbrev jh:PE:=.r 21
abbrev qg:PE:=.r 22
abbrev gY:PE:=.r 23
abbrev ji:PE:=.r 24
abbrev jX:PE:=.r 25
abbrev mj:PE:=.r 26
abbrev eF:PE:=.r 27
abbrev tA:PE:=.r 28
abbrev ml:PE:=.r 29
abbrev rR:PE:=.r 30
abbrev rS:PE:=.r 31
abbrev wI:PE:=.r 32
abbrev rT:PE:=.r 33
abbrev G3:PE:=.r 34
abbrev rU:PE:=.r 35
abbrev la:PE:=.r 36
abbrev mm:PE:=.r 37
abbrev jD:PE:=.r 38
abbrev qh:PE:=.r 39
abbrev qj:PE:=.r 40
abbrev tB:PE:=.r 41
abbrev Nu:PE:=.r 42
abbrev u7:PE:=.r 43
abbrev wJ:PE:=.r 44
abbrev rV:PE:=.r 45
abbrev CZ:PE:=.r 46
abbrev C0:PE:=.r 47
abbrev jY:PE:=.r 48
abbrev oO:PE:=.r 49
abbrev nl:PE:=.r 50
abbrev kA:PE:=.r 51
abbrev C1:PE:=.r 52
abbrev Vw:PE:=.r 53
abbrev mq:PE:=.r 54
abbrev C2:PE:=.r 55
abbrev tC:PE:=.r 56
abbrev Nv:PE:=.r 57
abbrev G4:PE:=.r 58
abbrev r59:PE:=.r 59
abbrev G5:PE:=.r 60
abbrev G6:PE:=.r 61
abbrev oP:PE:=.r 62
abbrev Nw:PE:=.r 63
abbrev nm:PE:=.r 64
abbrev C3:PE:=.r 65
abbrev r66:PE:=.r 66
abbrev wK:PE:=.r 67
abbrev r68:PE:=.r 68
abbrev zE:PE:=.r 69
abbrev r70:PE:=.r 70
abbrev G7:PE:=.r 72
abbrev G8:PE:=.r 73
abbrev Nx:PE:=.r 74
abbrev Vx:PE:=.r 75
abbrev u9:PE:=.r 76
abbrev r77:PE:=.r 77
abbrev r78:PE:=.r 78
abbrev r79:PE:=.r 79
abbrev zF:PE:=.r 80
abbrev wL:PE:=.r 81
abbrev lQ:PE:=.r 82
abbrev r84:PE:=.r 84
abbrev C4:PE:=.r 85
abbrev r86:PE:=.r 86
abbrev r87:PE:=.r 87
abbrev Ny:PE:=.r 88
abbrev r89:PE:=.r 89
abbrev r90:PE:=.r 90
abbrev Vy:PE:=.r 92
abbrev Nz:PE:=.r 93
abbrev r94:PE:=.r 94
abbrev r95:PE:=.r 95
abbrev r96:PE:=.r 96
abbrev r97:PE:=.r 97
abbrev r98:PE:=.r 98
abbrev r99:PE:=.r 99
abbrev aia:PE:=.r 103
abbrev avW:PE:=.r 104
abbrev Nr:PE:=.r 106
abbrev avX:PE:=.r 107
abbrev Ns:PE:=.r 108
abbrev aib:PE:=.r 109
abbrev avY:PE:=.r 111
abbrev Vv:PE:=.r 112
abbrev Nt:PE:=.r 113
abbrev aHw:PE:=.r 115
abbrev avZ:PE:=.r 121
abbrev aHx:PE:=.r 124
abbrev av0:PE:=.r 127
abbrev o0:PE:=.o 0
abbrev o1:PE:=.o 1
abbrev o2:PE:=.o 2
abbrev o3:PE:=.o 3
abbrev o4:PE:=.o 4
abbrev o5:PE:=.o 5
abbrev o6:PE:=.o 6
abbrev o7:PE:=.o 7
abbrev o8:PE:=.o 8
abbrev o9:PE:=.o 9
abbrev cm:PE:=.o 10
abbrev o11:PE:=.o 11
abbrev TQ:PE:=.o 12
abbrev TR:PE:=.o 13
abbrev o14:PE:=.o 14
abbrev o16:PE:=.o 16
abbrev Mt:PE:=.o 17
abbrev o22:PE:=.o 22
abbrev o23:PE:=.o 23
abbrev Mu:PE:=.o 45
end Cx
