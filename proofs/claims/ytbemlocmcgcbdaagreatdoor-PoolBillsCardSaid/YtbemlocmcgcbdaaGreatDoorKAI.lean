/-
  Shared texts of this claim.
-/
import Derived.Test.YtbemlocmcgcbdaaGreatDoorKAH
import Derived.Lib.LaidTab
set_option linter.defProp false
set_option linter.unusedSimpArgs false
set_option linter.unusedVariables false
noncomputable section
namespace Cx
open Go Go.RowKit
structure SE where
 r:List (Nat×PE)
 o:List (Nat×PE)
def SE.getR (s:SE)(t:Nat):PE:=match bI s.r t with|some e=>e|none=>.r t
def SE.getO (s:SE)(t:Nat):PE:=match bI s.o t with|some e=>e|none=>.o t
def SE.setR (s:SE)(t:Nat)(e:PE):SE:=⟨(t,e)::s.r,s.o⟩
def SE.setO (s:SE)(t:Nat)(e:PE):SE:=⟨s.r,(t,e)::s.o⟩
def SE.id:SE:=⟨[],[]⟩
def SE.ev (s:SE)(O:Env):Env:=⟨λt=>(s.getR t).ev O,λt=>(s.getO t).ev O⟩
def SE.join (s:SE)(lr lo:List Nat)(s':SE):SE:=⟨lr.map (λt=>(t,s'.getR t))++s.r,lo.map (λt=>(t,s'.getO t))++s.o⟩
def SE.setR_ev (s:SE)(t:Nat)(e:PE)(O:Env):(s.setR t e).ev O=(s.ev O).setR t (e.ev O):=by
 have h:(λu=>((s.setR t e).getR u).ev O)=bZ (λu=>(s.getR u).ev O) t (e.ev O):=by
  funext u;simp only[SE.getR,SE.setR,bI,fq];by_cases h:t=u
  .subst h;simp
  .have h':¬u=t:=λe=>h e.symm;simp[fS h,h']
 simp only[SE.ev,Env.setR];rw[h];rfl
def SE.setO_ev (s:SE)(t:Nat)(e:PE)(O:Env):(s.setO t e).ev O=(s.ev O).setO t (e.ev O):=by
 have h:(λu=>((s.setO t e).getO u).ev O)=bZ (λu=>(s.getO u).ev O) t (e.ev O):=by
  funext u;simp only[SE.getO,SE.setO,bI,fq];by_cases h:t=u
  .subst h;simp
  .have h':¬u=t:=λe=>h e.symm;simp[fS h,h']
 simp only[SE.ev,Env.setO];rw[h];rfl
def zL {f:Nat->PE}{l:List (Nat×PE)}{u:Nat}:∀(lr:List Nat),bI (lr.map (λt=>(t,f t))++l) u=if u∈lr then some (f u) else bI l u
 |[]=>by simp
 |t::lr=>by
  simp only[iy,Je,bI,zL lr,cv];by_cases h:t=u
  .subst h;simp
  .have h':¬u=t:=λe=>h e.symm;simp[fS h,h']
def SE.join_ev (s s':SE)(lr lo:List Nat)(O:Env):(s.join lr lo s').ev O=(s.ev O).join lr lo (s'.ev O):=by
 have h1:∀u,((s.join lr lo s').getR u).ev O=((s.ev O).join lr lo (s'.ev O)).r u:=by
  intro u;rw[Env.join_r];have e:bI (s.join lr lo s').r u=if u∈lr then some (s'.getR u) else bI s.r u:=zL lr;unfold SE.getR;rw[e];by_cases h:u∈lr
  .simp only[h,if_true];rfl
  .simp only[h,if_false];rfl
 have h2:∀u,((s.join lr lo s').getO u).ev O=((s.ev O).join lr lo (s'.ev O)).o u:=by
  intro u;rw[Env.join_o];have e:bI (s.join lr lo s').o u=if u∈lo then some (s'.getO u) else bI s.o u:=zL lo;unfold SE.getO;rw[e];by_cases h:u∈lo
  .simp only[h,if_true];rfl
  .simp only[h,if_false];rfl
 have e1:(λu=>((s.join lr lo s').getR u).ev O)=((s.ev O).join lr lo (s'.ev O)).r:=funext h1;have e2:(λu=>((s.join lr lo s').getO u).ev O)=((s.ev O).join lr lo (s'.ev O)).o:=funext h2;show Env.mk _ _=_;rw[e1,e2]
abbrev bR:=List (PE×Bool)
def bR.ok (ae:bR)(O:Env):Prop:=∀x,x∈ae->(x.1.ev O).b=x.2
def JA (e:PE):bR->Option Bool
 |[]=>none
 |x::l=>bif PE.beq x.1 e then some x.2 else JA e l
def abL {e:PE}{O:Env}{b:Bool}:∀{ae:bR},ae.ok O->JA e ae=some b->(e.ev O).b=b
 |[],_,h=>by cases h
 |x::l,ax,h=>by
  simp only[JA] at h;cases hb:PE.beq x.1 e<;>simp only[hb,zyy,zyx] at h
  .exact abL (λy hy=>ax y (fy _ hy)) h
  .cases h;rw[<-PE.beq_eq _ _ hb];exact ax x (fQ ..)
def xB (ae:bR):PE->Option Bool
 |.con (.v (.bool b))=>some b
 |.nt x=>(xB ae x).map (!·)
 |e=>JA e ae
def AJ {ae:bR}{O:Env}(h:ae.ok O):∀{e:PE} {b:Bool},xB ae e=some b->(e.ev O).b=b
 |.con (.v (.bool b)),b',he=>by simp only[xB,bj] at he;subst he;rfl
 |.nt x,b',he=>by
  simp only[xB,aB] at he;obtain⟨c,hc,rfl⟩:=he;simp only[PE.ev,D.b_bool,AJ h hc]
 |e,b',he=>by
  unfold xB at he;split at he
  .cases he;rfl
  .rename_i x;simp only[aB] at he;obtain⟨c,hc,rfl⟩:=he;simp only[PE.ev,D.b_bool,AJ h hc]
  .exact abL h he
def vc (ae:bR)(c a b:PE):PE:=match xB ae c with|some true=>a|some false=>b|none=>.pick c a b
def VL {ae:bR}{O:Env}(h:ae.ok O)(c a b:PE):(vc ae c a b).ev O=(PE.pick c a b).ev O:=by
 unfold vc;split
 .rename_i ht;simp[PE.ev,AJ h ht]
 .rename_i ht;simp[PE.ev,AJ h ht]
 .rfl
def Rc:PE->PE
 |.ref x=>x
 |x=>.deref x
def anW (x:PE)(O:Env):(Rc x).ev O=(PE.deref x).ev O:=by unfold Rc;split<;>rfl
def XW:PE->Nat->PE
 |.tup es,i=>es.getD i (.con .none)
 |x,i=>.tget x i
def aA7 (x:PE)(i:Nat)(O:Env):(XW x i).ev O=(PE.tget x i).ev O:=by
 unfold XW;split
 .rename_i es;simp only[PE.ev,D.tget_tup,PE.evs_eq,aH,cq];cases es[i]?<;>rfl
 .rfl
def G4:PE->Bool
 |.ai ..|.ci ..|.cb ..|.cs ..|.sadd ..|.nt _|.conv ..|.llen _|.bytes _|.slen _|.mlen _|.idx ..|.sidx ..|.sok ..|.slok ..|.lst _|.app ..|.setn ..|.rep ..|.slc ..|.ref _|.has ..|.put ..|.an ..|.imp ..|.tup _|.clo ..=>true
 |.con (.v _)|.con (.list _)|.con (.map _)=>true
 |_=>false
def axF {e:PE}(h:G4 e=true)(O:Env):(e.ev O).cells=[e.ev O]:=by
 unfold G4 at h;split at h<;>first|rfl|cases h
def QV:PE->Nat->PE
 |.mk es,i=>bif es.all G4 then es.getD i (.con .none) else .cell (.mk es) i
 |x,i=>.cell x i
def ac7 {O:Env}:∀{es:List PE},es.all G4=true->PE.evc O es=PE.evs O es
 |[],_=>rfl
 |e::es,h=>by
  simp only[sv,au] at h;simp only[PE.evc,PE.evs,axF h.1,ac7 h.2];rfl
def amV (x:PE)(i:Nat)(O:Env):(QV x i).ev O=(PE.cell x i).ev O:=by
 unfold QV;split
 .rename_i es;cases hc:es.all G4
  .rfl
  .simp only[zyy,PE.ev,ac7 hc,D.c_agg,PE.evs_eq,aH,cq];cases es[i]?<;>rfl
 .rfl
def FF (s:SE):List (Nat×Bool)->PE
 |[]=>.con (.v (.bool true))
 |g::gs=>.an (bif g.2 then s.getR g.1 else .nt (s.getR g.1)) (FF s gs)
def adB (s:SE)(O:Env):∀gs,((FF s gs).ev O).b=holds gs (s.ev O)
 |[]=>rfl
 |g::gs=>by
  have ih:=adB s O gs;rw[asX,<-ih];have e:((s.ev O).r g.1)=(s.getR g.1).ev O:=rfl;rw[e];cases hg:g.2
  .simp only[FF,hg,zyx,PE.ev,D.b_bool];cases((s.getR g.1).ev O).b<;>rfl
  .simp only[FF,hg,zyy,PE.ev,D.b_bool];cases((s.getR g.1).ev O).b<;>rfl
mutual
def PE.sub' (ae:bR)(s:SE):PE->PE
 |.r t=>s.getR t
 |.o j=>s.getO j
 |.con d=>.con d
 |.cell e i=>QV (PE.sub' ae s e) i
 |.sub e a b=>.sub (PE.sub' ae s e) a b
 |.setc e q x=>.setc (PE.sub' ae s e) q (PE.sub' ae s x)
 |.mk es=>.mk (PE.subs' ae s es)
 |.ai op k x y=>.ai op k (PE.sub' ae s x) (PE.sub' ae s y)
 |.ci op x y=>.ci op (PE.sub' ae s x) (PE.sub' ae s y)
 |.cb op x y=>.cb op (PE.sub' ae s x) (PE.sub' ae s y)
 |.cs op x y=>.cs op (PE.sub' ae s x) (PE.sub' ae s y)
 |.sadd x y=>.sadd (PE.sub' ae s x) (PE.sub' ae s y)
 |.nt x=>.nt (PE.sub' ae s x)
 |.conv k x=>.conv k (PE.sub' ae s x)
 |.pick c a b=>vc ae (PE.sub' ae s c) (PE.sub' ae s a) (PE.sub' ae s b)
 |.llen x=>.llen (PE.sub' ae s x)
 |.bytes x=>.bytes (PE.sub' ae s x)
 |.slen x=>.slen (PE.sub' ae s x)
 |.mlen x=>.mlen (PE.sub' ae s x)
 |.nth x y=>.nth (PE.sub' ae s x) (PE.sub' ae s y)
 |.idx x y=>.idx (PE.sub' ae s x) (PE.sub' ae s y)
 |.sidx x y=>.sidx (PE.sub' ae s x) (PE.sub' ae s y)
 |.sok x y=>.sok (PE.sub' ae s x) (PE.sub' ae s y)
 |.setn x y n z=>.setn (PE.sub' ae s x) (PE.sub' ae s y) n (PE.sub' ae s z)
 |.app x y=>.app (PE.sub' ae s x) (PE.sub' ae s y)
 |.lst es=>.lst (PE.subs' ae s es)
 |.rep x y=>.rep (PE.sub' ae s x) (PE.sub' ae s y)
 |.slc x y z=>.slc (PE.sub' ae s x) (PE.sub' ae s y) (PE.sub' ae s z)
 |.slok x y z=>.slok (PE.sub' ae s x) (PE.sub' ae s y) (PE.sub' ae s z)
 |.ref x=>.ref (PE.sub' ae s x)
 |.deref x=>Rc (PE.sub' ae s x)
 |.look x y z=>.look (PE.sub' ae s x) (PE.sub' ae s y) (PE.sub' ae s z)
 |.has x y=>.has (PE.sub' ae s x) (PE.sub' ae s y)
 |.put x y z=>.put (PE.sub' ae s x) (PE.sub' ae s y) (PE.sub' ae s z)
 |.mn x y=>.mn (PE.sub' ae s x) (PE.sub' ae s y)
 |.mx x y=>.mx (PE.sub' ae s x) (PE.sub' ae s y)
 |.tup es=>.tup (PE.subs' ae s es)
 |.tget x i=>XW (PE.sub' ae s x) i
 |.clo f es=>.clo f (PE.subs' ae s es)
 |.an x y=>.an (PE.sub' ae s x) (PE.sub' ae s y)
 |.imp c x=>.nt (.an (FF s c) (.nt (PE.sub' ae s x)))
def PE.subs' (ae:bR)(s:SE):List PE->List PE
 |[]=>[]
 |e::es=>PE.sub' ae s e::PE.subs' ae s es
end
mutual
def PE.sub_ev {ae:bR}{O:Env}(h:ae.ok O)(s:SE):∀(e:PE),(PE.sub' ae s e).ev O=e.ev (s.ev O)
 |.r t=>rfl
 |.o j=>rfl
 |.con d=>rfl
 |.cell e i=>by simp only[PE.sub',amV,PE.ev,PE.sub_ev h s e]
 |.sub e a b=>by simp only[PE.sub',PE.ev,PE.sub_ev h s e]
 |.setc e q x=>by simp only[PE.sub',PE.ev,PE.sub_ev h s e,PE.sub_ev h s x]
 |.mk es=>by simp only[PE.sub',PE.ev,PE.subc_ev h s es]
 |.ai op k x y=>by simp only[PE.sub',PE.ev,PE.sub_ev h s x,PE.sub_ev h s y]
 |.ci op x y=>by simp only[PE.sub',PE.ev,PE.sub_ev h s x,PE.sub_ev h s y]
 |.cb op x y=>by simp only[PE.sub',PE.ev,PE.sub_ev h s x,PE.sub_ev h s y]
 |.cs op x y=>by simp only[PE.sub',PE.ev,PE.sub_ev h s x,PE.sub_ev h s y]
 |.sadd x y=>by simp only[PE.sub',PE.ev,PE.sub_ev h s x,PE.sub_ev h s y]
 |.nt x=>by simp only[PE.sub',PE.ev,PE.sub_ev h s x]
 |.conv k x=>by simp only[PE.sub',PE.ev,PE.sub_ev h s x]
 |.pick c a b=>by simp only[PE.sub',VL h,PE.ev,PE.sub_ev h s c,PE.sub_ev h s a,PE.sub_ev h s b]
 |.llen x=>by simp only[PE.sub',PE.ev,PE.sub_ev h s x]
 |.bytes x=>by simp only[PE.sub',PE.ev,PE.sub_ev h s x]
 |.slen x=>by simp only[PE.sub',PE.ev,PE.sub_ev h s x]
 |.mlen x=>by simp only[PE.sub',PE.ev,PE.sub_ev h s x]
 |.nth x y=>by simp only[PE.sub',PE.ev,PE.sub_ev h s x,PE.sub_ev h s y]
 |.idx x y=>by simp only[PE.sub',PE.ev,PE.sub_ev h s x,PE.sub_ev h s y]
 |.sidx x y=>by simp only[PE.sub',PE.ev,PE.sub_ev h s x,PE.sub_ev h s y]
 |.sok x y=>by simp only[PE.sub',PE.ev,PE.sub_ev h s x,PE.sub_ev h s y]
 |.setn x y n z=>by simp only[PE.sub',PE.ev,PE.sub_ev h s x,PE.sub_ev h s y,PE.sub_ev h s z]
 |.app x y=>by simp only[PE.sub',PE.ev,PE.sub_ev h s x,PE.sub_ev h s y]
 |.lst es=>by simp only[PE.sub',PE.ev,PE.subs_ev h s es]
 |.rep x y=>by simp only[PE.sub',PE.ev,PE.sub_ev h s x,PE.sub_ev h s y]
 |.slc x y z=>by simp only[PE.sub',PE.ev,PE.sub_ev h s x,PE.sub_ev h s y,PE.sub_ev h s z]
 |.slok x y z=>by simp only[PE.sub',PE.ev,PE.sub_ev h s x,PE.sub_ev h s y,PE.sub_ev h s z]
 |.ref x=>by simp only[PE.sub',PE.ev,PE.sub_ev h s x]
 |.deref x=>by simp only[PE.sub',anW,PE.ev,PE.sub_ev h s x]
 |.look x y z=>by simp only[PE.sub',PE.ev,PE.sub_ev h s x,PE.sub_ev h s y,PE.sub_ev h s z]
 |.has x y=>by simp only[PE.sub',PE.ev,PE.sub_ev h s x,PE.sub_ev h s y]
 |.put x y z=>by simp only[PE.sub',PE.ev,PE.sub_ev h s x,PE.sub_ev h s y,PE.sub_ev h s z]
 |.mn x y=>by simp only[PE.sub',PE.ev,PE.sub_ev h s x,PE.sub_ev h s y]
 |.mx x y=>by simp only[PE.sub',PE.ev,PE.sub_ev h s x,PE.sub_ev h s y]
 |.tup es=>by simp only[PE.sub',PE.ev,PE.subs_ev h s es]
 |.tget x i=>by simp only[PE.sub',aA7,PE.ev,PE.sub_ev h s x]
 |.clo f es=>by simp only[PE.sub',PE.ev,PE.subs_ev h s es]
 |.an x y=>by simp only[PE.sub',PE.ev,PE.sub_ev h s x,PE.sub_ev h s y]
 |.imp c x=>by
  simp only[PE.sub',PE.ev,D.b_bool,adB,PE.sub_ev h s x];cases holds c (s.ev O)<;>cases(x.ev (s.ev O)).b<;>rfl
def PE.subs_ev {ae:bR}{O:Env}(h:ae.ok O)(s:SE):∀(es:List PE),PE.evs O (PE.subs' ae s es)=PE.evs (s.ev O) es
 |[]=>rfl
 |e::es=>by simp only[PE.subs',PE.evs,PE.sub_ev h s e,PE.subs_ev h s es]
def PE.subc_ev {ae:bR}{O:Env}(h:ae.ok O)(s:SE):∀(es:List PE),PE.evc O (PE.subs' ae s es)=PE.evc (s.ev O) es
 |[]=>rfl
 |e::es=>by simp only[PE.subs',PE.evc,PE.sub_ev h s e,PE.subc_ev h s es]
end
inductive PT where
 |next (s:SE)
 |exit (id:Nat) (s:SE)
 |ret (e:PE)
 |chk (e:PE) (k:PT)
 |ite (c:PE) (a b:PT)
 |call (s:SE) (gs:List (Nat×Bool)) (dst f:Nat) (args:List PE) (k:PT)
 |callc (s:SE) (gs:List (Nat×Bool)) (dst:Nat) (e:PE) (args:List PE) (k:PT)
 |mcall (s:SE) (j f:Nat) (args:List PE) (k:PT)
 |iteS (s:SE) (c:PE) (lr lo:List Nat) (a b k:PT)
 |blockS (s:SE) (id:Nat) (lr lo:List Nat) (a k:PT)
 |brk (s:SE) (c:PC) (k:PT)
def aI (T:cH):PT->Env->(Out->Prop)->Prop
 |.next s,O,Q=>Q (.next (s.ev O))
 |.exit id s,O,Q=>Q (.exit id (s.ev O))
 |.ret e,O,Q=>Q (.ret (e.ev O))
 |.chk e k,O,Q=>(e.ev O).b=true/\aI T k O Q
 |.ite c a b,O,Q=>if(c.ev O).b=true then aI T a O Q else aI T b O Q
 |.call s gs dst f args k,O,Q=>if holds gs (s.ev O)=true then ∃d,aj T f (PE.evs O args) d/\aI T k ((s.ev O).setR dst d) Q else aI T k (s.ev O) Q
 |.callc s gs dst e args k,O,Q=>if holds gs (s.ev O)=true then ∃f caps d,e.ev O=.clo f caps/\aj T f (PE.evs O args++caps) d/\aI T k ((s.ev O).setR dst d) Q else aI T k (s.ev O) Q
 |.mcall s j f args k,O,Q=>∃d,aj T f (PE.evs O args) d/\aI T k ((s.ev O).setO j d) Q
 |.iteS s c lr lo a b k,O,Q=>if(c.ev O).b=true then aI T a (s.ev O) (lS (s.ev O) lr lo (gM (λO'=>aI T k O' Q) Q)) else aI T b (s.ev O) (lS (s.ev O) lr lo (gM (λO'=>aI T k O' Q) Q))
 |.blockS s id lr lo a k,O,Q=>aI T a (s.ev O) (mO (s.ev O) id lr lo (gM (λO'=>aI T k O' Q) Q))
 |.brk s c k,O,Q=>aK T c (s.ev O) (gM (λO'=>aI T k O' Q) Q)
def qf:PI->Bool
 |.setR ..|.setO ..|.chk _=>true
 |_=>false
def dU:PC->Bool
 |.loop ..=>false
 |.each ..=>false
 |.meach ..=>false
 |.seq a b=>dU a&&dU b
 |.ite _ _ _ a b=>dU a&&dU b
 |.block _ _ _ a=>dU a
 |.is l=>l.all qf
 |_=>true
abbrev Kn:=bR->SE->PT
abbrev Kx:=bR->Nat->SE->PT
def po:List PI->bR->SE->Kn->PT
 |[],ae,s,k=>k ae s
 |.setR t e::l,ae,s,k=>po l ae (s.setR t (e.sub' ae s)) k
 |.setO t e::l,ae,s,k=>po l ae (s.setO t (e.sub' ae s)) k
 |.chk e::l,ae,s,k=>
  match xB ae (e.sub' ae s) with
  |some true=>po l ae s k
  |_=>.chk (e.sub' ae s) (po l ((e.sub' ae s,true)::ae) s k)
 |.call gs dst f args::l,ae,s,k=>.call s gs dst f (PE.subs' ae s args) (po l [] .id k)
 |.callc gs dst e args::l,ae,s,k=>.callc s gs dst (e.sub' ae s) (PE.subs' ae s args) (po l [] .id k)
 |.mcall j f args::l,ae,s,k=>.mcall s j f (PE.subs' ae s args) (po l [] .id k)
def SE.merge (s:SE)(ae:bR)(lr lo:List Nat)(c:PE)(a b:SE):SE:=⟨lr.map (λt=>(t,vc ae c (a.getR t) (b.getR t)))++s.r,lo.map (λt=>(t,vc ae c (a.getO t) (b.getO t)))++s.o⟩
def rK:List PI->bR->SE->Option SE
 |[],_,s=>some s
 |.setR t e::l,ae,s=>rK l ae (s.setR t (e.sub' ae s))
 |.setO t e::l,ae,s=>rK l ae (s.setO t (e.sub' ae s))
 |_::_,_,_=>none
def plain:PC->bR->SE->Option SE
 |.skip,_,s=>some s
 |.is l,ae,s=>rK l ae s
 |.seq a b,ae,s=>(plain a ae s).bind λs=>plain b ae s
 |.ite c lr lo a b,ae,s=>(plain a ae s).bind λsa=>(plain b ae s).map λsb=>s.merge ae lr lo (c.sub' ae s) sa sb
 |_,_,_=>none
def aft:PC->Bool
 |.loop ..=>true
 |_=>false
def sx:PC->bR->SE->Kn->Kx->PT
 |.skip,ae,s,k,_=>k ae s
 |.is l,ae,s,k,_=>po l ae s k
 |.seq a b,ae,s,k,kx=>sx a ae s (λae s=>sx b ae s k kx) kx
 |.ite c lr lo a b,ae,s,k,kx=>
  match xB ae (c.sub' ae s) with
  |some true=>bif dU a then sx a ae s (λae s'=>k ae (s.join lr lo s')) kx else .iteS s (c.sub' ae s) lr lo (sx a [] .id (λ_ s=>.next s) (λ_ id s=>.exit id s)) (sx b [] .id (λ_ s=>.next s) (λ_ id s=>.exit id s)) (k [] .id)
  |some false=>bif dU b then sx b ae s (λae s'=>k ae (s.join lr lo s')) kx else .iteS s (c.sub' ae s) lr lo (sx a [] .id (λ_ s=>.next s) (λ_ id s=>.exit id s)) (sx b [] .id (λ_ s=>.next s) (λ_ id s=>.exit id s)) (k [] .id)
  |none=>
   match plain a ae s,plain b ae s with
   |some sa,some sb=>k ae (s.merge ae lr lo (c.sub' ae s) sa sb)
   |_,_=>
   bif dU a&&dU b then
    .ite (c.sub' ae s) (sx a ((c.sub' ae s,true)::ae) s (λae s'=>k ae (s.join lr lo s')) kx) (sx b ((c.sub' ae s,false)::ae) s (λae s'=>k ae (s.join lr lo s')) kx)
   else .iteS s (c.sub' ae s) lr lo (sx a [] .id (λ_ s=>.next s) (λ_ id s=>.exit id s)) (sx b [] .id (λ_ s=>.next s) (λ_ id s=>.exit id s)) (k [] .id)
 |.block id lr lo a,ae,s,k,kx=>
  bif dU a then sx a ae s (λae s'=>k ae (s.join lr lo s')) (λae bO s'=>bif Nat.beq bO id then k ae (s.join lr lo s') else kx ae bO s')
  else bif aft a then .brk s (.block id lr lo a) (k [] .id)
  else .blockS s id lr lo (sx a [] .id (λ_ s=>.next s) (λ_ id s=>.exit id s)) (k [] .id)
 |.loop lr lo a,_,s,k,_=>.brk s (.loop lr lo a) (k [] .id)
 |.each e ps lo rt a,_,s,k,_=>.brk s (.each e ps lo rt a) (k [] .id)
 |.meach J ps cO lo a,_,s,k,_=>.brk s (.meach J ps cO lo a) (k [] .id)
 |.exit id,ae,s,_,kx=>kx ae id s
 |.ret e,ae,s,_,_=>.ret (e.sub' ae s)
def bR.ok_nil (O:Env):bR.ok [] O:=λ_ h=>nomatch h
def bR.ok_cons {ae:bR}{O:Env}{e:PE}{b:Bool}(h:ae.ok O)(he:(e.ev O).b=b):bR.ok ((e,b)::ae) O:=λx hx=>by
 rcases cv.1 hx with e'|hx
 .rw[e'];exact he
 .exact h x hx
def uc {T:cH}{Q:Out->Prop}{K:Env->Prop}{k:Kn}:∀{l:List PI} {ae:bR} {s:SE} {O:Env},ae.ok O->aI T (po l ae s k) O Q->
 (∀O' ae s,(l.all qf=true->O'=O)->ae.ok O'->aI T (k ae s) O' Q->K (s.ev O'))->iO T l (s.ev O) K
 |[],ae,s,O,ha,h,hk=>hk O ae s (λ_=>rfl) ha h
 |.setR t e::l,ae,s,O,ha,h,hk=>by
  simp only[iO];rw[<-PE.sub_ev ha s e,<-SE.setR_ev];exact uc ha h λO' ae s hp=>hk O' ae s λhl=>hp (by simpa [qf] using hl)
 |.setO t e::l,ae,s,O,ha,h,hk=>by
  simp only[iO];rw[<-PE.sub_ev ha s e,<-SE.setO_ev];exact uc ha h λO' ae s hp=>hk O' ae s λhl=>hp (by simpa [qf] using hl)
 |.chk e::l,ae,s,O,ha,h,hk=>by
  simp only[iO];rw[<-PE.sub_ev ha s e];simp only[po] at h;split at h
  .rename_i ht;exact⟨AJ ha ht,uc ha h λO' ae s hp=>hk O' ae s λhl=>hp (by simpa [qf] using hl)⟩
  .exact⟨h.1,uc (bR.ok_cons ha h.1) h.2 λO' ae s hp=>hk O' ae s λhl=>hp (by simpa [qf] using hl)⟩
 |.call gs dst f args::l,ae,s,O,ha,h,hk=>by
  simp only[iO];simp only[po,aI,PE.subs_ev ha,PE.sub_ev ha] at h;have bn:∀{ρ0:Env},∀O' ae s,(l.all qf=true->O'=ρ0)->ae.ok O'->aI T (k ae s) O' Q->K (s.ev O'):=λO' ae s _=>hk O' ae s λhl=>by simp[qf] at hl
  split at h
  .rename_i hg;rw[if_pos hg];obtain⟨d,hd,h⟩:=h;exact⟨d,hd,uc (s:=.id) (bR.ok_nil _) h bn⟩
  .rename_i hg;rw[if_neg hg];exact uc (s:=.id) (bR.ok_nil _) h bn
 |.callc gs dst e args::l,ae,s,O,ha,h,hk=>by
  simp only[iO];simp only[po,aI,PE.subs_ev ha,PE.sub_ev ha] at h;have bn:∀{ρ0:Env},∀O' ae s,(l.all qf=true->O'=ρ0)->ae.ok O'->aI T (k ae s) O' Q->K (s.ev O'):=λO' ae s _=>hk O' ae s λhl=>by simp[qf] at hl
  split at h
  .rename_i hg;rw[if_pos hg];obtain⟨f,caps,d,he,hd,h⟩:=h;exact⟨f,caps,d,he,hd,uc (s:=.id) (bR.ok_nil _) h bn⟩
  .rename_i hg;rw[if_neg hg];exact uc (s:=.id) (bR.ok_nil _) h bn
 |.mcall j f args::l,ae,s,O,ha,h,hk=>by
  simp only[iO];simp only[po,aI,PE.subs_ev ha,PE.sub_ev ha] at h;have bn:∀{ρ0:Env},∀O' ae s,(l.all qf=true->O'=ρ0)->ae.ok O'->aI T (k ae s) O' Q->K (s.ev O'):=λO' ae s _=>hk O' ae s λhl=>by simp[qf] at hl
  obtain⟨d,hd,h⟩:=h;exact⟨d,hd,uc (s:=.id) (bR.ok_nil _) h bn⟩
def SE.merge_ev {ae:bR}{O:Env}(h:ae.ok O)(s a b:SE)(lr lo:List Nat)(c:PE):(s.merge ae lr lo c a b).ev O=(s.ev O).join lr lo (if(c.ev O).b=true then a.ev O else b.ev O):=by
 have h1:∀u,((s.merge ae lr lo c a b).getR u).ev O=((s.ev O).join lr lo (if(c.ev O).b=true then a.ev O else b.ev O)).r u:=by
  intro u;rw[Env.join_r];have e:bI (s.merge ae lr lo c a b).r u=if u∈lr then some (vc ae c (a.getR u) (b.getR u)) else bI s.r u:=zL lr;have e2:(s.merge ae lr lo c a b).getR u=if u∈lr then vc ae c (a.getR u) (b.getR u) else s.getR u:=by
   unfold SE.getR;rw[e];by_cases h:u∈lr<;>simp[h,SE.getR]
  rw[e2];by_cases hu:u∈lr
  .simp only[hu,if_true,VL h,PE.ev];cases hc:(c.ev O).b<;>simp[SE.ev]
  .simp only[hu,if_false];rfl
 have h2:∀u,((s.merge ae lr lo c a b).getO u).ev O=((s.ev O).join lr lo (if(c.ev O).b=true then a.ev O else b.ev O)).o u:=by
  intro u;rw[Env.join_o];have e:bI (s.merge ae lr lo c a b).o u=if u∈lo then some (vc ae c (a.getO u) (b.getO u)) else bI s.o u:=zL lo;have e2:(s.merge ae lr lo c a b).getO u=if u∈lo then vc ae c (a.getO u) (b.getO u) else s.getO u:=by
   unfold SE.getO;rw[e];by_cases h:u∈lo<;>simp[h,SE.getO]
  rw[e2];by_cases hu:u∈lo
  .simp only[hu,if_true,VL h,PE.ev];cases hc:(c.ev O).b<;>simp[SE.ev]
  .simp only[hu,if_false];rfl
 have e1:(λu=>((s.merge ae lr lo c a b).getR u).ev O)=((s.ev O).join lr lo (if(c.ev O).b=true then a.ev O else b.ev O)).r:=funext h1;have e2:(λu=>((s.merge ae lr lo c a b).getO u).ev O)=((s.ev O).join lr lo (if(c.ev O).b=true then a.ev O else b.ev O)).o:=funext h2;show Env.mk _ _=_;rw[e1,e2]
def VO {T:cH}{ae:bR}{O:Env}(ha:ae.ok O):∀{l:List PI} {s s':SE},rK l ae s=some s'->∀{K:Env->Prop},K (s'.ev O)->iO T l (s.ev O) K
 |[],s,s',h,K,hk=>by simp only[rK,bj] at h;subst h;exact hk
 |.setR t e::l,s,s',h,K,hk=>by simp only[iO];rw[<-PE.sub_ev ha s e,<-SE.setR_ev];exact VO (l:=l) ha (show rK l ae _=some s' from h) hk
 |.setO t e::l,s,s',h,K,hk=>by simp only[iO];rw[<-PE.sub_ev ha s e,<-SE.setO_ev];exact VO (l:=l) ha (show rK l ae _=some s' from h) hk
 |.chk _::_,_,_,h,_,_=>by simp[rK] at h
 |.call ..::_,_,_,h,_,_=>by simp[rK] at h
 |.callc ..::_,_,_,h,_,_=>by simp[rK] at h
 |.mcall ..::_,_,_,h,_,_=>by simp[rK] at h
def ayv {T:cH}{ae:bR}{O:Env}(ha:ae.ok O):∀(c:PC) {s s':SE},plain c ae s=some s'->∀{Q:Out->Prop},Q (.next (s'.ev O))->aK T c (s.ev O) Q:=by
 intro c
 induction c with
 |skip=>intro s s' h Q hq;simp only[plain,bj] at h;subst h;exact .skip hq
 |is l=>intro s s' h Q hq;exact .is (VO ha h hq)
 |seq a b bx dw=>
  intro s s' h Q hq;simp only[plain,az] at h;obtain⟨s1,h1,h2⟩:=h;exact .seq (bx h1 (dw h2 hq))
 |ite c lr lo a b bx dw=>
  intro s s' h Q hq;simp only[plain,az,aB] at h;obtain⟨sa,h1,sb,h2,rfl⟩:=h;rw[SE.merge_ev ha,PE.sub_ev ha] at hq;refine .ite ?_;split
  .rename_i hc;rw[if_pos hc] at hq;exact bx h1 hq
  .rename_i hc;rw[if_neg hc] at hq;exact dw h2 hq
 |_=>intro s s' h;simp[plain] at h
def OZ {T:cH}:∀(c:PC) {ae:bR} {s:SE} {k:Kn} {kx:Kx} {O:Env} {Q Q':Out->Prop},ae.ok O->aI T (sx c ae s k kx) O Q->
 (∀O' ae s,(dU c=true->O'=O)->ae.ok O'->aI T (k ae s) O' Q->Q' (.next (s.ev O')))->
 (∀O' ae id s,(dU c=true->O'=O)->ae.ok O'->aI T (kx ae id s) O' Q->Q' (.exit id (s.ev O')))->(dU c=false->∀id O',Q (.exit id O')->Q' (.exit id O'))->(∀d,Q (.ret d)->Q' (.ret d))->aK T c (s.ev O) Q':=by
 intro c;have alone:∀(a:PC),(∀{ae:bR} {s:SE} {k:Kn} {kx:Kx} {O:Env} {Q Q':Out->Prop},ae.ok O->aI T (sx a ae s k kx) O Q->
  (∀O' ae s,(dU a=true->O'=O)->ae.ok O'->aI T (k ae s) O' Q->Q' (.next (s.ev O')))->
  (∀O' ae id s,(dU a=true->O'=O)->ae.ok O'->aI T (kx ae id s) O' Q->Q' (.exit id (s.ev O')))->(dU a=false->∀id O',Q (.exit id O')->Q' (.exit id O'))->(∀d,Q (.ret d)->Q' (.ret d))->aK T a (s.ev O) Q')->
  ∀{O:Env} {Q:Out->Prop},aI T (sx a [] .id (λ_ s=>.next s) (λ_ id s=>.exit id s)) O Q->aK T a O Q:=by
  intro a ih O Q h;exact ih (s:=.id) (bR.ok_nil _) h (λO' ae s _ _ h=>h) (λO' ae id s _ _ h=>h) (λ_ _ _ h=>h) (λ_ h=>h)
 induction c with
 |skip=>intro ae s k kx O Q Q' ha h hk _ _ _;exact .skip (hk O ae s (λ_=>rfl) ha h)
 |is l=>intro ae s k kx O Q Q' ha h hk _ _ _;exact .is (uc (K:=λO'=>Q' (.next O')) ha h hk)
 |seq a b bx dw=>
  intro ae s k kx O Q Q' ha h hk hx kV hr;refine .seq (bx ha h (Q':=gM (λO'=>aK T b O' Q') Q') (λO' ae s hp y0 h'=>?_) (λO' ae id s hp y0 h'=>?_) (λhp=>?_) hr)
  .refine dw y0 h' (λρ2 ae s eR=>hk ρ2 ae s λhl=>?_) (λρ2 ae id s eR=>hx ρ2 ae id s λhl=>?_) (λeR=>?_) hr
   .simp only[dU,au] at hl;rw[eR hl.2,hp hl.1]
   .simp only[dU,au] at hl;rw[eR hl.2,hp hl.1]
   .exact kV (by simp[dU,eR])
  .exact hx O' ae id s (λhl=>by simp only[dU,au] at hl;exact hp hl.1) y0 h'
  .exact kV (by simp[dU,hp])
 |ite c lr lo a b bx dw=>
  intro ae s k kx O Q Q' ha h hk hx kV hr;have bM:((c.sub' ae s).ev O).b=(c.ev (s.ev O)).b:=by rw[PE.sub_ev ha]
  have struct:(dU a&&dU b)=false->aI T (.iteS s (c.sub' ae s) lr lo (sx a [] .id (λ_ s=>.next s) (λ_ id s=>.exit id s)) (sx b [] .id (λ_ s=>.next s) (λ_ id s=>.exit id s)) (k [] .id)) O Q->aK T (.ite c lr lo a b) (s.ev O) Q':=by
   intro Gm h;have tl:dU (.ite c lr lo a b)=false:=Gm;simp only[aI,bM] at h
   have conv:∀x,lS (s.ev O) lr lo (gM (λO'=>aI T (k [] .id) O' Q) Q) x->lS (s.ev O) lr lo Q' x:=by
      intro x da;cases x with
      |next O'=>exact hk _ [] .id (λhl=>by rw[tl] at hl;cases hl) (bR.ok_nil _) da
      |exit id O'=>exact kV tl id O' da
      |ret d=>exact hr d da
   refine .ite ?_;split at h
   .rename_i hc;rw[if_pos hc];exact(alone a bx h).mono conv
   .rename_i hc;rw[if_neg hc];exact(alone b dw h).mono conv
  have inA:∀yf,yf.ok O->dU a=true->aI T (sx a yf s (λae s'=>k ae (s.join lr lo s')) kx) O Q->aK T a (s.ev O) (lS (s.ev O) lr lo Q'):=by
   intro yf y0 ff h';refine bx y0 h' (λO' ae s' hp pK lG=>?_) (λO' ae id s' hp pK lG=>?_) (λhp=>by rw[ff] at hp;cases hp) hr
   .have e:=hp ff;subst e;show Q' (.next _);rw[<-SE.join_ev];exact hk O' ae _ (λ_=>rfl) pK lG
   .have e:=hp ff;subst e;exact hx O' ae id s' (λ_=>rfl) pK lG
  have aC:∀yf,yf.ok O->dU b=true->aI T (sx b yf s (λae s'=>k ae (s.join lr lo s')) kx) O Q->aK T b (s.ev O) (lS (s.ev O) lr lo Q'):=by
   intro yf y0 ff h';refine dw y0 h' (λO' ae s' hp pK lG=>?_) (λO' ae id s' hp pK lG=>?_) (λhp=>by rw[ff] at hp;cases hp) hr
   .have e:=hp ff;subst e;show Q' (.next _);rw[<-SE.join_ev];exact hk O' ae _ (λ_=>rfl) pK lG
   .have e:=hp ff;subst e;exact hx O' ae id s' (λ_=>rfl) pK lG
  simp only[sx] at h;split at h
  .rename_i ht;cases ff:dU a<;>simp only[ff,zyy,zyx] at h
   .exact struct (by simp[ff]) h
   .refine .ite ?_;rw[if_pos (by rw[<-bM];exact AJ ha ht)];exact inA ae ha ff h
  .rename_i ht;cases ff:dU b<;>simp only[ff,zyy,zyx] at h
   .exact struct (by simp[ff]) h
   .refine .ite ?_;rw[if_neg (by rw[<-bM,AJ ha ht];simp)];exact aC ae ha ff h
  .split at h
   .rename_i sa sb hsa kT;have fJ:plain (.ite c lr lo a b) ae s=some (s.merge ae lr lo (c.sub' ae s) sa sb):=by simp[plain,hsa,kT]
    exact ayv ha _ fJ (hk O ae _ (λ_=>rfl) ha h)
   cases ff:(dU a&&dU b)<;>simp only[ff,zyy,zyx] at h
   .exact struct ff h
   .simp only[au] at ff;simp only[aI] at h;refine .ite ?_;rw[<-bM];split at h
    .rename_i hc;rw[if_pos hc];exact inA _ (bR.ok_cons ha hc) ff.1 h
    .rename_i hc;rw[if_neg hc];exact aC _ (bR.ok_cons ha (by simpa using hc)) ff.2 h
 |block id lr lo a bx=>
  intro ae s k kx O Q Q' ha h hk hx kV hr;simp only[sx] at h;cases ff:dU a<;>simp only[ff,zyy,zyx] at h
  .have tl:dU (.block id lr lo a)=false:=ff;cases hl:aft a<;>simp only[hl,zyy,zyx] at h
   case true=>
        simp only[aI] at h;refine aK.mono h λx da=>?_;cases x with
        |next O'=>exact hk _ [] .id (λhl=>by rw[tl] at hl;cases hl) (bR.ok_nil _) da
        |exit id O'=>exact kV tl id O' da
        |ret d=>exact hr d da
   simp only[aI] at h;refine .block ((alone a bx h).mono λx da=>?_);cases x with
   |next O'=>exact hk _ [] .id (λhl=>by rw[tl] at hl;cases hl) (bR.ok_nil _) da
   |exit bO O'=>
    simp only[mO] at da ⊢;split
    .rename_i e;rw[if_pos e] at da;exact hk _ [] .id (λhl=>by rw[tl] at hl;cases hl) (bR.ok_nil _) da
    .rename_i e;rw[if_neg e] at da;exact kV tl bO O' da
   |ret d=>exact hr d da
  .refine .block (bx ha h (λO' ae s' hp pK lG=>?_) (λO' ae bO s' hp pK lG=>?_) (λhp=>by rw[ff] at hp;cases hp) hr)
   .have e:=hp ff;subst e;show Q' (.next _);rw[<-SE.join_ev];exact hk O' ae _ (λ_=>rfl) pK lG
   .have e:=hp ff;subst e;simp only[mO];by_cases cJ:bO=id
    .subst cJ;simp only[lu,zyy] at lG;rw[if_pos rfl,<-SE.join_ev];exact hk O' ae _ (λ_=>rfl) pK lG
    .rw[fS cJ,zyx] at lG;rw[if_neg cJ];exact hx O' ae bO s' (λ_=>rfl) pK lG
 |loop lr lo a bx=>
  intro ae s k kx O Q Q' ha h hk hx kV hr;simp only[sx,aI] at h;refine aK.mono h λx da=>?_;cases x with
  |next O'=>exact hk _ [] .id (λhl=>by cases hl) (bR.ok_nil _) da
  |exit id O'=>exact kV rfl id O' da
  |ret d=>exact hr d da
 |each e ps lo rt a bx=>
  intro ae s k kx O Q Q' ha h hk hx kV hr;simp only[sx,aI] at h;refine aK.mono h λx da=>?_;cases x with
  |next O'=>exact hk _ [] .id (λhl=>by cases hl) (bR.ok_nil _) da
  |exit id O'=>exact kV rfl id O' da
  |ret d=>exact hr d da
 |meach J ps cO lo a bx=>
  intro ae s k kx O Q Q' ha h hk hx kV hr;simp only[sx,aI] at h;refine aK.mono h λx da=>?_;cases x with
  |next O'=>exact hk _ [] .id (λhl=>by cases hl) (bR.ok_nil _) da
  |exit id O'=>exact kV rfl id O' da
  |ret d=>exact hr d da
 |exit id=>intro ae s k kx O Q Q' ha h _ hx _ _;exact .exit (hx O ae id s (λ_=>rfl) ha h)
 |ret e=>
  intro ae s k kx O Q Q' ha h _ _ _ hr;simp only[sx,aI] at h;refine .ret (hr _ ?_);rw[PE.sub_ev ha] at h;exact h
def Lk.un (a b:Lk):Lk:=⟨Nat.lor a.r b.r,j1 a.o b.o⟩
def bits (l:List Nat):Nat:=l.foldr (λt m=>Nat.lor (iI t) m) 0
def QM {l:List Nat}{t:Nat}(h:t∈l):aU (bits l) t=true:=by
 induction l with
 |nil=>cases h
 |cons x l ih=>
  show aU (Nat.lor (iI x) (bits l)) t=true;rw[gU];rcases cv.1 h with e|h
  .subst e;rw[sG];rfl
  .rw[ih h,ui]
def aaG:∀{a b:List Nat} {x:Nat},x∈j1 a b↔x∈a\/x∈b
 |[],b,x=>by simp[j1]
 |y::a,b,x=>by
  have ih:=aaG (a:=a) (b:=bif fK b y then b else y::b) (x:=x);show x∈j1 a _↔_;rw[ih];cases hb:fK b y with
  |true=>simp only[zyy,cv];have:=(rE b y).1 hb;constructor
         .rintro(h|h);exact .inl (.inr h);exact .inr h
         .rintro((rfl|h)|h);exact .inr this;exact .inl h;exact .inr h
  |false=>simp only[zyx,cv];constructor
          .rintro(h|h|h);exact .inl (.inr h);exact .inl (.inl h);exact .inr h
          .rintro((h|h)|h);exact .inr (.inl h);exact .inl h;exact .inr (.inr h)
def Lk.Le (a K:Lk):Prop:=(∀t,aU a.r t=true->aU K.r t=true)/\∀j,j∈a.o->j∈K.o
def Lk.le_l (a b:Lk):a.Le (a.un b):=⟨λt h=>by simp only[Lk.un,gU,h,Ek],λj h=>aaG.2 (.inl h)⟩
def Lk.le_r (a b:Lk):b.Le (a.un b):=⟨λt h=>by simp only[Lk.un,gU,h,ui],λj h=>aaG.2 (.inr h)⟩
def Lk.Le.trans {a b c:Lk}(h:a.Le b)(k:b.Le c):a.Le c:=⟨λt ht=>k.1 t (h.1 t ht),λj hj=>k.2 j (h.2 j hj)⟩
def Alike.le {a K:Lk}{O O':Env}(h:Alike K O O')(k:a.Le K):Alike a O O':=⟨λt ht=>h.r t (k.1 t ht),λj hj=>h.o j (k.2 j hj)⟩
def Lk.Le.of_un {a b K:Lk}(h:(a.un b).Le K):a.Le K/\b.Le K:=⟨(Lk.le_l a b).trans h,(Lk.le_r a b).trans h⟩
def Alike.setR {K:Lk}{O O':Env}(h:Alike K O O')(t:Nat)(d:D):Alike K (O.setR t d) (O'.setR t d):=⟨λu hu=>by rw[Env.setR_r,Env.setR_r];split;rfl;exact h.r u hu,h.o⟩
def Alike.setO {K:Lk}{O O':Env}(h:Alike K O O')(t:Nat)(d:D):Alike K (O.setO t d) (O'.setO t d):=⟨h.r,λu hu=>by rw[Env.setO_o,Env.setO_o];split;rfl;exact h.o u hu⟩
def Alike.join {K:Lk}{O O' H H':Env}(h:Alike K O O')(k:Alike K H H')(lr lo:List Nat):Alike K (O.join lr lo H) (O'.join lr lo H'):=
 ⟨λu hu=>by rw[Env.join_r,Env.join_r];split;exact k.r u hu;exact h.r u hu,λu hu=>by rw[Env.join_o,Env.join_o];split;exact k.o u hu;exact h.o u hu⟩
def VQ {f g:Nat->D}{u:Nat}(h:g u=f u):∀(ts:List Nat) (xs:List D),putL g ts xs u=putL f ts xs u
 |[],xs=>by rw[Ny,Ny];exact h
 |t::ts,[]=>by simp only[putL];exact h
 |t::ts,x::xs=>by rw[Nx,Nx];split;rfl;exact VQ h ts xs
def Alike.put {K:Lk}{O O':Env}(h:Alike K O O')(lr lo:List Nat)(vr vo:List D):Alike K (O.put lr vr lo vo) (O'.put lr vr lo vo):=⟨λu hu=>VQ (h.r u hu) lr vr,λu hu=>VQ (h.o u hu) lo vo⟩
def PI.lkw:PI->Lk
 |.setR t e=>e.lk.un ⟨iI t,[]⟩
 |.setO j e=>e.lk.un ⟨0,[j]⟩
 |.chk e=>e.lk
 |.call gs dst f aa=>(PI.call gs dst f aa).lk.un ⟨iI dst,[]⟩
 |.callc gs dst e aa=>(PI.callc gs dst e aa).lk.un ⟨iI dst,[]⟩
 |.mcall j f aa=>(PI.mcall j f aa).lk.un ⟨0,[j]⟩
def PC.lk:PC->Lk
 |.skip=>.none
 |.exit _=>.none
 |.is l=>l.foldr (λp k=>p.lkw.un k) .none
 |.seq a b=>(PC.lk a).un (PC.lk b)
 |.ite c _ _ a b=>c.lk.un ((PC.lk a).un (PC.lk b))
 |.block _ _ _ a=>PC.lk a
 |.loop lr lo a=>(⟨bits lr,lo⟩:Lk).un (PC.lk a)
 |.ret e=>e.lk
 |.each e _ lo rt a=>e.lk.un ((match rt with|some e=>e.lk|none=>.none).un ((⟨0,lo⟩:Lk).un (PC.lk a)))
 |.meach J _ _ lo a=>(⟨0,J::lo⟩:Lk).un (PC.lk a)
structure Off (K:Lk) (b H H':Env):Prop where
 al:Alike K H H'
 r:∀t,aU K.r t=false->H'.r t=b.r t
 o:∀j,j∉K.o->H'.o j=b.o j
def vI (K:Lk)(b:Env):Out->Out->Prop
 |.next H,x=>∃H',x=.next H'/\Off K b H H'
 |.exit i H,x=>∃H',x=.exit i H'/\Off K b H H'
 |.ret d,x=>x=.ret d
def Off.uniq {K:Lk}{b H H' η2:Env}(h:Off K b H H')(k:Off K b H η2):η2=H':=by
 have h1:∀t,η2.r t=H'.r t:=λt=>by
  cases hb:aU K.r t with
  |true=>rw[k.al.r t hb,h.al.r t hb]
  |false=>rw[k.r t hb,h.r t hb]
 have h2:∀t,η2.o t=H'.o t:=λt=>by
  by_cases hb:t∈K.o
  .rw[k.al.o t hb,h.al.o t hb]
  .rw[k.o t hb,h.o t hb]
 cases η2;cases H'
 congr
 .exact funext h1
 .exact funext h2
def vI.uniq {K:Lk}{b:Env}{x y z:Out}(h:vI K b x y)(k:vI K b x z):z=y:=by
 cases x with
 |next H=>obtain⟨a,rfl,h⟩:=h;obtain⟨c,rfl,k⟩:=k;rw[h.uniq k]
 |exit i H=>obtain⟨a,rfl,h⟩:=h;obtain⟨c,rfl,k⟩:=k;rw[h.uniq k]
 |ret d=>rw[h,k]
def Off.setR {K:Lk}{b H H':Env}(h:Off K b H H'){t:Nat}(ht:aU K.r t=true)(d:D):Off K b (H.setR t d) (H'.setR t d):=
 ⟨h.al.setR t d,λu hu=>by rw[Env.setR_r,if_neg (λe=>by rw[e,ht] at hu;cases hu)];exact h.r u hu,h.o⟩
def Off.setO {K:Lk}{b H H':Env}(h:Off K b H H'){t:Nat}(ht:t∈K.o)(d:D):Off K b (H.setO t d) (H'.setO t d):=
 ⟨h.al.setO t d,h.r,λu hu=>by rw[Env.setO_o,if_neg (λe=>hu (by rw[e];exact ht))];exact h.o u hu⟩
def Off.join {K:Lk}{b H H' ζ ζ':Env}(h:Off K b H H')(k:Off K b ζ ζ')(lr lo:List Nat):Off K b (H.join lr lo ζ) (H'.join lr lo ζ'):=
 ⟨h.al.join k.al lr lo,λu hu=>by rw[Env.join_r];split;exact k.r u hu;exact h.r u hu,λu hu=>by rw[Env.join_o];split;exact k.o u hu;exact h.o u hu⟩
def VT {f:Nat->D}{b:D}{u:Nat}(h:f u=b):∀(ts:List Nat) (xs:List D),u∉ts->putL f ts xs u=b
 |[],xs,_=>by rw[Ny];exact h
 |t::ts,[],_=>by simp only[putL];exact h
 |t::ts,x::xs,hu=>by rw[Nx,if_neg (λe=>hu (by simp[e]))];exact VT h ts xs (λe=>hu (by simp[e]))
def Off.put {K:Lk}{b H H':Env}(h:Off K b H H'){lr lo:List Nat}(hr:∀t,t∈lr->aU K.r t=true)(ho:∀t,t∈lo->t∈K.o)(vr vo:List D):Off K b (H.put lr vr lo vo) (H'.put lr vr lo vo):=
 ⟨h.al.put lr lo vr vo,λu hu=>VT (h.r u hu) lr vr (λe=>by rw[hr u e] at hu;cases hu),λu hu=>VT (h.o u hu) lo vo (λe=>hu (ho u e))⟩
def PI.run_off {Z:aO}{K:Lk}{b O O' H:Env}{p:PI}(hp:p.lkw.Le K)(h:Off K b O O')(hr:p.run Z O=some H):∃H',p.run Z O'=some H'/\Off K b H H':=by
 have zg:p.lk.Le K:=by cases p<;>first|exact hp|exact hp.of_un.1
 rw[PI.run_eff,PI.eff_alike p (h.al.le zg)];rw[PI.run_eff] at hr;cases he:p.eff Z O with
 |none=>rw[he] at hr;cases hr
 |some x=>
  rw[he] at hr;simp only[lC,bj] at hr;subst hr;refine⟨_,rfl,?_⟩;have hb:∀{t:Nat} {a:Lk},(a.un ⟨iI t,[]⟩).Le K->aU K.r t=true:=λh=>h.of_un.2.1 _ (sG _);have ho:∀{t:Nat} {a:Lk},(a.un ⟨0,[t]⟩).Le K->t∈K.o:=λh=>h.of_un.2.2 _ (by simp);cases p with
  |setR t e=>simp only[PI.eff,bj] at he;subst he;exact h.setR (hb hp) _
  |setO t e=>simp only[PI.eff,bj] at he;subst he;exact h.setO (ho hp) _
  |chk e=>simp only[PI.eff] at he;cases y6:(e.ev O).b<;>rw[y6] at he<;>cases he;exact h
  |call gs d f aa=>
   simp only[PI.eff] at he;cases y6:holds gs O<;>simp only[y6,zyy,zyx,bj,aB] at he
   .subst he;exact h
   .obtain⟨y,_,rfl⟩:=he;exact h.setR (hb hp) _
  |callc gs d e aa=>
   simp only[PI.eff] at he;cases y6:holds gs O<;>simp only[y6,zyy,zyx,bj] at he
   .subst he;exact h
   .split at he
    .simp only[aB] at he;obtain⟨y,_,rfl⟩:=he;exact h.setR (hb hp) _
    .cases he
  |mcall j f aa=>simp only[PI.eff,aB] at he;obtain⟨y,_,rfl⟩:=he;exact h.setO (ho hp) _
def PI.runs_off {Z:aO}{K:Lk}{b:Env}:∀{l:List PI} {O O' H:Env},(l.foldr (λp k=>p.lkw.un k) Lk.none).Le K->Off K b O O'->PI.runs Z l O=some H->∃H',PI.runs Z l O'=some H'/\Off K b H H'
 |[],O,O',H,_,h,hr=>by simp only[PI.runs,bj] at hr ⊢;subst hr;exact⟨_,rfl,h⟩
 |p::l,O,O',H,hl,h,hr=>by
  simp only[PI.runs,az] at hr;obtain⟨ρ1,h1,h2⟩:=hr;obtain⟨ρ2,h3,h4⟩:=PI.run_off hl.of_un.1 h h1;obtain⟨H',h5,h6⟩:=PI.runs_off (l:=l) hl.of_un.2 h4 h2;exact⟨H',by simp only[PI.runs,h3,sB,h5],h6⟩
def zO {K:Lk}{b H H':Env}(h:Off K b H H'){lo:List Nat}(ho:∀t,t∈lo->t∈K.o):lo.map H'.o=lo.map H.o:=um λt ht=>h.al.o t (ho t ht)
def agh {K:Lk}{b H H':Env}(h:Off K b H H'){lr:List Nat}(hr:∀t,t∈lr->aU K.r t=true):lr.map H'.r=lr.map H.r:=um λt ht=>h.al.r t (hr t ht)
def PC.ev_off {Z:aO}{n:Nat}{K:Lk}:∀(c:PC),c.lk.Le K->∀{b O O':Env} {x:Out},Off K b O O'->c.ev Z n O=some x->∃x',c.ev Z n O'=some x'/\vI K b x x':=by
 intro c
 induction c with
 |skip=>intro _ b O O' x h hr;simp only[PC.ev,bj] at hr ⊢;subst hr;exact⟨_,rfl,_,rfl,h⟩
 |exit id=>intro _ b O O' x h hr;simp only[PC.ev,bj] at hr ⊢;subst hr;exact⟨_,rfl,_,rfl,h⟩
 |ret e=>intro hk B O O' x h hr;simp only[PC.ev,bj] at hr ⊢;subst hr;exact⟨_,rfl,by rw[PE.ev_alike e (h.al.le hk)];rfl⟩
 |is l=>
  intro hk B O O' x h hr;simp only[PC.ev,aB] at hr;obtain⟨H,h1,rfl⟩:=hr;obtain⟨H',h2,h3⟩:=PI.runs_off hk h h1;exact⟨.next H',by simp only[PC.ev,h2,lC],H',rfl,h3⟩
 |seq a b bx dw=>
  intro hk B O O' x h hr;simp only[PC.ev] at hr ⊢;cases ha:a.ev Z n O with
  |none=>rw[ha] at hr;cases hr
  |some y=>
   obtain⟨y',h1,h2⟩:=bx hk.of_un.1 h ha;rw[ha] at hr;rw[h1];cases y with
   |next H=>obtain⟨H',rfl,h3⟩:=h2;exact dw hk.of_un.2 h3 hr
   |exit i H=>obtain⟨H',rfl,h3⟩:=h2;cases hr;exact⟨_,rfl,H',rfl,h3⟩
   |ret d=>cases h2;cases hr;exact⟨_,rfl,rfl⟩
 |ite c lr lo a b bx dw=>
  intro hk B O O' x h hr;have hc:(c.ev O').b=(c.ev O).b:=by rw[PE.ev_alike c (h.al.le hk.of_un.1)]
  have key:∀(d:PC),(∀{O O':Env} {x:Out},Off K B O O'->d.ev Z n O=some x->∃x',d.ev Z n O'=some x'/\vI K B x x')->(match d.ev Z n O with|some (.next H)=>some (.next (O.join lr lo H))|x=>x)=some x->
      ∃x',(match d.ev Z n O' with|some (.next H)=>some (.next (O'.join lr lo H))|x=>x)=some x'/\vI K B x x':=by
   intro d ih hr;cases ha:d.ev Z n O with
   |none=>rw[ha] at hr;cases hr
   |some y=>
    obtain⟨y',h1,h2⟩:=ih h ha;rw[ha] at hr;rw[h1];cases y with
    |next H=>obtain⟨H',rfl,h3⟩:=h2;cases hr;exact⟨_,rfl,_,rfl,h.join h3 lr lo⟩
    |exit i H=>obtain⟨H',rfl,h3⟩:=h2;cases hr;exact⟨_,rfl,H',rfl,h3⟩
    |ret d=>cases h2;cases hr;exact⟨_,rfl,rfl⟩
  simp only[PC.ev,hc] at hr ⊢;cases jv:(c.ev O).b<;>simp only[jv,zyy,zyx] at hr ⊢
  .exact key b (λh1 h2=>dw hk.of_un.2.of_un.2 h1 h2) hr
  .exact key a (λh1 h2=>bx hk.of_un.2.of_un.1 h1 h2) hr
 |block id lr lo a bx=>
  intro hk B O O' x h hr;simp only[PC.ev] at hr ⊢;cases ha:a.ev Z n O with
  |none=>rw[ha] at hr;cases hr
  |some y=>
   obtain⟨y',h1,h2⟩:=bx hk h ha;rw[ha] at hr;rw[h1];cases y with
   |next H=>obtain⟨H',rfl,h3⟩:=h2;cases hr;exact⟨_,rfl,_,rfl,h.join h3 lr lo⟩
   |exit i H=>
    obtain⟨H',rfl,h3⟩:=h2;simp only at hr ⊢;cases hb:Nat.beq i id<;>simp only[hb,zyy,zyx] at hr ⊢<;>cases hr
    .exact⟨_,rfl,H',rfl,h3⟩
    .exact⟨_,rfl,_,rfl,h.join h3 lr lo⟩
   |ret d=>cases h2;cases hr;exact⟨_,rfl,rfl⟩
 |loop lr lo a bx=>
  intro hk B O O' x h hr;have kS:∀t,t∈lr->aU K.r t=true:=λt ht=>hk.of_un.1.1 t (QM ht);have kq:∀t,t∈lo->t∈K.o:=λt ht=>hk.of_un.1.2 t ht;have key:∀(m:Nat) (vr vo:List D),fY (a.ev Z n) O lr lo m vr vo=some x->∃x',fY (a.ev Z n) O' lr lo m vr vo=some x'/\vI K B x x':=by
   intro m
   induction m with
   |zero=>intro vr vo h;simp[fY] at h
   |succ m TC=>
    intro vr vo hr;simp only[fY] at hr ⊢;cases ha:a.ev Z n (O.put lr vr lo vo) with
    |none=>rw[ha] at hr;cases hr
    |some y=>
     obtain⟨y',h1,h2⟩:=bx hk.of_un.2 (h.put kS kq vr vo) ha;rw[ha] at hr;rw[h1];cases y with
     |next H=>obtain⟨H',rfl,h3⟩:=h2;simp only[zO h3 kq,agh h3 kS];exact TC _ _ hr
     |exit i H=>obtain⟨H',rfl,h3⟩:=h2;cases hr;exact⟨_,rfl,H',rfl,h3⟩
     |ret d=>cases h2;cases hr;exact⟨_,rfl,rfl⟩
  simp only[PC.ev] at hr ⊢;rw[zO h kq,agh h kS];exact key n _ _ hr
 |each e ps lo rt a bx=>
  intro hk B O O' x h hr;obtain⟨bD,ct⟩:=hk.of_un;obtain⟨ct,mZ⟩:=ct.of_un;obtain⟨mZ,CO⟩:=mZ.of_un;have kq:∀t,t∈lo->t∈K.o:=λt ht=>mZ.2 t ht;have key:∀(xs vo:List D),gW (a.ev Z n) O ps lo rt xs vo=some x->∃x',gW (a.ev Z n) O' ps lo rt xs vo=some x'/\vI K B x x':=by
   intro xs
   induction xs with
   |nil=>intro vo hr;simp only[gW,bj] at hr ⊢;subst hr;exact⟨_,rfl,_,rfl,h.put (λ_ h=>by cases h) kq _ _⟩
   |cons y xs jP=>
    intro vo hr;simp only[gW] at hr ⊢;cases ha:a.ev Z n (O.put ps (partsOf ps y) lo vo) with
    |none=>rw[ha] at hr;cases hr
    |some z=>
     have jd:Off K (O'.put ps (partsOf ps y) lo vo) (O.put ps (partsOf ps y) lo vo) (O'.put ps (partsOf ps y) lo vo):=⟨h.al.put ps lo _ _,λ_ _=>rfl,λ_ _=>rfl⟩
     obtain⟨z',h1,h2⟩:=bx CO jd ha;rw[ha] at hr;rw[h1];cases z with
     |next H=>obtain⟨H',rfl,h3⟩:=h2;simp only[zO h3 kq];exact jP _ hr
     |exit i H=>
      obtain⟨H',rfl,h3⟩:=h2;simp only[zO h3 kq] at hr ⊢;have hp:=h.put (lr:=[]) (λ_ h=>by cases h) kq [] (lo.map H.o);cases hb:Nat.beq i cN<;>simp only[hb,zyy,zyx] at hr ⊢
      .cases hr;exact⟨_,rfl,_,rfl,hp⟩
      .cases rt with
       |none=>cases hr
       |some e2=>cases hr;exact⟨_,rfl,by show Out.ret _=Out.ret _;rw[PE.ev_alike e2 (hp.al.le ct)]⟩
     |ret d=>cases hr
  simp only[PC.ev] at hr ⊢;rw[PE.ev_alike e (h.al.le bD),zO h kq];exact key _ _ hr
 |meach J ps cO lo a bx=>
  intro hk B O O' x h hr;obtain⟨mZ,CO⟩:=hk.of_un;have kq:∀t,t∈lo->t∈K.o:=λt ht=>mZ.2 t (fy _ ht);have hJ:O'.o J=O.o J:=h.al.o J (mZ.2 J (fQ ..));have key:∀(es:D) (xs done vo nD:List D),mq (a.ev Z n) O J es ps cO lo xs done vo=some nD->mq (a.ev Z n) O' J es ps cO lo xs done vo=some nD:=by
   intro es xs
   induction xs with
   |nil=>intro done vo nD h;exact h
   |cons y xs jP=>
    intro done vo nD hr;simp only[mq] at hr ⊢;cases ha:a.ev Z n ((O.put ps (cO.map y.tget) lo vo).setO J (.tup [.list (done++[y]),es])) with
    |none=>rw[ha] at hr;cases hr
    |some z=>
     have jd:Off K ((O'.put ps (cO.map y.tget) lo vo).setO J (.tup [.list (done++[y]),es])) ((O.put ps (cO.map y.tget) lo vo).setO J (.tup [.list (done++[y]),es])) ((O'.put ps (cO.map y.tget) lo vo).setO J (.tup [.list (done++[y]),es])):=
          ⟨(h.al.put ps lo _ _).setO J _,λ_ _=>rfl,λ_ _=>rfl⟩
     obtain⟨z',h1,h2⟩:=bx CO jd ha;rw[ha] at hr;rw[h1];cases z with
     |next H=>obtain⟨H',rfl,h3⟩:=h2;simp only[zO h3 kq];exact jP _ _ _ hr
     |exit i H=>cases hr
     |ret d=>cases hr
  simp only[PC.ev,Af] at hr;obtain⟨vo,⟨h1,h2⟩,rfl⟩:=hr;refine⟨.next (O'.put [] [] lo vo),?_,_,rfl,h.put (λ_ h=>by cases h) kq _ _⟩;simp only[PC.ev,Af];refine⟨vo,⟨by rw[hJ];exact h1,λys hy=>?_⟩,rfl⟩;rw[hJ] at hy ⊢;rw[zO h kq];exact key _ _ _ _ _ (h2 ys hy)
def pI:List Nat->PC->Bool
 |l,.exit id=>fK l id
 |l,.seq a b=>pI l a&&pI l b
 |l,.ite _ _ _ a b=>pI l a&&pI l b
 |l,.block id _ _ a=>pI (id::l) a
 |l,.loop _ _ a=>pI l a
 |l,.each _ _ _ _ a=>pI (cN::l) a
 |_,_=>true
def ao6 {Z:aO}{n:Nat}:∀(c:PC) {l:List Nat},pI l c=true->∀{O:Env} {i:Nat} {H:Env},c.ev Z n O=some (.exit i H)->i∈l:=by
 intro c
 induction c with
 |skip=>intro l _ O i H h;simp[PC.ev] at h
 |exit id=>intro l hl O i H h;simp only[PC.ev,bj] at h;injection h with h1 h2;subst h1;exact(rE _ _).1 hl
 |ret e=>intro l _ O i H h;simp[PC.ev] at h
 |is _=>intro l _ O i H h;simp[PC.ev] at h
 |seq a b bx dw=>
  intro l hl O i H h;simp only[pI,au] at hl;simp only[PC.ev] at h;split at h
  .exact dw hl.2 h
  .exact bx hl.1 h
 |ite c lr lo a b bx dw=>
  intro l hl O i H h;simp only[pI,au] at hl;simp only[PC.ev] at h;cases hc:(c.ev O).b<;>simp only[hc,zyy,zyx] at h
  .split at h
   .cases h
   .exact dw hl.2 h
  .split at h
   .cases h
   .exact bx hl.1 h
 |block id lr lo a bx=>
  intro l hl O i H h;simp only[PC.ev] at h;split at h
  .cases h
  .rename_i bO ρ2 ha;cases hb:Nat.beq bO id<;>simp only[hb,zyy,zyx] at h<;>cases h;rcases cv.1 (bx hl ha) with e|e
   .subst e;rw[lu] at hb;cases hb
   .exact e
  .rename_i h1 h2;exact absurd h (h2 _ _)
 |loop lr lo a bx=>
  intro l hl O i H h;have key:∀(m:Nat) (vr vo:List D),fY (a.ev Z n) O lr lo m vr vo=some (.exit i H)->i∈l:=by
   intro m
   induction m with
   |zero=>intro vr vo h;simp[fY] at h
   |succ m TC=>
    intro vr vo h;simp only[fY] at h;split at h
    .exact TC _ _ h
    .exact bx hl h
  exact key _ _ _ h
 |each e ps lo rt a bx=>
  intro l hl O i H h;have key:∀(xs vo:List D),gW (a.ev Z n) O ps lo rt xs vo=some (.exit i H)->i∈l:=by
   intro xs
   induction xs with
   |nil=>intro vo h;simp[gW] at h
   |cons x xs jP=>
    intro vo h;simp only[gW] at h;split at h
    .exact jP _ h
    .rename_i bO ρ2 ha;cases hb:Nat.beq bO cN<;>simp only[hb,zyy,zyx] at h
     .injection h with h;injection h with h1 h2;subst h1
      rcases cv.1 (bx hl ha) with e|e
      .subst e;rw[lu] at hb;cases hb
      .exact e
     .cases rt<;>simp at h
    .cases h
  exact key _ _ h
 |meach J ps cO lo a _=>
  intro l _ O i H h;simp only[PC.ev,Af] at h;obtain⟨vo,_,h⟩:=h;cases h
def afq (t:Nat):PE->Bool
 |.r u=>Nat.beq u t
 |_=>false
def afr (t:Nat):PE->Bool
 |.o u=>Nat.beq u t
 |_=>false
def fk (pX:Nat->PE->Bool)(p:Nat->Bool):List Nat->List (Nat×PE)->List (Nat×PE)
 |_,[]=>[]
 |seen,x::l=>bif p x.1&& !fK seen x.1 then(bif pX x.1 x.2 then fk pX p (x.1::seen) l else x::fk pX p (x.1::seen) l) else fk pX p seen l
def Lr {pX:Nat->PE->Bool}{p:Nat->Bool}:∀{l:List (Nat×PE)} {seen:List Nat} {t:Nat},fK seen t=true->bI (fk pX p seen l) t=none
 |[],_,_,_=>rfl
 |x::l,seen,t,h=>by
  have h':fK (x.1::seen) t=true:=by rw[rE] at h ⊢;exact fy _ h
  simp only[fk];cases hb:(p x.1&& !fK seen x.1) with
  |false=>exact Lr h
  |true=>
   simp only[zyy];cases pX x.1 x.2 with
   |true=>exact Lr h'
   |false=>
    simp only[zyx,bI];have:Nat.beq x.1 t=false:=by
      cases e:Nat.beq x.1 t with
      |false=>rfl
      |true=>rw[df e,h] at hb;simp at hb
    rw[this];exact Lr h'
def Fx {pX:Nat->PE->Bool}{p:Nat->Bool}{dflt:Nat->PE}(cJ:∀t e,pX t e=true->e=dflt t):∀{l:List (Nat×PE)} {seen:List Nat} {t:Nat},p t=true->fK seen t=false->
 (match bI (fk pX p seen l) t with|some e=>e|none=>dflt t)=(match bI l t with|some e=>e|none=>dflt t)
 |[],_,_,_,_=>rfl
 |x::l,seen,t,hp,hs=>by
  simp only[fk,bI];cases e:Nat.beq x.1 t with
  |true=>
   have e':=df e;rw[e',hp,hs];simp only[Bool.not_false,Bool.and_self,zyy];cases hi:pX t x.2 with
   |true=>simp only[zyy];rw[Lr (by rw[rE];exact fQ ..)];exact(cJ _ _ hi).symm
   |false=>simp only[zyx,bI,e,zyy]
  |false=>
   simp only[zyx];cases hb:(p x.1&& !fK seen x.1) with
   |false=>exact Fx cJ hp hs
   |true=>
    have eh:fK (x.1::seen) t=false:=by
      cases hm:fK (x.1::seen) t with
      |false=>rfl
      |true=>
       rcases cv.1 ((rE _ _).1 hm) with h|h
       .rw[h,lu] at e;cases e
       .rw[(rE _ _).2 h] at hs;cases hs
    simp only[zyy];cases pX x.1 x.2 with
    |true=>exact Fx cJ hp eh
    |false=>simp only[zyx,bI,e];exact Fx cJ hp eh
def SE.cut (s:SE)(k:Lk):SE:=⟨fk afq (aU k.r) [] s.r,fk afr (fK k.o) [] s.o⟩
def Ui (l:List (Nat×PE)):Lk:=l.foldr (λx k=>x.2.lk.un k) .none
def SE.lks (s:SE):Lk:=(Ui s.r).un (Ui s.o)
def Uj:∀{l:List (Nat×PE)} {t:Nat} {e:PE},bI l t=some e->e.lk.Le (Ui l)
 |[],_,_,h=>by cases h
 |x::l,t,e,h=>by
  simp only[bI] at h;cases hb:Nat.beq x.1 t<;>simp only[hb,zyy,zyx] at h
  .exact(Uj h).trans (Lk.le_r _ _)
  .cases h;exact Lk.le_l _ _
def SE.cut_al {s:SE}{L:Lk}{ρ1 ρ2:Env}(h:Alike (L.un (s.cut L).lks) ρ1 ρ2):Alike L ((s.cut L).ev ρ1) (s.ev ρ2):=by
 have hL:=h.le (Lk.le_l _ _);have hs:=h.le (Lk.le_r _ _);constructor
 .intro t ht;show(s.getR t).ev ρ2=((s.cut L).getR t).ev ρ1;have e:(s.cut L).getR t=s.getR t:=Fx (dflt:=.r) (λt e he=>by unfold afq at he;split at he;rw[df he];cases he) ht rfl;rw[<-e];cases hl:bI (s.cut L).r t with
  |none=>have:(s.cut L).getR t=.r t:=by unfold SE.getR;rw[hl]
         rw[this];exact hL.r t ht
  |some x=>have:(s.cut L).getR t=x:=by unfold SE.getR;rw[hl]
           rw[this];exact PE.ev_alike x (hs.le ((Uj hl).trans (Lk.le_l _ _)))
 .intro t ht;show(s.getO t).ev ρ2=((s.cut L).getO t).ev ρ1;have e:(s.cut L).getO t=s.getO t:=Fx (dflt:=.o) (λt e he=>by unfold afr at he;split at he;rw[df he];cases he) ((rE _ _).2 ht) rfl;rw[<-e];cases hl:bI (s.cut L).o t with
  |none=>have:(s.cut L).getO t=.o t:=by unfold SE.getO;rw[hl]
         rw[this];exact hL.o t ht
  |some x=>have:(s.cut L).getO t=x:=by unfold SE.getO;rw[hl]
           rw[this];exact PE.ev_alike x (hs.le ((Uj hl).trans (Lk.le_r _ _)))
structure LC where
 next:Lk
 ov:List (Nat×Lk)
def LC.all (c:LC):Lk:=c.ov.foldr (λx k=>x.2.un k) .none
def PU (c:LC)(Q1 Q2:Out->Prop):Prop:=
 (∀ρ1 ρ2,Alike c.next ρ1 ρ2->Q1 (.next ρ1)->Q2 (.next ρ2))/\(∀id k ρ1 ρ2,bI c.ov id=some k->Alike k ρ1 ρ2->Q1 (.exit id ρ1)->Q2 (.exit id ρ2))/\∀d,Q1 (.ret d)->Q2 (.ret d)
def ga:LC->PT->Option (PT×Lk)
 |c,.next s=>some (.next (s.cut c.next),c.next.un (s.cut c.next).lks)
 |c,.exit id s=>(bI c.ov id).map λk=>(.exit id (s.cut k),k.un (s.cut k).lks)
 |_,.ret e=>some (.ret e,e.lk)
 |c,.chk e k=>(ga c k).map λr=>(.chk e r.1,e.lk.un r.2)
 |c,.ite e a b=>(ga c a).bind λx=>(ga c b).map λy=>(.ite e x.1 y.1,e.lk.un (x.2.un y.2))
 |c,.call s gs dst f args k=>(ga c k).map λr=>(.call (s.cut (r.2.un (mU gs))) gs dst f args r.1,(PE.lks args).un ((r.2.un (mU gs)).un (s.cut (r.2.un (mU gs))).lks))
 |c,.callc s gs dst e args k=>(ga c k).map λr=>(.callc (s.cut (r.2.un (mU gs))) gs dst e args r.1,(e.lk.un (PE.lks args)).un ((r.2.un (mU gs)).un (s.cut (r.2.un (mU gs))).lks))
 |c,.mcall s j f args k=>(ga c k).map λr=>(.mcall (s.cut r.2) j f args r.1,(PE.lks args).un (r.2.un (s.cut r.2).lks))
 |c,.iteS s e lr lo a b k=>(ga c k).bind λr=>(ga ⟨r.2,c.ov⟩ a).bind λx=>(ga ⟨r.2,c.ov⟩ b).map λy=>
    (.iteS (s.cut (r.2.un (x.2.un y.2))) e lr lo x.1 y.1 r.1,e.lk.un ((r.2.un (x.2.un y.2)).un (s.cut (r.2.un (x.2.un y.2))).lks))
 |c,.blockS s id lr lo a k=>(ga c k).bind λr=>(ga ⟨r.2,(id,r.2)::c.ov⟩ a).map λx=>(.blockS (s.cut (r.2.un x.2)) id lr lo x.1 r.1,(r.2.un x.2).un (s.cut (r.2.un x.2)).lks)
 |c,.brk s p k=>(ga c k).bind λr=>bif pI (c.ov.map (·.1)) p then some (.brk (s.cut (p.lk.un (r.2.un c.all))) p r.1,(p.lk.un (r.2.un c.all)).un (s.cut (p.lk.un (r.2.un c.all))).lks) else none
def LC.all_le:∀{l:List (Nat×Lk)} {id:Nat} {k:Lk},bI l id=some k->k.Le (l.foldr (λx k=>x.2.un k) .none)
 |[],_,_,h=>by cases h
 |x::l,t,e,h=>by
  simp only[bI] at h;cases hb:Nat.beq x.1 t<;>simp only[hb,zyy,zyx] at h
  .exact(LC.all_le h).trans (Lk.le_r _ _)
  .cases h;exact Lk.le_l _ _
def afU:∀{l:List (Nat×Lk)} {id:Nat},id∈l.map (·.1)->∃k,bI l id=some k
 |[],_,h=>by cases h
 |x::l,id,h=>by
  simp only[bI];cases hb:Nat.beq x.1 id with
  |true=>exact⟨_,rfl⟩
  |false=>
   simp only[zyx];rcases cv.1 h with e|h
   .rw[e,lu] at hb;cases hb
   .exact afU h
def ayM {T:cH}:∀(t:PT) {c:LC} {t':PT} {L:Lk},ga c t=some (t',L)->∀{Q1 Q2:Out->Prop} {ρ1 ρ2:Env},PU c Q1 Q2->Alike L ρ1 ρ2->aI T t' ρ1 Q1->aI T t ρ2 Q2:=by
 intro t
 induction t with
 |next s=>
  intro c t' L hp Q1 Q2 ρ1 ρ2 hQ hA h;simp only[ga,bj,pz] at hp;obtain⟨rfl,rfl⟩:=hp;exact hQ.1 _ _ (SE.cut_al hA) h
 |exit id s=>
  intro c t' L hp Q1 Q2 ρ1 ρ2 hQ hA h;simp only[ga,aB,pz] at hp;obtain⟨k,hk,rfl,rfl⟩:=hp;exact hQ.2.1 _ k _ _ hk (SE.cut_al hA) h
 |ret e=>
  intro c t' L hp Q1 Q2 ρ1 ρ2 hQ hA h;simp only[ga,bj,pz] at hp;obtain⟨rfl,rfl⟩:=hp;show Q2 (.ret (e.ev ρ2));rw[PE.ev_alike e hA];exact hQ.2.2 _ h
 |chk e k ih=>
  intro c t' L hp Q1 Q2 ρ1 ρ2 hQ hA h;simp only[ga,aB,pz] at hp;obtain⟨r,hr,rfl,rfl⟩:=hp;exact⟨by rw[PE.ev_alike e (hA.le (Lk.le_l _ _))];exact h.1,ih hr hQ (hA.le (Lk.le_r _ _)) h.2⟩
 |ite e a b bx dw=>
  intro c t' L hp Q1 Q2 ρ1 ρ2 hQ hA h;simp only[ga,az,aB,pz] at hp;obtain⟨x,hx,y,hy,rfl,rfl⟩:=hp;have h2:=hA.le (Lk.le_r _ _);simp only[aI] at h ⊢;rw[PE.ev_alike e (hA.le (Lk.le_l _ _))];split
  .rename_i hc;rw[if_pos hc] at h;exact bx hx hQ (h2.le (Lk.le_l _ _)) h
  .rename_i hc;rw[if_neg hc] at h;exact dw hy hQ (h2.le (Lk.le_r _ _)) h
 |call s gs dst f args k ih=>
  intro c t' L hp Q1 Q2 ρ1 ρ2 hQ hA h;simp only[ga,aB,pz] at hp;obtain⟨r,hr,rfl,rfl⟩:=hp;have hS:=SE.cut_al (hA.le (Lk.le_r _ _));simp only[aI] at h ⊢;rw[PE.evs_alike args (hA.le (Lk.le_l _ _)),CT (hS.le (Lk.le_r _ _))];split
  .rename_i hc;rw[if_pos hc] at h;obtain⟨d,hd,h⟩:=h;exact⟨d,hd,ih hr hQ ((hS.le (Lk.le_l _ _)).setR dst d) h⟩
  .rename_i hc;rw[if_neg hc] at h;exact ih hr hQ (hS.le (Lk.le_l _ _)) h
 |callc s gs dst e args k ih=>
  intro c t' L hp Q1 Q2 ρ1 ρ2 hQ hA h;simp only[ga,aB,pz] at hp;obtain⟨r,hr,rfl,rfl⟩:=hp;have hS:=SE.cut_al (hA.le (Lk.le_r _ _));have hE:=hA.le (Lk.le_l _ _);simp only[aI] at h ⊢;rw[PE.ev_alike e (hE.le (Lk.le_l _ _)),PE.evs_alike args (hE.le (Lk.le_r _ _)),CT (hS.le (Lk.le_r _ _))];split
  .rename_i hc;rw[if_pos hc] at h;obtain⟨f,caps,d,he,hd,h⟩:=h;exact⟨f,caps,d,he,hd,ih hr hQ ((hS.le (Lk.le_l _ _)).setR dst d) h⟩
  .rename_i hc;rw[if_neg hc] at h;exact ih hr hQ (hS.le (Lk.le_l _ _)) h
 |mcall s j f args k ih=>
  intro c t' L hp Q1 Q2 ρ1 ρ2 hQ hA h;simp only[ga,aB,pz] at hp;obtain⟨r,hr,rfl,rfl⟩:=hp;have hS:=SE.cut_al (hA.le (Lk.le_r _ _));simp only[aI] at h ⊢;rw[PE.evs_alike args (hA.le (Lk.le_l _ _))];obtain⟨d,hd,h⟩:=h;exact⟨d,hd,ih hr hQ (hS.setO j d) h⟩
 |iteS s e lr lo a b k bx dw kX=>
  intro c t' L hp Q1 Q2 ρ1 ρ2 hQ hA h;simp only[ga,az,aB,pz] at hp;obtain⟨r,hr,x,hx,y,hy,rfl,rfl⟩:=hp;have hS:=SE.cut_al (hA.le (Lk.le_r _ _));have LI:=hS.le (Lk.le_l _ _);have FH:=hS.le ((Lk.le_l _ _).trans (Lk.le_r _ _));have hSy:=hS.le ((Lk.le_r _ _).trans (Lk.le_r _ _))
  have rel:PU ⟨r.2,c.ov⟩ (lS ((s.cut (r.2.un (x.2.un y.2))).ev ρ1) lr lo (gM (λO'=>aI T r.1 O' Q1) Q1)) (lS (s.ev ρ2) lr lo (gM (λO'=>aI T k O' Q2) Q2)):=
   ⟨λH1 η2 ha hq=>kX hr hQ (LI.join ha lr lo) hq,λid k' H1 η2 hk ha hq=>hQ.2.1 id k' _ _ hk ha hq,λd hq=>hQ.2.2 d hq⟩
  simp only[aI] at h ⊢;rw[PE.ev_alike e (hA.le (Lk.le_l _ _))];split
  .rename_i hc;rw[if_pos hc] at h;exact bx hx rel FH h
  .rename_i hc;rw[if_neg hc] at h;exact dw hy rel hSy h
 |blockS s id lr lo a k bx kX=>
  intro c t' L hp Q1 Q2 ρ1 ρ2 hQ hA h;simp only[ga,az,aB,pz] at hp;obtain⟨r,hr,x,hx,rfl,rfl⟩:=hp;have hS:=SE.cut_al hA;have LI:=hS.le (Lk.le_l _ _);refine bx hx (Q1:=mO ((s.cut (r.2.un x.2)).ev ρ1) id lr lo (gM (λO'=>aI T r.1 O' Q1) Q1)) ⟨λH1 η2 ha hq=>kX hr hQ (LI.join ha lr lo) hq,λbO k' H1 η2 hk ha hq=>?_,λd hq=>hQ.2.2 d hq⟩ (hS.le (Lk.le_r _ _)) h;simp only[mO] at hq ⊢;simp only[bI] at hk;by_cases e:bO=id
  .subst e;simp only[lu,zyy,bj] at hk;subst hk;rw[if_pos rfl] at hq ⊢;exact kX hr hQ (LI.join ha lr lo) hq
  .rw[if_neg e] at hq ⊢;rw[fS (λh=>e h.symm),zyx] at hk;exact hQ.2.1 bO k' _ _ hk ha hq
 |brk s p k kX=>
  intro c t' L hp Q1 Q2 ρ1 ρ2 hQ hA h;simp only[ga,az] at hp;obtain⟨r,hr,hp⟩:=hp;cases hx:pI (c.ov.map (·.1)) p<;>simp only[hx,zyy,zyx,bj,pz] at hp
  .cases hp
  obtain⟨rfl,rfl⟩:=hp;have hS:=SE.cut_al hA;have jd:Off (p.lk.un (r.2.un c.all)) (s.ev ρ2) ((s.cut (p.lk.un (r.2.un c.all))).ev ρ1) (s.ev ρ2):=⟨hS,λ_ _=>rfl,λ_ _=>rfl⟩
  obtain⟨x,hq,n0,hn⟩:=h;have step:=λn (hle:n0<=n)=>PC.ev_off p (Lk.le_l _ _) jd (hn n hle);obtain⟨x',h1,h2⟩:=step n0 (aZ _);refine⟨x',?_,n0,λn hle=>?_⟩
  .cases x with
   |next H=>obtain⟨H',rfl,h3⟩:=h2;exact kX hr hQ (h3.al.le ((Lk.le_l _ _).trans (Lk.le_r _ _))) hq
   |exit i H=>
    obtain⟨H',rfl,h3⟩:=h2;obtain⟨k',bn⟩:=afU (ao6 p hx (hn n0 (aZ _)));exact hQ.2.1 i k' _ _ bn (h3.al.le ((LC.all_le bn).trans ((Lk.le_r _ _).trans (Lk.le_r _ _)))) hq
   |ret d=>cases h2;exact hQ.2.2 d hq
  .obtain⟨x2,h3,h4⟩:=step n hle;rw[h3,h2.uniq h4]
def Hb (c:LC)(t:PT):PT:=match ga c t with|some r=>r.1|none=>t
def Nw {T:cH}{c:LC}{t:PT}{Q:Out->Prop}{O:Env}(hQ:PU c Q Q)(h:aI T (Hb c t) O Q):aI T t O Q:=by
 unfold Hb at h;split at h
 .rename_i r hr;exact ayM t hr hQ ⟨λ_ _=>rfl,λ_ _=>rfl⟩ h
 .exact h
def akA (c:PC):PT:=sx c [] .id (λ_ s=>.next s) (λ_ id s=>.exit id s)
def akB {T:cH}{c:PC}{O:Env}{Q:Out->Prop}(h:aI T (akA c) O Q):aK T c O Q:=
 OZ (s:=.id) c (bR.ok_nil _) h (λO' ae s _ _ h=>h) (λO' ae id s _ _ h=>h) (λ_ _ _ h=>h) (λ_ h=>h)
def tree (c:PC):PT:=Hb ⟨.none,[]⟩ (akA c)
def Pj {T:cH}{c:PC}{O:Env}{d:D}(h:aI T (tree c) O λx=>x=.ret d):aK T c O λx=>x=.ret d:=
 akB (Nw ⟨λ_ _ _ h=>(by cases h),λ_ _ _ _ _ _ h=>(by cases h),λ_ h=>h⟩ h)
def SE.keep (s:SE)(lr lo:List Nat):SE:=⟨lr.map λt=>(t,s.getR t),lo.map λt=>(t,s.getO t)⟩
def SE.keep_r (s:SE)(lr lo:List Nat)(O:Env):lr.map ((s.keep lr lo).ev O).r=lr.map (s.ev O).r:=by
 apply um;intro t ht;show((s.keep lr lo).getR t).ev O=(s.getR t).ev O;have:=zL (f:=λt=>s.getR t) (l:=[]) (u:=t) lr;rw[vD,if_pos ht] at this;have e:(s.keep lr lo).getR t=s.getR t:=by unfold SE.getR SE.keep;simp only[];rw[this];rfl
 rw[e]
def SE.keep_o (s:SE)(lr lo:List Nat)(O:Env):lo.map ((s.keep lr lo).ev O).o=lo.map (s.ev O).o:=by
 apply um;intro t ht;show((s.keep lr lo).getO t).ev O=(s.getO t).ev O;have:=zL (f:=λt=>s.getO t) (l:=[]) (u:=t) lo;rw[vD,if_pos ht] at this;have e:(s.keep lr lo).getO t=s.getO t:=by unfold SE.getO SE.keep;simp only[];rw[this];rfl
 rw[e]
def ajX (id:Nat)(bF bE lr lo:List Nat)(a:PC):PT:=
 sx a [] .id (λ_ s=>.next (s.keep lr lo)) (λ_ bO s=>bif Nat.beq bO id then .exit id (s.keep bF bE) else .exit bO s)
def fm (O:Env)(id:Nat)(bF bE lr lo:List Nat)(K:List D->List D->Prop)(Q:Out->Prop):Out->Prop
 |.next O'=>K (lr.map O'.r) (lo.map O'.o)
 |.exit bO O'=>if bO=id then Q (.next (O.put bF (bF.map O'.r) bE (bE.map O'.o))) else Q (.exit bO O')
 |.ret d=>Q (.ret d)
def round (id:Nat)(bF bE lr lo:List Nat)(a:PC):PT:=Hb ⟨⟨bits lr,lo⟩,[(id,⟨bits bF,bE⟩)]⟩ (ajX id bF bE lr lo a)
def agf {k:Lk}{lr:List Nat}{ρ1 ρ2:Env}(h:Alike k ρ1 ρ2)(hk:∀t,t∈lr->aU k.r t=true):lr.map ρ2.r=lr.map ρ1.r:=um λt ht=>h.r t (hk t ht)
def MK {k:Lk}{lo:List Nat}{ρ1 ρ2:Env}(h:Alike k ρ1 ρ2)(hk:∀t,t∈lo->t∈k.o):lo.map ρ2.o=lo.map ρ1.o:=um λt ht=>h.o t (hk t ht)
def az7 {T:cH}{id:Nat}{bF bE lr lo:List Nat}{a:PC}{O ρ0:Env}{K:List D->List D->Prop}{Q:Out->Prop}(h:aI T (round id bF bE lr lo a) O (fm ρ0 id bF bE lr lo K Q)):aI T (ajX id bF bE lr lo a) O (fm ρ0 id bF bE lr lo K Q):=by
 refine Nw ⟨λρ1 ρ2 ha hq=>?_,λbO k ρ1 ρ2 hk ha hq=>?_,λd hq=>hq⟩ h
 .simp only[fm] at hq ⊢;rw[agf ha λt ht=>QM ht,MK ha λt ht=>ht];exact hq
 .simp only[bI] at hk;cases hb:Nat.beq id bO<;>simp only[hb,zyy,zyx] at hk
  .cases hk
  .cases hk;have:=df hb;subst this;simp only[fm,if_true] at hq ⊢;rw[agf ha λt ht=>QM ht,MK ha λt ht=>ht];exact hq
def aK.forLoop {T:cH}{id:Nat}{bF bE lr lo:List Nat}{a:PC}{O:Env}{Q:Out->Prop}{α:Type}(inv:α->List D->List D->Prop)(wV:α->Nat)(s0:α)(h0:inv s0 (lr.map O.r) (lo.map O.o))
 (step:∀s vr vo,inv s vr vo->aI T (round id bF bE lr lo a) (O.put lr vr lo vo) (fm O id bF bE lr lo (λvr vo=>∃s',wV s'<wV s/\inv s' vr vo) Q)):aK T (.block id bF bE (.loop lr lo a)) O Q:=by
 refine .block (.loop inv wV s0 h0 λs vr vo hi=>?_);have h:=az7 (step s vr vo hi);refine OZ (s:=.id) a (bR.ok_nil _) h (λO' ae s' _ _ h=>?_) (λO' ae bO s' _ _ h=>?_) (λ_ bO O' h=>?_) (λd h=>h)
 .simp only[aI,fm] at h;rw[SE.keep_r,SE.keep_o] at h;exact h
 .simp only[gM,mO];by_cases cJ:bO=id
  .subst cJ;simp only[lu,zyy,aI,fm,if_true] at h;rw[SE.keep_r,SE.keep_o] at h;rw[if_pos rfl];exact h
  .rw[fS cJ,zyx] at h;simp only[aI,fm] at h;rw[if_neg cJ] at h ⊢;exact h
 .simp only[gM,mO];simp only[fm] at h;split
  .rename_i e;rw[if_pos e] at h;exact h
  .rename_i e;rw[if_neg e] at h;exact h
def ajY (lo:List Nat)(a:PC):PT:=sx a [] .id (λ_ s=>.next (s.keep [] lo)) (λ_ id s=>.exit id (s.keep [] lo))
def rY (lo:List Nat)(a:PC):PT:=Hb ⟨⟨0,lo⟩,[(cN,⟨0,lo⟩)]⟩ (ajY lo a)
def ajZ {T:cH}{lo:List Nat}{a:PC}{O:Env}{Q:Out->Prop}(hn:∀ρ1 ρ2,lo.map ρ2.o=lo.map ρ1.o->Q (.next ρ1)->Q (.next ρ2))(hx:∀ρ1 ρ2,lo.map ρ2.o=lo.map ρ1.o->Q (.exit cN ρ1)->Q (.exit cN ρ2))(h:aI T (rY lo a) O Q):aI T (ajY lo a) O Q:=by
 refine Nw ⟨λρ1 ρ2 ha hq=>hn ρ1 ρ2 (MK ha λt ht=>ht) hq,λbO k ρ1 ρ2 hk ha hq=>?_,λd hq=>hq⟩ h;simp only[bI] at hk;cases hb:Nat.beq cN bO<;>simp only[hb,zyy,zyx] at hk
 .cases hk
 .cases hk;have:=df hb;subst this;exact hx ρ1 ρ2 (MK ha λt ht=>ht) hq
def aK.eachR {T:cH}{e:PE}{ps lo:List Nat}{rt:Option PE}{a:PC}{O:Env}{Q:Out->Prop}(xs:List D)(he:(e.ev O).l=xs)(inv:Nat->List D->Prop)(h0:inv 0 (lo.map O.o))
 (step:∀k x vo,xs[k]?=some x->inv k vo->aI T (rY lo a) (O.put ps (partsOf ps x) lo vo) (vT O lo rt (inv (k+1)) Q)) (done:∀vo,inv xs.length vo->Q (.next (O.put [] [] lo vo))):aK T (.each e ps lo rt a) O Q:=by
 refine .each xs he inv h0 (λk x vo hx hi=>?_) done;have h:=ajZ (λρ1 ρ2 e hq=>by simp only[vT] at hq ⊢;rw[e];exact hq) (λρ1 ρ2 e hq=>by simp only[vT,if_true] at hq ⊢;rw[e];exact hq) (step k x vo hx hi);refine OZ (s:=.id) a (bR.ok_nil _) h (λO' ae s' _ _ h=>?_) (λO' ae bO s' _ _ h=>?_) (λ_ bO O' h=>h) (λd h=>h)
 .simp only[aI,vT] at h;rw[SE.keep_o] at h;exact h
 .simp only[aI,vT] at h;rw[SE.keep_o] at h;exact h
def aK.meachR {T:cH}{J:Nat}{ps cO lo:List Nat}{a:PC}{O:Env}{Q:Out->Prop}(es:List (D×D))(he:O.o J=.tup [.list [],.map es])(inv:List D->List D->Prop)(h0:inv [] (lo.map O.o))
 (step:∀done x rest vo,(done++x::rest).Perm (jm (.map es))->inv done vo->aI T (rY lo a) ((O.put ps (cO.map x.tget) lo vo).setO J (.tup [.list (done++[x]),.map es])) (λy=>∃O',y=.next O'/\inv (done++[x]) (lo.map O'.o)))
 (last:∃vo,(∀done,done.Perm (jm (.map es))->∀nD,inv done nD->nD=vo)/\Q (.next (O.put [] [] lo vo))):aK T (.meach J ps cO lo a) O Q:=by
 refine .meach es he inv h0 (λdone x rest vo hp hi=>?_) last;have h:=ajZ (λρ1 ρ2 e ⟨O',e1,hq⟩=>by cases e1;exact⟨_,rfl,by rw[e];exact hq⟩) (λρ1 ρ2 e ⟨O',e1,hq⟩=>by cases e1) (step done x rest vo hp hi);refine OZ (s:=.id) a (bR.ok_nil _) h (λO' ae s' _ _ h=>?_) (λO' ae bO s' _ _ h=>?_) (λ_ bO O' h=>?_) (λd h=>?_)
 .simp only[aI] at h;obtain⟨ρ2,e,h⟩:=h;injection e with e;subst e;rw[SE.keep_o] at h;exact⟨_,rfl,h⟩
 .simp only[aI] at h;obtain⟨ρ2,e,h⟩:=h;cases e
 .obtain⟨ρ2,e,_⟩:=h;cases e
 .obtain⟨ρ2,e,_⟩:=h;cases e
def A7 {T:cH}:∀(t:PT) {O:Env} {Q Q':Out->Prop},(∀x,Q x->Q' x)->aI T t O Q->aI T t O Q':=by
 intro t
 induction t with
 |next s=>intro O Q Q' h hx;exact h _ hx
 |exit id s=>intro O Q Q' h hx;exact h _ hx
 |ret e=>intro O Q Q' h hx;exact h _ hx
 |chk e k ih=>intro O Q Q' h hx;exact⟨hx.1,ih h hx.2⟩
 |ite c a b bx dw=>
  intro O Q Q' h hx;simp only[aI] at hx ⊢;split
  .rename_i hc;rw[if_pos hc] at hx;exact bx h hx
  .rename_i hc;rw[if_neg hc] at hx;exact dw h hx
 |call s gs dst f args k ih=>
  intro O Q Q' h hx;simp only[aI] at hx ⊢;split
  .rename_i hc;rw[if_pos hc] at hx;obtain⟨d,hd,hx⟩:=hx;exact⟨d,hd,ih h hx⟩
  .rename_i hc;rw[if_neg hc] at hx;exact ih h hx
 |callc s gs dst e args k ih=>
  intro O Q Q' h hx;simp only[aI] at hx ⊢;split
  .rename_i hc;rw[if_pos hc] at hx;obtain⟨f,c,d,he,hd,hx⟩:=hx;exact⟨f,c,d,he,hd,ih h hx⟩
  .rename_i hc;rw[if_neg hc] at hx;exact ih h hx
 |mcall s j f args k ih=>intro O Q Q' h hx;obtain⟨d,hd,hx⟩:=hx;exact⟨d,hd,ih h hx⟩
 |iteS s c lr lo a b k bx dw kX=>
  intro O Q Q' h hx
  have hq:∀x,lS (s.ev O) lr lo (gM (λO'=>aI T k O' Q) Q) x->lS (s.ev O) lr lo (gM (λO'=>aI T k O' Q') Q') x:=by
   intro x hx;cases x with
   |next O'=>exact kX h hx
   |exit id O'=>exact h _ hx
   |ret d=>exact h _ hx
  simp only[aI] at hx ⊢;split
  .rename_i hc;rw[if_pos hc] at hx;exact bx hq hx
  .rename_i hc;rw[if_neg hc] at hx;exact dw hq hx
 |blockS s id lr lo a k bx kX=>
  intro O Q Q' h hx;refine bx (λx hx=>?_) hx;cases x with
  |next O'=>exact kX h hx
  |exit bO O'=>
   simp only[mO] at hx ⊢;split
   .rename_i e;rw[if_pos e] at hx;exact kX h hx
   .rename_i e;rw[if_neg e] at hx;exact h _ hx
  |ret d=>exact h _ hx
 |brk s c k ih=>
  intro O Q Q' h hx;refine aK.mono hx λx hx=>?_;cases x with
  |next O'=>exact ih h hx
  |exit id O'=>exact h _ hx
  |ret d=>exact h _ hx
def aK.forRounds {T:cH}{id:Nat}{bF bE lr lo:List Nat}{a:PC}{O:Env}{Q:Out->Prop}(N:Nat)(str fO:Nat->List D)(h0:lr.map O.r=str 0/\lo.map O.o=fO 0)
 (step:∀k,k<N->aI T (round id bF bE lr lo a) (O.put lr (str k) lo (fO k)) (fm O id bF bE lr lo (λvr vo=>vr=str (k+1)/\vo=fO (k+1)) Q))
 (last:aI T (round id bF bE lr lo a) (O.put lr (str N) lo (fO N)) (fm O id bF bE lr lo (λ_ _=>False) Q)):aK T (.block id bF bE (.loop lr lo a)) O Q:=by
 refine .forLoop (α:=Nat) (λk vr vo=>k<=N/\vr=str k/\vo=fO k) (λk=>N-k) 0 ⟨kf _,h0.1,h0.2⟩ ?_;rintro k vr vo ⟨hk,rfl,rfl⟩;have mono:∀{K K':List D->List D->Prop},(∀a b,K a b->K' a b)->∀x,fm O id bF bE lr lo K Q x->fm O id bF bE lr lo K' Q x:=by
  intro K K' h x hx;cases x with
  |next O'=>exact h _ _ hx
  |exit bO O'=>exact hx
  |ret d=>exact hx
 by_cases af:k<N
 .exact A7 _ (mono λa b ⟨h1,h2⟩=>⟨k+1,by omega,by omega,h1,h2⟩) (step k af)
 .obtain rfl:k=N:=by omega
  exact A7 _ (mono λa b h=>h.elim) last
def Xy {O:Env}{id:Nat}{bF bE lr lo:List Nat}{K K':List D->List D->Prop}{Q:Out->Prop}(h:∀a b,K a b->K' a b):∀x,fm O id bF bE lr lo K Q x->fm O id bF bE lr lo K' Q x:=by
 intro x hx;cases x with
 |next O'=>exact h _ _ hx
 |exit bO O'=>exact hx
 |ret d=>exact hx
def aK.scan {T:cH}{id:Nat}{bF bE lr lo:List Nat}{a:PC}{O:Env}{Q:Out->Prop}(N:Nat)(ok:Nat->Prop)(str fO:Nat->List D)(h0:lr.map O.r=str 0/\lo.map O.o=fO 0)
 (step:∀k,k<N->(∀j,j<k->ok j)->ok k->aI T (round id bF bE lr lo a) (O.put lr (str k) lo (fO k)) (fm O id bF bE lr lo (λvr vo=>vr=str (k+1)/\vo=fO (k+1)) Q))
 (bad:∀k,k<N->(∀j,j<k->ok j)->¬ok k->aI T (round id bF bE lr lo a) (O.put lr (str k) lo (fO k)) (fm O id bF bE lr lo (λ_ _=>False) Q))
 (last:(∀j,j<N->ok j)->aI T (round id bF bE lr lo a) (O.put lr (str N) lo (fO N)) (fm O id bF bE lr lo (λ_ _=>False) Q)):aK T (.block id bF bE (.loop lr lo a)) O Q:=by
 refine .forLoop (α:=Nat) (λk vr vo=>k<=N/\(∀j,j<k->ok j)/\vr=str k/\vo=fO k) (λk=>N-k) 0 ⟨kf _,λj hj=>by omega,h0.1,h0.2⟩ ?_;rintro k vr vo ⟨hk,hj,rfl,rfl⟩;by_cases af:k<N
 .by_cases ax:ok k
  .refine A7 _ (Xy λa b ⟨h1,h2⟩=>⟨k+1,by omega,by omega,λj mY=>?_,h1,h2⟩) (step k af hj ax);by_cases e:j=k
   .subst e;exact ax
   .exact hj j (by omega)
  .exact A7 _ (Xy λa b h=>h.elim) (bad k af hj ax)
 .obtain rfl:k=N:=by omega
  exact A7 _ (Xy λa b h=>h.elim) (last hj)
def ar (n:Nat)(e:PE):PE:=.mk ((List.range n).map λi=>.cell e i)
def kg (n:Nat)(d:D):D:=.agg ((List.range n).flatMap λi=>(d.c i).cells)
def ao3 (O:Env)(n:Nat)(e:PE):(ar n e).ev O=kg n (e.ev O):=by
 have key:∀l:List Nat,PE.evc O (l.map λi=>.cell e i)=l.flatMap λi=>((e.ev O).c i).cells:=by
  intro l
  induction l with
  |nil=>rfl
  |cons i l ih=>simp only[iy,PE.evc,PE.ev,vF,ih]
 show D.agg _=_;rw[key];rfl
def aX (n:Int):Prop:=-9223372036854775808<=n/\n<=9223372036854775807
def ints (l:List Int):D:=.list (l.map .int)
def aQ {n:Int}(h:-9223372036854775808<=n/\n<=9223372036854775807):IntKind.i64.wrap n=n:=by
 simp only[IntKind.wrap,IntKind.signed,IntKind.bits];simp;split<;>omega
def DTy.int_inv {k:IntKind}{d:D}(h:DTy (.int k) d):∃n,d=.v (.int k n)/\k.min<=n/\n<=k.max:=by
 cases h with
 |int k n h1 h2=>exact⟨n,rfl,h1,h2⟩
 |other t d h=>exact h.elim
def DTy.i64_inv {d:D}(h:DTy (.int .i64) d):∃n,d=.int n/\aX n:=by
 obtain⟨n,rfl,h1,h2⟩:=h.int_inv;exact⟨n,rfl,by simpa [IntKind.min,IntKind.max,IntKind.signed,IntKind.bits] using h1,by simpa [IntKind.min,IntKind.max,IntKind.signed,IntKind.bits] using h2⟩
def DTy.bool_inv {d:D}(h:DTy .bool d):∃b,d=.bool b:=by
 cases h with
 |bool b=>exact⟨b,rfl⟩
 |other t d h=>exact h.elim
def DTy.slice_inv {e:Ty}{d:D}(h:DTy (.slice e) d):∃xs,d=.list xs/\xs.length<=maxLen/\∀x,x∈xs->DTy e.unf x:=by
 cases h with
 |slice e xs hm h=>exact⟨xs,rfl,hm,h⟩
 |other t d h=>exact h.elim
def DTy.agg_inv {ts:List Ty}{d:D}(h:DTy (.agg ts) d):∃ds,d=.agg ds/\DTys ts ds:=by
 cases h with
 |agg ts ds h=>exact⟨ds,rfl,h⟩
 |other t d h=>exact h.elim
def DTys.cons_inv {t:Ty}{ts:List Ty}{ds:List D}(h:DTys (t::ts) ds):∃d ds',ds=d::ds'/\DTy t d/\DTys ts ds':=by
 cases h with
 |cons h hs=>exact⟨_,_,rfl,h,hs⟩
def DTys.nil_inv {ds:List D}(h:DTys [] ds):ds=[]:=by cases h;rfl
def kz {α:Type}{enc:α->D}{P:α->Prop}{xs:List D}(h:∀x,x∈xs->∃a,x=enc a/\P a):∃l:List α,xs=l.map enc/\∀a,a∈l->P a:=by
 induction xs with
 |nil=>exact⟨[],rfl,λ_ h=>nomatch h⟩
 |cons x xs ih=>
  obtain⟨l,hl,hp⟩:=ih λy hy=>h y (fy _ hy);obtain⟨a,ha,pa⟩:=h x (fQ ..)
  exact⟨a::l,by rw[hl,ha];rfl,λb hb=>by
   rcases cv.1 hb with e|hb
   .rw[e];exact pa
   .exact hp b hb⟩
def DTy.ints_inv {d:D}(h:DTy (.slice (.int .i64)) d):∃l:List Int,d=ints l/\l.length<=maxLen/\∀x,x∈l->aX x:=by
 obtain⟨xs,rfl,hm,hx⟩:=h.slice_inv;obtain⟨l,rfl,hl⟩:=kz (enc:=D.int) (P:=aX) λx hh=>(hx x hh).i64_inv;exact⟨l,rfl,by simpa using hm,hl⟩
section
variable (O:Env) (T:cH)
@[simp] def aIz (t:Nat):PE.ev O (.r t)=O.r t:=zyz
@[simp] def aIw (t:Nat):PE.ev O (.o t)=O.o t:=zyz
@[simp] def aIh (d:D):PE.ev O (.con d)=d:=zyz
@[simp] def aIe (e:PE)(i:Nat):PE.ev O (.cell e i)=(PE.ev O e).c i:=zyz
@[simp] def aIJ (e:PE)(a n:Nat):PE.ev O (.sub e a n)=.agg (((PE.ev O e).cells.drop a).take n):=zyz
@[simp] def aIC (e x:PE)(n:Nat):PE.ev O (.setc e n x)=.agg (dI (PE.ev O e).cells n (PE.ev O x).cells):=zyz
@[simp] def aIp (es:List PE):PE.ev O (.mk es)=.agg (PE.evc O es):=zyz
@[simp] def aH9 (op:BinOp)(k:IntKind)(x y:PE):PE.ev O (.ai op k x y)=.v (.int k (bS op k (PE.ev O x).i (PE.ev O y).i)):=zyz
@[simp] def aIf (op:BinOp)(x y:PE):PE.ev O (.ci op x y)=.v (.bool (jJ op (PE.ev O x).i (PE.ev O y).i)):=zyz
@[simp] def aId (op:BinOp)(x y:PE):PE.ev O (.cb op x y)=.v (.bool (Cf op (PE.ev O x).b (PE.ev O y).b)):=zyz
@[simp] def aIj (op:BinOp)(x y:PE):PE.ev O (.cs op x y)=.v (.bool (Ch op (PE.ev O x).s (PE.ev O y).s)):=zyz
@[simp] def aIu (x:PE):PE.ev O (.nt x)=.v (.bool (!(PE.ev O x).b)):=zyz
@[simp] def aIi (k:IntKind)(x:PE):PE.ev O (.conv k x)=.v (.int k (k.wrap (PE.ev O x).i)):=zyz
@[simp] def aIx (c a b:PE):PE.ev O (.pick c a b)=if(PE.ev O c).b=true then PE.ev O a else PE.ev O b:=by
  simp only[PE.ev];cases(PE.ev O c).b<;>rfl
@[simp] def aIq (n:Nat)(e:PE):PE.ev O (ar n e)=kg n (PE.ev O e):=ao3 O n e
@[simp] def aIc (x:PE):PE.ev O (.bytes x)=.list ((PE.ev O x).s.data.toList.map λb=>.v (.int .u8 b.toNat)):=zyz
@[simp] def aIm (x:PE):PE.ev O (.llen x)=.v (.int .i64 (PE.ev O x).l.length):=zyz
@[simp] def aIG (x:PE):PE.ev O (.slen x)=.v (.int .i64 (PE.ev O x).s.size):=zyz
@[simp] def aIr (x:PE):PE.ev O (.mlen x)=.v (.int .i64 (PE.ev O x).m.length):=zyz
@[simp] def aIv (x i:PE):PE.ev O (.nth x i)=(PE.ev O x).l.getD (PE.ev O i).i.toNat .none:=zyz
@[simp] def aIl (x i:PE):PE.ev O (.idx x i)=.v (.bool (decide (0<=(PE.ev O i).i/\(PE.ev O i).i<(PE.ev O x).l.length))):=zyz
@[simp] def aID (x i y:PE)(n:Nat):PE.ev O (.setn x i n y)=.list ((PE.ev O x).l.set (PE.ev O i).i.toNat (xw ((PE.ev O x).l.getD (PE.ev O i).i.toNat .none) n (PE.ev O y))):=zyz
@[simp] def aIb (x y:PE):PE.ev O (.app x y)=.list ((PE.ev O x).l++(PE.ev O y).l):=zyz
@[simp] def aIo (es:List PE):PE.ev O (.lst es)=.list (PE.evs O es):=zyz
@[simp] def aIB (x y:PE):PE.ev O (.rep x y)=.list (List.replicate (PE.ev O x).i.toNat (PE.ev O y)):=zyz
@[simp] def aIF (x a b:PE):PE.ev O (.slc x a b)=.list (((PE.ev O x).l.take (PE.ev O b).i.toNat).drop (PE.ev O a).i.toNat):=zyz
@[simp] def aIH (x a b:PE):PE.ev O (.slok x a b)=.v (.bool (decide (0<=(PE.ev O a).i/\(PE.ev O a).i<=(PE.ev O b).i/\(PE.ev O b).i<=(PE.ev O x).l.length))):=zyz
@[simp] def aIA (x:PE):PE.ev O (.ref x)=.ref (PE.ev O x):=zyz
@[simp] def aIk (x:PE):PE.ev O (.deref x)=(PE.ev O x).deref:=zyz
@[simp] def aIn (m k z:PE):PE.ev O (.look m k z)=(jR (PE.ev O k) (PE.ev O m).m).getD (PE.ev O z):=zyz
@[simp] def aIy (m k v:PE):PE.ev O (.put m k v)=.map (gd (PE.ev O k) (PE.ev O v) (PE.ev O m).m):=zyz
@[simp] def aIs (x y:PE):PE.ev O (.mn x y)=if(PE.ev O y).i<(PE.ev O x).i then PE.ev O y else PE.ev O x:=by
  simp only[PE.ev];by_cases h:(PE.ev O y).i<(PE.ev O x).i<;>simp[h]
@[simp] def aIt (x y:PE):PE.ev O (.mx x y)=if(PE.ev O y).i>(PE.ev O x).i then PE.ev O y else PE.ev O x:=by
  simp only[PE.ev];by_cases h:(PE.ev O y).i>(PE.ev O x).i<;>simp[h]
@[simp] def aIL (es:List PE):PE.ev O (.tup es)=.tup (PE.evs O es):=zyz
@[simp] def aIK (x:PE)(i:Nat):PE.ev O (.tget x i)=(PE.ev O x).tget i:=zyz
@[simp] def aIg (f:Nat)(es:List PE):PE.ev O (.clo f es)=.clo f (PE.evs O es):=zyz
@[simp] def aIa (x y:PE):PE.ev O (.an x y)=.v (.bool ((PE.ev O x).b&&(PE.ev O y).b)):=zyz
@[simp] def aIP:PE.evs O []=[]:=zyz
@[simp] def aIO (e:PE)(es:List PE):PE.evs O (e::es)=PE.ev O e::PE.evs O es:=zyz
@[simp] def aIN:PE.evc O []=[]:=zyz
@[simp] def aIM (e:PE)(es:List PE):PE.evc O (e::es)=(PE.ev O e).cells++PE.evc O es:=zyz
@[simp] def anN (x:Bool):(D.bool x).b=x:=zyz
@[simp] def aH2 (k:IntKind)(n:Int):(D.v (.int k n)).i=n:=zyz
@[simp] def anX (n:Int):(D.int n).i=n:=zyz
@[simp] def aHY (x:List D):(D.list x).l=x:=zyz
@[simp] def aHW (l:List Int):(ints l).l=l.map .int:=zyz
@[simp] def aHZ (x:List (D×D)):(D.map x).m=x:=zyz
@[simp] def aHN (x:List D)(i:Nat):(D.agg x).c i=x.getD i .none:=zyz
@[simp] def aHO (x:List D):(D.agg x).cells=x:=zyz
@[simp] def aHX (x:List D):(D.list x).cells=[.list x]:=zyz
@[simp] def aHV (x:List Int):(ints x).cells=[ints x]:=zyz
@[simp] def aHS (n:Int):(D.int n).cells=[.int n]:=zyz
@[simp] def aHP (n:Bool):(D.bool n).cells=[.bool n]:=zyz
@[simp] def aH1 (x:List D)(i:Nat):(D.tup x).tget i=x.getD i .none:=zyz
@[simp] def aH0 (x:D):(D.ref x).deref=x:=zyz
@[simp] def aK6 (s:SE)(t:Nat):(s.ev O).r t=PE.ev O (s.getR t):=zyz
@[simp] def aK5 (s:SE)(t:Nat):(s.ev O).o t=PE.ev O (s.getO t):=zyz
@[simp] def aIY (o:List (Nat×PE))(u:Nat):SE.getR ⟨[],o⟩ u=.r u:=zyz
@[simp] def aIX (t:Nat)(e:PE)(r o:List (Nat×PE))(u:Nat):SE.getR ⟨(t,e)::r,o⟩ u=if t=u then e else SE.getR ⟨r,o⟩ u:=by
  simp only[SE.getR,bI];by_cases h:t=u
  .subst h;simp
  .simp[fS h,h]
@[simp] def aIW (r:List (Nat×PE))(u:Nat):SE.getO ⟨r,[]⟩ u=.o u:=zyz
@[simp] def aIV (t:Nat)(e:PE)(r o:List (Nat×PE))(u:Nat):SE.getO ⟨r,(t,e)::o⟩ u=if t=u then e else SE.getO ⟨r,o⟩ u:=by
  simp only[SE.getO,bI];by_cases h:t=u
  .subst h;simp
  .simp[fS h,h]
@[simp] def setR_r (t u:Nat)(d:D):(O.setR t d).r u=if u=t then d else O.r u:=Env.setR_r O t u d
@[simp] def aLc (t u:Nat)(d:D):(O.setR t d).o u=O.o u:=zyz
@[simp] def setO_o (t u:Nat)(d:D):(O.setO t d).o u=if u=t then d else O.o u:=Env.setO_o O t u d
@[simp] def aLb (t u:Nat)(d:D):(O.setO t d).r u=O.r u:=zyz
@[simp] def aKX (lr lo:List Nat)(vr vo:List D)(u:Nat):(O.put lr vr lo vo).r u=putL O.r lr vr u:=zyz
@[simp] def aKW (lr lo:List Nat)(vr vo:List D)(u:Nat):(O.put lr vr lo vo).o u=putL O.o lo vo u:=zyz
@[simp] def join_r (O':Env)(lr lo:List Nat)(u:Nat):(O.join lr lo O').r u=if u∈lr then O'.r u else O.r u:=Env.join_r O O' lr lo u
@[simp] def join_o (O':Env)(lr lo:List Nat)(u:Nat):(O.join lr lo O').o u=if u∈lo then O'.o u else O.o u:=Env.join_o O O' lr lo u
@[simp] def aKU (f:Nat->D)(i:Nat)(is:List Nat)(x:D)(xs:List D)(u:Nat):putL f (i::is) (x::xs) u=if u=i then x else putL f is xs u:=Nx f i is x xs u
@[simp] def aKV (f:Nat->D)(xs:List D)(u:Nat):putL f [] xs u=f u:=Ny f xs u
@[simp] def aH5 (ds:List D)(u:Nat):(lF ds).r u=ds.getD u .none:=zyz
@[simp] def aJF:holds [] O=true:=zyz
@[simp] def aJE (g:Nat×Bool)(gs:List (Nat×Bool)):holds (g::gs) O=((O.r g.1).b==g.2&&holds gs O):=zyz
variable (Q:Out->Prop)
@[simp] def aLV (s:SE):aI T (.next s) O Q=Q (.next (s.ev O)):=zyz
@[simp] def aLR (id:Nat)(s:SE):aI T (.exit id s) O Q=Q (.exit id (s.ev O)):=zyz
@[simp] def aLW (e:PE):aI T (.ret e) O Q=Q (.ret (e.ev O)):=zyz
@[simp] def aLQ (e:PE)(k:PT):aI T (.chk e k) O Q=((e.ev O).b=true/\aI T k O Q):=zyz
@[simp] def aLS (c:PE)(a b:PT):aI T (.ite c a b) O Q=if(c.ev O).b=true then aI T a O Q else aI T b O Q:=zyz
@[simp] def aLO (s:SE)(gs:List (Nat×Bool))(dst f:Nat)(args:List PE)(k:PT):aI T (.call s gs dst f args k) O Q=if holds gs (s.ev O)=true then ∃d,aj T f (PE.evs O args) d/\aI T k ((s.ev O).setR dst d) Q else aI T k (s.ev O) Q:=zyz
@[simp] def aLU (s:SE)(j f:Nat)(args:List PE)(k:PT):aI T (.mcall s j f args k) O Q=∃d,aj T f (PE.evs O args) d/\aI T k ((s.ev O).setO j d) Q:=zyz
@[simp] def aLT (s:SE)(c:PE)(lr lo:List Nat)(a b k:PT):aI T (.iteS s c lr lo a b k) O Q=if(c.ev O).b=true then aI T a (s.ev O) (lS (s.ev O) lr lo (gM (λO'=>aI T k O' Q) Q)) else aI T b (s.ev O) (lS (s.ev O) lr lo (gM (λO'=>aI T k O' Q) Q)):=zyz
@[simp] def aLM (s:SE)(id:Nat)(lr lo:List Nat)(a k:PT):aI T (.blockS s id lr lo a k) O Q=aI T a (s.ev O) (mO (s.ev O) id lr lo (gM (λO'=>aI T k O' Q) Q)):=zyz
@[simp] def aLN (s:SE)(c:PC)(k:PT):aI T (.brk s c k) O Q=aK T c (s.ev O) (gM (λO'=>aI T k O' Q) Q):=zyz
variable (K:Env->Prop) (id:Nat) (lr lo bF bE:List Nat) (K2:List D->List D->Prop)
@[simp] def aK9 (O':Env):gM K Q (.next O')=K O':=zyz
@[simp] def aK8 (i:Nat)(O':Env):gM K Q (.exit i O')=Q (.exit i O'):=zyz
@[simp] def aLa (d:D):gM K Q (.ret d)=Q (.ret d):=zyz
@[simp] def aJ4 (O':Env):lS O lr lo Q (.next O')=Q (.next (O.join lr lo O')):=zyz
@[simp] def aJ5 (d:D):lS O lr lo Q (.ret d)=Q (.ret d):=zyz
@[simp] def aHw (O':Env):mO O id lr lo Q (.next O')=Q (.next (O.join lr lo O')):=zyz
@[simp] def aHv (i:Nat)(O':Env):mO O id lr lo Q (.exit i O')=if i=id then Q (.next (O.join lr lo O')) else Q (.exit i O'):=zyz
@[simp] def aHx (d:D):mO O id lr lo Q (.ret d)=Q (.ret d):=zyz
@[simp] def aK2 (O':Env):fm O id bF bE lr lo K2 Q (.next O')=K2 (lr.map O'.r) (lo.map O'.o):=zyz
@[simp] def aK1 (i:Nat)(O':Env):fm O id bF bE lr lo K2 Q (.exit i O')=if i=id then Q (.next (O.put bF (bF.map O'.r) bE (bE.map O'.o))) else Q (.exit i O'):=zyz
@[simp] def aK3 (d:D):fm O id bF bE lr lo K2 Q (.ret d)=Q (.ret d):=zyz
@[simp] def aLP (s:SE)(gs:List (Nat×Bool))(dst:Nat)(e:PE)(args:List PE)(k:PT):aI T (.callc s gs dst e args k) O Q=if holds gs (s.ev O)=true then ∃f caps d,e.ev O=.clo f caps/\aj T f (PE.evs O args++caps) d/\aI T k ((s.ev O).setR dst d) Q else aI T k (s.ev O) Q:=zyz
@[simp] def aH3 (rt:Option PE)(K3:List D->Prop)(i:Nat)(O':Env):vT O lo rt K3 Q (.exit i O')=if i=cN then ∃e,rt=some e/\Q (.ret (e.ev (O.put [] [] lo (lo.map O'.o)))) else Q (.exit i (O.put [] [] lo (lo.map O'.o))):=zyz
@[simp] def aH6 (J:Nat)(ds:List D)(u:Nat):(Cm J ds).r u=(D.none::ds).getD u .none:=zyz
def aoZ (J:Nat)(ds:List D)(u:Nat):(Cm J ds).o u=if u=J then .list [] else .none:=by
 show(bif Nat.beq u J then D.list [] else .none)=_;by_cases h:u=J
 .subst h;simp
 .simp[fS h,h]
@[simp] def aKR (p:Nat)(x:D):partsOf [p] x=[x.tget 0]:=zyz
end
section
variable (k:IntKind) (a b:Int)
@[simp] def aHo:bS .add k a b=k.wrap (a+b):=zyz
@[simp] def aHs:bS .sub k a b=k.wrap (a-b):=zyz
@[simp] def aHp:bS .mul k a b=k.wrap (a*b):=zyz
@[simp] def aHq:bS .quo k a b=k.wrap (a.tdiv b):=zyz
@[simp] def aHr:bS .rem k a b=a.tmod b:=zyz
@[simp] def aHF:jJ .eql a b=(a==b):=zyz
@[simp] def aHK:jJ .neq a b=(a !=b):=zyz
@[simp] def aHJ:jJ .lss a b=decide (a<b):=zyz
@[simp] def aHI:jJ .leq a b=decide (a<=b):=zyz
@[simp] def aHH:jJ .gtr a b=decide (a>b):=zyz
@[simp] def aHG:jJ .geq a b=decide (a>=b):=zyz
variable (x y:Bool)
@[simp] def aHy:Cf .eql x y=(x==y):=zyz
@[simp] def aHz:Cf .neq x y=(!(x==y)):=zyz
end
def aj.of_tree {tab:Nat->Option PC}{ext:Nat->Option (aO->List D->Option D)}{f:Nat}{pc:PC}{t:PT}{ds:List D}{d:D}(hx:ext f=none)(ht:tab f=some pc)(he:tree pc=t)(h:aI (cP tab ext) t (lF ds) (λx=>x=.ret d)):aj (cP tab ext) f ds d:=
 .of_pc hx ht (Pj (he▸h))
@[simp] def aHU (n:Int):D.v (.int .i64 n)=D.int n:=zyz
@[simp] def aHR (b:Bool):D.v (.bool b)=D.bool b:=zyz
@[simp] def aHT (a b:Int):(D.int a=D.int b)=(a=b):=by
  apply propext;constructor
  .intro h;injection h with h;injection h
  .intro h;rw[h]
@[simp] def aHQ (a b:Bool):(D.bool a=D.bool b)=(a=b):=by
  apply propext;constructor
  .intro h;injection h with h;injection h
  .intro h;rw[h]
section
variable (c:Prop) [Decidable c] (x y:D)
@[simp] def aJ2:(if c then x else y).b=if c then x.b else y.b:=by split<;>rfl
@[simp] def aJ3:(if c then x else y).i=if c then x.i else y.i:=by split<;>rfl
end
@[simp] def aLX:IntKind.i64.wrap 0=0:=aQ (by omega)
end Cx
namespace Cx
open Go
inductive Tm where
 |mk (op n:Int) (args:List Tm)
instance:Inhabited Tm:=⟨.mk 0 0 []⟩
namespace Tm
def op:Tm->Int|.mk o _ _=>o
def n:Tm->Int|.mk _ n _=>n
def args:Tm->List Tm|.mk _ _ aa=>aa
end Tm
mutual
def dL:Tm->D
 |.mk o n aa=>.agg [.int o,.int n,.list (Ll aa)]
def Ll:List Tm->List D
 |[]=>[]
 |t::ts=>dL t::Ll ts
end
def Rn:∀l:List Tm,Ll l=l.map dL
 |[]=>rfl
 |t::l=>by rw[Ll,Rn l];rfl
def Fq (t:Tm):dL t=.agg [.int t.op,.int t.n,.list (t.args.map dL)]:=by
 cases t with
 |mk o n aa=>rw[dL,Rn];rfl
inductive Tm.OK:Tm->Prop where
 |mk (o n:Int) (aa:List Tm) (h1:aX o) (h2:aX n) (h3:aa.length<=maxLen) (h:∀a,a∈aa->Tm.OK a):Tm.OK (.mk o n aa)
def DTy.trm_inv {d:D}(h:DTy .trmA d):∃t:Tm,d=dL t/\t.OK:=by
 suffices hs:∀(m:Nat) (d:D),sizeOf d<=m->DTy .trmA d->∃t:Tm,d=dL t/\t.OK from hs _ d (aZ _) h
 intro m
 induction m with
 |zero=>
  intro d hm h;cases d<;>simp at hm
 |succ m ih=>
  intro d hm h;obtain⟨ds,rfl,hs⟩:=DTy.agg_inv h;obtain⟨d1,ds,rfl,h1,hs⟩:=hs.cons_inv;obtain⟨d2,ds,rfl,h2,hs⟩:=hs.cons_inv;obtain⟨d3,ds,rfl,h3,hs⟩:=hs.cons_inv;obtain rfl:=hs.nil_inv;obtain⟨o,rfl,b1⟩:=h1.i64_inv;obtain⟨n,rfl,b2⟩:=h2.i64_inv;obtain⟨xs,rfl,hl,hx⟩:=h3.slice_inv
  obtain⟨l,rfl,ax⟩:=kz (enc:=dL) (P:=Tm.OK) λx hh=>ih x (by
   have:=List.sizeOf_lt_of_mem hh;simp at hm;omega) (hx x hh)
  exact⟨.mk o n l,by rw[dL,Rn],.mk o n l b1 b2 (by simpa using hl) ax⟩
def DTy.trms_inv {d:D}(h:DTy (.slice .trm) d):∃l:List Tm,d=.list (l.map dL)/\l.length<=maxLen/\∀t,t∈l->t.OK:=by
 obtain⟨xs,rfl,hl,hx⟩:=h.slice_inv;obtain⟨l,rfl,ax⟩:=kz (enc:=dL) (P:=Tm.OK) λx hh=>DTy.trm_inv (hx x hh);exact⟨l,rfl,by simpa using hl,ax⟩
def O0 (g:Nat)(zs:List Int):Nat->Option (Ty×D):=λk=>bif Nat.beq k g then some (.agg (zs.map λ_=>.int .i64),.agg (zs.map λz=>.v (.int .i64 z))) else none
def aAU {C:Ctx}{g:Nat}{zs:List Int}{name:String}{W:World}(hC:C.glob=O0 g zs)(hg:C.P.globalNamed name=some g)(hz:zs.all (λz=>decide (IntKind.i64.min<=z)&&decide (z<=IntKind.i64.max))=true)
 (h:Lib.TabIs C.P W name .i64 zs) (h0:g<=2:=by decide) (ay:0<zs.length:=by decide):CtxOK C (lQ W):=by
 have wq:∀g' x,C.glob g'=some x->g'=g:=λg' x hx=>by
  rw[hC] at hx;unfold O0 at hx;cases hk:Nat.beq g' g<;>simp only[hk,zyy,zyx] at hx
  .cases hx
  .exact aD hk
 refine⟨λk x hx=>?_,λk x hx=>?_⟩
 rotate_right
 .obtain rfl:=wq k x hx;exact afg (h.cell hg 0 ay)
 rw[hC] at hx;unfold O0 at hx;cases hk:Nat.beq k g<;>simp only[hk,zyy,zyx] at hx
 .cases hx
 cases hx;obtain rfl:=aD hk
 have cW:Rep C.cap (lQ W) (.agg (zs.map λ_=>.int .i64)) (.agg (zs.map λz=>Value.int .i64 z).toArray) (.agg (zs.map λz=>.v (.int .i64 z))):=by
  refine .agg _ _ _ (by simp) (by simp) (λi t ht=>?_) (λi t ht=>?_)
  .rw[cq,aB] at ht;obtain⟨z,pW,rfl⟩:=ht;rw[aH,aH,cq,cq,pW];have:=cM.1 hz z (j9 pW);simp only[au,decide_eq_true_eq] at this;exact .int _ _ this.1 this.2
  .rw[cq,aB] at ht;obtain⟨z,_,rfl⟩:=ht;rfl
 refine .ref _ k 0 _ _ cW λj u hu=>?_;simp only[Value.cells,xT,cq,aB] at hu;obtain⟨z,pW,rfl⟩:=hu;have af:=(eO.1 pW).1;have:=h.cell hg j af;refine aff ?_ (.inl h0);rw[ke,this,aH,pW];rfl
end Cx
namespace Cx
open Go Go.RowKit
def loops:PC->List PC
 |.seq a b=>loops a++loops b
 |.ite _ _ _ a b=>loops a++loops b
 |.block id lr lo (.loop Un Uk a)=>loops a++[.block id lr lo (.loop Un Uk a)]
 |.block _ _ _ a=>loops a
 |.loop _ _ a=>loops a
 |.each e ps lo rt a=>loops a++[.each e ps lo rt a]
 |.meach J ps cO lo a=>loops a++[.meach J ps cO lo a]
 |_=>[]
def QO:PC->PC
 |.block _ _ _ (.loop _ _ a)=>a
 |.each _ _ _ _ a=>a
 |.meach _ _ _ _ a=>a
 |_=>.skip
def MI (c:PC)(k:Nat):PC:=(loops c).getD k .skip
def rnd:PC->PT
 |.block id lr lo (.loop Un Uk a)=>round id lr lo Un Uk a
 |.each _ _ lo _ a=>rY lo a
 |.meach _ _ _ lo a=>rY lo a
 |_=>.next .id
inductive Shp where
 |lp (id:Nat) (bF bE lr lo:List Nat)
 |ea (lo:List Nat)
 |no
def D2:PC->Shp
 |.block id bF bE (.loop lr lo _)=>.lp id bF bE lr lo
 |.each _ _ lo _ _=>.ea lo
 |.meach _ _ _ lo _=>.ea lo
 |_=>.no
def told (c:PC):PT×List (Shp×PT):=(tree c,(loops c).map λl=>(D2 l,rnd l))
def O4 {o:Option PC}{t:PT}{l:List (Shp×PT)}(h:o.map told=some (t,l)):o=some (o.getD .skip)/\tree (o.getD .skip)=t/\∀k x,l[k]?=some x->(D2 (MI (o.getD .skip) k),rnd (MI (o.getD .skip) k))=x:=by
 cases o with
 |none=>cases h
 |some c=>
  have h1:told c=(t,l):=by injection h
  unfold told at h1;injection h1 with h1 h2
  refine⟨rfl,h1,λk x hx=>?_⟩;subst h2;simp only[cq,aB] at hx;obtain⟨y,hy,rfl⟩:=hx;have:MI ((some c:Option PC).getD .skip) k=y:=by
   show(loops c).getD k .skip=y;rw[aH,hy];rfl
  rw[this]
def azs {c:PC}{id:Nat}{bF bE lr lo:List Nat}{t:PT}(h:(D2 c,rnd c)=(.lp id bF bE lr lo,t)):round id bF bE lr lo (QO c)=t:=by
 injection h with h1 h2
 subst h2;unfold D2 at h1;split at h1
 .cases h1;rfl
 all_goals cases h1
def aoK {c:PC}{lo:List Nat}{t:PT}(h:(D2 c,rnd c)=(.ea lo,t)):rY lo (QO c)=t:=by
 injection h with h1 h2
 subst h2;unfold D2 at h1;split at h1
 .cases h1
 .cases h1;rfl
 .cases h1;rfl
 .cases h1
def cJ {α:Type}(x:α):α:=Classical.choose (⟨x,rfl⟩:∃y,y=x)
def F0 {α:Type}(x:α):cJ x=x:=aaZ (⟨x,rfl⟩:∃y,y=x)
def bk (o:Option PC):Nat->PC:=λk=>QO (MI (o.getD .skip) k)
abbrev ab (o:Option PC):PC:=cJ (o.getD .skip)
abbrev bo (o:Option PC):Nat->PC:=cJ (bk o)
section
variable {o:Option PC} {F:(Nat->PC)->PT×List (Shp×PT)}
def aBb (h:o.map told=some (F (bk o))):o=some (ab o):=by unfold ab;rw[F0];exact(O4 (t:=(F (bk o)).1) (l:=(F (bk o)).2) h).1
def bH (h:o.map told=some (F (bk o))):tree (ab o)=(F (bo o)).1:=by unfold ab bo;rw[F0,F0];exact(O4 (t:=(F (bk o)).1) (l:=(F (bk o)).2) h).2.1
def bm (h:o.map told=some (F (bk o)))(k:Nat){id:Nat}{bF bE lr lo:List Nat}{t:(Nat->PC)->PT}(hk:∀b,(F b).2[k]?=some (.lp id bF bE lr lo,t b)):round id bF bE lr lo (bo o k)=t (bo o):=by
 unfold bo;rw[F0];exact azs ((O4 (t:=(F (bk o)).1) (l:=(F (bk o)).2) h).2.2 k _ (hk _))
def XY (h:o.map told=some (F (bk o)))(k:Nat){lo:List Nat}{t:(Nat->PC)->PT}(hk:∀b,(F b).2[k]?=some (.ea lo,t b)):rY lo (bo o k)=t (bo o):=by
 unfold bo;rw[F0];exact aoK ((O4 (t:=(F (bk o)).1) (l:=(F (bk o)).2) h).2.2 k _ (hk _))
end
def av {α:Type}{R:Nat->α->Prop}{f:Nat}{x:α}{l:List (Nat×α)}(h:R f x)(k:I6 R l):I6 R ((f,x)::l):=⟨h,k⟩
def af6 {α:Type}:∀{l:List (Nat×α)},(l.map (·.1)).Nodup->∀{k f:Nat} {x:α},l[k]?=some (f,x)->bI l f=some x
 |[],_,k,f,x,h=>by simp at h
 |y::l,hn,0,f,x,h=>by
  simp only[PG,bj] at h;subst h;simp[bI]
 |y::l,hn,k+1,f,x,h=>by
  simp only[abb] at h;rw[iy,qE] at hn;have hm:f∈l.map (·.1):=cd.2 ⟨(f,x),j9 h,rfl⟩;have hb:Nat.beq y.1 f=false:=by
   cases e:Nat.beq y.1 f with
   |false=>rfl
   |true=>rw[df e] at hn;exact absurd hm hn.1
  simp only[bI,hb,zyx];exact af6 hn.2 h
abbrev pT:PE:=.con (.bool true)
abbrev pF:PE:=.con (.bool false)
abbrev pN:PE:=.con .none
abbrev pL:PE:=.con (.list [])
abbrev pi (n:Int):PE:=.con (.int n)
abbrev aA (a b:PE):PE:=.ai .add .i64 a b
abbrev bf (a b:PE):PE:=.ai .sub .i64 a b
abbrev peq (a b:PE):PE:=.ci .eql a b
abbrev aF (a b:PE):PE:=.ci .neq a b
abbrev ah (a b:PE):PE:=.ci .lss a b
abbrev bz (a b:PE):PE:=.ci .leq a b
abbrev aR (a b:PE):PE:=.ci .gtr a b
abbrev ba (a b:PE):PE:=.ci .geq a b
abbrev pc (a:PE)(i:Nat):PE:=.cell a i
abbrev pn (a b:PE):PE:=.nth a b
abbrev ao (a b:PE):PE:=.idx a b
abbrev z2:PE:=.con (.agg [(.int 0),(.int 0)])
abbrev z3:PE:=.con (.agg [(.int 0),(.int 0),(.int 0)])
abbrev z4:PE:=.con (.agg [(.int 0),(.int 0),(.int 0),(.int 0)])
abbrev z5:PE:=.con (.agg [(.int 0),(.int 0),(.int 0),(.int 0),(.int 0)])
abbrev z6:PE:=.con (.agg [(.int 0),(.int 0),(.int 0),(.int 0),(.int 0),(.int 0)])
abbrev z9:PE:=.con (.agg [(.int 0),(.int 0),(.int 0),(.int 0),(.int 0),(.int 0),(.int 0),(.int 0),(.int 0)])
abbrev Pn:PE:=.con (.agg [(.int 0),(.int 0),(.int 0),(.int 0),(.int 0),(.int 0),(.int 0),(.int 0),(.int 0),(.int 0),(.int 0),(.int 0),(.int 0),(.int 0),(.int 0)])
abbrev r0:PE:=.r 0
abbrev r1:PE:=.r 1
abbrev r2:PE:=.r 2
abbrev r3:PE:=.r 3
abbrev r4:PE:=.r 4
abbrev r5:PE:=.r 5
abbrev r6:PE:=.r 6
abbrev r7:PE:=.r 7
abbrev r8:PE:=.r 8
abbrev r9:PE:=.r 9
abbrev dg:PE:=.r 10
abbrev bL:PE:=.r 11
abbrev bY:PE:=.r 12
abbrev dh:PE:=.r 13
abbrev bU:PE:=.r 14
abbrev dt:PE:=.r 15
abbrev cU:PE:=.r 16
abbrev jn:PE:=.r 17
abbrev cE:PE:=.r 18
abbrev fN:PE:=.r 19
abbrev dV:PE:=.r 20
abbrev gH:PE:=.r 21
abbrev kD:PE:=.r 22
abbrev gI:PE:=.r 23
abbrev lg:PE:=.r 24
abbrev gh:PE:=.r 25
abbrev kE:PE:=.r 26
abbrev dx:PE:=.r 27
abbrev il:PE:=.r 28
abbrev nu:PE:=.r 29
abbrev tP:PE:=.r 30
abbrev tQ:PE:=.r 31
abbrev tR:PE:=.r 32
abbrev tS:PE:=.r 33
abbrev Hq:PE:=.r 34
abbrev oY:PE:=.r 35
abbrev iu:PE:=.r 36
abbrev lY:PE:=.r 37
abbrev jY:PE:=.r 38
abbrev rS:PE:=.r 39
abbrev rT:PE:=.r 40
abbrev tT:PE:=.r 41
abbrev Wk:PE:=.r 42
abbrev tU:PE:=.r 43
abbrev Ar:PE:=.r 44
abbrev rU:PE:=.r 45
abbrev Hr:PE:=.r 46
abbrev N2:PE:=.r 47
abbrev fj:PE:=.r 48
abbrev fl:PE:=.r 49
abbrev nv:PE:=.r 50
abbrev oZ:PE:=.r 51
abbrev Hs:PE:=.r 52
abbrev DJ:PE:=.r 53
abbrev pf:PE:=.r 54
abbrev vl:PE:=.r 55
abbrev pg:PE:=.r 56
abbrev tV:PE:=.r 57
abbrev DK:PE:=.r 58
abbrev r59:PE:=.r 59
abbrev xg:PE:=.r 60
abbrev Ht:PE:=.r 61
abbrev ph:PE:=.r 62
abbrev N3:PE:=.r 63
abbrev mz:PE:=.r 64
abbrev DL:PE:=.r 65
abbrev r66:PE:=.r 66
abbrev xh:PE:=.r 67
abbrev r68:PE:=.r 68
abbrev As:PE:=.r 69
abbrev r70:PE:=.r 70
abbrev Hu:PE:=.r 72
abbrev Hv:PE:=.r 73
abbrev Wl:PE:=.r 74
abbrev Wm:PE:=.r 75
abbrev vm:PE:=.r 76
abbrev N4:PE:=.r 77
abbrev r78:PE:=.r 78
abbrev Au:PE:=.r 80
abbrev Av:PE:=.r 81
abbrev lZ:PE:=.r 82
abbrev Wn:PE:=.r 84
abbrev Hw:PE:=.r 85
abbrev r86:PE:=.r 86
abbrev r87:PE:=.r 87
abbrev Hx:PE:=.r 88
abbrev r89:PE:=.r 89
abbrev r90:PE:=.r 90
abbrev Wo:PE:=.r 92
abbrev Hy:PE:=.r 93
abbrev r94:PE:=.r 94
abbrev r95:PE:=.r 95
abbrev Wp:PE:=.r 96
abbrev r98:PE:=.r 98
abbrev Hz:PE:=.r 99
abbrev ajm:PE:=.r 103
abbrev ay4:PE:=.r 104
abbrev Hp:PE:=.r 106
abbrev Wi:PE:=.r 108
abbrev ay5:PE:=.r 109
abbrev Wj:PE:=.r 112
abbrev ajn:PE:=.r 115
abbrev ay6:PE:=.r 121
abbrev ajo:PE:=.r 124
abbrev ay7:PE:=.r 127
abbrev o0:PE:=.o 0
abbrev o1:PE:=.o 1
abbrev o2:PE:=.o 2
abbrev o3:PE:=.o 3
abbrev o4:PE:=.o 4
abbrev o5:PE:=.o 5
abbrev o6:PE:=.o 6
abbrev o7:PE:=.o 7
abbrev o8:PE:=.o 8
abbrev o9:PE:=.o 9
abbrev bG:PE:=.o 10
abbrev oT:PE:=.o 12
abbrev wX:PE:=.o 13
abbrev zU:PE:=.o 15
abbrev vb:PE:=.o 17
abbrev Uz:PE:=.o 18
abbrev UA:PE:=.o 20
abbrev zV:PE:=.o 21
abbrev MY:PE:=.o 23
abbrev MZ:PE:=.o 45
end Cx
