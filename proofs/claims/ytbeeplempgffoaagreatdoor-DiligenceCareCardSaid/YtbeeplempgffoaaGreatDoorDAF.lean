/-
  Shared texts of this claim.
-/
import Derived.Test.YtbeeplempgffoaaGreatDoorDAE
import Derived.OrdersIn
set_option linter.unusedSimpArgs false
set_option linter.unusedVariables false
noncomputable section
namespace Cx
open Go Go.RowKit
def Yl:Value→Value→Bool
 |.int k n,.int k' m=>k==k'&&n==m
 |.bool a,.bool b=>a==b
 |.string a,.string b=>decide (a=b)
 |.nilFunc,.nilFunc=>true
 |_,_=>false
theorem aAe:∀a b,Yl a b=true→a=b:=by
 intro a b h;unfold Yl at h;split at h
 ·simp only[az,beq_iff_eq] at h;rw[h.1,h.2]
 ·simp only[beq_iff_eq] at h;rw[h]
 ·simp only[decide_eq_true_eq] at h;rw[h]
 ·rfl
 ·cases h
mutual
def D.beq:D→D→Bool
 |.v a,e=>match e with|.v b=>Yl a b|_=>false
 |.agg a,e=>match e with|.agg b=>D.beqs a b|_=>false
 |.list a,e=>match e with|.list b=>D.beqs a b|_=>false
 |.tup a,e=>match e with|.tup b=>D.beqs a b|_=>false
 |.map a,e=>match e with|.map b=>a.isEmpty&&b.isEmpty|_=>false
 |.ref a,e=>match e with|.ref b=>D.beq a b|_=>false
 |.clo f a,e=>match e with|.clo g b=>Nat.beq f g&&D.beqs a b|_=>false
 |.none,e=>match e with|.none=>true|_=>false
def D.beqs:List D→List D→Bool
 |[],e=>match e with|[]=>true|_=>false
 |a::aa,e=>match e with|b::bs=>D.beq a b&&D.beqs aa bs|_=>false
end
mutual
theorem D.beq_eq:∀a b:D,D.beq a b=true→a=b
 |.v a,e,h=>by cases e<;>first|(simp only[D.beq] at h;rw[aAe _ _ h])|cases h
 |.agg a,e,h=>by cases e<;>first|(simp only[D.beq] at h;rw[D.beqs_eq _ _ h])|cases h
 |.list a,e,h=>by cases e<;>first|(simp only[D.beq] at h;rw[D.beqs_eq _ _ h])|cases h
 |.tup a,e,h=>by cases e<;>first|(simp only[D.beq] at h;rw[D.beqs_eq _ _ h])|cases h
 |.map a,e,h=>by
  cases e<;>first|(simp only[D.beq,az,YN] at h;rw[h.1,h.2])|cases h
 |.ref a,e,h=>by cases e<;>first|(simp only[D.beq] at h;rw[D.beq_eq _ _ h])|cases h
 |.clo f a,e,h=>by cases e<;>first|(simp only[D.beq,az] at h;rw[aN h.1,D.beqs_eq _ _ h.2])|cases h
 |.none,e,h=>by cases e<;>first|rfl|cases h
theorem D.beqs_eq:∀a b:List D,D.beqs a b=true→a=b
 |[],e,h=>by cases e<;>first|rfl|cases h
 |a::aa,e,h=>by
  cases e with
  |nil=>cases h
  |cons b bs=>simp only[D.beqs,az] at h;rw[D.beq_eq _ _ h.1,D.beqs_eq _ _ h.2]
end
mutual
def PE.beq:PE→PE→Bool
 |.r a,e=>match e with|.r b=>Nat.beq a b|_=>false
 |.o a,e=>match e with|.o b=>Nat.beq a b|_=>false
 |.con a,e=>match e with|.con b=>D.beq a b|_=>false
 |.cell x i,e=>match e with|.cell y j=>PE.beq x y&&Nat.beq i j|_=>false
 |.sub x i n,e=>match e with|.sub y j m=>PE.beq x y&&(Nat.beq i j&&Nat.beq n m)|_=>false
 |.setc x i z,e=>match e with|.setc y j u=>PE.beq x y&&(Nat.beq i j&&PE.beq z u)|_=>false
 |.mk x,e=>match e with|.mk y=>PE.beqs x y|_=>false
 |.ai op k x y,e=>match e with|.ai xM k' x' y'=>op==xM&&(k==k'&&(PE.beq x x'&&PE.beq y y'))|_=>false
 |.ci op x y,e=>match e with|.ci xM x' y'=>op==xM&&(PE.beq x x'&&PE.beq y y')|_=>false
 |.cb op x y,e=>match e with|.cb xM x' y'=>op==xM&&(PE.beq x x'&&PE.beq y y')|_=>false
 |.cs op x y,e=>match e with|.cs xM x' y'=>op==xM&&(PE.beq x x'&&PE.beq y y')|_=>false
 |.sadd x y,e=>match e with|.sadd x' y'=>PE.beq x x'&&PE.beq y y'|_=>false
 |.nt x,e=>match e with|.nt y=>PE.beq x y|_=>false
 |.conv k x,e=>match e with|.conv k' y=>k==k'&&PE.beq x y|_=>false
 |.pick c x y,e=>match e with|.pick c' x' y'=>PE.beq c c'&&(PE.beq x x'&&PE.beq y y')|_=>false
 |.llen x,e=>match e with|.llen y=>PE.beq x y|_=>false
 |.bytes x,e=>match e with|.bytes y=>PE.beq x y|_=>false
 |.slen x,e=>match e with|.slen y=>PE.beq x y|_=>false
 |.mlen x,e=>match e with|.mlen y=>PE.beq x y|_=>false
 |.nth x y,e=>match e with|.nth x' y'=>PE.beq x x'&&PE.beq y y'|_=>false
 |.idx x y,e=>match e with|.idx x' y'=>PE.beq x x'&&PE.beq y y'|_=>false
 |.sidx x y,e=>match e with|.sidx x' y'=>PE.beq x x'&&PE.beq y y'|_=>false
 |.sok x y,e=>match e with|.sok x' y'=>PE.beq x x'&&PE.beq y y'|_=>false
 |.setn x i n y,e=>match e with|.setn x' i' n' y'=>PE.beq x x'&&(PE.beq i i'&&(Nat.beq n n'&&PE.beq y y'))|_=>false
 |.app x y,e=>match e with|.app x' y'=>PE.beq x x'&&PE.beq y y'|_=>false
 |.lst x,e=>match e with|.lst y=>PE.beqs x y|_=>false
 |.rep x y,e=>match e with|.rep x' y'=>PE.beq x x'&&PE.beq y y'|_=>false
 |.slc c x y,e=>match e with|.slc c' x' y'=>PE.beq c c'&&(PE.beq x x'&&PE.beq y y')|_=>false
 |.slok c x y,e=>match e with|.slok c' x' y'=>PE.beq c c'&&(PE.beq x x'&&PE.beq y y')|_=>false
 |.ref x,e=>match e with|.ref y=>PE.beq x y|_=>false
 |.deref x,e=>match e with|.deref y=>PE.beq x y|_=>false
 |.look c x y,e=>match e with|.look c' x' y'=>PE.beq c c'&&(PE.beq x x'&&PE.beq y y')|_=>false
 |.has x y,e=>match e with|.has x' y'=>PE.beq x x'&&PE.beq y y'|_=>false
 |.put c x y,e=>match e with|.put c' x' y'=>PE.beq c c'&&(PE.beq x x'&&PE.beq y y')|_=>false
 |.mn x y,e=>match e with|.mn x' y'=>PE.beq x x'&&PE.beq y y'|_=>false
 |.mx x y,e=>match e with|.mx x' y'=>PE.beq x x'&&PE.beq y y'|_=>false
 |.tup x,e=>match e with|.tup y=>PE.beqs x y|_=>false
 |.tget x i,e=>match e with|.tget y j=>PE.beq x y&&Nat.beq i j|_=>false
 |.clo f x,e=>match e with|.clo g y=>Nat.beq f g&&PE.beqs x y|_=>false
 |.an x y,e=>match e with|.an x' y'=>PE.beq x x'&&PE.beq y y'|_=>false
 |.imp c x,e=>match e with|.imp c' y=>sG c c'&&PE.beq x y|_=>false
def PE.beqs:List PE→List PE→Bool
 |[],e=>match e with|[]=>true|_=>false
 |a::aa,e=>match e with|b::bs=>PE.beq a b&&PE.beqs aa bs|_=>false
end
theorem dF {a b:Nat}(h:Nat.beq a b=true):a=b:=aN h
mutual
theorem PE.beq_eq:∀a b:PE,PE.beq a b=true→a=b
 |.r a,e,h=>by cases e<;>first|(rw[dF h])|cases h
 |.o a,e,h=>by cases e<;>first|(rw[dF h])|cases h
 |.con a,e,h=>by cases e<;>first|(rw[D.beq_eq _ _ h])|cases h
 |.cell x i,e,h=>by cases e<;>first|(simp only[PE.beq,az] at h;rw[PE.beq_eq _ _ h.1,dF h.2])|cases h
 |.sub x i n,e,h=>by cases e<;>first|(simp only[PE.beq,az] at h;rw[PE.beq_eq _ _ h.1,dF h.2.1,dF h.2.2])|cases h
 |.setc x i z,e,h=>by cases e<;>first|(simp only[PE.beq,az] at h;rw[PE.beq_eq _ _ h.1,dF h.2.1,PE.beq_eq _ _ h.2.2])|cases h
 |.mk x,e,h=>by cases e<;>first|(simp only[PE.beq] at h;rw[PE.beqs_eq _ _ h])|cases h
 |.ai op k x y,e,h=>by cases e<;>first|(simp only[PE.beq,az,beq_iff_eq] at h;rw[h.1,h.2.1,PE.beq_eq _ _ h.2.2.1,PE.beq_eq _ _ h.2.2.2])|cases h
 |.ci op x y,e,h=>by cases e<;>first|(simp only[PE.beq,az,beq_iff_eq] at h;rw[h.1,PE.beq_eq _ _ h.2.1,PE.beq_eq _ _ h.2.2])|cases h
 |.cb op x y,e,h=>by cases e<;>first|(simp only[PE.beq,az,beq_iff_eq] at h;rw[h.1,PE.beq_eq _ _ h.2.1,PE.beq_eq _ _ h.2.2])|cases h
 |.cs op x y,e,h=>by cases e<;>first|(simp only[PE.beq,az,beq_iff_eq] at h;rw[h.1,PE.beq_eq _ _ h.2.1,PE.beq_eq _ _ h.2.2])|cases h
 |.sadd x y,e,h=>by cases e<;>first|(simp only[PE.beq,az] at h;rw[PE.beq_eq _ _ h.1,PE.beq_eq _ _ h.2])|cases h
 |.nt x,e,h=>by cases e<;>first|(simp only[PE.beq] at h;rw[PE.beq_eq _ _ h])|cases h
 |.conv k x,e,h=>by cases e<;>first|(simp only[PE.beq,az,beq_iff_eq] at h;rw[h.1,PE.beq_eq _ _ h.2])|cases h
 |.pick c x y,e,h=>by cases e<;>first|(simp only[PE.beq,az] at h;rw[PE.beq_eq _ _ h.1,PE.beq_eq _ _ h.2.1,PE.beq_eq _ _ h.2.2])|cases h
 |.llen x,e,h=>by cases e<;>first|(simp only[PE.beq] at h;rw[PE.beq_eq _ _ h])|cases h
 |.bytes x,e,h=>by cases e<;>first|(simp only[PE.beq] at h;rw[PE.beq_eq _ _ h])|cases h
 |.slen x,e,h=>by cases e<;>first|(simp only[PE.beq] at h;rw[PE.beq_eq _ _ h])|cases h
 |.mlen x,e,h=>by cases e<;>first|(simp only[PE.beq] at h;rw[PE.beq_eq _ _ h])|cases h
 |.nth x y,e,h=>by cases e<;>first|(simp only[PE.beq,az] at h;rw[PE.beq_eq _ _ h.1,PE.beq_eq _ _ h.2])|cases h
 |.idx x y,e,h=>by cases e<;>first|(simp only[PE.beq,az] at h;rw[PE.beq_eq _ _ h.1,PE.beq_eq _ _ h.2])|cases h
 |.sidx x y,e,h=>by cases e<;>first|(simp only[PE.beq,az] at h;rw[PE.beq_eq _ _ h.1,PE.beq_eq _ _ h.2])|cases h
 |.sok x y,e,h=>by cases e<;>first|(simp only[PE.beq,az] at h;rw[PE.beq_eq _ _ h.1,PE.beq_eq _ _ h.2])|cases h
 |.setn x i n y,e,h=>by cases e<;>first|(simp only[PE.beq,az] at h;rw[PE.beq_eq _ _ h.1,PE.beq_eq _ _ h.2.1,dF h.2.2.1,PE.beq_eq _ _ h.2.2.2])|cases h
 |.app x y,e,h=>by cases e<;>first|(simp only[PE.beq,az] at h;rw[PE.beq_eq _ _ h.1,PE.beq_eq _ _ h.2])|cases h
 |.lst x,e,h=>by cases e<;>first|(simp only[PE.beq] at h;rw[PE.beqs_eq _ _ h])|cases h
 |.rep x y,e,h=>by cases e<;>first|(simp only[PE.beq,az] at h;rw[PE.beq_eq _ _ h.1,PE.beq_eq _ _ h.2])|cases h
 |.slc c x y,e,h=>by cases e<;>first|(simp only[PE.beq,az] at h;rw[PE.beq_eq _ _ h.1,PE.beq_eq _ _ h.2.1,PE.beq_eq _ _ h.2.2])|cases h
 |.slok c x y,e,h=>by cases e<;>first|(simp only[PE.beq,az] at h;rw[PE.beq_eq _ _ h.1,PE.beq_eq _ _ h.2.1,PE.beq_eq _ _ h.2.2])|cases h
 |.ref x,e,h=>by cases e<;>first|(simp only[PE.beq] at h;rw[PE.beq_eq _ _ h])|cases h
 |.deref x,e,h=>by cases e<;>first|(simp only[PE.beq] at h;rw[PE.beq_eq _ _ h])|cases h
 |.look c x y,e,h=>by cases e<;>first|(simp only[PE.beq,az] at h;rw[PE.beq_eq _ _ h.1,PE.beq_eq _ _ h.2.1,PE.beq_eq _ _ h.2.2])|cases h
 |.has x y,e,h=>by cases e<;>first|(simp only[PE.beq,az] at h;rw[PE.beq_eq _ _ h.1,PE.beq_eq _ _ h.2])|cases h
 |.put c x y,e,h=>by cases e<;>first|(simp only[PE.beq,az] at h;rw[PE.beq_eq _ _ h.1,PE.beq_eq _ _ h.2.1,PE.beq_eq _ _ h.2.2])|cases h
 |.mn x y,e,h=>by cases e<;>first|(simp only[PE.beq,az] at h;rw[PE.beq_eq _ _ h.1,PE.beq_eq _ _ h.2])|cases h
 |.mx x y,e,h=>by cases e<;>first|(simp only[PE.beq,az] at h;rw[PE.beq_eq _ _ h.1,PE.beq_eq _ _ h.2])|cases h
 |.tup x,e,h=>by cases e<;>first|(simp only[PE.beq] at h;rw[PE.beqs_eq _ _ h])|cases h
 |.tget x i,e,h=>by cases e<;>first|(simp only[PE.beq,az] at h;rw[PE.beq_eq _ _ h.1,dF h.2])|cases h
 |.clo f x,e,h=>by cases e<;>first|(simp only[PE.beq,az] at h;rw[dF h.1,PE.beqs_eq _ _ h.2])|cases h
 |.an x y,e,h=>by cases e<;>first|(simp only[PE.beq,az] at h;rw[PE.beq_eq _ _ h.1,PE.beq_eq _ _ h.2])|cases h
 |.imp c x,e,h=>by cases e<;>first|(simp only[PE.beq,az] at h;rw[DN _ _ h.1,PE.beq_eq _ _ h.2])|cases h
theorem PE.beqs_eq:∀a b:List PE,PE.beqs a b=true→a=b
 |[],e,h=>by cases e<;>first|rfl|cases h
 |a::aa,e,h=>by
  cases e with
  |nil=>cases h
  |cons b bs=>simp only[PE.beqs,az] at h;rw[PE.beq_eq _ _ h.1,PE.beqs_eq _ _ h.2]
end
def PI.beq:PI→PI→Bool
 |.setR t x,e=>match e with|.setR u y=>Nat.beq t u&&PE.beq x y|_=>false
 |.setO t x,e=>match e with|.setO u y=>Nat.beq t u&&PE.beq x y|_=>false
 |.chk x,e=>match e with|.chk y=>PE.beq x y|_=>false
 |.call gs d f aa,e=>match e with|.call bZ d' f' CH=>sG gs bZ&&(Nat.beq d d'&&(Nat.beq f f'&&PE.beqs aa CH))|_=>false
 |.callc gs d f aa,e=>match e with|.callc bZ d' f' CH=>sG gs bZ&&(Nat.beq d d'&&(PE.beq f f'&&PE.beqs aa CH))|_=>false
 |.mcall d f aa,e=>match e with|.mcall d' f' CH=>Nat.beq d d'&&(Nat.beq f f'&&PE.beqs aa CH)|_=>false
theorem PI.beq_eq:∀a b:PI,PI.beq a b=true→a=b:=by
 intro a b h;cases a<;>cases b<;>first
  |(cases h;done)
  |(simp only[PI.beq,az] at h;first
       |rw[dF h.1,PE.beq_eq _ _ h.2]
       |rw[PE.beq_eq _ _ h]
       |rw[DN _ _ h.1,dF h.2.1,dF h.2.2.1,PE.beqs_eq _ _ h.2.2.2]
       |rw[DN _ _ h.1,dF h.2.1,PE.beq_eq _ _ h.2.2.1,PE.beqs_eq _ _ h.2.2.2]
       |rw[dF h.1,dF h.2.1,PE.beqs_eq _ _ h.2.2])
def PI.beqs:List PI→List PI→Bool
 |[],e=>match e with|[]=>true|_=>false
 |a::aa,e=>match e with|b::bs=>PI.beq a b&&PI.beqs aa bs|_=>false
theorem PI.beqs_eq:∀a b:List PI,PI.beqs a b=true→a=b
 |[],e,h=>by cases e<;>first|rfl|cases h
 |a::aa,e,h=>by
  cases e with
  |nil=>cases h
  |cons b bs=>simp only[PI.beqs,az] at h;rw[PI.beq_eq _ _ h.1,PI.beqs_eq _ _ h.2]
end Cx
namespace Cx
open Go Go.RowKit
structure Lk where
 r:Nat
 o:List Nat
def Lk.or (a b:Lk):Lk:=⟨Nat.lor a.r b.r,a.o++b.o⟩
def Lk.none:Lk:=⟨0,[]⟩
def mi:List (Nat×Bool)→Lk
 |[]=>.none
 |g::gs=>⟨Nat.lor (gS g.1) (mi gs).r,(mi gs).o⟩
mutual
def PE.lk:PE→Lk
 |.r t=>⟨gS t,[]⟩
 |.o j=>⟨0,[j]⟩
 |.con _=>.none
 |.cell e _|.sub e _ _|.nt e|.conv _ e|.llen e|.bytes e|.slen e|.mlen e|.ref e|.deref e|.tget e _=>PE.lk e
 |.setc x _ y|.ai _ _ x y|.ci _ x y|.cb _ x y|.cs _ x y|.sadd x y|.nth x y|.idx x y|.sidx x y|.sok x y|.app x y|.rep x y|.has x y|.mn x y|.mx x y|.an x y=>(PE.lk x).or (PE.lk y)
 |.mk es|.lst es|.tup es|.clo _ es=>PE.lks es
 |.pick x y z|.slc x y z|.slok x y z|.look x y z|.put x y z|.setn x y _ z=>(PE.lk x).or ((PE.lk y).or (PE.lk z))
 |.imp c x=>(mi c).or (PE.lk x)
def PE.lks:List PE→Lk
 |[]=>.none
 |e::es=>(PE.lk e).or (PE.lks es)
end
structure Alike (k:Lk) (ρ ρ':Env):Prop where
 r:∀t,aV k.r t=true→ρ'.r t=ρ.r t
 o:∀j,j∈k.o→ρ'.o j=ρ.o j
theorem Alike.left {a b:Lk}{ρ ρ':Env}(h:Alike (a.or b) ρ ρ'):Alike a ρ ρ':=
 ⟨fun t ht=>h.r t (by simp only[Lk.or,gB,ht,Ci]),fun j hj=>h.o j (kc _ hj)⟩
theorem Alike.right {a b:Lk}{ρ ρ':Env}(h:Alike (a.or b) ρ ρ'):Alike b ρ ρ':=
 ⟨fun t ht=>h.r t (by simp only[Lk.or,gB,ht,rU]),fun j hj=>h.o j (kK _ hj)⟩
theorem AW {ρ ρ':Env}:∀{c:List (Nat×Bool)},Alike (mi c) ρ ρ'→holds c ρ'=holds c ρ
 |[],_=>rfl
 |g::gs,h=>by
  have ih:=AW (ρ:=ρ) (ρ':=ρ') (c:=gs) ⟨fun t ht=>h.r t (by simp only[mi,gB,ht,rU]),fun j hj=>h.o j hj⟩;have h1:=h.r g.1 (by simp only[mi,gB,qH,Ci]);unfold holds at ih ⊢;simp only[uc];rw[ih,h1]
mutual
theorem PE.ev_alike {ρ ρ':Env}:∀(e:PE),Alike e.lk ρ ρ'→e.ev ρ'=e.ev ρ
 |.r t,h=>h.r t (qH t)
 |.o j,h=>h.o j (by simp[PE.lk])
 |.con _,h=>rfl
 |.cell e _,h=>by simp only[PE.ev,PE.ev_alike e h]
 |.sub e _ _,h=>by simp only[PE.ev,PE.ev_alike e h]
 |.nt e,h=>by simp only[PE.ev,PE.ev_alike e h]
 |.conv _ e,h=>by simp only[PE.ev,PE.ev_alike e h]
 |.llen e,h=>by simp only[PE.ev,PE.ev_alike e h]
 |.bytes e,h=>by simp only[PE.ev,PE.ev_alike e h]
 |.slen e,h=>by simp only[PE.ev,PE.ev_alike e h]
 |.mlen e,h=>by simp only[PE.ev,PE.ev_alike e h]
 |.ref e,h=>by simp only[PE.ev,PE.ev_alike e h]
 |.deref e,h=>by simp only[PE.ev,PE.ev_alike e h]
 |.tget e _,h=>by simp only[PE.ev,PE.ev_alike e h]
 |.setc x _ y,h=>by simp only[PE.ev,PE.ev_alike x h.left,PE.ev_alike y h.right]
 |.ai _ _ x y,h=>by simp only[PE.ev,PE.ev_alike x h.left,PE.ev_alike y h.right]
 |.ci _ x y,h=>by simp only[PE.ev,PE.ev_alike x h.left,PE.ev_alike y h.right]
 |.cb _ x y,h=>by simp only[PE.ev,PE.ev_alike x h.left,PE.ev_alike y h.right]
 |.cs _ x y,h=>by simp only[PE.ev,PE.ev_alike x h.left,PE.ev_alike y h.right]
 |.sadd x y,h=>by simp only[PE.ev,PE.ev_alike x h.left,PE.ev_alike y h.right]
 |.nth x y,h=>by simp only[PE.ev,PE.ev_alike x h.left,PE.ev_alike y h.right]
 |.idx x y,h=>by simp only[PE.ev,PE.ev_alike x h.left,PE.ev_alike y h.right]
 |.sidx x y,h=>by simp only[PE.ev,PE.ev_alike x h.left,PE.ev_alike y h.right]
 |.sok x y,h=>by simp only[PE.ev,PE.ev_alike x h.left,PE.ev_alike y h.right]
 |.app x y,h=>by simp only[PE.ev,PE.ev_alike x h.left,PE.ev_alike y h.right]
 |.rep x y,h=>by simp only[PE.ev,PE.ev_alike x h.left,PE.ev_alike y h.right]
 |.has x y,h=>by simp only[PE.ev,PE.ev_alike x h.left,PE.ev_alike y h.right]
 |.mn x y,h=>by simp only[PE.ev,PE.ev_alike x h.left,PE.ev_alike y h.right]
 |.mx x y,h=>by simp only[PE.ev,PE.ev_alike x h.left,PE.ev_alike y h.right]
 |.an x y,h=>by simp only[PE.ev,PE.ev_alike x h.left,PE.ev_alike y h.right]
 |.mk es,h=>by simp only[PE.ev,PE.evc_alike es h]
 |.lst es,h=>by simp only[PE.ev,PE.evs_alike es h]
 |.tup es,h=>by simp only[PE.ev,PE.evs_alike es h]
 |.clo _ es,h=>by simp only[PE.ev,PE.evs_alike es h]
 |.pick x y z,h=>by simp only[PE.ev,PE.ev_alike x h.left,PE.ev_alike y h.right.left,PE.ev_alike z h.right.right]
 |.slc x y z,h=>by simp only[PE.ev,PE.ev_alike x h.left,PE.ev_alike y h.right.left,PE.ev_alike z h.right.right]
 |.slok x y z,h=>by simp only[PE.ev,PE.ev_alike x h.left,PE.ev_alike y h.right.left,PE.ev_alike z h.right.right]
 |.look x y z,h=>by simp only[PE.ev,PE.ev_alike x h.left,PE.ev_alike y h.right.left,PE.ev_alike z h.right.right]
 |.put x y z,h=>by simp only[PE.ev,PE.ev_alike x h.left,PE.ev_alike y h.right.left,PE.ev_alike z h.right.right]
 |.setn x y _ z,h=>by simp only[PE.ev,PE.ev_alike x h.left,PE.ev_alike y h.right.left,PE.ev_alike z h.right.right]
 |.imp c x,h=>by simp only[PE.ev,AW h.left,PE.ev_alike x h.right]
theorem PE.evs_alike {ρ ρ':Env}:∀(es:List PE),Alike (PE.lks es) ρ ρ'→PE.evs ρ' es=PE.evs ρ es
 |[],h=>rfl
 |e::es,h=>by simp only[PE.evs,PE.ev_alike e h.left,PE.evs_alike es h.right]
theorem PE.evc_alike {ρ ρ':Env}:∀(es:List PE),Alike (PE.lks es) ρ ρ'→PE.evc ρ' es=PE.evc ρ es
 |[],h=>rfl
 |e::es,h=>by simp only[PE.evc,PE.ev_alike e h.left,PE.evc_alike es h.right]
end
def PI.lk:PI→Lk
 |.setR _ e|.setO _ e|.chk e=>e.lk
 |.call gs _ _ aa=>(mi gs).or (PE.lks aa)
 |.callc gs _ e aa=>(mi gs).or (e.lk.or (PE.lks aa))
 |.mcall _ _ aa=>PE.lks aa
inductive Eff where
 |skip
 |r (t:Nat) (d:D)
 |o (j:Nat) (d:D)
def Eff.app (ρ:Env):Eff→Env
 |.skip=>ρ
 |.r t d=>ρ.setR t d
 |.o j d=>ρ.setO j d
def PI.eff (Φ:aY)(ρ:Env):PI→Option Eff
 |.setR t e=>some (.r t (e.ev ρ))
 |.setO j e=>some (.o j (e.ev ρ))
 |.chk e=>bif (e.ev ρ).b then some .skip else none
 |.call gs dst f args=>bif holds gs ρ then(Φ f (PE.evs ρ args)).map (.r dst) else some .skip
 |.callc gs dst e args=>bif holds gs ρ then(match e.ev ρ with|.clo f caps=>(Φ f (PE.evs ρ args++caps)).map (.r dst)|_=>none) else some .skip
 |.mcall j f args=>(Φ f (PE.evs ρ args)).map (.o j)
theorem PI.run_eff (Φ:aY)(ρ:Env)(p:PI):p.run Φ ρ=(p.eff Φ ρ).map (Eff.app ρ):=by
 cases p with
 |setR t e=>rfl
 |setO t e=>rfl
 |chk e=>simp only[PI.run,PI.eff];cases(e.ev ρ).b<;>rfl
 |call gs d f aa=>
  simp only[PI.run,PI.eff];cases holds gs ρ
  ·rfl
  ·simp only[cond_true,YV];rfl
 |callc gs d e aa=>
  simp only[PI.run,PI.eff];cases holds gs ρ
  ·rfl
  ·simp only[cond_true];cases e.ev ρ<;>first|rfl|(simp only[YV];rfl)
 |mcall j f aa=>simp only[PI.run,PI.eff,YV];rfl
theorem PI.eff_alike {Φ:aY}{ρ ρ':Env}(p:PI)(h:Alike p.lk ρ ρ'):p.eff Φ ρ'=p.eff Φ ρ:=by
 cases p with
 |setR t e=>simp only[PI.eff,PE.ev_alike e h]
 |setO t e=>simp only[PI.eff,PE.ev_alike e h]
 |chk e=>simp only[PI.eff,PE.ev_alike e h]
 |call gs d f aa=>simp only[PI.eff,AW h.left,PE.evs_alike aa h.right]
 |callc gs d e aa=>simp only[PI.eff,AW h.left,PE.ev_alike e h.right.left,PE.evs_alike aa h.right.right]
 |mcall j f aa=>simp only[PI.eff,PE.evs_alike aa h]
def PI.wo:PI→List Nat
 |.setO j _|.mcall j _ _=>[j]
 |_=>[]
def Eff.within (m:Nat)(l:List Nat):Eff→Prop
 |.skip=>True
 |.r t _=>aV m t=true
 |.o j _=>j∈l
theorem PI.eff_within {Φ:aY}{ρ:Env}{p:PI}{x:Eff}(h:p.eff Φ ρ=some x):x.within p.mask p.wo:=by
 cases p with
 |setR t e=>simp only[PI.eff,bx] at h;subst h;exact qH t
 |setO t e=>simp only[PI.eff,bx] at h;subst h;simp[Eff.within,PI.wo]
 |chk e=>simp only[PI.eff] at h;cases hb:(e.ev ρ).b<;>rw[hb] at h<;>cases h;trivial
 |call gs d f aa=>
  simp only[PI.eff] at h;cases hb:holds gs ρ<;>simp only[hb,cond_true,cond_false,bx,aR] at h
  ·subst h;trivial
  ·obtain⟨d,_,rfl⟩:=h;exact qH _
 |callc gs d e aa=>
  simp only[PI.eff] at h;cases hb:holds gs ρ<;>simp only[hb,cond_true,cond_false,bx] at h
  ·subst h;trivial
  ·split at h
   ·simp only[aR] at h;obtain⟨d,_,rfl⟩:=h;exact qH _
   ·cases h
 |mcall j f aa=>simp only[PI.eff,aR] at h;obtain⟨d,_,rfl⟩:=h;simp[Eff.within,PI.wo]
def Hl (a b:List Nat):Bool:=a.all fun x=> !fU b x
structure Foot where
 wr:Nat
 wo:List Nat
 k:Lk
def iw:List PI→Foot
 |[]=>⟨0,[],.none⟩
 |p::l=>⟨Nat.lor p.mask (iw l).wr,p.wo++(iw l).wo,p.lk.or (iw l).k⟩
def Foot.comm (a b:Foot):Bool:=
 Nat.beq (Nat.land a.wr b.wr) 0&&(Nat.beq (Nat.land a.wr b.k.r) 0&&(Nat.beq (Nat.land b.wr a.k.r) 0&&
    (Hl a.wo b.wo&&(Hl a.wo b.k.o&&Hl b.wo a.k.o))))
theorem Ro {a b t:Nat}(h:Nat.beq (Nat.land a b) 0=true)(ha:aV a t=true)(hb:aV b t=true):False:=by
 have h1:=dF h;have h2:(a&&& b).testBit t=true:=by rw[Nat.testBit_and,←wv,←wv,ha,hb];rfl
 have h3:(a&&& b)=0:=h1;rw[h3] at h2;simp at h2
theorem Oe {a b:List Nat}(h:Hl a b=true){x:Nat}(ha:x∈a)(hb:x∈b):False:=by
 have:=fl.1 h x ha;rw[(rj b x).2 hb] at this;cases this
structure Comm (p q:PI):Prop where
 ww:∀t,aV p.mask t=true→aV q.mask t=true→False
 wr:∀t,aV p.mask t=true→aV q.lk.r t=true→False
 rw:∀t,aV q.mask t=true→aV p.lk.r t=true→False
 oww:∀t,t∈p.wo→t∈q.wo→False
 owr:∀t,t∈p.wo→t∈q.lk.o→False
 orw:∀t,t∈q.wo→t∈p.lk.o→False
theorem Eff.alike {x:Eff}{m:Nat}{l:List Nat}{k:Lk}{ρ:Env}(h:x.within m l)(h1:∀t,aV m t=true→aV k.r t=true→False)(h2:∀t,t∈l→t∈k.o→False):Alike k ρ (x.app ρ):=by
 cases x with
 |skip=>exact⟨fun _ _=>rfl,fun _ _=>rfl⟩
 |r t d=>exact⟨fun u hu=>bR _ _ (fun e=>h1 t h (e▸hu)),fun _ _=>rfl⟩
 |o t d=>exact⟨fun _ _=>rfl,fun u hu=>bR _ _ (fun e=>h2 t h (e▸hu))⟩
theorem aiT {α:Type}(f:Nat→α){i j:Nat}(x y:α)(h:i≠j):cE (cE f i x) j y=cE (cE f j y) i x:=by
 funext t;simp only[gN];by_cases h1:t=i
 ·subst h1;simp[h]
 ·simp[h1]
theorem Eff.comm {x y:Eff}{m m':Nat}{l l':List Nat}{ρ:Env}(hx:x.within m l)(hy:y.within m' l')(h1:∀t,aV m t=true→aV m' t=true→False)(h2:∀t,t∈l→t∈l'→False):
 y.app (x.app ρ)=x.app (y.app ρ):=by
 cases x with
 |skip=>rfl
 |r t d=>
  cases y with
  |skip=>rfl
  |r u e=>
   have aA:t≠u:=fun e=>h1 t hx (by subst e;exact hy);show Env.setR (Env.setR ρ t d) u e=Env.setR (Env.setR ρ u e) t d;simp only[Env.setR];rw[aiT _ _ _ aA]
  |o u e=>rfl
 |o t d=>
  cases y with
  |skip=>rfl
  |r u e=>rfl
  |o u e=>
   have aA:t≠u:=fun e=>h2 t hx (by subst e;exact hy);show Env.setO (Env.setO ρ t d) u e=Env.setO (Env.setO ρ u e) t d;simp only[Env.setO];rw[aiT _ _ _ aA]
theorem PI.comm {Φ:aY}{p q:PI}(h:Comm p q)(ρ:Env):(p.run Φ ρ).bind (q.run Φ)=(q.run Φ ρ).bind (p.run Φ):=by
 simp only[PI.run_eff];cases hp:p.eff Φ ρ with
 |none=>
  cases hq:q.eff Φ ρ with
  |none=>rfl
  |some y=>
   have:=PI.eff_alike (Φ:=Φ) p (Eff.alike (ρ:=ρ) (PI.eff_within hq) h.rw h.orw);simp[PI.run_eff,this,hp]
 |some x=>
  have hx:=PI.eff_within hp;have e1:=PI.eff_alike (Φ:=Φ) q (Eff.alike (ρ:=ρ) hx h.wr h.owr);cases hq:q.eff Φ ρ with
  |none=>simp[PI.run_eff,e1,hq]
  |some y=>
   have hy:=PI.eff_within hq;have e2:=PI.eff_alike (Φ:=Φ) p (Eff.alike (ρ:=ρ) hy h.rw h.orw);simp only[ly,vY,PI.run_eff,e1,e2,hp,hq];rw[Eff.comm hx hy h.ww h.oww]
theorem PI.comm1 {Φ:aY}{p:PI}:∀(l:List PI),(∀q,q∈l→Comm p q)→∀ρ,(p.run Φ ρ).bind (PI.runs Φ l)=(PI.runs Φ l ρ).bind (p.run Φ)
 |[],_,ρ=>by simp only[PI.runs];cases h:p.run Φ ρ<;>simp[h]
 |q::l,h,ρ=>by
  have ih:=PI.comm1 (Φ:=Φ) l fun q hq=>h q (fL _ hq);have hc:=PI.comm (Φ:=Φ) (h q (gd ..)) ρ;simp only[PI.runs];have e1:((p.run Φ ρ).bind fun ρ1=>(q.run Φ ρ1).bind (PI.runs Φ l))=((p.run Φ ρ).bind (q.run Φ)).bind (PI.runs Φ l):=by cases p.run Φ ρ<;>rfl
  show((p.run Φ ρ).bind fun ρ1=>(q.run Φ ρ1).bind (PI.runs Φ l))=_;rw[e1,hc];cases q.run Φ ρ with
  |none=>rfl
  |some ρ1=>simp only[vY];exact ih ρ1
theorem PI.comms {Φ:aY}:∀(a b:List PI),(∀p q,p∈a→q∈b→Comm p q)→∀ρ,PI.runs Φ (a++b) ρ=PI.runs Φ (b++a) ρ
 |[],b,_,ρ=>by simp
 |p::a,b,h,ρ=>by
  have ih:=PI.comms (Φ:=Φ) a b fun p q hp hq=>h p q (fL _ hp) hq;have h1:=PI.comm1 (Φ:=Φ) b (fun q hq=>h p q (gd ..) hq);simp only[Cm,PI.runs,tQ];have e1:((p.run Φ ρ).bind (PI.runs Φ (a++b)))=(p.run Φ ρ).bind (PI.runs Φ (b++a)):=by
   cases p.run Φ ρ with
   |none=>rfl
   |some ρ1=>exact ih ρ1
  rw[e1];have e2:PI.runs Φ (b++a)=fun ρ=>(PI.runs Φ b ρ).bind (PI.runs Φ a):=funext fun ρ=>tQ;rw[e2];have e3:((p.run Φ ρ).bind fun ρ=>(PI.runs Φ b ρ).bind (PI.runs Φ a))=((p.run Φ ρ).bind (PI.runs Φ b)).bind (PI.runs Φ a):=by cases p.run Φ ρ<;>rfl
  rw[e3,h1 ρ];cases PI.runs Φ b ρ with
  |none=>rfl
  |some ρ1=>rfl
theorem aao {l:List PI}{p:PI}(h:p∈l):(∀t,aV p.mask t=true→aV (iw l).wr t=true)∧(∀t,t∈p.wo→t∈(iw l).wo)∧(∀t,aV p.lk.r t=true→aV (iw l).k.r t=true)∧∀t,t∈p.lk.o→t∈(iw l).k.o:=by
 induction l with
 |nil=>cases h
 |cons q l ih=>
  rcases cW.1 h with e|h
  ·subst e;refine⟨fun t ht=>?_,fun t ht=>kc _ ht,fun t ht=>?_,fun t ht=>kc _ ht⟩
   ·simp only[iw,gB,ht,Ci]
   ·simp only[iw,Lk.or,gB,ht,Ci]
  ·obtain⟨h1,h2,h3,h4⟩:=ih h;refine⟨fun t ht=>?_,fun t ht=>kK _ (h2 t ht),fun t ht=>?_,fun t ht=>kK _ (h4 t ht)⟩
   ·simp only[iw,gB,h1 t ht,rU]
   ·simp only[iw,Lk.or,gB,h3 t ht,rU]
def kf (S:St)(dst:Nat)(S':St):Prop:=∀t,t≠dst→S'.r t=S.r t
section
variable {C:Ctx} {S:St} {gs:List (Nat×Bool)} {dst:Nat} {r:St×List PI}
theorem j0 {X:St}{s:Sh}(h:X.r=S.r):kf S dst (X.setR dst s):=fun t ht=>by simp only[St.setR,bR _ _ ht,h]
theorem anL (S:St)(j:Nat):(S.fz j).r=S.r:=(PQ S j).2
theorem alN {T:TypeId}{x:Operand}(h:Dx C S dst T x=some r):kf S dst r.1:=by
 unfold Dx at h;split at h
 ·simp only[aR] at h;obtain⟨e,_,rfl⟩:=h;exact j0 rfl
 ·cases h
theorem alT {T:TypeId}{x:Operand}(h:ur C S dst T x=some r):kf S dst r.1:=by
 unfold ur at h;split at h
 ·rename_i v;simp only[aG] at h;obtain⟨e,_,z,_,h⟩:=h;cases hc:jL e v<;>simp only[hc,cond_true,cond_false] at h<;>cases h;exact j0 rfl
 ·cases h
theorem alo {T:TypeId}(h:Dq C S dst T=some r):kf S dst r.1:=by
 unfold Dq at h;split at h
 ·rename_i t inf ag _ _ _;cases hc:(ua inf t&&(t.rowT||t.one))<;>simp only[hc,cond_true,cond_false] at h
  ·cases h
  ·simp only[aR] at h;obtain⟨e,_,rfl⟩:=h;exact j0 rfl
 ·cases h
theorem als {T:TypeId}{x:Operand}(h:Ds C S dst T x=some r):kf S dst r.1:=by
 unfold Ds at h;split at h
 ·rename_i t e ag _ _;cases hc:(t.rowT||t.one)<;>simp only[hc,cond_true,cond_false] at h<;>cases h;exact j0 rfl
 ·cases h
theorem alH {T:TypeId}{x:Option Operand}(h:Dv C S dst T x=some r):kf S dst r.1:=by
 unfold Dv at h;split at h
 ·simp only[aG,aR] at h;obtain⟨e,_,z,_,rfl⟩:=h;exact j0 rfl
 ·cases h
theorem alP {T:TypeId}{x:Operand}(h:Dy C S dst T x=some r):kf S dst r.1:=by
 unfold Dy at h;split at h
 case h_2=>cases h
 rename_i K E j ver hT es;cases hb:(Nat.beq ver (S.ver j)&& !Nat.beq j dst)<;>simp only[hb,cond_true,cond_false] at h
 ·cases h
 split at h
 ·cases h;exact j0 rfl
 ·cases h
theorem alx {T U:TypeId}{x:Operand}(h:Dt C S dst T U x=some r):kf S dst r.1:=by
 unfold Dt at h;split at h
 ·split at h
  ·cases h;exact j0 rfl
  ·cases h
 ·cases h
theorem alJ {T:TypeId}{x y:Operand}(h:Dw C S dst T x y=some r):kf S dst r.1:=by
 unfold Dw at h;split at h
 ·rename_i E _ n _ m _ _ _;simp only[aG] at h;obtain⟨e,_,h⟩:=h;cases hc:qK C.P E e<;>simp only[hc,cond_true,cond_false] at h
  ·cases h
  ·simp only[aG] at h;obtain⟨z,_,h⟩:=h;cases hc2:Ty.sub z.1 e<;>simp only[hc2,cond_true,cond_false] at h<;>cases h;exact j0 rfl
 ·cases h
theorem alv {T:TypeId}{n:Nat}{ps:List (Nat×Operand)}(h:wH C S gs dst T n ps=some r):kf S dst r.1:=by
 unfold wH at h;split at h
 ·simp only[aG] at h;obtain⟨e,_,z,_,h⟩:=h
  revert h
  generalize (_&&_:Bool)=b;intro h;cases b<;>simp only[cond_true,cond_false] at h
  ·cases h
  ·simp only[aR] at h;obtain⟨es,_,rfl⟩:=h;exact j0 rfl
 ·cases h
theorem alF {T:TypeId}{n:Nat}{ps:List (Nat×Operand)}(h:An C S gs dst T n ps=some r):kf S dst r.1:=by
 unfold An at h;split at h
 ·simp only[aG] at h;obtain⟨e,_,h⟩:=h;split at h
  ·cases h;exact j0 rfl
  ·cases h
 ·cases h
theorem alq {T:TypeId}{x y:Operand}(h:Dr C S dst T x y=some r):kf S dst r.1:=by
 unfold Dr at h;split at h
 ·rename_i E _;simp only[aG] at h;obtain⟨e,_,h⟩:=h;split at h
  ·rename_i tx ex _;cases hc:(qK C.P E e&&M9 tx e)<;>simp only[hc,cond_true,cond_false] at h
   ·cases h
   ·split at h
    ·cases h;exact j0 rfl
    ·cases h
    ·split at h
     ·rename_i j ver _;cases hc:Nat.beq ver (S.ver j)<;>simp only[hc,cond_true,cond_false] at h
      ·cases h
      ·split at h
       ·rename_i E' e' _;cases hc:(Nat.beq E' E&&Ty.beq e' e)<;>simp only[hc,cond_true,cond_false] at h<;>cases h;exact j0 rfl
       ·cases h
     ·cases h
  ·cases h
 ·cases h
theorem alB {f:Nat}{xs:List Operand}(h:Du C S dst f xs=some r):kf S dst r.1:=by
 simp only[Du,aG] at h;obtain⟨s,_,h⟩:=h;split at h
 ·rename_i T e _;simp only[aG] at h;obtain⟨u,_,h⟩:=h;cases hc:Ty.subs u.1 s.args<;>simp only[hc,cond_true,cond_false] at h<;>cases h;refine j0 (X:=(bif e.pure then S else S.fzs (eR S [] xs)).newO dst (.row T e)) ?_;cases e.pure
  ·exact(DL _ S).2
  ·rfl
 ·cases h
theorem alD {f:Nat}{xs:List Operand}{q:St×Sh×List PI}(h:Am C S gs dst f xs=some q):q.1.r=S.r:=by
 simp only[Am,aG] at h;obtain⟨s,_,h⟩:=h;split at h
 ·simp only[aG] at h;obtain⟨u,_,h⟩:=h;cases hc:Ty.subs u.1 s.args<;>simp only[hc,cond_true,cond_false] at h<;>cases h;cases s.res.pure
  ·exact(DL _ S).2
  ·rfl
 ·cases h
theorem alz {x:Operand}{xs:List Operand}{q:St×Sh×List PI}(h:wI C S gs dst x xs=some q):q.1.r=S.r:=by
 unfold wI at h;split at h
 ·rename_i aa r0 _ _;split at h
  case h_1=>cases h
  simp only[aG] at h;obtain⟨u,_,h⟩:=h;cases hc:Ty.subs u.1 aa<;>simp only[hc,cond_true,cond_false] at h<;>cases h;cases r0.pure
  ·exact(DL _ S).2
  ·rfl
 ·cases h
theorem alR {T:TypeId}{x v:Operand}(h:Dz C S T x v=some r):r.1.r=S.r:=by
 unfold Dz at h;split at h
 case h_2=>cases h
 rename_i inf _;split at h
 ·rename_i j ver off _;cases hc:Nat.beq ver (S.ver j)<;>simp only[hc,cond_true,cond_false] at h
  ·cases h
  split at h
  case h_2=>cases h
  rename_i ag aO _;split at h
  ·revert h
   generalize (_&&_:Bool)=b;intro h;cases b<;>simp only[cond_true,cond_false] at h<;>cases h;rfl
  ·split at h
   ·revert h
    generalize (_&&_:Bool)=b;intro h;cases b<;>simp only[cond_true,cond_false] at h<;>cases h;rfl
   ·cases h
 ·rename_i j ver size off _;cases hc:Nat.beq ver (S.ver j)<;>simp only[hc,cond_true,cond_false] at h
  ·cases h
  split at h
  ·revert h
   generalize (_&&_:Bool)=b;intro h;cases b<;>simp only[cond_true,cond_false] at h<;>cases h;rfl
  ·revert h
   generalize (_&&_:Bool)=b;intro h;cases b<;>simp only[cond_true,cond_false] at h<;>cases h;rfl
  ·cases h
 ·cases h
theorem Z2 {T:TypeId}{m k v:Operand}(h:Ao C S T m k v=some r):r.1.r=S.r:=by
 unfold Ao at h;split at h
 ·rename_i K _ j ver _ _;cases hc:Nat.beq ver (S.ver j)<;>simp only[hc,cond_true,cond_false] at h
  ·cases h
  split at h
  ·revert h
   generalize (_&&_:Bool)=b;intro h;cases b<;>simp only[cond_true,cond_false] at h<;>cases h;rfl
  ·cases h
 ·cases h
theorem Z0 {f:Nat}{xs:List Operand}{cs:List (Nat×Nat)}{q:St×Ty×List PI}(h:JH C S f xs cs=some q):q.1.r=S.r:=by cases h
theorem ZY {t:Nat}{xs:List Operand}{q:St×Ty×List PI}(h:JI C S t xs=some q):q.1.r=S.r:=by cases h
theorem adC {dst:Nat}{q:St×Ty×List PI}(h:q.1.r=S.r):kf S dst (tw S (some dst) q).1:=j0 h
theorem alL {fn:Fn}{a b:Array Operand}(h:Pu C S dst fn a b=some r):kf S dst r.1:=by cases h
theorem ak0 {o:Oper}(hr:core C S gs o=some r):∀t,o.dst≠some t→r.1.r t=S.r t:=by
 unfold core at hr;split at hr
 ·rename_i dst hd
  suffices h:kf S dst r.1 by
   intro t ht;exact h t (fun e=>ht (by rw[hd,e]))
  split at hr
  ·rename_i q hq;cases eA:Lc q.1<;>simp only[eA,cond_true,cond_false] at hr<;>cases hr;exact j0 rfl
  ·split at hr
   ·rename_i x e _
    have mv:∀r,(match xN C S [] dst x with|some r=>some (S.setR dst r.1,r.2)|none=>ur C S dst o.type x)=some r→kf S dst r.1:=by
     intro r hr;split at hr
     ·cases hr;exact j0 rfl
     ·exact alT hr
    cases gj:C.fr.any (Nat.beq dst)<;>simp only[gj,cond_true,cond_false] at hr
    ·split at hr
     ·rename_i q hq;cases hr;exact alN hq
     ·exact mv r hr
    ·exact mv r hr
   ·exact alo hr
   ·exact als hr
   ·split at hr
    ·exact alv hr
    ·exact alF hr
   ·exact alJ hr
   ·exact alH hr
   ·exact alP hr
   ·exact alx hr
   ·rename_i c e;split at hr
    ·split at hr
     ·rename_i s x T T' _ _;cases hT:Nat.beq T T'<;>simp only[hT,cond_true,cond_false] at hr
      ·cases hr
      ·exact alq hr
     ·cases hr
    ·split at hr
     ·rename_i q hq;cases hr;exact j0 (alD hq)
     ·split at hr
      ·split at hr
       ·rename_i q hq;cases hr;exact alB hq
       ·simp only[aR] at hr;obtain⟨q,hq,rfl⟩:=hr;exact adC (Z0 hq)
      ·cases hr
    ·split at hr
     ·rename_i q hq;cases hr;exact j0 (alz hq)
     ·split at hr
      ·simp only[aR] at hr;obtain⟨q,hq,rfl⟩:=hr;exact adC (ZY hq)
      ·cases hr
    ·cases hr
   ·exact alL hr
   ·cases hr
 ·split at hr
  ·intro t _;rw[alR hr]
  ·intro t _;rw[Z2 hr]
  ·intro t _;rw[Z2 hr]
  ·cases hr;intro t _;rfl
  ·intro t _;split at hr
   ·simp only[aR] at hr;obtain⟨q,hq,rfl⟩:=hr;simp only[tw,Z0 hq]
   ·simp only[aR] at hr;obtain⟨q,hq,rfl⟩:=hr;simp only[tw,ZY hq]
   ·cases hr
  ·cases hr
theorem anN {g:Gh}(hr:g.run C S=some r):∀t,(∀u j,g=.rereg u j→t≠u)→r.1.r t=S.r t:=by
 intro t ht;cases g with
 |fz j=>simp only[Gh.run,bx] at hr;subst hr;rw[anL]
 |fbox b=>
  simp only[Gh.run,DK] at hr;split at hr
  case h_2=>cases hr
  rename_i ag aO _;simp only[aG] at hr;obtain⟨x,_,hr⟩:=hr;cases ag<;>simp only[cond_true,cond_false] at hr
  ·split at hr
   ·cases hr;rfl
   ·cases hr
  ·cases hr;rfl
 |rereg u j=>
  simp only[Gh.run,GI] at hr;split at hr
  ·revert hr
   generalize (_&&_:Bool)=b;intro hr;cases b<;>simp only[cond_true,cond_false] at hr<;>cases hr
   ·rfl
   ·simp only[St.setR,bR _ _ (ht u j rfl)];rfl
  ·cases hr;rfl
 |recell b i j=>
  simp only[Gh.run,GH] at hr;split at hr
  ·split at hr
   ·revert hr
    generalize (_&&_:Bool)=b;intro hr;cases b<;>simp only[cond_true,cond_false] at hr<;>cases hr<;>rfl
   ·cases hr;rfl
  ·cases hr;rfl
 |home b i j T=>
  simp only[Gh.run,Ei] at hr;split at hr
  ·split at hr
   ·revert hr
    generalize (!_:Bool)=b;intro hr;cases b<;>simp only[cond_true,cond_false] at hr<;>cases hr<;>rfl
   ·cases hr;rfl
  ·cases hr;rfl
theorem PR:∀(l:List Gh) {S:St} {r:St×List PI},m6 C l S=some r→∀t,(∀g u j,g∈l→g=.rereg u j→t≠u)→r.1.r t=S.r t
 |[],S,r,hr,t,_=>by simp only[m6,bx] at hr;subst hr;rfl
 |g::l,S,r,hr,t,ht=>by
  simp only[m6,aG,aR] at hr;obtain⟨q,hq,q2,ju,rfl⟩:=hr;have h1:=PR l ju t (fun g u j hg=>ht g u j (fL _ hg));have h2:=anN hq t (fun u j e=>ht g u j (gd ..) e);exact h1.trans h2
theorem auu (S:St)(gs:List (Nat×Bool))(o:Oper):∀g u j,g∈pre C S gs o.op++SZ C S gs o→g≠.rereg u j:=by
 intro g u j hg e;subst e;rw[da] at hg;rcases hg with hg|hg
 ·unfold pre at hg;split at hg
  ·rename_i fn _ _ _;cases ho:adB C fn<;>simp only[ho,cond_true,cond_false] at hg
   case true=>cases hg
   obtain⟨b,_,hb⟩:=Hd.1 hg;rw[da] at hb;rcases hb with hb|hb
   ·split at hb
    ·obtain⟨_,_,h⟩:=dH.1 hb;cases h
    ·cases hb
   ·simp at hb
  ·split at hg
   ·split at hg
    ·obtain⟨_,_,h⟩:=dH.1 hg;cases h
    ·cases hg
   ·cases hg
  ·obtain⟨_,_,h⟩:=dH.1 hg;cases h
 ·unfold SZ at hg;split at hg
  ·rename_i x t _ _;cases hc:C.fr.any (Nat.beq t)<;>simp only[hc,cond_true,cond_false] at hg
   ·cases hg
   ·obtain⟨_,_,h⟩:=dH.1 hg;cases h
  ·cases hg
theorem aus (S:St)(o:Oper):∀g u j,g∈post C S o→g=.rereg u j→o.dst=some u:=by
 intro g u j hg e;subst e;unfold post at hg;split at hg
 ·rename_i t _ hd;simp at hg;rw[hd,hg.1]
 ·unfold KS homes at hg;have:=(ei.1 hg).1;obtain⟨x,_,hx⟩:=yP.1 this;cases nm:x.1<;>rw[nm] at hx<;>simp at hx
 ·split at hg
  ·rw[da] at hg;rcases hg with hg|hg
   ·unfold KS homes at hg;have:=(ei.1 hg).1;obtain⟨x,_,hx⟩:=yP.1 this;cases nm:x.1<;>rw[nm] at hx<;>simp at hx
   ·unfold ahr at hg;obtain⟨_,_,h⟩:=dH.1 hg;cases h
  ·cases hg
 ·cases hg
theorem akT {ops:Array Oper}{o:Oper}(hr:Dk C S ops o=some r):∀t,o.dst≠some t→r.1.r t=S.r t:=by
 intro t ht;unfold Dk at hr;split at hr
 ·rename_i q hq;cases hr;simp only[JC,aG] at hq;obtain⟨gs,_,r1,h1,r2,h2,r3,h3,hq⟩:=hq
  revert hq
  generalize JR gs o.dst r2.2=b;intro hq;cases b<;>simp only[cond_true,cond_false] at hq<;>cases hq;have e1:=PR _ h1 t (fun g u j hg e=>absurd e (auu S gs o g u j hg));have e2:=ak0 h2 t ht
  have e3:=PR _ h3 t (fun g u j hg e=>by
   have:=aus r2.1 o g u j hg e;intro e';subst e';exact ht this)
  exact e3.trans (e2.trans e1)
 ·cases hr;split
  ·rename_i d hd;simp only[St.setR];rw[bR];intro e;subst e;exact ht hd
  ·rfl
theorem ZM {ops:Array Oper}{o:Oper}(hr:wG C S ops o=some r):∀t,o.dst≠some t→r.1.r t=S.r t:=by
 intro t ht;unfold wG at hr;split at hr
 ·rename_i q hq;cases hr;unfold JE at hq;split at hq
  case h_2=>cases hq
  rename_i dst _ args _ _ _ hd _ _;simp only[aG] at hq;obtain⟨gs,_,hq⟩:=hq;split at hq
  case h_2=>cases hq
  split at hq
  case h_2=>cases hq
  simp only[aG] at hq;obtain⟨u,_,hq⟩:=hq;rw[oW] at hq;split at hq<;>cases hq;simp only[St.setR];rw[bR,(DL _ S).2];intro e;subst e;exact ht hd
 ·exact akT hr t ht
theorem ZO {ops:Array Oper}:∀{l:List Nat} {S:St} {r:St×List PI},uk C ops l S=some r→∀t,(∀i o,i∈l→ops[i]?=some o→o.dst≠some t)→r.1.r t=S.r t
 |[],S,r,h,t,_=>by simp only[uk,bx] at h;subst h;rfl
 |i::l,S,r,h,t,ht=>by
  simp only[uk] at h;split at h
  ·rename_i o ho;simp only[aG,aR] at h;obtain⟨q,hq,q2,ju,rfl⟩:=h;exact(ZO ju t fun j o hj=>ht j o (fL _ hj)).trans (ZM hq t (ht i o (gd ..) ho))
  ·cases h
end
end Cx
namespace Cx
open Go Go.RowKit
def la (S:St):Sh→Sh
 |.opt gs s=>.opt gs (iM S s)
 |s=>iM S s
def St.snapO (n:Nat)(ids:List Nat)(S:St):Snap:=⟨(List.range n).map fun t=>la S (S.r t),ids.map fun j=>jz S (S.o j)⟩
def Snap.stO (ids:List Nat)(s:Snap):St:=⟨fun t=>s.rs.getD t .none,fun j=>eD ids s.os j,fun _=>0⟩
theorem tp (S:St)(s:Sh):∀gs s',iM S s≠.opt gs s':=by
 intro gs s' e;cases s<;>simp only[iM] at e<;>first|cases e|(revert e;cases Nat.beq _ _<;>intro e<;>cases e)|(revert e;cases List.all _ _<;>intro e<;>cases e)
section
variable {C:Ctx} {S:St} {ρ:Env} {σ:Im} {own:Nat→Option Nat} {hv:Nat→Value} {w0:World} {σ0:Base} {A:Nat→Prop} {a:Act} {w:World} {n:Nat} {ids:List Nat} {Φ:aY}
theorem atx {s:Sh}{v:Value}{d:D}(h:bf C S ρ σ hv s v d){T:St}(hT:T.ver=fun _=>0):bf C T ρ σ hv (la S s) v d:=by
 have hc:Compat S.norm hv T hv:=⟨fun j=>by rw[hT];exact yQ _,fun _ _=>rfl⟩
 have key:∀s,bf C S ρ σ hv s v d→bf C T ρ σ hv (iM S s) v d:=fun s hs=>bf.mono' (.refl σ) hc (tp S s) (Lb hs).1;cases s with
 |opt gs s=>exact⟨fun hh=>key s (h.1 hh),h.2⟩
 |_=>exact key _ h
theorem Good.snapO (h:Good C w0 σ0 S ρ A a w)(n:Nat)(ids:List Nat):Good C w0 σ0 ((S.snapO n ids).stO ids) ρ A a w:=by
 obtain⟨σ,own,hv,h⟩:=h;have h1:=h.norm;have hc:Compat S.norm hv ((S.snapO n ids).stO ids) hv:=⟨fun _=>bK _,fun _ _=>rfl⟩
 refine⟨σ,own,hv,h.defers,h.ok,h.le,h.old,h.newc,h.newm,h.below,h.bw,h.owns,fun t=>?_,fun j=>?_,fun t gs s e=>?_,?_⟩
 rotate_right
 ·obtain⟨t,fx,cx,f1,f5⟩:=h.frame;refine⟨t,fx,cx,f1,fun j hj=>f5 j ?_⟩;exact xG (fun j=>jz S (S.o j)) (fun ob=>ob=.tr→S.o j=.tr) (fun e=>by cases e) j adw ids hj
 ·show bf C _ ρ σ hv (((List.range n).map fun t=>la S (S.r t)).getD t .none) _ _;rw[bh,dG];by_cases ht:t<n
  ·rw[qz ht];exact atx (h.regs t) rfl
  ·rw[rX (by simpa using ht)];trivial
 ·have ho:=(h1.objs j).mono (.refl σ) hc (w:=w) (w':=w) rfl rfl (fun k hk=>⟨hk,rfl⟩);exact xG (fun j=>jz S (S.o j)) (fun ob=>dX C _ ρ σ own hv w w0.heap.size j ob) trivial j ho ids
 ·change ((List.range n).map fun t=>la S (S.r t)).getD t .none=.opt gs s at e;rw[bh,dG] at e;by_cases ht:t<n
  ·rw[qz ht] at e;simp only[ly,lx] at e;cases hs:S.r t with
   |opt bZ s'=>
    rw[hs] at e;simp only[la,Sh.opt.injEq] at e;obtain⟨rfl,rfl⟩:=e;exact⟨(h.opts t bZ s' hs).1,tp S s'⟩
   |none=>rw[hs] at e;exact absurd e (tp S .none gs s)
   |yv=>rw[hs] at e;exact absurd e (tp S .yv gs s)
   |fclo f c=>rw[hs] at e;exact absurd e (tp S (.fclo f c) gs s)
   |dat t=>rw[hs] at e;exact absurd e (tp S (.dat t) gs s)
   |obj t u=>rw[hs] at e;exact absurd e (tp S (.obj t u) gs s)
   |ptr t u v=>rw[hs] at e;exact absurd e (tp S (.ptr t u v) gs s)
   |eptr t u v x=>rw[hs] at e;exact absurd e (tp S (.eptr t u v x) gs s)
  ·rw[rX (by simpa using ht)] at e;cases e
theorem Good.snapF (h:Good C w0 σ0 S ρ A a w)(n:Nat)(ids:List Nat):Good C w0 σ0 ((S.snap n ids).st ids) ρ (fun _=>False) a w:=by
 obtain⟨σ,own,hv,h⟩:=h;exact⟨σ,own,hv,h.snap n ids⟩
theorem Good.drew (h:Good C w0 σ0 S ρ A a w):Good C w0 σ0 S ρ A a {w with drawn:=w.drawn+1}:=by
 obtain⟨σ,own,hv,h⟩:=h;refine⟨σ,own,hv,h.defers,⟨fun k o v e=>h.ok.c k o v e,fun k es e=>h.ok.m k es e⟩,h.le,h.old,h.newc,h.newm,h.below.drew,h.bw,h.owns,h.regs,fun j=>?_,h.opts,?_⟩
 rotate_right
 ·obtain⟨t,fx,cx,f1,f2⟩:=h.frame;exact⟨t,fx,cx,⟨σ0.keep _ _ _ _ _ f1.F (Below.drew (.refl _ _)) (fun _ _=>rfl),f1.own,f1.c,f1.m,f1.d⟩,f2⟩
 exact(h.objs j).mono (.refl σ) (.refl S hv) rfl rfl (fun k hk=>⟨hk,rfl⟩)
end
def B4 (g:Sh→Sh)(S:St)(rs:List Sh)(ds:List Nat):List Sh:=(ds.foldl (fun l d=>l.set d (S.r d)) rs).map g
theorem aan (S:St):∀(ds:List Nat) (rs:List Sh),(ds.foldl (fun l d=>l.set d (S.r d)) rs).length=rs.length∧∀t,t<rs.length→(ds.foldl (fun l d=>l.set d (S.r d)) rs).getD t .none=if t∈ds then S.r t else rs.getD t .none
 |[],rs=>⟨rfl,fun t _=>by simp⟩
 |d::ds,rs=>by
  obtain⟨h1,h2⟩:=aan S ds (rs.set d (S.r d));simp only[List.length_set] at h1 h2;refine⟨h1,fun t ht=>?_⟩;rw[Ha,h2 t ht];simp only[cW,bh,Cq];by_cases hm:t∈ds
  ·simp[hm]
  ·by_cases e:d=t
   ·subst e;simp[hm,ht]
   ·have e':¬t=d:=fun h=>e h.symm;simp[hm,e,e']
theorem M8 {g:Sh→Sh}{S:St}{rs:List Sh}{ds:List Nat}(h:∀t,t∉ds→g (rs.getD t .none)=g (S.r t)):B4 g S rs ds=(List.range rs.length).map fun t=>g (S.r t):=by
 obtain⟨h1,h2⟩:=aan S ds rs;unfold B4;apply YK;intro t;simp only[dG];by_cases ht:t<rs.length
 ·have:=h2 t ht;rw[bh,cl (by omega)] at this;rw[cl (by omega),qz ht];simp only[lx,ly] at this ⊢;rw[this];by_cases hm:t∈ds
  ·simp[hm]
  ·simp only[hm,if_false];rw[h t hm]
 ·rw[rX (by omega),rX (by simpa using ht)];rfl
def Sh.hd {α:Type}(s:Sh)(k:Sh→α):α:=
 match s with
 |.none=>k .none
 |.dat t=>k (.dat t)
 |.obj j v=>k (.obj j v)
 |.ptr j v o=>k (.ptr j v o)
 |.eptr j v z o=>k (.eptr j v z o)
 |.opt gs s=>k (.opt gs s)
 |.yv=>k .yv
 |.fclo f c=>k (.fclo f c)
theorem Sh.hd_eq {α:Type}(s:Sh)(k:Sh→α):s.hd k=k s:=by cases s<;>rfl
def AD {α:Type}:List Sh→(List Sh→α)→α
 |[],k=>k []
 |s::l,k=>s.hd fun s=>AD l fun l=>k (s::l)
theorem P4 {α:Type}:∀(l:List Sh) (k:List Sh→α),AD l k=k l
 |[],_=>rfl
 |s::l,k=>by rw[AD,Sh.hd_eq,P4 l]
def Ob.hd {α:Type}(s:Ob)(k:Ob→α):α:=
 match s with
 |.dead=>k .dead
 |.fz t=>k (.fz t)
 |.fbox t=>k (.fbox t)
 |.box true l=>AD l fun l=>k (.box true l)
 |.box false l=>AD l fun l=>k (.box false l)
 |.row T e=>k (.row T e)
 |.mp a b=>k (.mp a b)
 |.it a b=>k (.it a b)
 |.tr=>k .tr
theorem Ob.hd_eq {α:Type}(s:Ob)(k:Ob→α):s.hd k=k s:=by
 cases s with
 |box ag l=>cases ag<;>simp only[Ob.hd,P4]
 |_=>rfl
def J7 {α:Type}:List Ob→(List Ob→α)→α
 |[],k=>k []
 |s::l,k=>s.hd fun s=>J7 l fun l=>k (s::l)
theorem aaU {α:Type}:∀(l:List Ob) (k:List Ob→α),J7 l k=k l
 |[],_=>rfl
 |s::l,k=>by rw[J7,Ob.hd_eq,aaU l]
def Snap.hard {α:Type}(s:Snap)(k:Snap→α):α:=AD s.rs fun a=>J7 s.os fun b=>k ⟨a,b⟩
theorem Snap.hard_eq {α:Type}(s:Snap)(k:Snap→α):s.hard k=k s:=by rw[Snap.hard,P4,aaU]
def J8 {α β:Type}:List β→(List β→α)→α
 |[],k=>k []
 |s::l,k=>J8 l fun l=>k (s::l)
theorem aaW {α β:Type}:∀(l:List β) (k:List β→α),J8 l k=k l
 |[],_=>rfl
 |s::l,k=>by rw[J8,aaW l]
def DU {α β:Type}:List (List β)→(List (List β)→α)→α
 |[],k=>k []
 |s::l,k=>J8 s fun s=>DU l fun l=>k (s::l)
theorem aaV {α β:Type}:∀(l:List (List β)) (k:List (List β)→α),DU l k=k l
 |[],_=>rfl
 |s::l,k=>by rw[DU,aaW,aaV l]
def aD (P:Program){α:Type}(s:Sem α):Prop:=(∃a,∀w,s.run P w=.ok a w)∨∀w,∃h w',s.run P w=.halt h w'
section
variable {P:Program}
theorem aD.pure {α:Type}(a:α):aD P (Sem.pure a):=.inl ⟨a,fun w=>rfl⟩
theorem aD.pure' {α:Type}(a:α):aD P (Pure.pure a:Sem α):=.inl ⟨a,fun w=>rfl⟩
theorem aD.halt {α:Type}(h:Halt):aD P (Sem.halt h:Sem α):=.inr fun w=>⟨h,w,rfl⟩
theorem aD.bind' {α β:Type}{s:Sem α}{f:α→Sem β}(h:aD P s)(hf:∀a,(∀w,s.run P w=.ok a w)→aD P (f a)):aD P (s>>=f):=by
 rcases h with⟨a,ha⟩|hd
 ·rcases hf a ha with⟨b,hb⟩|hd
  ·exact .inl ⟨b,fun w=>by rw[Sem.run_bind,ha w];exact hb w⟩
  ·refine .inr fun w=>?_;obtain⟨x,w',e⟩:=hd w;exact⟨x,w',by rw[Sem.run_bind,ha w];exact e⟩
 ·refine .inr fun w=>?_;obtain⟨x,w',e⟩:=hd w;exact⟨x,w',by rw[Sem.run_bind,e];rfl⟩
theorem aD.bind {α β:Type}{s:Sem α}{f:α→Sem β}(h:aD P s)(hf:∀a,aD P (f a)):aD P (s>>=f):=h.bind' fun a _=>hf a
def cw {α:Type}(s:Sem α):Prop:=∀P w,∃h w',s.run P w=.halt h w'
theorem cw.noW {α:Type}{s:Sem α}(h:cw s):aD P s:=.inr (h P)
theorem cw.halt {α:Type}(h:Halt):cw (Sem.halt h:Sem α):=fun P w=>⟨h,w,rfl⟩
theorem cw.of_bind {α β:Type}{s:Sem α}{f:α→Sem β}(hf:∀a,cw (f a)):cw (s>>=f):=by
 intro P w;rw[Sem.run_bind];cases e:s.run P w with
 |ok a w'=>exact hf a P w'
 |halt h w'=>exact⟨h,w',rfl⟩
theorem aD.asBool (v:Value):aD P (Go.asBool v):=by
 cases v<;>first|exact .pure _|exact .halt _
theorem aD.asIntOf (v:Value):aD P (Go.asIntOf v):=by
 unfold Go.asIntOf;split<;>first|exact .pure _|exact .halt _
theorem aD.sureAddr (v:Value):aD P (Instr.sureAddr v):=by
 unfold Instr.sureAddr;split<;>first|exact .pure _|exact .halt _
theorem aD.prog:aD P Go.program:=.inl ⟨P,fun w=>rfl⟩
theorem aD.underlying (t:TypeId):aD P (Go.underlying t):=by
 unfold Go.underlying;refine .bind .prog fun p=>?_;split<;>first|exact .pure _|exact .halt _
theorem aD.sizeOf (t:TypeId):aD P (Go.sizeOf t):=by
 unfold Go.sizeOf Go.typeInfo;refine .bind (.bind .prog fun p=>?_) fun _=>.pure _;split<;>first|exact .pure _|exact .halt _
theorem cw.runtimePanic {α:Type}(e:RuntimeError):cw (Go.runtimePanic e:Sem α):=by
 unfold Go.runtimePanic;refine .of_bind fun p=>?_;cases e<;>first|exact .halt _|exact .of_bind fun _=>.halt _|exact .of_bind fun _=>.of_bind fun _=>.halt _
theorem cw.boundsPanic {α:Type}(k:IntKind)(x y:Int)(c:BoundsCode):cw (Go.boundsPanic k x y c:Sem α):=by
 unfold Go.boundsPanic;dsimp only;split<;>exact .of_bind fun _=>.runtimePanic _
theorem aD.indexAt (t:TypeId)(x i:Value):aD P (Instr.indexAt t x i):=by
 unfold Instr.indexAt
 repeat' (first|(first|exact aD.pure _|exact aD.pure' _|exact aD.halt _|exact cw.noW (cw.boundsPanic _ _ _ _)|exact cw.noW (cw.runtimePanic _)|exact aD.prog|exact aD.underlying _|exact aD.sizeOf _|exact aD.asIntOf _|exact aD.sureAddr _|exact aD.asBool _)|(refine aD.bind ?_ fun _=>?_)|dsimp only|split)
theorem aD.sliceBound (x:Value)(y:Nat)(c:BoundsCode):aD P (Instr.sliceBound x y c):=by
 unfold Instr.sliceBound
 repeat' (first|(first|exact aD.pure _|exact aD.pure' _|exact aD.halt _|exact cw.noW (cw.boundsPanic _ _ _ _)|exact cw.noW (cw.runtimePanic _)|exact aD.prog|exact aD.underlying _|exact aD.sizeOf _|exact aD.asIntOf _|exact aD.sureAddr _|exact aD.asBool _)|(refine aD.bind ?_ fun _=>?_)|dsimp only|split)
theorem aD.sliceBounds (b:Bool)(n m:Nat)(lo hi mx:Option Value):aD P (Instr.sliceBounds b n m lo hi mx):=by
 unfold Instr.sliceBounds
 repeat' (first|exact aD.sliceBound _ _ _|(first|exact aD.pure _|exact aD.pure' _|exact aD.halt _|exact cw.noW (cw.boundsPanic _ _ _ _)|exact cw.noW (cw.runtimePanic _)|exact aD.prog|exact aD.underlying _|exact aD.sizeOf _|exact aD.asIntOf _|exact aD.sureAddr _|exact aD.asBool _)|(refine aD.bind ?_ fun _=>?_)|dsimp only|split)
theorem aD.asAddr (v:Value):aD P (Go.asAddr v):=by
 unfold Go.asAddr
 repeat' (first|(first|exact aD.pure _|exact aD.pure' _|exact aD.halt _|exact cw.noW (cw.boundsPanic _ _ _ _)|exact cw.noW (cw.runtimePanic _)|exact aD.prog|exact aD.underlying _|exact aD.sizeOf _|exact aD.asIntOf _|exact aD.sureAddr _|exact aD.asBool _)|(refine aD.bind ?_ fun _=>?_)|dsimp only|split)
theorem aD.slice (t:TypeId)(x:Value)(lo hi mx:Option Value):aD P (Instr.slice t x lo hi mx):=by
 unfold Instr.slice
 repeat' (first|exact aD.sliceBounds _ _ _ _ _ _|exact aD.asAddr _|(first|exact aD.pure _|exact aD.pure' _|exact aD.halt _|exact cw.noW (cw.boundsPanic _ _ _ _)|exact cw.noW (cw.runtimePanic _)|exact aD.prog|exact aD.underlying _|exact aD.sizeOf _|exact aD.asIntOf _|exact aD.sureAddr _|exact aD.asBool _)|(refine aD.bind ?_ fun _=>?_)|dsimp only|split)
theorem aD.sliceAt (t:TypeId)(x:Value)(lo hi mx:Option Value):aD P (Instr.sliceAt t x lo hi mx):=by
 unfold Instr.sliceAt
 repeat' (first|exact aD.sliceBounds _ _ _ _ _ _|exact aD.slice _ _ _ _ _|(first|exact aD.pure _|exact aD.pure' _|exact aD.halt _|exact cw.noW (cw.boundsPanic _ _ _ _)|exact cw.noW (cw.runtimePanic _)|exact aD.prog|exact aD.underlying _|exact aD.sizeOf _|exact aD.asIntOf _|exact aD.sureAddr _|exact aD.asBool _)|(refine aD.bind ?_ fun _=>?_)|dsimp only|split)
def U7 (P:Program)(s:TypeId)(i:Nat):Bool:=
 match P.underlying s with
 |some (.struct fs)=>(match fs[i]? with
  |some f=>(match P.info? f.type with|some d=> !Nat.beq d.size 0|none=>false)
  |none=>false)
 |_=>false
theorem aD.fieldAt {s:TypeId}{i:Nat}(h:U7 P s i=true)(a:Value):aD P (Instr.fieldAt s a i):=by
 unfold Instr.fieldAt;refine .bind' (.underlying _) fun d hd=>?_;have hu:P.underlying s=some d:=by
  have:=hd default;unfold Go.underlying at this;rw[Sem.run_bind] at this;change Result.andThen (.ok P default) _=_ at this;simp only[Result.andThen_ok] at this;cases hp:P.underlying s with
  |none=>rw[hp] at this;cases this
  |some d'=>
   rw[hp] at this;change Result.ok d' default=_ at this;cases this;rfl
 unfold U7 at h;rw[hu] at h;cases d<;>dsimp only at h ⊢<;>try (first|exact aD.pure _|exact aD.pure' _|exact aD.halt _|exact cw.noW (cw.boundsPanic _ _ _ _)|exact cw.noW (cw.runtimePanic _)|exact aD.prog|exact aD.underlying _|exact aD.sizeOf _|exact aD.asIntOf _|exact aD.sureAddr _|exact aD.asBool _)
 rename_i fs;cases hf:fs[i]? with
 |none=>dsimp only;(first|exact aD.pure _|exact aD.pure' _|exact aD.halt _|exact cw.noW (cw.boundsPanic _ _ _ _)|exact cw.noW (cw.runtimePanic _)|exact aD.prog|exact aD.underlying _|exact aD.sizeOf _|exact aD.asIntOf _|exact aD.sureAddr _|exact aD.asBool _)
 |some f=>
  rw[hf] at h;dsimp only at h ⊢;refine .bind (.sureAddr _) fun a=>.bind ?_ fun _=>.pure _;unfold Go.fieldPlace;refine .bind' (.sizeOf _) fun n hn=>?_;have hz:n≠0:=by
   intro e;have:=hn default;unfold Go.sizeOf Go.typeInfo at this;cases hi:P.info? f.type with
   |none=>rw[hi] at h;cases h
   |some inf=>
    rw[hi] at h;rw[Sem.run_bind,Sem.run_bind] at this;change Result.andThen (Result.andThen (.ok P default) _) _=_ at this;simp only[Result.andThen_ok,hi] at this;change Result.ok inf.size default=_ at this;cases this;dsimp only at h;rw[e] at h;cases h
  rw[if_neg hz]
  (first|exact aD.pure _|exact aD.pure' _|exact aD.halt _|exact cw.noW (cw.boundsPanic _ _ _ _)|exact cw.noW (cw.runtimePanic _)|exact aD.prog|exact aD.underlying _|exact aD.sizeOf _|exact aD.asIntOf _|exact aD.sureAddr _|exact aD.asBool _)
def E9 (P:Program):Op→Bool
 |.move _=>true
 |.assign _=>true
 |.pick ..=>true
 |.fieldAddr s _ i=>U7 P s i
 |.indexAddr ..=>true
 |.slice ..=>true
 |_=>false
theorem auB {o:Oper}(hp:E9 P o.op=true)(ρ:Operand→Value):(∃v,∀w,(execOp ρ o).run P w=.ok (.value v) w)∨∀w,∃h w',(execOp ρ o).run P w=.halt h w':=by
 have key:∀s:Sem Value,aD P s→(∃v,∀w,(do Pure.pure (Next.value (←s)):Sem Next).run P w=.ok (.value v) w)∨∀w,∃h w',(do Pure.pure (Next.value (←s)):Sem Next).run P w=.halt h w':=by
  intro s hs;rcases hs with⟨a,ha⟩|hd
  ·exact .inl ⟨a,fun w=>by rw[Sem.run_bind,ha w];rfl⟩
  ·refine .inr fun w=>?_;obtain⟨x,w',e⟩:=hd w;exact⟨x,w',by rw[Sem.run_bind,e];rfl⟩
 obtain⟨dst,op,type,pos,after,guard⟩:=o;cases op<;>first|(cases hp;done)|skip
 case move x=>exact .inl ⟨_,fun w=>rfl⟩
 case assign x=>exact .inl ⟨_,fun w=>rfl⟩
 case pick c a b=>
  have:=key (do Pure.pure (if←Go.asBool (ρ c) then ρ a else ρ b)) (.bind (.asBool _) fun _=>.pure _);simp only[execOp];rcases aD.asBool (P:=P) (ρ c) with⟨t,ht⟩|hd
  ·exact .inl ⟨_,fun w=>by rw[Sem.run_bind,ht w];rfl⟩
  ·refine .inr fun w=>?_;obtain⟨x,w',e⟩:=hd w;exact⟨x,w',by rw[Sem.run_bind,e];rfl⟩
 case fieldAddr s x i=>exact key _ (.fieldAt hp _)
 case indexAddr t x i=>exact key _ (.indexAt _ _ _)
 case slice t x lo hi mx=>exact key _ (.sliceAt _ _ _ _ _)
theorem auC {rd:Option Nat}{ops:Array Oper}{i:Nat}{o:Oper}{a:Act}{w:World}{K:Act→World→Prop}(hi:ops[i]?=some o)(hp:E9 P o.op=true)
 (h:wpOpIn (FR rd) 0 P ops (fun _ _ _=>False) i K a w):∃v,YieldsFenced P ops o v a∧K (a.put o.dst v) w:=by
 have bX:∀c,o.op≠.defer c:=fun c e=>by rw[e] at hp;cases hp
 have AA:∀w,o.about P w a.eval=none:=fun w=>by
  unfold Oper.about;cases ho:o.op<;>first|rfl|(rw[ho] at hp;cases hp)
 unfold wpOpIn at h;rw[hi] at h;dsimp only at h;cases hw:Region.wanted o (yielded ops a.tmps) with
 |false=>
  rw[hw] at h;exact⟨undef,⟨.inr ⟨hw,rfl⟩,AA⟩,h.2⟩
 |true=>
  rw[hw,if_pos rfl] at h;have h2:=h.2;rw[Oper.semAt_eq _ _ _ bX] at h2;rcases auB hp a.eval with⟨v,hv⟩|hd
  ·rw[hv w] at h2;exact⟨v,⟨.inl ⟨hw,hv⟩,AA⟩,h2⟩
  ·obtain⟨x,w',e⟩:=hd w;rw[e] at h2;cases x<;>exact h2.elim
section
variable {F:Fence} {n:Nat} {ops:Array Oper} {Q:Exit→Act→World→Prop} {md:Region.Mode}
theorem YF.wpOpIn {i:Nat}{o:Oper}{v:Value}{a:Act}(bX:rl o.op=true)(hi:ops[i]?=some o)(hy:YieldsFenced P ops o v a)
 {K:Act→World→Prop} {w:World} (h:K (a.put o.dst v) w):wpOpIn F n P ops Q i K a w:=by
 have my:∀c,o.op≠.defer c:=fun c e=>by rw[e] at bX;cases bX
 unfold Go.wpOpIn;simp only[hi];have AA:∀f,o.about P w a.eval=some f→F.fn f:=fun f hf=>by rw[hy.2 w] at hf;cases hf
 rcases hy.1 with⟨hw,hv⟩|⟨hw,rfl⟩
 ·simp only[hw,if_true,Oper.wpIn,Oper.semAt_eq _ _ _ my,hv w,Oper.uponIn];exact⟨AA,h⟩
 ·simp only[hw,yJ,if_false];exact⟨AA,h⟩
theorem aAo {j:Nat}{oi oj:Oper}{v:Value}(bX:rl oj.op=true)(hj:ops[j]?=some oj)(P3:oi.apart ops oj=true)
 (ou:∀cs b,oi.op≠.select cs b) (hsj:∀cs b,oj.op≠.select cs b)
 (hQ:∀c a w,Q (.panic c) (a.put oi.dst v) w→Q (.panic c) a w) {K:Act→World→Prop} {a:Act} {w:World}
 (hy:YieldsFenced P ops oi v a) (h:wpOpIn F n P ops Q j K (a.put oi.dst v) w):
 wpOpIn F n P ops Q j (fun a' w'=>YieldsFenced P ops oi v a'∧K (a'.put oi.dst v) w') a w:=by
 have my:∀c,oj.op≠.defer c:=fun c e=>by rw[e] at bX;cases bX
 obtain⟨h1,h2,h3⟩:=Oper.apart_spec P3;have keep:∀(a:Act),YieldsFenced P ops oi v a→∀u,YieldsFenced P ops oi v (a.put oj.dst u):=fun a hy u=>
  hy.of_same (execOp_put oi ou a oj.dst u h3) (wanted_put oi a oj.dst u h3) (fun w=>about_put oi w a oj.dst u h3)
 have aq5:∀d,YieldsFenced P ops oi v {a with defers:=d::a.defers}:=fun d=>hy.of_same rfl rfl (fun _=>rfl);unfold Go.wpOpIn at*;simp only[hj] at*;rw[wanted_put oj a oi.dst v h1,about_put oj w a oi.dst v h1] at h;split
 ·rename_i hw;simp only[hw,if_true] at h;unfold Oper.wpIn at*;rw[about_put oj w a oi.dst v h1] at h;refine⟨h.1,?_⟩;have h:=h.2;rw[Oper.semAt_eq _ _ _ my,execOp_put oj hsj a oi.dst v h1] at h;rw[Oper.semAt_eq _ _ _ my];generalize (execOp a.eval oj).run P w=r at*;cases r with
  |ok x w'=>
   cases x<;>simp only[Oper.uponIn] at h ⊢
   case value u=>exact⟨keep a hy u,by rw[←Act.put_comm a v u h2];exact h⟩
   case skip=>exact⟨keep a hy _,by rw[←Act.put_comm a v undef h2];exact h⟩
   case defer d=>
        refine⟨keep _ (aq5 d) _,?_⟩;rw[←Act.put_comm _ v undef h2,←Act.put_defers];exact h
   case enter f args=>
        refine⟨h.1,CallsIn.mono h.2 fun e ls he=>?_⟩;cases e with
        |returned u=>exact⟨keep a hy u,by rw[←Act.put_comm a v u h2];exact he⟩
        |panicked c=>exact hQ _ _ _ he
        |outgrown=>exact he
   case row row args=>exact⟨h.1,RowsIn.mono h.2 fun u ls he=>⟨keep a hy u,by rw[←Act.put_comm a v u h2];exact he⟩⟩
   case round l f tmps assign body=>
        refine⟨h.1,RoundIn.mono h.2 fun e ls he=>?_⟩;cases e with
        |returned u=>exact⟨keep a hy u,by rw[←Act.put_comm a v u h2];exact he⟩
        |panicked c=>exact hQ _ _ _ he
        |outgrown=>exact he
  |halt x w'=>
   cases x<;>simp only[Oper.uponIn] at h ⊢
   case panic u=>exact hQ _ _ _ h
 ·rename_i hw;simp only[hw] at h;exact⟨h.1,keep a hy _,by rw[←Act.put_comm a v undef h2];exact h.2⟩
theorem aAn {i:Nat}{oi:Oper}{v:Value}(bX:∀(j:Nat) (o:Oper),ops[j]?=some o→rl o.op=true)(hi:ops[i]?=some oi)(uQ:∀(j:Nat) (o:Oper) cs b,ops[j]?=some o→o.op≠.select cs b)
 (hQ:∀c a w,Q (.panic c) (a.put oi.dst v) w→Q (.panic c) a w):
 ∀(fuel:Nat) (listed:Array Bool) (a:Act) (w:World),
  (∀j oj,ops[j]?=some oj→j≠i→listed.getD j true=false→(∀e∈oj.after,Region.binds md e=true→e.on≠i)→oi.apart ops oj=true)→
  i∈Region.ready md ops listed→YieldsFenced P ops oi v a→
  wpAnyIn F n P md ops Q fuel (listed.setIfInBounds i true) (a.put oi.dst v) w→wpAnyIn F n P md ops Q (fuel+1) listed a w:=by
 intro fuel
 induction fuel with
 |zero=>
  intro listed a w _ hr hy H;refine⟨fun h=>(by rw[h] at hr;cases hr),fun j hj=>?_⟩;by_cases mw:j=i
  ·subst mw;exact YF.wpOpIn (bX _ _ hi) hi hy H
  ·have:=ready_mono hj mw;rw[H.1] at this;cases this
 |succ fuel ih=>
  intro listed a w qV hr hy H;refine⟨fun h=>(by rw[h] at hr;cases hr),fun j hj=>?_⟩;by_cases mw:j=i
  ·subst mw;exact YF.wpOpIn (bX _ _ hi) hi hy H
  ·have h1:=H.2 j (ready_mono hj mw);obtain⟨abz,oj,KA,bn⟩:=mem_ready.1 hj
   have QG:∀e∈oj.after,Region.binds md e=true→e.on≠i:=fun e he hb heq=>by
        have h1:=bn e he hb;have h0:=(mem_ready.1 hr).1;rw[heq] at h1;rcases N5 i listed.size with h'|h'
        ·simp[h'] at h0 h1;rw[h0] at h1;cases h1
        ·simp[Array.getElem?_eq_none h'] at h1
   have h2:=aAo (bX _ _ KA) KA (qV j oj KA mw abz QG) (fun cs b=>uQ i oi cs b hi) (fun cs b=>uQ j oj cs b KA) hQ hy h1;have aoT:∀k ok,ops[k]?=some ok→k≠i→(listed.setIfInBounds j true).getD k true=false→
    (∀e∈ok.after,Region.binds md e=true→e.on≠i)→oi.apart ops ok=true:=fun k ok hk hki nl eA=>by
        refine qV k ok hk hki ?_ eA;by_cases Kl:j=k
        ·subst Kl;exact abz
        ·rw[getD_set_ne true Kl] at nl;exact nl
   refine wpOpIn_mono (fun a' w' h3=>ih (listed.setIfInBounds j true) a' w' aoT (ready_mono hr (yR mw)) h3.1 ?_) h2;rw[Array.setIfInBounds_comm _ _ mw];exact h3.2
end
end
def sr (P:Program)(ops:Array Oper):List (Option (List Nat)):=(List.range ops.size).map fun i=>match ops[i]? with
 |some oi=>bif E9 P oi.op then some ((List.range ops.size).filter fun j=> !(Nat.beq j i||(match ops[j]? with|some oj=>(oj.after.toList.any fun e=>Region.binds .any e&&Nat.beq e.on i)||oi.apart ops oj|none=>true))) else none
 |none=>none
def B6 (bad:List (Option (List Nat)))(E:Nat):List Nat→Option Nat
 |[]=>none
 |i::l=>match bad.getD i none with
  |some b=>bif b.all (aV E) then some i else B6 bad E l
  |none=>B6 bad E l
def RE (ops:Array Oper):Bool:=ops.toList.all fun o=>match o.op with|.select ..=>false|_=>true
theorem Nc {bad:List (Option (List Nat))}{E:Nat}:∀{l:List Nat} {i:Nat},B6 bad E l=some i→i∈l∧∃b,bad.getD i none=some b∧b.all (aV E)=true
 |[],_,h=>by cases h
 |i::l,j,h=>by
  unfold B6 at h;split at h
  ·rename_i b hb;cases hc:b.all (aV E) with
   |true=>
    rw[hc] at h;cases h;exact⟨gd ..,b,hb,hc⟩
   |false=>
    rw[hc] at h;obtain⟨h1,h2⟩:=Nc h;exact⟨fL _ h1,h2⟩
  ·obtain⟨h1,h2⟩:=Nc h;exact⟨fL _ h1,h2⟩
theorem aj8 {P:Program}{ops:Array Oper}{i:Nat}{b:List Nat}(h:(sr P ops).getD i none=some b):∃oi,ops[i]?=some oi∧E9 P oi.op=true∧
 ∀j oj,ops[j]?=some oj→j≠i→j∉b→(∀e∈oj.after,Region.binds .any e=true→e.on≠i)→oi.apart ops oj=true:=by
 unfold sr at h;rw[bh,dG] at h;by_cases hi:i<ops.size
 ·rw[qz hi] at h;simp only[ly,lx] at h;rw[j9 hi] at h;dsimp only at h;cases hp:E9 P ops[i].op<;>rw[hp] at h<;>simp only[cond_true,cond_false] at h
  ·cases h
  injection h with h
  refine⟨ops[i],j9 hi,hp,fun j oj hj mw Kk eA=>?_⟩;have ar:j<ops.size:=(gO.1 hj).1;rw[←h] at Kk;have h2:¬(!(Nat.beq j i||(match ops[j]? with|some oj=>(oj.after.toList.any fun e=>Region.binds .any e&&Nat.beq e.on i)||ops[i].apart ops oj|none=>true)))=true:=fun hc=>Kk (ei.2 ⟨gf.2 ar,hc⟩);rw[hj,gA mw] at h2;simp only[Bool.false_or,lu,Bool.not_eq_false,lY] at h2;rcases h2 with h2|h2
  ·obtain⟨e,he,hb⟩:=Cl.1 h2;rw[az] at hb;exact absurd (dF hb.2) (eA e (by simpa using he) hb.1)
  ·exact h2
 ·rw[rX (by simpa using hi)] at h;cases h
def EJ (E:Nat)(T:Snap):List (Nat×Snap)→Option (List (Nat×Snap))
 |[]=>some [(E,T)]
 |x::l=>bif Nat.beq x.1 E then(bif x.2.beq T then some (x::l) else none) else(EJ E T l).map (x::·)
def oM (ops:Array Oper)(E:Nat):List Nat:=
 (List.range ops.size).filter fun i=> !aV E i&&(match ops[i]? with|some o=>o.after.toList.all fun e=> !Region.binds .any e||aV E e.on|none=>false)
def Sz (C:Ctx)(ops:Array Oper)(n:Nat)(ids:List Nat)(X:List (List PI))(nc:List (List Nat))(E:Nat)(T:Snap)(i:Nat):Option (Nat×Snap):=
 match ops[i]? with
 |some o=>(wG C (T.stO ids) ops o).bind fun r=>
  bif PI.beqs r.2 (X.getD i [])&&(nc.getD i []).all (aV E) then some (Nat.lor E (gS i),⟨B4 (la r.1) r.1 T.rs o.dst.toList,ids.map fun j=>jz r.1 (r.1.o j)⟩) else none
 |none=>none
def GQ (one:Nat→Option (Nat×Snap)):List Nat→List (Nat×Snap)→Option (List (Nat×Snap))
 |[],acc=>some acc
 |i::l,acc=>(one i).bind fun x=>x.2.hard fun T=>(EJ x.1 T acc).bind fun acc=>GQ one l acc
def px (ops:Array Oper)(bad:List (Option (List Nat)))(E:Nat):List Nat:=
 match B6 bad E (oM ops E) with
 |some i=>[i]
 |none=>oM ops E
def ER (ops:Array Oper)(bad:List (Option (List Nat)))(one:Nat→Snap→Nat→Option (Nat×Snap)):List (Nat×Snap)→List (Nat×Snap)→Option (List (Nat×Snap))
 |[],acc=>some acc
 |x::l,acc=>
  match px ops bad x.1 with
  |[]=>none
  |rs=>(GQ (one x.1 x.2) rs acc).bind fun acc=>ER ops bad one l acc
def GM (ops:Array Oper)(bad:List (Option (List Nat)))(one:Nat→Snap→Nat→Option (Nat×Snap)):Nat→List (Nat×Snap)→Option Snap
 |0,L=>
  match L with
  |[x]=>bif (List.range ops.size).all (aV x.1) then some x.2 else none
  |_=>none
 |k+1,L=>(ER ops bad one L []).bind fun L=>GM ops bad one k L
theorem acv {E:Nat}{T:Snap}:∀{l l':List (Nat×Snap)},EJ E T l=some l'→(E,T)∈l'∧∀x,x∈l→x∈l'
 |[],l',h=>by simp only[EJ,bx] at h;subst h;simp
 |x::l,l',h=>by
  simp only[EJ] at h;cases hb:Nat.beq x.1 E<;>simp only[hb,cond_true,cond_false] at h
  ·simp only[aR] at h;obtain⟨l2,h2,rfl⟩:=h;obtain⟨h3,h4⟩:=acv h2;exact⟨fL _ h3,fun y hy=>(cW.1 hy).elim (fun e=>e▸gd ..) fun hm=>fL _ (h4 y hm)⟩
  ·cases hs:x.2.beq T<;>simp only[hs,cond_true,cond_false] at h
   ·cases h
   ·cases h;refine⟨?_,fun y hy=>hy⟩;have e1:=dF hb;have e2:=Snap.beq_eq _ _ hs;subst e1;subst e2;simp
theorem ahR {one:Nat→Option (Nat×Snap)}:∀{rs:List Nat} {acc CE:List (Nat×Snap)},GQ one rs acc=some CE→(∀x,x∈acc→x∈CE)∧∀i,i∈rs→∃x,one i=some x∧x∈CE
 |[],acc,CE,h=>by simp only[GQ,bx] at h;subst h;simp
 |i::rs,acc,CE,h=>by
  simp only[GQ,Snap.hard_eq,aG] at h;obtain⟨x,hx,ajy,h1,h2⟩:=h;obtain⟨h3,h4⟩:=acv h1;obtain⟨h5,h6⟩:=ahR h2;refine⟨fun y hy=>h5 y (h4 y hy),fun j hj=>?_⟩;rcases cW.1 hj with e|hm
  ·subst e;exact⟨x,hx,h5 _ h3⟩
  ·exact h6 j hm
theorem acN {ops:Array Oper}{bad:List (Option (List Nat))}{one:Nat→Snap→Nat→Option (Nat×Snap)}:∀{L acc L':List (Nat×Snap)},ER ops bad one L acc=some L'→
 (∀x,x∈acc→x∈L')∧∀x,x∈L→px ops bad x.1≠[]∧∀i,i∈px ops bad x.1→∃y,one x.1 x.2 i=some y∧y∈L'
 |[],acc,L',h=>by simp only[ER,bx] at h;subst h;simp
 |x::L,acc,L',h=>by
  simp only[ER] at h;split at h
  ·cases h
  ·rename_i aA;simp only[aG] at h;obtain⟨ajy,h1,h2⟩:=h;obtain⟨h3,h4⟩:=ahR h1;obtain⟨h5,h6⟩:=acN h2;refine⟨fun y hy=>h5 y (h3 y hy),fun y hy=>?_⟩;rcases cW.1 hy with e|hm
   ·subst e;refine⟨fun e=>aA e,fun i hi=>?_⟩;obtain⟨z,hz,hm⟩:=h4 i hi;exact⟨z,hz,h5 z hm⟩
   ·exact h6 y hm
def fY (X:List (List PI))(l:List Nat)(E:Nat):List PI:=l.flatMap fun i=>bif aV E i then[] else X.getD i []
theorem UU {X:List (List PI)}{E E':Nat}:∀(l:List Nat),(∀i,i∈l→aV E i=aV E' i)→fY X l E=fY X l E'
 |[],_=>rfl
 |i::l,h=>by
  have ih:=UU (X:=X) l fun j hj=>h j (fL _ hj);unfold fY at ih ⊢;simp only[Co];rw[ih,h i (gd ..)]
theorem Foot.comm_each {a b:List PI}(h:(iw a).comm (iw b)=true):∀p q,p∈a→q∈b→Comm p q:=by
 simp only[Foot.comm,az] at h;obtain⟨h1,h2,h3,h4,h5,h6⟩:=h;intro p q hp hq;obtain⟨p1,p2,p3,p4⟩:=aao hp;obtain⟨q1,q2,q3,q4⟩:=aao hq;exact⟨fun t x y=>Ro h1 (p1 t x) (q1 t y),fun t x y=>Ro h2 (p1 t x) (q3 t y),fun t x y=>Ro h3 (q1 t x) (p3 t y),fun t x y=>Oe h4 (p2 t x) (q2 t y),fun t x y=>Oe h5 (p2 t x) (q4 t y),fun t x y=>Oe h6 (q2 t x) (p4 t y)⟩
def Bm (X:List (List PI))(N:Nat):List (List Nat):=
 (List.range N).map fun i=>(List.range i).filter fun j=> !(iw (X.getD j [])).comm (iw (X.getD i []))
theorem wx (E i j:Nat):aV (Nat.lor E (gS i)) j=(aV E j||Nat.beq i j):=by
 rw[gB]
 congr 1
 rw[wv];show(1<<<i).testBit j=_;rw[Nat.testBit_shiftLeft];by_cases h:i=j
 ·subst h;simp
 ·have h1:Nat.beq i j=false:=gA h;rw[h1];by_cases h2:i≤j
  ·have:j-i≠0:=by omega
   cases hk:j-i with
   |zero=>omega
   |succ k=>
    have:(1:Nat).testBit (k+1)=false:=by simp[Nat.testBit_succ]
    simp[this]
  ·simp[h2]
theorem avQ {X:List (List PI)}{N E i:Nat}(hi:i<N)(hb:aV E i=false)(gm:((Bm X N).getD i []).all (aV E)=true)(Φ:aY)(ρ:Env):
 PI.runs Φ (fY X (List.range N) E) ρ=(PI.runs Φ (X.getD i []) ρ).bind (PI.runs Φ (fY X (List.range N) (Nat.lor E (gS i)))):=by
 obtain⟨l1,l2,hl⟩:=List.append_of_mem (gf.2 hi);have hp:=List.pairwise_lt_range (n:=N);rw[hl,List.pairwise_append] at hp;obtain⟨_,fI,hp3⟩:=hp;rw[N0] at fI;have lt1:∀j,j∈l1→j<i:=fun j hj=>hp3 j hj i (gd ..);have lt2:∀j,j∈l2→i<j:=fun j hj=>fI.1 j hj;have e0:∀E,fY X (l1++i::l2) E=fY X l1 E++((bif aV E i then[] else X.getD i [])++fY X l2 E):=fun E=>by simp[fY]
 have e1:fY X l1 (Nat.lor E (gS i))=fY X l1 E:=UU l1 fun j hj=>by
  rw[wx,gA (by have:=lt1 j hj;omega),NG]
 have e2:fY X l2 (Nat.lor E (gS i))=fY X l2 E:=UU l2 fun j hj=>by
  rw[wx,gA (by have:=lt2 j hj;omega),NG]
 have e3:aV (Nat.lor E (gS i)) i=true:=by rw[wx,mT,rU]
 rw[hl,e0,e0,e1,e2,e3,hb];simp only[cond_true,cond_false,rZ]
 have aoE:PI.runs Φ (fY X l1 E++X.getD i [])=PI.runs Φ (X.getD i []++fY X l1 E):=funext fun ρ=>PI.comms _ _ (fun p q hp hq=>by
  unfold fY at hp;obtain⟨j,hj,hp⟩:=Hd.1 hp;cases hbj:aV E j<;>simp only[hbj,cond_true,cond_false] at hp
  case true=>cases hp
  have hc:(iw (X.getD j [])).comm (iw (X.getD i []))=true:=by
   cases iX:(iw (X.getD j [])).comm (iw (X.getD i [])) with
   |true=>rfl
   |false=>
    have og:(Bm X N).getD i []=(List.range i).filter fun j=> !(iw (X.getD j [])).comm (iw (X.getD i [])):=by
     unfold Bm;rw[bh,dG,qz hi];rfl
    rw[og] at gm;have:=fl.1 gm j (ei.2 ⟨gf.2 (lt1 j hj),by rw[iX];rfl⟩);rw[hbj] at this;cases this
  exact Foot.comm_each hc p q hp hq) ρ
 rw[←oY,tQ,aoE];have:=tQ (Φ:=Φ) (a:=X.getD i []) (b:=fY X l1 E) (ρ:=ρ);rw[this,Option.bind_assoc]
 congr 1
 funext ρ1;rw[tQ]
def fC (C:Ctx)(ops:Array Oper):List Nat→St→Option (List (List PI))
 |[],_=>some []
 |i::l,S=>
  match ops[i]? with
  |some o=>(wG C S ops o).bind fun r=>(fC C ops l r.1).map fun q=>r.2::q
  |none=>none
def aav (ops:Array Oper):Bool:=(List.range ops.size).all fun i=>match ops[i]? with
 |some o=>(match o.guard with|some (j,_)=>Nat.blt j i|none=>true)
 |none=>true
def JS (ops:Array Oper):Bool:=ops.toList.all fun o=>match o.guard with
 |some (j,_)=>o.after.toList.any fun e=>Region.binds .any e&&Nat.beq e.on j
 |none=>true
section
variable {C:Ctx} {S:St} {f:Nat→Sh} {gs:List (Nat×Bool)} {dst:Nat}
end
section
variable {C:Ctx} {S:St} {f:Nat→Sh} {gs:List (Nat×Bool)} {dst:Nat}
end
section
variable {C:Ctx} {S:St} {ρ:Env} {σ:Im} {own:Nat→Option Nat} {hv:Nat→Value} {w0:World} {σ0:Base} {A:Nat→Prop} {a:Act} {w:World} {n:Nat} {ids:List Nat} {Φ:aY}
theorem aGS {ops:Array Oper}{listed:Array Bool}{E:Nat}(bp:listed.size=ops.size)(hl:∀i,listed.getD i false=aV E i)(i:Nat):i∈Region.ready .any ops listed↔i∈oM ops E:=by
 unfold Region.ready oM;simp only[ei,gf];refine and_congr_right fun hi=>?_;have h1:listed.getD i true=aV E i:=by
  rw[←hl i];simp only[hZ];rw[j9 (by omega)];rfl
 have h2:ops[i]?=some ops[i]:=j9 hi;rw[h1,h2];simp only[ly,lx,←Array.all_toList,hl]
end
def MS (C:Ctx)(n:Nat)(ids:List Nat)(ops:Array Oper)(draw:Bool)(S:Snap):Option (Snap×List PI):=
 bif BZ n ops then
    bif draw then
     bif JS ops&&RE ops&&C.P.follows .mixedOrders then
        (fC C ops (List.range ops.size) (S.st ids)).bind fun X=>DU X fun X=>DU (Bm X ops.size) fun nc=>
         (Snap.hard ⟨S.rs.map fun s=>la (S.st ids) (cP s),ids.map fun j=>jz (S.st ids) ((S.st ids).o j)⟩ fun T0=>GM ops (sr C.P ops) (Sz C ops n ids X nc) ops.size [(0,T0)]).map fun T=>(⟨T.rs.map (iM (T.stO ids)),ids.map fun j=>jz (T.stO ids) ((T.stO ids).o j)⟩,X.flatten)
     else none
    else bif aav ops then(uk C ops (List.range ops.size) (S.st ids)).map fun r=>(⟨B4 (iM r.1) r.1 S.rs (ops.toList.filterMap (·.dst)),ids.map fun j=>jz r.1 (r.1.o j)⟩,r.2) else none
 else none
def MR (C:Ctx)(n:Nat)(ids:List Nat)(ops:Array Oper)(draw:Bool)(S:Snap):Option (Snap×List PI):=
 (MS C n ids ops draw S).bind fun r=>r.1.hard fun T=>some (T,r.2)
theorem avM (C:Ctx)(n:Nat)(ids:List Nat)(ops:Array Oper)(draw:Bool)(S:Snap):MR C n ids ops draw S=MS C n ids ops draw S:=by
 unfold MR;cases MS C n ids ops draw S with
 |none=>rfl
 |some r=>rw[vY,Snap.hard_eq]
def yy (ops:Array Oper)(E:Nat):Nat→Prop:=fun t=>∃i o,aV E i=true∧ops[i]?=some o∧o.dst=some t
section
variable {C:Ctx} {S:St} {ρ:Env} {σ:Im} {own:Nat→Option Nat} {hv:Nat→Value} {w0:World} {σ0:Base} {A:Nat→Prop} {a:Act} {w:World} {n:Nat} {ids:List Nat} {Φ:aY}
theorem MN {ops:Array Oper}{listed:Array Bool}{E:Nat}(bp:listed.size=ops.size)(hl:∀i,listed.getD i false=aV E i)(i:Nat):i∈Region.ready .any ops listed↔i∈oM ops E:=by
 unfold Region.ready oM;simp only[ei,gf];refine and_congr_right fun hi=>?_;have h1:listed.getD i true=aV E i:=by
  rw[←hl i];simp only[hZ];rw[j9 (by omega)];rfl
 have h2:ops[i]?=some ops[i]:=j9 hi;rw[h1,h2];simp only[ly,lx,←Array.all_toList,hl]
theorem av9 {rd:Option Nat}(hC:CtxOK C σ0)(bA:eh C)(hΦ:dM C Φ)(hY:sl C Φ w0 σ0){a0:Act}(hn0:a0.tmps.size=n){ops:Array Oper}(aB:BZ n ops=true)(fG:JS ops=true){X:List (List PI)}{Q:Exit→Act→World→Prop}{ρ':Env}(uQ:RE ops=true)(hQp:∀c a w,¬Q (.panic c) a w):
 ∀(k:Nat) {L:List (Nat×Snap)} {T:Snap},GM ops (sr C.P ops) (Sz C ops n ids X (Bm X ops.size)) k L=some T→
  (∀a' w',SameBut (Ak ops) a0 a'→Good C w0 σ0 (T.stO ids) ρ' (fun t=>∃E,yy ops E t) a' w'→Q .normal a' w')→
  ∀(E:Nat) (U:Snap),(E,U)∈L→∀(listed:Array Bool) (ρ:Env) (a:Act) (w:World),listed.size=ops.size→(∀i,listed.getD i false=aV E i)→SameBut (Ak ops) a0 a→
   Good C w0 σ0 (U.stO ids) ρ (yy ops E) a w→PI.runs Φ (fY X (List.range ops.size) E) ρ=some ρ'→wpAnyIn (FR rd) 0 C.P .any ops Q k listed a w:=by
 simp only[BZ,az] at aB;have bX:=tj aB.1;intro k
 induction k with
 |zero=>
  intro L T hs hQ E U hm listed ρ a w bp hl hn hg ay;simp only[GM] at hs;split at hs
  case h_2=>cases hs
  rename_i x;cases bn:(List.range ops.size).all (aV x.1)<;>simp only[bn,cond_true,cond_false] at hs
  ·cases hs
  cases hs;simp only[NY] at hm;subst hm;simp only at bn hg hQ ay hl;have AB:=fl.1 bn;have aoO:fY X (List.range ops.size) E=[]:=by
   unfold fY;rw[List.flatMap_eq_nil_iff];intro i hi;rw[AB i hi];rfl
  rw[aoO] at ay;simp only[PI.runs,bx] at ay;subst ay;refine⟨?_,hQ a w hn ?_⟩
  ·rw[ajl];intro i hi;rw[MN bp hl] at hi;unfold oM at hi;simp only[ei,az,lu] at hi;rw[AB i hi.1] at hi;cases hi.2.1
  ·obtain⟨σ,own,hv,h⟩:=hg;exact⟨σ,own,hv,h.defers,h.ok,h.le,h.old,h.newc,h.newm,h.below,h.bw,h.owns,h.regs,h.objs,fun t gs s e=>⟨fun g hm=>⟨E,(h.opts t gs s e).1 g hm⟩,(h.opts t gs s e).2⟩,h.frame⟩
 |succ k ih=>
  intro L T hs hQ E U hm listed ρ a w bp hl hn hg ay;simp only[GM,aG] at hs;obtain⟨L',hL,hs⟩:=hs;obtain⟨_,cJ⟩:=acN hL;obtain⟨aA,Q0⟩:=cJ _ hm;have QD:oM ops E≠[]:=fun e=>aA (by unfold px;rw[e];rfl)
  have cR:∀i,i∈px ops (sr C.P ops) E→i∈oM ops E:=fun i hi=>by
   unfold px at hi;split at hi
   ·rename_i i' hp;rw[NY.1 hi];exact(Nc hp).1
   ·exact hi
  have step:∀i,i∈px ops (sr C.P ops) E→∀Q':Exit→Act→World→Prop,wpOpIn (FR rd) 0 C.P ops Q' i (wpAnyIn (FR rd) 0 C.P .any ops Q k (listed.setIfInBounds i true)) a w:=by
   intro i hi Q';obtain⟨y,hy,hyL⟩:=Q0 i hi;have hi:=cR i hi;unfold oM at hi;simp only[ei,gf,az,lu] at hi;obtain⟨bU,dZ,Qj⟩:=hi;simp only[Sz] at hy;split at hy
   case h_2=>cases hy
   rename_i o ho;simp only[aG] at hy;obtain⟨r,hr,hy⟩:=hy;cases hc:(PI.beqs r.2 (X.getD i [])&&((Bm X ops.size).getD i []).all (aV E))<;>simp only[hc,cond_true,cond_false] at hy
   ·cases hy
   cases hy;simp only[az] at hc;have hX:=PI.beqs_eq _ _ hc.1;rw[avQ bU dZ hc.2,aG] at ay;obtain⟨ρ1,hρ1,hρ2⟩:=ay;rw[←hX] at hρ1;rw[ho] at Qj;simp only at Qj;have Qi:∀d,o.dst=some d→¬yy ops E d∧d<a.tmps.size:=by
        intro d hd;refine⟨fun⟨i',o',eN,jr,dP⟩=>?_,?_⟩
        ·have aA:i'≠i:=fun e=>by subst e;rw[dZ] at eN;cases eN
         exact JD.dst_once bX jr ho dP hd aA
        ·have:=fl.1 aB.2 o (by simpa using oV ho);simp only[hd,az] at this;rw[hn.size,hn0];simpa [qC] using this.2
   have my:rl o.op=true:=by
        have:=fl.1 aB.2 o (by simpa using oV ho);simp only[az] at this;exact this.1
   have hj:∀j want t,o.guard=some (j,want)→(ops[j]?).bind (·.dst)=some t→yy ops E t:=by
        intro j want t m9 ht;rw[aG] at ht;obtain⟨oj,h1,h2⟩:=ht;have hgo:=fl.1 fG o (by simpa using oV ho);simp only[m9] at hgo;obtain⟨e,pM,DZ⟩:=Cl.1 hgo;simp only[az] at DZ;have h3:=fl.1 Qj e pM;rw[DZ.1] at h3;simp only[Bool.not_true,Bool.false_or] at h3;exact⟨j,oj,by rw[←dF DZ.2];exact h3,h1,h2⟩
   have main:=ZN (rd:=rd) (K:=wpAnyIn (FR rd) 0 C.P .any ops Q k (listed.setIfInBounds i true)) (Q:=Q') hg hC bA hΦ hY my Qi hj hr hρ1 (fun a' w' fF uS=>by
        have hA:(fun u=>yy ops E u∨o.dst=some u)=yy ops (Nat.lor E (gS i)):=by
         funext u;apply propext;constructor
         ·rintro(⟨i',o',h1,h2,h3⟩|h1)
          ·exact⟨i',o',by rw[wx,h1,Ci],h2,h3⟩
          ·exact⟨i,o,by rw[wx,mT,rU],ho,h1⟩
         ·rintro⟨i',o',h1,h2,h3⟩;rw[wx,lY] at h1;rcases h1 with h1|h1
          ·exact .inl ⟨i',o',h1,h2,h3⟩
          ·rw[←dF h1,ho] at h2;cases h2;exact .inr h3
        rw[hA] at fF
        refine ih hs hQ _ _ hyL _ ρ1 a' w' (by simpa using bp) (fun j=>?_) (hn.trans (uS.mono fun t e=>⟨o,by simpa using oV ho,e⟩)) (by
         have:=fF.snapO U.rs.length ids
         rw[show r.1.snapO U.rs.length ids=⟨B4 (la r.1) r.1 U.rs o.dst.toList,ids.map fun j=>jz r.1 (r.1.o j)⟩ from by
          unfold St.snapO;rw[M8 fun t ht=>?_];rw[ZM hr t (fun e=>ht (by rw[e];simp))];rfl] at this
         exact this) hρ2
        rw[wx];simp only[hZ,Cf];by_cases pQ:i=j
        ·subst pQ;simp[bp,bU]
        ·rw[if_neg pQ,gA pQ,NG,←hl j];simp only[hZ])
   simp only[wpOpIn,ho];split
   ·rename_i hw;rw[if_pos hw] at main;exact main
   ·rename_i hw;rw[if_neg hw] at main;exact⟨fun _ _=>trivial,main⟩
  cases QM:B6 (sr C.P ops) E (oM ops E) with
  |none=>
   have kR:px ops (sr C.P ops) E=oM ops E:=by unfold px;rw[QM]
   refine⟨fun he=>?_,fun i hi=>step i (by rw[kR];exact(MN bp hl i).1 hi) Q⟩;exfalso;refine QD ?_;rw[ajl];intro i hi;rw[←MN bp hl,he] at hi;cases hi
  |some i=>
   have kR:px ops (sr C.P ops) E=[i]:=by unfold px;rw[QM]
   obtain⟨hir,b,hb,aov⟩:=Nc QM;obtain⟨oi,hoi,QN,P3⟩:=aj8 hb;obtain⟨v,hv,hK⟩:=auC hoi QN (step i (by rw[kR];simp) _);refine aAn (fun j o ho=>?_) hoi (fun j o cs b' ho e=>?_) (fun c a' w' h=>(hQp _ _ _ h).elim) k listed a w (fun j oj hj mw nl eA=>P3 j oj hj mw (fun Kk=>?_) eA) ((MN bp hl i).2 hir) hv hK
   ·have:=fl.1 aB.2 o (by simpa using oV ho);simp only[az] at this;exact this.1
   ·have:=fl.1 uQ o (by simpa using oV ho);rw[e] at this;cases this
   ·have h1:=fl.1 aov j Kk;have h2:=hl j;rw[h1] at h2;simp only[hZ] at h2 nl;cases AN:listed[j]? with
    |none=>rw[AN] at h2;cases h2
    |some x=>
     rw[AN] at h2 nl;simp only[lx] at h2 nl;rw[h2] at nl;cases nl
theorem ahF {ops:Array Oper}:∀{l:List Nat} {S:St} {X:List (List PI)},fC C ops l S=some X→X.length=l.length
 |[],S,X,h=>by simp only[fC,bx] at h;subst h;rfl
 |i::l,S,X,h=>by
  simp only[fC] at h;split at h
  case h_2=>cases h
  simp only[aG,aR] at h;obtain⟨r,_,q,hq,rfl⟩:=h;simp[ahF hq]
theorem avR (X:List (List PI)):fY X (List.range X.length) 0=X.flatten:=by
 have h0:∀i,aV 0 i=false:=fun i=>by rw[wv];simp
 have key:∀(Y Z:List (List PI)),fY (Y++Z) (List.range' Y.length Z.length) 0=Z.flatten:=by
  intro Y Z
  induction Z generalizing Y with
  |nil=>rfl
  |cons z Z ih=>
   have:=ih (Y++[z]);simp only[oY,List.singleton_append,l6,mS,qA,mU] at this;rw[mS,N1];have e:fY (Y++z::Z) (Y.length::List.range' (Y.length+1) Z.length) 0=(Y++z::Z).getD Y.length []++fY (Y++z::Z) (List.range' (Y.length+1) Z.length) 0:=by
        unfold fY;rw[Co,h0];rfl
   rw[e,this,YL]
   congr 1
   simp[bh]
 have:=key [] X;simp only[rZ,qA] at this;rw[N2];exact this
theorem avN (bA:eh C)(hΦ:dM C Φ):N7 C n ids Φ (MR C n ids):=by
 intro id ops draw S r hr rd w0 σ0 ρ ρ' a w Q hC hY hn hg ay hQ;rw[avM] at hr;unfold MS at hr;cases aB:BZ n ops<;>simp only[aB,cond_true,cond_false] at hr
 ·cases hr
 cases draw with
 |false=>
  simp only[cond_false] at hr;cases hgb:aav ops<;>simp only[hgb,cond_true,cond_false] at hr
  ·cases hr
  simp only[aR] at hr;obtain⟨q,hq,rfl⟩:=hr;refine wpIn_region ?_
  have xm:yx ops []=fun _=>False:=by
   funext t;apply propext;constructor
   ·rintro⟨i,o,h,_⟩;cases h
   ·intro h;exact h.elim
  refine JD hC bA hΦ hY aB (List.range ops.size) [] (by simpa using YP) (fun p i q o j want hl ho m9=>?_) hn (by rw[xm];exact hg) hq ay (fun a' w' iY fF=>hQ a' w' iY (by
   have:=fF.snapF S.rs.length ids
   rw[show q.1.snap S.rs.length ids=⟨B4 (iM q.1) q.1 S.rs (ops.toList.filterMap (·.dst)),ids.map fun j=>jz q.1 (q.1.o j)⟩ from by
        unfold St.snap;rw[M8 fun t ht=>?_];rw[ZO hq t (fun i o hi ho e=>ht (yP.2 ⟨o,by simpa using oV ho,e⟩))];show _=iM q.1 (cP (S.rs.getD t .none));cases S.rs.getD t .none<;>rfl] at this
   exact this))
  have hi:i<ops.size:=by
   have:i∈List.range ops.size:=by rw[hl];simp
   exact gf.1 this
  have hb:=fl.1 hgb i (gf.2 hi);rw[ho] at hb;simp only[m9,qC] at hb;have hp:=List.pairwise_lt_range (n:=ops.size);have uG:j∈List.range ops.size:=gf.2 (by omega);rw[hl,List.pairwise_append] at hp;obtain⟨_,fI,_⟩:=hp;rw[N0] at fI;rw[hl,da] at uG;simp only[rZ];rcases uG with hm|hm
  ·exact hm
  ·rcases cW.1 hm with e|hm
   ·omega
   ·have:=fI.1 j hm;omega
 |true=>
  simp only[cond_true] at hr;cases fG:(JS ops&&RE ops&&C.P.follows .mixedOrders)<;>simp only[fG,cond_true,cond_false] at hr
  ·cases hr
  simp only[az] at fG;have uQ:=fG.1.2
  replace fG:JS ops=true∧C.P.follows .mixedOrders=true:=⟨fG.1.1,fG.2⟩
  have h0:∀i,aV 0 i=false:=fun i=>by rw[wv];simp
  simp only[aaV,Snap.hard_eq,aG,aR] at hr;obtain⟨X,hX,T,hT,rfl⟩:=hr;refine wpIn_mono (Q:=fun e a w=>(∀c,e≠.panic c)∧Q e a w) ?_ fun e a w h=>h.2;refine wpIn_region_any fG.2 ?_
  have xm:yy ops 0=fun _=>False:=by
   funext t;apply propext;constructor
   ·rintro⟨i,o,h,_⟩;rw[h0] at h;cases h
   ·intro h;exact h.elim
  have hlen:=ahF hX;rw[List.length_range] at hlen
  refine av9 (w0:=w0) hC bA hΦ hY hn aB fG.1 (ρ':=ρ') uQ (fun c a w h=>h.1 c rfl) ops.size hT (fun a' w' iY fF=>⟨fun c e=>(by cases e),hQ a' w' iY (by
   have:=fF.snapF T.rs.length ids
   rw[show(T.stO ids).snap T.rs.length ids=⟨T.rs.map (iM (T.stO ids)),ids.map fun j=>jz (T.stO ids) ((T.stO ids).o j)⟩ from by
        unfold St.snap;have:=M8 (g:=iM (T.stO ids)) (S:=T.stO ids) (rs:=T.rs) (ds:=[]) (fun t _=>rfl);rw[←this];rfl] at this
   exact this)⟩) 0 _ (NY.2 rfl) _ ρ a _ (by simp) (fun i=>?_) (.refl _ _) ?_ ?_
  ·rw[h0];simp only[hZ,Array.getElem?_replicate];split<;>rfl
  ·rw[xm];have:=(hg.drew).snapO S.rs.length ids
   rw[show(S.st ids).snapO S.rs.length ids=⟨S.rs.map fun s=>la (S.st ids) (cP s),ids.map fun j=>jz (S.st ids) ((S.st ids).o j)⟩ from by
        unfold St.snapO
        have:=M8 (g:=fun s=>la (S.st ids) (cP s)) (S:=S.st ids) (rs:=S.rs) (ds:=[]) (fun t _=>by
         show la _ (cP (S.rs.getD t .none))=la _ (cP (cP (S.rs.getD t .none)));cases S.rs.getD t .none<;>rfl)
        have h2:(fun t=>la (S.st ids) (cP ((S.st ids).r t)))=fun t=>la (S.st ids) ((S.st ids).r t):=by
         funext t;show la _ (cP (cP (S.rs.getD t .none)))=la _ (cP (S.rs.getD t .none));cases S.rs.getD t .none<;>rfl
        rw[h2] at this;rw[←this];rfl] at this
   exact this
  ·rw[←hlen,avR];exact ay
end
end Cx
namespace Cx
open Go Go.RowKit
def Z9 (m:Nat)(s:Sig):Snap:=⟨s.args.map .dat++List.replicate (m-s.args.length) .none,[]⟩
def m3 (ds:List D):Env:=⟨fun t=>ds.getD t .none,fun _=>.none⟩
def Aj (C:Ctx)(fn:Func)(s:Sig)(ids:List Nat)(S0:Snap):Option PC:=
 match fn.body with
 |some c=>
  (comp C fn s fn.ntmps ids (MR C fn.ntmps ids) false c S0).bind fun r=>
    match r.out with
    |none=>some r.pc
    |some S=>(yt C fn s (S.st ids)).map fun e=>.seq r.pc (.ret e)
 |none=>none
def mZ (C:Ctx)(fn:Func)(s:Sig)(ids:List Nat):Option PC:=
 match C.yl with
 |none=>
  match s.mode with
  |.ob _ _=>none
  |_=>bif Nat.ble s.args.length fn.ntmps then Aj C fn s ids (Z9 fn.ntmps s) else none
 |some _=>none
theorem acR:∀(ids:List Nat) (j:Nat),eD ids [] j=.dead
 |[],_=>rfl
 |_::_,_=>rfl
theorem ZL {C:Ctx}{Φ:aY}(bA:eh C)(hΦ:dM C Φ)(gh:gx C Φ){fn:Func}{s:Sig}{ids:List Nat}{S0:Snap}{pc:PC}{c:Code}(hb:fn.body=some c)(hc:Aj C fn s ids S0=some pc){w0:World}{σ0:Base}(pO:σ0.fin)(hC:CtxOK C σ0)(hY:sl C Φ w0 σ0)
 {N:Nat} {ρ:Env} {d:D} {a:Act} {w:World} (hn:a.tmps.size=fn.ntmps) (hg:Good C w0 σ0 (S0.st ids) ρ (fun _=>False) a w) (he:pc.ev Φ N ρ=some (.ret d)):
 c.wpIn (FR none) 0 C.P (fun e a' w'=>(e=.normal∨e=.ret)∧sf C w0 σ0 fn s d a'.tmps a'.defers w'∧SameBut (fun t=>t∈cQ c) a a') a w:=by
 unfold Aj at hc;rw[hb] at hc;simp only[aG] at hc;obtain⟨r,hr,hc⟩:=hc;have QZ:=fun x hx=>akW (fn:=fn) (s:=s) (N:=N) gh (avN (n:=fn.ntmps) (ids:=ids) bA hΦ) c false S0 r hr none w0 σ0 (fun t=>t∈cQ c) ρ x a w (fun _=>⟨rfl,pO⟩) hC hY (fun _ h=>h) hn hg hx;split at hc
 ·rename_i kp;cases hc;refine wpIn_mono (QZ (.ret d) he) fun e a' w' ho=>?_;cases e with
  |normal=>obtain⟨_,_,h,_⟩:=ho;cases h
  |exit id=>obtain⟨_,_,h,_⟩:=ho;cases h
  |ret=>obtain⟨d',h,h2⟩:=ho;cases h;exact⟨.inr rfl,h2⟩
  |_=>exact ho.elim
 ·rename_i S kp;simp only[aR] at hc;obtain⟨pe,uM,rfl⟩:=hc;simp only[PC.ev] at he;split at he
  ·rename_i ρ1 h1;cases he;refine wpIn_mono (QZ (.next ρ1) h1) fun e a' w' ho=>?_;cases e with
   |normal=>
    obtain⟨ρ2,S2,e1,e2,xh,fR⟩:=ho;cases e1;rw[kp] at e2;cases e2;obtain⟨σ2,own,hv,hi⟩:=fR;exact⟨.inl rfl,Inv.retD hC (fun _=>rfl) pO uM _ hi rfl,xh⟩
   |exit id=>obtain⟨_,_,h,_⟩:=ho;cases h
   |ret=>obtain⟨d',h,h2⟩:=ho;cases h
   |_=>exact ho.elim
  ·rename_i aA;refine wpIn_mono (QZ (.ret d) he) fun e a' w' ho=>?_;cases e with
   |normal=>obtain⟨_,_,h,_⟩:=ho;cases h
   |exit id=>obtain⟨_,_,h,_⟩:=ho;cases h
   |ret=>obtain⟨d',h,h2⟩:=ho;cases h;exact⟨.inr rfl,h2⟩
   |_=>exact ho.elim
theorem sf.leaves {C:Ctx}{w0:World}{σ0:Base}{fn:Func}{s:Sig}{d:D}{tmps:Array Value}{R:Ending→World→Prop}(hR:∀w',N9 C w0 σ0 fn s d {tmps:=tmps,defers:=[]} w'→∃v,(results fn tmps).run C.P w'=.ok v w'∧R (.returned v) w'):
 ∀(ds:List Deferred) (w:World),sf C w0 σ0 fn s d tmps ds w→LeavesInM (FR none) 0 C.P fn tmps R ds .returning w
 |[],w,h=>hR w h
 |x::ds,w,⟨D,h1,h2,h3⟩=>⟨by simp,.inl ⟨D,_,h1,run_takeDeferred h2,sf.leaves hR ds _ h3⟩⟩
theorem al9 {C:Ctx}{σ:Im}{w:World}{args:Array Value}{ds:List D}{s:Sig}{m:Nat}{ids:List Nat}(aB:σ.ok w)(ha:qw C σ s.args args.toList ds):
 Good C w (Base.mk0 σ w.heap.size) ((Z9 m s).st ids) (m3 ds) (fun _=>False) {tmps:=args++Array.replicate (m-args.size) undef,defers:=[]} w:=by
 obtain⟨h1,h2,h3⟩:=ha;have bp:args.size=s.args.length:=by simpa using h1
 refine⟨σ,fun _=>none,fun _=>undef,trivial,aB,.refl σ,fun _ k e=>(aB.m k _ e).lt,fun _ _ _ h=>.inl h,fun _ _ h=>.inl h,.refl _ _,bK _,(fun k j h=>by cases h),fun t=>?_,fun j=>?_,fun t gs s' e=>absurd e (Snap.noOpt _ _ t gs s'),
  .none,fun _=>False,fun _=>False,⟨⟨fun _=>id,fun _=>id⟩,(fun k j h=>by cases h),fun _ _ _ _=>id,fun _ _ _=>id,fun _ _ _=>id⟩,fun j hj=>?_⟩
 ·show bf C _ _ σ _ (cP ((s.args.map Sh.dat++List.replicate (m-s.args.length) Sh.none).getD t .none)) _ _;rw[bh];by_cases ht:t<s.args.length
  ·rw[nT (by simpa using ht),dG,cl ht];simp only[ly,lx,cP];have:=h3 t _ (cl ht);have e1:(args++Array.replicate (m-args.size) undef).getD t undef=args.toList.getD t undef:=by
        simp only[hZ,bh];rw[Array.getElem?_append_left (by omega)];simp
   show bf C _ _ σ _ (.dat _) ((args++Array.replicate (m-args.size) undef).getD t undef) (ds.getD t .none);rw[e1];exact this
  ·rw[oZ (by simpa using ht),ajm];split<;>trivial
 ·show dX C _ _ σ _ _ w _ j (eD ids [] j);rw[acR];trivial
 ·change eD ids [] j=.tr at hj;rw[acR] at hj;cases hj
theorem Pn {C:Ctx}{Φ:aY}(bA:eh C)(hΦ:dM C Φ)(gh:gx C Φ){f:Nat}{fn:Func}{s:Sig}{ids:List Nat}{pc:PC}(hf:C.P.funcs[f]?=some fn)(hc:mZ C fn s ids=some pc){N:Nat}{ds:List D}{d:D}(de:xA s.mode=false)
 (he:pc.ev Φ N (m3 ds)=some (.ret d)):l0 C f s ds d:=by
 intro σ w args aB hC ha;unfold mZ at hc;split at hc
 case h_2=>cases hc
 rename_i np;split at hc
 case h_1=>rename_i e;rw[e] at de;cases de
 cases hle:Nat.ble s.args.length fn.ntmps<;>simp only[hle,cond_true,cond_false] at hc
 ·cases hc
 have Kq:=l7 hle;have bp:args.size=s.args.length:=by simpa using ha.1
 cases hb:fn.body with
 |none=>unfold Aj at hc;rw[hb] at hc;cases hc
 |some c=>
 refine(callsIn_wide (n:=0)).1 (callsIn_of_wp_marks (F:=FR none) hf hb trivial ?_);have hg:=al9 (C:=C) (m:=fn.ntmps) (ids:=ids) aB ha;have hn:(args++Array.replicate (fn.ntmps-args.size) undef).size=fn.ntmps:=by simp;omega
 refine wpIn_mono (ZL bA hΦ gh hb hc (σ0:=Base.mk0 σ w.heap.size) trivial hC (fun J ys e=>by rw[np] at e;cases e) hn hg he) fun e a' w' ho=>?_
 have main:=sf.leaves (R:=fun e w'=>∃v σ',e=.returned v∧σ.le σ'∧σ'.ok w'∧Below w.heap.size w w'∧
  (∀k o x,σ'.c k o=some x→σ.c k o=some x∨w.heap.size≤k)∧(∀k x,σ'.m k=some x→σ.m k=some x∨w.heap.size≤k)∧se C s σ' w w' v d) (fun w2 QV=>by
  obtain⟨v,σ',_,h2,h3,h4,h5,h6,h7,h8⟩:=QV;exact⟨v,h2,v,σ',rfl,h3,h4,h5,h6,h7,h8⟩) _ _ ho.2.1
 rcases ho.1 with rfl|rfl<;>exact main
theorem akQ {C:Ctx}{Φ:aY}(bA:eh C)(hΦ:dM C Φ)(gh:gx C Φ){f:Nat}{fn:Func}{s:Sig}{ids:List Nat}{pc:PC}(hf:C.P.funcs[f]?=some fn)(hc:mZ C fn s ids=some pc){N:Nat}{ds:List D}{d:D}{aO:List Sh}{ff:List (Nat×Ob)}(de:s.mode=.ob aO ff)
 (he:pc.ev Φ N (m3 ds)=some (.ret d)):mQ C f aO ff s.res ds d:=trivial
def Z8 (m:Nat)(cts:List Ty)(J:Nat)(ids:List Nat):Snap:=⟨.yv::(cts.map .dat++List.replicate (m-(cts.length+1)) .none),ids.map fun j=>bif Nat.beq j J then .tr else .dead⟩
def Ap (J:Nat)(ds:List D):Env:=⟨fun t=>(D.none::ds).getD t .none,fun j=>bif Nat.beq j J then .list [] else .none⟩
def Dj (C:Ctx)(fn:Func)(cts ys:List Ty)(J:Nat)(ids:List Nat):Option PC:=
 match C.yl,C.sig mO,C.cap mO with
 |none,none,none=>bif Nat.ble (cts.length+1) fn.ntmps then Aj {C with yl:=some (J,ys)} fn ⟨[],.tup [],.it J⟩ ids (Z8 fn.ntmps cts J ids) else none
 |_,_,_=>none
open Classical in
def yldΦ (Φ:aY)(xs:List D)(m:Nat):aY:=fun f ds=>
 if f=mO then(match ds with|[.list l]=>if 0<l.length∧l.length≤m+1∧l=xs.take l.length then some (.v (.bool (decide (l.length≤m)))) else none|_=>none)
 else Φ f ds
theorem yldΦ_at {Φ:aY}{xs l ds:List D}{d:D}{m:Nat}(h:yldΦ Φ xs m mO [.list (l++[.tup ds])]=some d):l.length≤m∧l=xs.take l.length∧xs[l.length]?=some (.tup ds)∧l++[.tup ds]=xs.take (l.length+1)∧d=.v (.bool (decide (l.length<m))):=by
 simp only[yldΦ,if_true] at h;split at h
 ·rename_i hc;obtain⟨h1,h2,h3⟩:=hc;simp only[l6,mS,qA,mU] at h2 h3 h;have hx:xs[l.length]?=some (.tup ds):=by
   have:(xs.take (l.length+1))[l.length]?=some (.tup ds):=by rw[←h3];simp
   rw[ia] at this;simpa using this
  have hl:l=xs.take l.length:=by
   have:=congrArg (List.take l.length) h3;simpa [List.take_take] using this
  refine⟨by omega,hl,hx,h3,?_⟩;cases h
  congr 2
 ·cases h
theorem dM.yl {C:Ctx}{Φ:aY}(h:dM C Φ){y:Option (Nat×List Ty)}{v:Value}{xs:List D}{m:Nat}(hs:C.sig mO=none):dM {C with yl:=y,yv:=v} (yldΦ Φ xs m):=by
 intro f ds d e s eX;have aA:f≠mO:=fun e'=>by subst e';change C.sig mO=some s at eX;rw[hs] at eX;cases eX
 simp only[yldΦ,if_neg aA] at e;obtain⟨h1,h2⟩:=h f ds d e s eX;exact⟨fun hm σ w args aB hC ha=>h1 hm σ w args aB ⟨hC.glob⟩ ha,fun aO ff hm=>(h2 aO ff hm).ctx rfl rfl rfl⟩
theorem l5.yl {C:Ctx}{y:Option (Nat×List Ty)}{v:Value}{f:Nat}{cts ys:List Ty}{ds xs:List D}(h:l5 C f cts ys ds xs):l5 {C with yl:=y,yv:=v} f cts ys ds xs:=
 fun σ w yv vs F fx cx m aB hC=>h σ w yv vs F fx cx m aB ⟨hC.glob⟩
theorem gx.yl {C:Ctx}{Φ:aY}(h:gx C Φ){y:Option (Nat×List Ty)}{v:Value}{xs:List D}{m:Nat}(hs:C.cap mO=none):gx {C with yl:=y,yv:=v} (yldΦ Φ xs m):=by
 intro f cs ys hc hi;have aA:f≠mO:=fun e'=>by subst e';change C.cap mO=some cs at hc;rw[hs] at hc;cases hc
 obtain⟨h1,h2⟩:=h f cs ys hc hi;refine⟨h1,fun ds d e=>?_⟩;simp only[yldΦ,if_neg aA] at e;obtain⟨xs,e1,e2,e3⟩:=h2 ds d e;exact⟨xs,e1,e2,e3.yl⟩
def YG (Φ:aY)(pc:PC)(J:Nat)(ds xs:List D):Prop:=∀m,m≤xs.length→∃N,pc.ev (yldΦ Φ xs m) N (Ap J ds)=some (.ret (.list (xs.take (m+1))))
theorem al8 {C:Ctx}{σ:Im}{σ0:Base}{w:World}{yv:Value}{vs:List Value}{ds:List D}{cts ys:List Ty}{J m:Nat}{ids:List Nat}(aB:σ.ok w)(ha:qw C σ cts vs ds)(hm:cts.length+1≤m)(np:C.yl=some (J,ys))(EG:C.yv=yv)
 (h0:σ0.toIm=σ) (hB:σ0.B=0) {fx cx:Nat→Prop} (hF:σ0.F (.list []) fx cx w) (iX:∀k o x,σ.c k o=some x→¬cx k) (lF:∀k x,σ.m k=some x→¬cx k):
 Good C w σ0 ((Z8 m cts J ids).st ids) (Ap J ds) (fun _=>False) {tmps:=#[yv]++vs.toArray++Array.replicate (m-(vs.length+1)) undef,defers:=[]} w:=by
 obtain⟨h1,h2,h3⟩:=ha
 refine⟨σ,fun _=>none,fun _=>undef,trivial,aB,by rw[h0];exact .refl σ,fun _ k e=>by rw[h0] at e;exact(aB.m k _ e).lt,fun _ _ _ h=>by rw[h0];exact .inl h,fun _ _ h=>by rw[h0];exact .inl h,.refl _ _,by omega,(fun k j h=>by cases h),fun t=>?_,fun j=>?_,fun t gs s' e=>absurd e (Snap.noOpt _ _ t gs s'),
  .list [],fx,cx,⟨hF,(fun k j h=>by cases h),iX,lF,fun k e hk=>by have:=(aB.m k _ e).lt;omega⟩,fun j hj=>?_⟩
 ·show bf C _ _ σ _ (cP ((Sh.yv::(cts.map Sh.dat++List.replicate (m-(cts.length+1)) Sh.none)).getD t .none)) ((#[yv]++vs.toArray++Array.replicate (m-(vs.length+1)) undef).getD t undef) ((D.none::ds).getD t .none);have ea:((#[yv]++vs.toArray++Array.replicate (m-(vs.length+1)) undef).getD t undef)=(yv::(vs++List.replicate (m-(vs.length+1)) undef)).getD t undef:=by
   rw[hZ,←Cg,bh];simp
  rw[ea];cases t with
  |zero=>simp only[vW,cP];exact EG.symm
  |succ t=>
   simp only[Hb];rw[bh];by_cases ht:t<cts.length
   ·rw[nT (by simpa using ht),dG,cl ht];simp only[ly,lx,cP];have:=h3 t _ (cl ht);have e1:(vs++List.replicate (m-(vs.length+1)) undef).getD t undef=vs.getD t undef:=by
     simp only[bh];rw[nT (by omega)]
    show bf C _ _ σ _ (.dat _) _ (ds.getD t .none);rw[e1];exact this
   ·rw[oZ (by simpa using ht),ajm];split<;>trivial
 ·show dX C _ _ σ _ _ w _ j (eD ids (ids.map fun j=>bif Nat.beq j J then .tr else .dead) j);refine xG _ (fun ob=>dX C _ _ σ _ _ w _ j ob) trivial j ?_ ids;cases Nat.beq j J<;>trivial
 ·change eD ids (ids.map fun j=>bif Nat.beq j J then .tr else .dead) j=.tr at hj
  have hb:=xG (fun j=>bif Nat.beq j J then Ob.tr else .dead) (fun ob=>ob=.tr→Nat.beq j J=true) (fun e=>by cases e) j (fun e=>by
   cases hb:Nat.beq j J
   ·rw[hb] at e;cases e
   ·rfl) ids hj
  have:=aN hb;subst this;refine⟨⟨ys,np⟩,?_⟩;show(bif Nat.beq j j then D.list [] else .none)=_;rw[mT];rfl
theorem akR {C:Ctx}{Φ:aY}(bA:eh C)(hΦ:dM C Φ)(gh:gx C Φ){f:Nat}{fn:Func}{cts ys:List Ty}{J:Nat}{ids:List Nat}{pc:PC}(hf:C.P.funcs[f]?=some fn)(hc:∀yv,Dj {C with yv:=yv} fn cts ys J ids=some pc){ds xs:List D}
 (hr:YG Φ pc J ds xs):l5 C f cts ys ds xs:=by
 intro σ w yv vs F fx cx m aB hC ha hm ar cR api hF iX lF Ri;have hc:=hc yv;unfold Dj at hc;split at hc
 case h_2=>cases hc
 rename_i np hsy hcy;cases hle:Nat.ble (cts.length+1) fn.ntmps<;>simp only[hle,cond_true,cond_false] at hc
 ·cases hc
 have Kq:=l7 hle;obtain⟨N,he⟩:=hr m hm;cases hb:fn.body with
 |none=>unfold Aj at hc;rw[hb] at hc;cases hc
 |some c=>
 refine(callsIn_wide (n:=0)).1 (callsIn_of_wp_marks (F:=FR none) hf hb trivial ?_);obtain⟨σ0,hσ0⟩:∃σ0:Base,σ0={σ with B:=0,fin:=True,F:=fun t fx cx w=>(∃l,t=.list l)∧F t fx cx w,lt:=fun t fx cx w h=>ar t fx cx w h.2,sub:=fun t fx cx w h=>cR t fx cx w h.2,keep:=fun t fx cx w w' h hb hs=>⟨h.1,api t fx cx w w' h.2 hb hs⟩}:=⟨_,rfl⟩
 have e1:σ0.toIm=σ:=by rw[hσ0]
 have e2:σ0.B=0:=by rw[hσ0]
 have e3:σ0.fin:=by rw[hσ0];trivial
 have e4:∀t fx cx w,σ0.F t fx cx w↔(∃l,t=.list l)∧F t fx cx w:=fun t fx cx w=>by rw[hσ0]
 have hg:=al8 (C:={C with yl:=some (J,ys),yv:=yv}) (σ0:=σ0) (w:=w) (yv:=yv) (vs:=vs) (ds:=ds) (cts:=cts) (ys:=ys) (J:=J) (m:=fn.ntmps) (ids:=ids) aB ha Kq rfl rfl e1 e2 ((e4 _ _ _ _).2 ⟨⟨_,rfl⟩,hF⟩) iX lF;have bp:(#[yv]++vs.toArray).size=vs.length+1:=by simp<;>omega
 have KH:vs.length=cts.length:=ha.1;have hY:sl {C with yl:=some (J,ys),yv:=yv} (yldΦ Φ xs m) w σ0:=by
  intro J' ys' e;cases e;refine⟨e2,fun t fx cx w h=>((e4 _ _ _ _).1 h).1,fun NB cH d hd fx cx w1 σ1 args Ay apN wX hc1 xf gm ed=>?_⟩;obtain⟨g1,g2,g3,g4,rfl⟩:=yldΦ_at hd;rw[e1] at gm ed;have:=Ri NB.length fx cx w1 σ1 args cH g1 g3 (by rw[←g2];exact((e4 _ _ _ _).1 Ay).2) apN wX hc1 xf gm ed;intro rd o a x aa ts K Q dp hv has hK;refine this rd o a x aa ts K Q dp hv has fun u w2 hu=>hK u w2 ?_;obtain⟨u1,u2,u3,m5,m0,u4,u5,u6⟩:=hu;refine⟨_,rfl,u1,u2,u3,m5,m0,(e4 _ _ _ _).2 ⟨⟨_,rfl⟩,?_⟩,u5,u6⟩;rw[g4];exact u4
 have hn:(#[yv]++vs.toArray++Array.replicate (fn.ntmps-(vs.length+1)) undef).size=fn.ntmps:=by simp;omega
 rw[bp];refine wpIn_mono (ZL (C:={C with yl:=some (J,ys),yv:=yv}) bA (hΦ.yl hsy) (gh.yl hcy) hb hc (σ0:=σ0) e3 (by rw[e1];exact⟨hC.glob⟩) hY hn hg he) fun e a' w' ho=>?_
 have main:=sf.leaves (R:=fun e w'=>(∃v,e=.returned v)∧∃fx cx,F (.list (xs.take (m+1))) fx cx w') (fun w2 QV=>by
  obtain⟨v,σ',⟨own,t,fx,cx,h1,ht,_⟩,h2,_⟩:=QV;refine⟨v,h2,⟨v,rfl⟩,fx,cx,?_⟩;rw[ht J rfl];exact((e4 _ _ _ _).1 h1.F).2) _ _ ho.2.1
 rcases ho.1 with rfl|rfl<;>exact main
def dq (tab:Nat→Option PC)(ext:Nat→Option (aY→List D→Option D)):Nat→aY
 |0=>fun _ _=>none
 |n+1=>fun f ds=>
  match ext f with
  |some g=>g (dq tab ext n) ds
  |none=>
   match tab f with
   |some pc=>(match pc.ev (dq tab ext n) n (m3 ds) with|some (.ret d)=>some d|_=>none)
   |none=>none
theorem l0.hint {C:Ctx}{fr nh:List Nat}{f:Nat}{s:Sig}{ds:List D}{d:D}(h:l0 C f s ds d):l0 {C with fr:=fr,nh:=nh} f s ds d:=
 fun σ w args aB hC ha=>h σ w args aB ⟨hC.glob⟩ ha
theorem l0.unhint {C:Ctx}{fr nh:List Nat}{f:Nat}{s:Sig}{ds:List D}{d:D}(h:l0 {C with fr:=fr,nh:=nh} f s ds d):l0 C f s ds d:=
 fun σ w args aB hC ha=>h σ w args aB ⟨hC.glob⟩ ha
theorem l5.hint {C:Ctx}{fr nh:List Nat}{f:Nat}{cts ys:List Ty}{ds xs:List D}(h:l5 C f cts ys ds xs):l5 {C with fr:=fr,nh:=nh} f cts ys ds xs:=
 fun σ w yv vs F fx cx m aB hC=>h σ w yv vs F fx cx m aB ⟨hC.glob⟩
theorem l5.unhint {C:Ctx}{fr nh:List Nat}{f:Nat}{cts ys:List Ty}{ds xs:List D}(h:l5 {C with fr:=fr,nh:=nh} f cts ys ds xs):l5 C f cts ys ds xs:=
 fun σ w yv vs F fx cx m aB hC=>h σ w yv vs F fx cx m aB ⟨hC.glob⟩
theorem mQ.hint {C:Ctx}{fr nh:List Nat}{f:Nat}{aO:List Sh}{ff:List (Nat×Ob)}{res:Ty}{ds:List D}{d:D}(h:mQ C f aO ff res ds d):mQ {C with fr:=fr,nh:=nh} f aO ff res ds d:=h.ctx rfl rfl rfl
theorem mQ.unhint {C:Ctx}{fr nh:List Nat}{f:Nat}{aO:List Sh}{ff:List (Nat×Ob)}{res:Ty}{ds:List D}{d:D}(h:mQ {C with fr:=fr,nh:=nh} f aO ff res ds d):mQ C f aO ff res ds d:=mQ.ctx (C':=C) h rfl rfl rfl
theorem dM.hint {C:Ctx}{fr nh:List Nat}{Φ:aY}(h:dM C Φ):dM {C with fr:=fr,nh:=nh} Φ:=
 fun f ds d e s hs=>⟨fun hm=>((h f ds d e s hs).1 hm).hint,fun aO ff hm=>((h f ds d e s hs).2 aO ff hm).hint⟩
theorem gx.hint {C:Ctx}{fr nh:List Nat}{Φ:aY}(h:gx C Φ):gx {C with fr:=fr,nh:=nh} Φ:=
 fun f cs ys hc hi=>let⟨h1,h2⟩:=h f cs ys hc hi;⟨h1,fun ds d e=>let⟨xs,e1,e2,e3⟩:=h2 ds d e;⟨xs,e1,e2,e3.hint⟩⟩
theorem eh.hint {C:Ctx}{fr nh:List Nat}(h:eh C):eh {C with fr:=fr,nh:=nh}:=h
def NI (C:Ctx)(f:Nat)(s:Sig)(ds:List D)(d:D):Prop:=(xA s.mode=false→l0 C f s ds d)∧∀aO ff,s.mode=.ob aO ff→mQ C f aO ff s.res ds d
structure TabOK (C:Ctx) (tab:Nat→Option PC) (ext:Nat→Option (aY→List D→Option D)):Prop where
 clos:eh C
 its:∀f cs ys,C.cap f=some cs→nu cs.args cs.res=some ys→tab f=none∧∃fn,C.P.funcs[f]?=some fn∧fn.body.isSome=true∧(fn.name== "runtime.NumGoroutine")=false
 tab:∀f pc,ext f=none→tab f=some pc→∃fn s ids fr nh,C.P.funcs[f]?=some fn∧C.sig f=some s∧mZ {C with fr:=fr,nh:=nh} fn s ids=some pc
 ext:∀f g,ext f=some g→∀Φ,dM C Φ→gx C Φ→∀ds d,g Φ ds=some d→(∀s,C.sig f=some s→NI C f s ds d)∧
  ∀cs ys,C.cap f=some cs→nu cs.args cs.res=some ys→∃xs,d=.list xs∧(∀x,x∈xs→∃cH,x=.tup cH∧cH.length=ys.length)∧l5 C f cs.caps ys ds xs
theorem YW {C:Ctx}{tab:Nat→Option PC}{ext:Nat→Option (aY→List D→Option D)}(h:TabOK C tab ext):∀n,dM C (dq tab ext n)∧gx C (dq tab ext n)
 |0=>⟨fun f ds d e=>by simp[dq] at e,fun f cs ys hc hi=>⟨(h.its f cs ys hc hi).2,fun ds d e=>by simp[dq] at e⟩⟩
 |n+1=>by
  obtain⟨ih,oy⟩:=YW h n;refine⟨fun f ds d e=>?_,fun f cs ys hc hi=>⟨(h.its f cs ys hc hi).2,fun ds d e=>?_⟩⟩
  ·simp only[dq] at e;split at e
   ·rename_i g hg;exact(h.ext f g hg _ ih oy ds d e).1
   ·rename_i hx;split at e
    ·rename_i pc ab;split at e
     ·rename_i d' he;cases e;obtain⟨fn,s,ids,fr,nh,h1,h2,h3⟩:=h.tab f pc hx ab;intro s' eX;rw[h2] at eX;cases eX
      exact⟨fun hm=>(Pn (C:={C with fr:=fr,nh:=nh}) (eh.hint h.clos) (dM.hint ih) (gx.hint oy) h1 h3 hm he).unhint,
       fun aO ff hm=>(akQ (C:={C with fr:=fr,nh:=nh}) (eh.hint h.clos) (dM.hint ih) (gx.hint oy) h1 h3 hm he).unhint⟩
     ·cases e
    ·cases e
  ·simp only[dq] at e;split at e
   ·rename_i g hg;exact(h.ext f g hg _ ih oy ds d e).2 cs ys hc hi
   ·rw[(h.its f cs ys hc hi).1] at e;cases e
def ajj (Φ:aY)(pc:PC)(J k:Nat)(ds xs:List D):Prop:=YG Φ pc J ds xs∧∀x,x∈xs→∃cH,x=.tup cH∧cH.length=k
open Classical in
def EK (pc:PC)(J k:Nat)(spec:List D→List D):aY→List D→Option D:=fun Φ ds=>if ajj Φ pc J k ds (spec ds) then some (.list (spec ds)) else none
theorem aq0 {C:Ctx}{Φ:aY}(bA:eh C)(hΦ:dM C Φ)(gh:gx C Φ){f:Nat}{fn:Func}{cts ys:List Ty}{J k:Nat}{ids fr nh:List Nat}{pc:PC}(hf:C.P.funcs[f]?=some fn)(hc:∀yv,Dj {C with fr:=fr,nh:=nh,yv:=yv} fn cts ys J ids=some pc){spec:List D→List D}
 {ds:List D} {d:D} (h:EK pc J k spec Φ ds=some d) (hk:k=ys.length):∃xs,d=.list xs∧(∀x,x∈xs→∃cH,x=.tup cH∧cH.length=ys.length)∧l5 C f cts ys ds xs:=by
 unfold EK at h;split at h
 ·rename_i hs;cases h;subst hk;exact⟨_,rfl,hs.2,(akR (C:={C with fr:=fr,nh:=nh}) (eh.hint bA) (dM.hint hΦ) (gx.hint gh) hf hc hs.1).unhint⟩
 ·cases h
def bS {α:Type}:List (Nat×α)→Nat→Option α
 |[],_=>none
 |x::l,f=>bif Nat.beq x.1 f then some x.2 else bS l f
def G7 {α:Type}(R:Nat→α→Prop):List (Nat×α)→Prop
 |[]=>True
 |x::l=>R x.1 x.2∧G7 R l
theorem Rx {α:Type}{R:Nat→α→Prop}:∀{l:List (Nat×α)},G7 R l→∀f x,bS l f=some x→R f x
 |[],_,f,x,h=>by cases h
 |y::l,⟨h1,h2⟩,f,x,h=>by
  simp only[bS] at h;cases hb:Nat.beq y.1 f<;>simp only[hb,cond_true,cond_false] at h
  ·exact Rx h2 f x h
  ·cases h;rw[←dF hb];exact h1
def Ve (P:Program):List (Nat×Sig)→Bool
 |[]=>true
 |x::l=>(match P.funcs[x.1]? with|some fn=>fn.body.isSome&& !(fn.name== "runtime.NumGoroutine")|none=>false)&&Ve P l
theorem ahV {P:Program}:∀{l:List (Nat×Sig)},Ve P l=true→∀f s,bS l f=some s→∃fn,P.funcs[f]?=some fn∧fn.body.isSome=true∧(fn.name== "runtime.NumGoroutine")=false
 |[],_,f,s,h=>by cases h
 |y::l,hl,f,s,h=>by
  simp only[Ve,az] at hl;simp only[bS] at h;cases hb:Nat.beq y.1 f<;>simp only[hb,cond_true,cond_false] at h
  ·exact ahV hl.2 f s h
  ·rw[←dF hb];have h1:=hl.1;split at h1
   ·rename_i fn e;simp only[az,lu] at h1;exact⟨fn,e,h1.1,h1.2⟩
   ·cases h1
def U6 (a b:Sig):Bool:=Ty.beqs a.args b.args&&Ty.beq a.res b.res&&(match a.mode,b.mode with|.dat,.dat=>true|_,_=>false)
theorem awr {a b:Sig}(h:U6 a b=true):a=b:=by
 obtain⟨a1,a2,a3⟩:=a;obtain⟨b1,b2,b3⟩:=b;simp only[U6,az] at h;rw[Ty.beqs_eq _ _ h.1.1,Ty.beq_eq _ _ h.1.2];cases a3<;>cases b3<;>first|rfl|(have:=h.2;cases this)
def GV (P:Program)(f:Nat):Bool:=match P.funcs[f]? with|some fn=>fn.body.isSome&& !(fn.name== "runtime.NumGoroutine")|none=>false
theorem awP {P:Program}{f:Nat}(h:GV P f=true):∃fn,P.funcs[f]?=some fn∧fn.body.isSome=true∧(fn.name== "runtime.NumGoroutine")=false:=by
 unfold GV at h;split at h
 ·rename_i fn e;simp only[az,lu] at h;exact⟨fn,e,h.1,h.2⟩
 ·cases h
def Ph (P:Program)(sig:List (Nat×Sig))(pcs:List Nat):List (Nat×CSig)→Bool
 |[]=>true
 |x::l=>(match nu x.2.args x.2.res with
   |none=>(match bS sig x.1 with|some s=>U6 s ⟨x.2.args++x.2.caps,x.2.res,.dat⟩|none=>false)
   |some _=> !fU pcs x.1&&GV P x.1)&&Ph P sig pcs l
theorem ZA {P:Program}{sig:List (Nat×Sig)}{pcs:List Nat}:∀{l:List (Nat×CSig)},Ph P sig pcs l=true→∀f cs,bS l f=some cs→
 (nu cs.args cs.res=none→bS sig f=some ⟨cs.args++cs.caps,cs.res,.dat⟩)∧∀ys,nu cs.args cs.res=some ys→fU pcs f=false∧GV P f=true
 |[],_,f,cs,h=>by cases h
 |x::l,hl,f,cs,h=>by
  simp only[Ph,az] at hl;simp only[bS] at h;cases hb:Nat.beq x.1 f<;>simp only[hb,cond_true,cond_false] at h
  ·exact ZA hl.2 f cs h
  ·cases h;rw[←dF hb];have h1:=hl.1;refine⟨fun e=>?_,fun ys e=>?_⟩
   ·rw[e] at h1;simp only at h1;split at h1
    ·rename_i s hs;rw[hs,awr h1]
    ·cases h1
   ·rw[e] at h1;simpa using h1
theorem acQ {α:Type}:∀{l:List (Nat×α)} {f:Nat},fU (l.map (·.1)) f=false→bS l f=none
 |[],f,_=>rfl
 |x::l,f,h=>by
  simp only[jN,fU,List.any_cons,YB] at h;simp only[bS];have hb:Nat.beq x.1 f=false:=by
   cases e:Nat.beq x.1 f
   ·rfl
   ·rw[aN e,mT] at h;cases h.1
  rw[hb];exact acQ (l:=l) h.2
def ajq (Φ:aY)(pa pb:PC)(ds:List D)(d:D):Prop:=(∃N xs,pa.ev Φ N (m3 ds)=some (.ret (.list xs))∧xs≠[]∧d=.list xs)∨∃N,pb.ev Φ N (m3 ds)=some (.ret (.list []))∧d=.list []
open Classical in
def Bo (pa pb:PC)(spec:List D→D):aY→List D→Option D:=fun Φ ds=>if ajq Φ pa pb ds (spec ds) then some (spec ds) else none
theorem atz {C:Ctx}{Φ:aY}(bA:eh C)(hΦ:dM C Φ)(gh:gx C Φ){f:Nat}{fn:Func}{args:List Ty}{e:Ty}{ids aqS fr nh frb nhb:List Nat}{pa pb:PC}(hf:C.P.funcs[f]?=some fn)(ha:mZ {C with fr:=fr,nh:=nh} fn ⟨args,.slice e,.dat⟩ ids=some pa)
 (hb:mZ {C with fr:=frb,nh:=nhb} fn ⟨args,.nils .bool,.dat⟩ aqS=some pb) {spec:List D→D} {ds:List D} {d:D} (h:Bo pa pb spec Φ ds=some d):l0 C f ⟨args,.nsl e,.dat⟩ ds d:=by
 unfold Bo at h;split at h
 case isFalse=>cases h
 rename_i hs;cases h;rcases hs with⟨N,xs,h1,h2,h3⟩|⟨N,h1,h2⟩
 ·rw[h3];have:=(Pn (C:={C with fr:=fr,nh:=nh}) (eh.hint bA) (dM.hint hΦ) (gx.hint gh) hf ha (N:=N) rfl h1).unhint;intro σ w aa aB hC lE;refine(this σ w aa aB hC lE).mono fun en w' hh=>?_;obtain⟨v,σ',g1,g2,g3,g4,g5,g6,g7⟩:=hh;refine⟨v,σ',g1,g2,g3,g4,g5,g6,?_⟩;change Rep C.cap σ' (.slice e) v (.list xs) at g7;show Rep C.cap σ' (.nsl e) v (.list xs);generalize hd:D.list xs=dd at g7;cases g7 with
  |nil=>injection hd with hd;exact absurd hd h2
  |emp=>injection hd with hd;exact absurd hd h2
  |slice _ k o n c NB vs a1 a2 a3 a4 a5=>exact .nsl e k o n c NB (.slice e k o n c NB vs a1 a2 a3 a4 a5) (by injection hd with hd;rw[←hd];exact h2)
 ·rw[h2];have:=(Pn (C:={C with fr:=frb,nh:=nhb}) (eh.hint bA) (dM.hint hΦ) (gx.hint gh) hf hb (N:=N) rfl h1).unhint;intro σ w aa aB hC lE;refine(this σ w aa aB hC lE).mono fun en w' hh=>?_;obtain⟨v,σ',g1,g2,g3,g4,g5,g6,g7⟩:=hh;refine⟨v,σ',g1,g2,g3,g4,g5,g6,?_⟩;change Rep C.cap σ' (.nils .bool) v (.list []) at g7;show Rep C.cap σ' (.nsl e) v (.list []);generalize D.list []=dd at g7;cases g7;exact .nsl0 e
end Cx
