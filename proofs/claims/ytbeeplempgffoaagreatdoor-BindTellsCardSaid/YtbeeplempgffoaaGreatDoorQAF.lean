/-
  Shared texts of this claim.
-/
import Derived.Test.YtbeeplempgffoaaGreatDoorQAE
import Derived.OrdersIn
set_option linter.unusedSimpArgs false
set_option linter.unusedVariables false
noncomputable section
namespace Cx
open Go Go.RowKit
def Wi:Value→Value→Bool
 |.int k n,.int k' m=>k==k'&&n==m
 |.bool a,.bool b=>a==b
 |.string a,.string b=>decide (a=b)
 |.nilFunc,.nilFunc=>true
 |_,_=>false
theorem awm:∀a b,Wi a b=true→a=b:=by
 intro a b h;unfold Wi at h;split at h
 ·simp only[ay,beq_iff_eq] at h;rw[h.1,h.2]
 ·simp only[beq_iff_eq] at h;rw[h]
 ·simp only[decide_eq_true_eq] at h;rw[h]
 ·rfl
 ·cases h
mutual
def D.beq:D→D→Bool
 |.v a,e=>match e with|.v b=>Wi a b|_=>false
 |.agg a,e=>match e with|.agg b=>D.beqs a b|_=>false
 |.list a,e=>match e with|.list b=>D.beqs a b|_=>false
 |.tup a,e=>match e with|.tup b=>D.beqs a b|_=>false
 |.map a,e=>match e with|.map b=>a.isEmpty&&b.isEmpty|_=>false
 |.ref a,e=>match e with|.ref b=>D.beq a b|_=>false
 |.clo f a,e=>match e with|.clo g b=>Nat.beq f g&&D.beqs a b|_=>false
 |.none,e=>match e with|.none=>true|_=>false
def D.beqs:List D→List D→Bool
 |[],e=>match e with|[]=>true|_=>false
 |a::aa,e=>match e with|b::bs=>D.beq a b&&D.beqs aa bs|_=>false
end
mutual
theorem D.beq_eq:∀a b:D,D.beq a b=true→a=b
 |.v a,e,h=>by cases e<;>first|(simp only[D.beq] at h;rw[awm _ _ h])|cases h
 |.agg a,e,h=>by cases e<;>first|(simp only[D.beq] at h;rw[D.beqs_eq _ _ h])|cases h
 |.list a,e,h=>by cases e<;>first|(simp only[D.beq] at h;rw[D.beqs_eq _ _ h])|cases h
 |.tup a,e,h=>by cases e<;>first|(simp only[D.beq] at h;rw[D.beqs_eq _ _ h])|cases h
 |.map a,e,h=>by
  cases e<;>first|(simp only[D.beq,ay,WD] at h;rw[h.1,h.2])|cases h
 |.ref a,e,h=>by cases e<;>first|(simp only[D.beq] at h;rw[D.beq_eq _ _ h])|cases h
 |.clo f a,e,h=>by cases e<;>first|(simp only[D.beq,ay] at h;rw[aG h.1,D.beqs_eq _ _ h.2])|cases h
 |.none,e,h=>by cases e<;>first|rfl|cases h
theorem D.beqs_eq:∀a b:List D,D.beqs a b=true→a=b
 |[],e,h=>by cases e<;>first|rfl|cases h
 |a::aa,e,h=>by
  cases e with
  |nil=>cases h
  |cons b bs=>simp only[D.beqs,ay] at h;rw[D.beq_eq _ _ h.1,D.beqs_eq _ _ h.2]
end
mutual
def PE.beq:PE→PE→Bool
 |.r a,e=>match e with|.r b=>Nat.beq a b|_=>false
 |.o a,e=>match e with|.o b=>Nat.beq a b|_=>false
 |.con a,e=>match e with|.con b=>D.beq a b|_=>false
 |.cell x i,e=>match e with|.cell y j=>PE.beq x y&&Nat.beq i j|_=>false
 |.sub x i n,e=>match e with|.sub y j m=>PE.beq x y&&(Nat.beq i j&&Nat.beq n m)|_=>false
 |.setc x i z,e=>match e with|.setc y j u=>PE.beq x y&&(Nat.beq i j&&PE.beq z u)|_=>false
 |.mk x,e=>match e with|.mk y=>PE.beqs x y|_=>false
 |.ai op k x y,e=>match e with|.ai wE k' x' y'=>op==wE&&(k==k'&&(PE.beq x x'&&PE.beq y y'))|_=>false
 |.ci op x y,e=>match e with|.ci wE x' y'=>op==wE&&(PE.beq x x'&&PE.beq y y')|_=>false
 |.cb op x y,e=>match e with|.cb wE x' y'=>op==wE&&(PE.beq x x'&&PE.beq y y')|_=>false
 |.cs op x y,e=>match e with|.cs wE x' y'=>op==wE&&(PE.beq x x'&&PE.beq y y')|_=>false
 |.sadd x y,e=>match e with|.sadd x' y'=>PE.beq x x'&&PE.beq y y'|_=>false
 |.nt x,e=>match e with|.nt y=>PE.beq x y|_=>false
 |.conv k x,e=>match e with|.conv k' y=>k==k'&&PE.beq x y|_=>false
 |.pick c x y,e=>match e with|.pick c' x' y'=>PE.beq c c'&&(PE.beq x x'&&PE.beq y y')|_=>false
 |.llen x,e=>match e with|.llen y=>PE.beq x y|_=>false
 |.bytes x,e=>match e with|.bytes y=>PE.beq x y|_=>false
 |.slen x,e=>match e with|.slen y=>PE.beq x y|_=>false
 |.mlen x,e=>match e with|.mlen y=>PE.beq x y|_=>false
 |.nth x y,e=>match e with|.nth x' y'=>PE.beq x x'&&PE.beq y y'|_=>false
 |.idx x y,e=>match e with|.idx x' y'=>PE.beq x x'&&PE.beq y y'|_=>false
 |.sidx x y,e=>match e with|.sidx x' y'=>PE.beq x x'&&PE.beq y y'|_=>false
 |.sok x y,e=>match e with|.sok x' y'=>PE.beq x x'&&PE.beq y y'|_=>false
 |.setn x i n y,e=>match e with|.setn x' i' n' y'=>PE.beq x x'&&(PE.beq i i'&&(Nat.beq n n'&&PE.beq y y'))|_=>false
 |.app x y,e=>match e with|.app x' y'=>PE.beq x x'&&PE.beq y y'|_=>false
 |.lst x,e=>match e with|.lst y=>PE.beqs x y|_=>false
 |.rep x y,e=>match e with|.rep x' y'=>PE.beq x x'&&PE.beq y y'|_=>false
 |.slc c x y,e=>match e with|.slc c' x' y'=>PE.beq c c'&&(PE.beq x x'&&PE.beq y y')|_=>false
 |.slok c x y,e=>match e with|.slok c' x' y'=>PE.beq c c'&&(PE.beq x x'&&PE.beq y y')|_=>false
 |.ref x,e=>match e with|.ref y=>PE.beq x y|_=>false
 |.deref x,e=>match e with|.deref y=>PE.beq x y|_=>false
 |.look c x y,e=>match e with|.look c' x' y'=>PE.beq c c'&&(PE.beq x x'&&PE.beq y y')|_=>false
 |.has x y,e=>match e with|.has x' y'=>PE.beq x x'&&PE.beq y y'|_=>false
 |.put c x y,e=>match e with|.put c' x' y'=>PE.beq c c'&&(PE.beq x x'&&PE.beq y y')|_=>false
 |.mn x y,e=>match e with|.mn x' y'=>PE.beq x x'&&PE.beq y y'|_=>false
 |.mx x y,e=>match e with|.mx x' y'=>PE.beq x x'&&PE.beq y y'|_=>false
 |.tup x,e=>match e with|.tup y=>PE.beqs x y|_=>false
 |.tget x i,e=>match e with|.tget y j=>PE.beq x y&&Nat.beq i j|_=>false
 |.clo f x,e=>match e with|.clo g y=>Nat.beq f g&&PE.beqs x y|_=>false
 |.an x y,e=>match e with|.an x' y'=>PE.beq x x'&&PE.beq y y'|_=>false
 |.imp c x,e=>match e with|.imp c' y=>rh c c'&&PE.beq x y|_=>false
def PE.beqs:List PE→List PE→Bool
 |[],e=>match e with|[]=>true|_=>false
 |a::aa,e=>match e with|b::bs=>PE.beq a b&&PE.beqs aa bs|_=>false
end
theorem dj {a b:Nat}(h:Nat.beq a b=true):a=b:=aG h
mutual
theorem PE.beq_eq:∀a b:PE,PE.beq a b=true→a=b
 |.r a,e,h=>by cases e<;>first|(rw[dj h])|cases h
 |.o a,e,h=>by cases e<;>first|(rw[dj h])|cases h
 |.con a,e,h=>by cases e<;>first|(rw[D.beq_eq _ _ h])|cases h
 |.cell x i,e,h=>by cases e<;>first|(simp only[PE.beq,ay] at h;rw[PE.beq_eq _ _ h.1,dj h.2])|cases h
 |.sub x i n,e,h=>by cases e<;>first|(simp only[PE.beq,ay] at h;rw[PE.beq_eq _ _ h.1,dj h.2.1,dj h.2.2])|cases h
 |.setc x i z,e,h=>by cases e<;>first|(simp only[PE.beq,ay] at h;rw[PE.beq_eq _ _ h.1,dj h.2.1,PE.beq_eq _ _ h.2.2])|cases h
 |.mk x,e,h=>by cases e<;>first|(simp only[PE.beq] at h;rw[PE.beqs_eq _ _ h])|cases h
 |.ai op k x y,e,h=>by cases e<;>first|(simp only[PE.beq,ay,beq_iff_eq] at h;rw[h.1,h.2.1,PE.beq_eq _ _ h.2.2.1,PE.beq_eq _ _ h.2.2.2])|cases h
 |.ci op x y,e,h=>by cases e<;>first|(simp only[PE.beq,ay,beq_iff_eq] at h;rw[h.1,PE.beq_eq _ _ h.2.1,PE.beq_eq _ _ h.2.2])|cases h
 |.cb op x y,e,h=>by cases e<;>first|(simp only[PE.beq,ay,beq_iff_eq] at h;rw[h.1,PE.beq_eq _ _ h.2.1,PE.beq_eq _ _ h.2.2])|cases h
 |.cs op x y,e,h=>by cases e<;>first|(simp only[PE.beq,ay,beq_iff_eq] at h;rw[h.1,PE.beq_eq _ _ h.2.1,PE.beq_eq _ _ h.2.2])|cases h
 |.sadd x y,e,h=>by cases e<;>first|(simp only[PE.beq,ay] at h;rw[PE.beq_eq _ _ h.1,PE.beq_eq _ _ h.2])|cases h
 |.nt x,e,h=>by cases e<;>first|(simp only[PE.beq] at h;rw[PE.beq_eq _ _ h])|cases h
 |.conv k x,e,h=>by cases e<;>first|(simp only[PE.beq,ay,beq_iff_eq] at h;rw[h.1,PE.beq_eq _ _ h.2])|cases h
 |.pick c x y,e,h=>by cases e<;>first|(simp only[PE.beq,ay] at h;rw[PE.beq_eq _ _ h.1,PE.beq_eq _ _ h.2.1,PE.beq_eq _ _ h.2.2])|cases h
 |.llen x,e,h=>by cases e<;>first|(simp only[PE.beq] at h;rw[PE.beq_eq _ _ h])|cases h
 |.bytes x,e,h=>by cases e<;>first|(simp only[PE.beq] at h;rw[PE.beq_eq _ _ h])|cases h
 |.slen x,e,h=>by cases e<;>first|(simp only[PE.beq] at h;rw[PE.beq_eq _ _ h])|cases h
 |.mlen x,e,h=>by cases e<;>first|(simp only[PE.beq] at h;rw[PE.beq_eq _ _ h])|cases h
 |.nth x y,e,h=>by cases e<;>first|(simp only[PE.beq,ay] at h;rw[PE.beq_eq _ _ h.1,PE.beq_eq _ _ h.2])|cases h
 |.idx x y,e,h=>by cases e<;>first|(simp only[PE.beq,ay] at h;rw[PE.beq_eq _ _ h.1,PE.beq_eq _ _ h.2])|cases h
 |.sidx x y,e,h=>by cases e<;>first|(simp only[PE.beq,ay] at h;rw[PE.beq_eq _ _ h.1,PE.beq_eq _ _ h.2])|cases h
 |.sok x y,e,h=>by cases e<;>first|(simp only[PE.beq,ay] at h;rw[PE.beq_eq _ _ h.1,PE.beq_eq _ _ h.2])|cases h
 |.setn x i n y,e,h=>by cases e<;>first|(simp only[PE.beq,ay] at h;rw[PE.beq_eq _ _ h.1,PE.beq_eq _ _ h.2.1,dj h.2.2.1,PE.beq_eq _ _ h.2.2.2])|cases h
 |.app x y,e,h=>by cases e<;>first|(simp only[PE.beq,ay] at h;rw[PE.beq_eq _ _ h.1,PE.beq_eq _ _ h.2])|cases h
 |.lst x,e,h=>by cases e<;>first|(simp only[PE.beq] at h;rw[PE.beqs_eq _ _ h])|cases h
 |.rep x y,e,h=>by cases e<;>first|(simp only[PE.beq,ay] at h;rw[PE.beq_eq _ _ h.1,PE.beq_eq _ _ h.2])|cases h
 |.slc c x y,e,h=>by cases e<;>first|(simp only[PE.beq,ay] at h;rw[PE.beq_eq _ _ h.1,PE.beq_eq _ _ h.2.1,PE.beq_eq _ _ h.2.2])|cases h
 |.slok c x y,e,h=>by cases e<;>first|(simp only[PE.beq,ay] at h;rw[PE.beq_eq _ _ h.1,PE.beq_eq _ _ h.2.1,PE.beq_eq _ _ h.2.2])|cases h
 |.ref x,e,h=>by cases e<;>first|(simp only[PE.beq] at h;rw[PE.beq_eq _ _ h])|cases h
 |.deref x,e,h=>by cases e<;>first|(simp only[PE.beq] at h;rw[PE.beq_eq _ _ h])|cases h
 |.look c x y,e,h=>by cases e<;>first|(simp only[PE.beq,ay] at h;rw[PE.beq_eq _ _ h.1,PE.beq_eq _ _ h.2.1,PE.beq_eq _ _ h.2.2])|cases h
 |.has x y,e,h=>by cases e<;>first|(simp only[PE.beq,ay] at h;rw[PE.beq_eq _ _ h.1,PE.beq_eq _ _ h.2])|cases h
 |.put c x y,e,h=>by cases e<;>first|(simp only[PE.beq,ay] at h;rw[PE.beq_eq _ _ h.1,PE.beq_eq _ _ h.2.1,PE.beq_eq _ _ h.2.2])|cases h
 |.mn x y,e,h=>by cases e<;>first|(simp only[PE.beq,ay] at h;rw[PE.beq_eq _ _ h.1,PE.beq_eq _ _ h.2])|cases h
 |.mx x y,e,h=>by cases e<;>first|(simp only[PE.beq,ay] at h;rw[PE.beq_eq _ _ h.1,PE.beq_eq _ _ h.2])|cases h
 |.tup x,e,h=>by cases e<;>first|(simp only[PE.beq] at h;rw[PE.beqs_eq _ _ h])|cases h
 |.tget x i,e,h=>by cases e<;>first|(simp only[PE.beq,ay] at h;rw[PE.beq_eq _ _ h.1,dj h.2])|cases h
 |.clo f x,e,h=>by cases e<;>first|(simp only[PE.beq,ay] at h;rw[dj h.1,PE.beqs_eq _ _ h.2])|cases h
 |.an x y,e,h=>by cases e<;>first|(simp only[PE.beq,ay] at h;rw[PE.beq_eq _ _ h.1,PE.beq_eq _ _ h.2])|cases h
 |.imp c x,e,h=>by cases e<;>first|(simp only[PE.beq,ay] at h;rw[Cu _ _ h.1,PE.beq_eq _ _ h.2])|cases h
theorem PE.beqs_eq:∀a b:List PE,PE.beqs a b=true→a=b
 |[],e,h=>by cases e<;>first|rfl|cases h
 |a::aa,e,h=>by
  cases e with
  |nil=>cases h
  |cons b bs=>simp only[PE.beqs,ay] at h;rw[PE.beq_eq _ _ h.1,PE.beqs_eq _ _ h.2]
end
def PI.beq:PI→PI→Bool
 |.setR t x,e=>match e with|.setR u y=>Nat.beq t u&&PE.beq x y|_=>false
 |.setO t x,e=>match e with|.setO u y=>Nat.beq t u&&PE.beq x y|_=>false
 |.chk x,e=>match e with|.chk y=>PE.beq x y|_=>false
 |.call gs d f aa,e=>match e with|.call bT d' f' Bx=>rh gs bT&&(Nat.beq d d'&&(Nat.beq f f'&&PE.beqs aa Bx))|_=>false
 |.callc gs d f aa,e=>match e with|.callc bT d' f' Bx=>rh gs bT&&(Nat.beq d d'&&(PE.beq f f'&&PE.beqs aa Bx))|_=>false
 |.mcall d f aa,e=>match e with|.mcall d' f' Bx=>Nat.beq d d'&&(Nat.beq f f'&&PE.beqs aa Bx)|_=>false
theorem PI.beq_eq:∀a b:PI,PI.beq a b=true→a=b:=by
 intro a b h;cases a<;>cases b<;>first
  |(cases h;done)
  |(simp only[PI.beq,ay] at h;first
       |rw[dj h.1,PE.beq_eq _ _ h.2]
       |rw[PE.beq_eq _ _ h]
       |rw[Cu _ _ h.1,dj h.2.1,dj h.2.2.1,PE.beqs_eq _ _ h.2.2.2]
       |rw[Cu _ _ h.1,dj h.2.1,PE.beq_eq _ _ h.2.2.1,PE.beqs_eq _ _ h.2.2.2]
       |rw[dj h.1,dj h.2.1,PE.beqs_eq _ _ h.2.2])
def PI.beqs:List PI→List PI→Bool
 |[],e=>match e with|[]=>true|_=>false
 |a::aa,e=>match e with|b::bs=>PI.beq a b&&PI.beqs aa bs|_=>false
theorem PI.beqs_eq:∀a b:List PI,PI.beqs a b=true→a=b
 |[],e,h=>by cases e<;>first|rfl|cases h
 |a::aa,e,h=>by
  cases e with
  |nil=>cases h
  |cons b bs=>simp only[PI.beqs,ay] at h;rw[PI.beq_eq _ _ h.1,PI.beqs_eq _ _ h.2]
end Cx
namespace Cx
open Go Go.RowKit
structure Lk where
 r:Nat
 o:List Nat
def Lk.or (a b:Lk):Lk:=⟨Nat.lor a.r b.r,a.o++b.o⟩
def Lk.none:Lk:=⟨0,[]⟩
def ll:List (Nat×Bool)→Lk
 |[]=>.none
 |g::gs=>⟨Nat.lor (gp g.1) (ll gs).r,(ll gs).o⟩
mutual
def PE.lk:PE→Lk
 |.r t=>⟨gp t,[]⟩
 |.o j=>⟨0,[j]⟩
 |.con _=>.none
 |.cell e _|.sub e _ _|.nt e|.conv _ e|.llen e|.bytes e|.slen e|.mlen e|.ref e|.deref e|.tget e _=>PE.lk e
 |.setc x _ y|.ai _ _ x y|.ci _ x y|.cb _ x y|.cs _ x y|.sadd x y|.nth x y|.idx x y|.sidx x y|.sok x y|.app x y|.rep x y|.has x y|.mn x y|.mx x y|.an x y=>(PE.lk x).or (PE.lk y)
 |.mk es|.lst es|.tup es|.clo _ es=>PE.lks es
 |.pick x y z|.slc x y z|.slok x y z|.look x y z|.put x y z|.setn x y _ z=>(PE.lk x).or ((PE.lk y).or (PE.lk z))
 |.imp c x=>(ll c).or (PE.lk x)
def PE.lks:List PE→Lk
 |[]=>.none
 |e::es=>(PE.lk e).or (PE.lks es)
end
structure Alike (k:Lk) (ρ ρ':Env):Prop where
 r:∀t,aO k.r t=true→ρ'.r t=ρ.r t
 o:∀j,j∈k.o→ρ'.o j=ρ.o j
theorem Alike.left {a b:Lk}{ρ ρ':Env}(h:Alike (a.or b) ρ ρ'):Alike a ρ ρ':=
 ⟨fun t ht=>h.r t (by simp only[Lk.or,fR,ht,Be]),fun j hj=>h.o j (ju _ hj)⟩
theorem Alike.right {a b:Lk}{ρ ρ':Env}(h:Alike (a.or b) ρ ρ'):Alike b ρ ρ':=
 ⟨fun t ht=>h.r t (by simp only[Lk.or,fR,ht,qF]),fun j hj=>h.o j (jT _ hj)⟩
theorem zO {ρ ρ':Env}:∀{c:List (Nat×Bool)},Alike (ll c) ρ ρ'→holds c ρ'=holds c ρ
 |[],_=>rfl
 |g::gs,h=>by
  have ih:=zO (ρ:=ρ) (ρ':=ρ') (c:=gs) ⟨fun t ht=>h.r t (by simp only[ll,fR,ht,qF]),fun j hj=>h.o j hj⟩;have h1:=h.r g.1 (by simp only[ll,fR,pA,Be]);unfold holds at ih ⊢;simp only[sF];rw[ih,h1]
mutual
theorem PE.ev_alike {ρ ρ':Env}:∀(e:PE),Alike e.lk ρ ρ'→e.ev ρ'=e.ev ρ
 |.r t,h=>h.r t (pA t)
 |.o j,h=>h.o j (by simp[PE.lk])
 |.con _,h=>rfl
 |.cell e _,h=>by simp only[PE.ev,PE.ev_alike e h]
 |.sub e _ _,h=>by simp only[PE.ev,PE.ev_alike e h]
 |.nt e,h=>by simp only[PE.ev,PE.ev_alike e h]
 |.conv _ e,h=>by simp only[PE.ev,PE.ev_alike e h]
 |.llen e,h=>by simp only[PE.ev,PE.ev_alike e h]
 |.bytes e,h=>by simp only[PE.ev,PE.ev_alike e h]
 |.slen e,h=>by simp only[PE.ev,PE.ev_alike e h]
 |.mlen e,h=>by simp only[PE.ev,PE.ev_alike e h]
 |.ref e,h=>by simp only[PE.ev,PE.ev_alike e h]
 |.deref e,h=>by simp only[PE.ev,PE.ev_alike e h]
 |.tget e _,h=>by simp only[PE.ev,PE.ev_alike e h]
 |.setc x _ y,h=>by simp only[PE.ev,PE.ev_alike x h.left,PE.ev_alike y h.right]
 |.ai _ _ x y,h=>by simp only[PE.ev,PE.ev_alike x h.left,PE.ev_alike y h.right]
 |.ci _ x y,h=>by simp only[PE.ev,PE.ev_alike x h.left,PE.ev_alike y h.right]
 |.cb _ x y,h=>by simp only[PE.ev,PE.ev_alike x h.left,PE.ev_alike y h.right]
 |.cs _ x y,h=>by simp only[PE.ev,PE.ev_alike x h.left,PE.ev_alike y h.right]
 |.sadd x y,h=>by simp only[PE.ev,PE.ev_alike x h.left,PE.ev_alike y h.right]
 |.nth x y,h=>by simp only[PE.ev,PE.ev_alike x h.left,PE.ev_alike y h.right]
 |.idx x y,h=>by simp only[PE.ev,PE.ev_alike x h.left,PE.ev_alike y h.right]
 |.sidx x y,h=>by simp only[PE.ev,PE.ev_alike x h.left,PE.ev_alike y h.right]
 |.sok x y,h=>by simp only[PE.ev,PE.ev_alike x h.left,PE.ev_alike y h.right]
 |.app x y,h=>by simp only[PE.ev,PE.ev_alike x h.left,PE.ev_alike y h.right]
 |.rep x y,h=>by simp only[PE.ev,PE.ev_alike x h.left,PE.ev_alike y h.right]
 |.has x y,h=>by simp only[PE.ev,PE.ev_alike x h.left,PE.ev_alike y h.right]
 |.mn x y,h=>by simp only[PE.ev,PE.ev_alike x h.left,PE.ev_alike y h.right]
 |.mx x y,h=>by simp only[PE.ev,PE.ev_alike x h.left,PE.ev_alike y h.right]
 |.an x y,h=>by simp only[PE.ev,PE.ev_alike x h.left,PE.ev_alike y h.right]
 |.mk es,h=>by simp only[PE.ev,PE.evc_alike es h]
 |.lst es,h=>by simp only[PE.ev,PE.evs_alike es h]
 |.tup es,h=>by simp only[PE.ev,PE.evs_alike es h]
 |.clo _ es,h=>by simp only[PE.ev,PE.evs_alike es h]
 |.pick x y z,h=>by simp only[PE.ev,PE.ev_alike x h.left,PE.ev_alike y h.right.left,PE.ev_alike z h.right.right]
 |.slc x y z,h=>by simp only[PE.ev,PE.ev_alike x h.left,PE.ev_alike y h.right.left,PE.ev_alike z h.right.right]
 |.slok x y z,h=>by simp only[PE.ev,PE.ev_alike x h.left,PE.ev_alike y h.right.left,PE.ev_alike z h.right.right]
 |.look x y z,h=>by simp only[PE.ev,PE.ev_alike x h.left,PE.ev_alike y h.right.left,PE.ev_alike z h.right.right]
 |.put x y z,h=>by simp only[PE.ev,PE.ev_alike x h.left,PE.ev_alike y h.right.left,PE.ev_alike z h.right.right]
 |.setn x y _ z,h=>by simp only[PE.ev,PE.ev_alike x h.left,PE.ev_alike y h.right.left,PE.ev_alike z h.right.right]
 |.imp c x,h=>by simp only[PE.ev,zO h.left,PE.ev_alike x h.right]
theorem PE.evs_alike {ρ ρ':Env}:∀(es:List PE),Alike (PE.lks es) ρ ρ'→PE.evs ρ' es=PE.evs ρ es
 |[],h=>rfl
 |e::es,h=>by simp only[PE.evs,PE.ev_alike e h.left,PE.evs_alike es h.right]
theorem PE.evc_alike {ρ ρ':Env}:∀(es:List PE),Alike (PE.lks es) ρ ρ'→PE.evc ρ' es=PE.evc ρ es
 |[],h=>rfl
 |e::es,h=>by simp only[PE.evc,PE.ev_alike e h.left,PE.evc_alike es h.right]
end
def PI.lk:PI→Lk
 |.setR _ e|.setO _ e|.chk e=>e.lk
 |.call gs _ _ aa=>(ll gs).or (PE.lks aa)
 |.callc gs _ e aa=>(ll gs).or (e.lk.or (PE.lks aa))
 |.mcall _ _ aa=>PE.lks aa
inductive Eff where
 |skip
 |r (t:Nat) (d:D)
 |o (j:Nat) (d:D)
def Eff.app (ρ:Env):Eff→Env
 |.skip=>ρ
 |.r t d=>ρ.setR t d
 |.o j d=>ρ.setO j d
def PI.eff (Φ:aR)(ρ:Env):PI→Option Eff
 |.setR t e=>some (.r t (e.ev ρ))
 |.setO j e=>some (.o j (e.ev ρ))
 |.chk e=>bif (e.ev ρ).b then some .skip else none
 |.call gs dst f args=>bif holds gs ρ then(Φ f (PE.evs ρ args)).map (.r dst) else some .skip
 |.callc gs dst e args=>bif holds gs ρ then(match e.ev ρ with|.clo f caps=>(Φ f (PE.evs ρ args++caps)).map (.r dst)|_=>none) else some .skip
 |.mcall j f args=>(Φ f (PE.evs ρ args)).map (.o j)
theorem PI.run_eff (Φ:aR)(ρ:Env)(p:PI):p.run Φ ρ=(p.eff Φ ρ).map (Eff.app ρ):=by
 cases p with
 |setR t e=>rfl
 |setO t e=>rfl
 |chk e=>simp only[PI.run,PI.eff];cases(e.ev ρ).b<;>rfl
 |call gs d f aa=>
  simp only[PI.run,PI.eff];cases holds gs ρ
  ·rfl
  ·simp only[cond_true,WK];rfl
 |callc gs d e aa=>
  simp only[PI.run,PI.eff];cases holds gs ρ
  ·rfl
  ·simp only[cond_true];cases e.ev ρ<;>first|rfl|(simp only[WK];rfl)
 |mcall j f aa=>simp only[PI.run,PI.eff,WK];rfl
theorem PI.eff_alike {Φ:aR}{ρ ρ':Env}(p:PI)(h:Alike p.lk ρ ρ'):p.eff Φ ρ'=p.eff Φ ρ:=by
 cases p with
 |setR t e=>simp only[PI.eff,PE.ev_alike e h]
 |setO t e=>simp only[PI.eff,PE.ev_alike e h]
 |chk e=>simp only[PI.eff,PE.ev_alike e h]
 |call gs d f aa=>simp only[PI.eff,zO h.left,PE.evs_alike aa h.right]
 |callc gs d e aa=>simp only[PI.eff,zO h.left,PE.ev_alike e h.right.left,PE.evs_alike aa h.right.right]
 |mcall j f aa=>simp only[PI.eff,PE.evs_alike aa h]
def PI.wo:PI→List Nat
 |.setO j _|.mcall j _ _=>[j]
 |_=>[]
def Eff.within (m:Nat)(l:List Nat):Eff→Prop
 |.skip=>True
 |.r t _=>aO m t=true
 |.o j _=>j∈l
theorem PI.eff_within {Φ:aR}{ρ:Env}{p:PI}{x:Eff}(h:p.eff Φ ρ=some x):x.within p.mask p.wo:=by
 cases p with
 |setR t e=>simp only[PI.eff,bp] at h;subst h;exact pA t
 |setO t e=>simp only[PI.eff,bp] at h;subst h;simp[Eff.within,PI.wo]
 |chk e=>simp only[PI.eff] at h;cases hb:(e.ev ρ).b<;>rw[hb] at h<;>cases h;trivial
 |call gs d f aa=>
  simp only[PI.eff] at h;cases hb:holds gs ρ<;>simp only[hb,cond_true,cond_false,bp,aK] at h
  ·subst h;trivial
  ·obtain⟨d,_,rfl⟩:=h;exact pA _
 |callc gs d e aa=>
  simp only[PI.eff] at h;cases hb:holds gs ρ<;>simp only[hb,cond_true,cond_false,bp] at h
  ·subst h;trivial
  ·split at h
   ·simp only[aK] at h;obtain⟨d,_,rfl⟩:=h;exact pA _
   ·cases h
 |mcall j f aa=>simp only[PI.eff,aK] at h;obtain⟨d,_,rfl⟩:=h;simp[Eff.within,PI.wo]
def FX (a b:List Nat):Bool:=a.all fun x=> !fu b x
structure Foot where
 wr:Nat
 wo:List Nat
 k:Lk
def gE:List PI→Foot
 |[]=>⟨0,[],.none⟩
 |p::l=>⟨Nat.lor p.mask (gE l).wr,p.wo++(gE l).wo,p.lk.or (gE l).k⟩
def Foot.comm (a b:Foot):Bool:=
 Nat.beq (Nat.land a.wr b.wr) 0&&(Nat.beq (Nat.land a.wr b.k.r) 0&&(Nat.beq (Nat.land b.wr a.k.r) 0&&
    (FX a.wo b.wo&&(FX a.wo b.k.o&&FX b.wo a.k.o))))
theorem Pp {a b t:Nat}(h:Nat.beq (Nat.land a b) 0=true)(ha:aO a t=true)(hb:aO b t=true):False:=by
 have h1:=dj h;have h2:(a&&& b).testBit t=true:=by rw[Nat.testBit_and,←va,←va,ha,hb];rfl
 have h3:(a&&& b)=0:=h1;rw[h3] at h2;simp at h2
theorem Mm {a b:List Nat}(h:FX a b=true){x:Nat}(ha:x∈a)(hb:x∈b):False:=by
 have:=eQ.1 h x ha;rw[(p6 b x).2 hb] at this;cases this
structure Comm (p q:PI):Prop where
 ww:∀t,aO p.mask t=true→aO q.mask t=true→False
 wr:∀t,aO p.mask t=true→aO q.lk.r t=true→False
 rw:∀t,aO q.mask t=true→aO p.lk.r t=true→False
 oww:∀t,t∈p.wo→t∈q.wo→False
 owr:∀t,t∈p.wo→t∈q.lk.o→False
 orw:∀t,t∈q.wo→t∈p.lk.o→False
theorem Eff.alike {x:Eff}{m:Nat}{l:List Nat}{k:Lk}{ρ:Env}(h:x.within m l)(h1:∀t,aO m t=true→aO k.r t=true→False)(h2:∀t,t∈l→t∈k.o→False):Alike k ρ (x.app ρ):=by
 cases x with
 |skip=>exact⟨fun _ _=>rfl,fun _ _=>rfl⟩
 |r t d=>exact⟨fun u hu=>bO _ _ (fun e=>h1 t h (e▸hu)),fun _ _=>rfl⟩
 |o t d=>exact⟨fun _ _=>rfl,fun u hu=>bO _ _ (fun e=>h2 t h (e▸hu))⟩
theorem afQ {α:Type}(f:Nat→α){i j:Nat}(x y:α)(h:i≠j):cu (cu f i x) j y=cu (cu f j y) i x:=by
 funext t;simp only[gj];by_cases h1:t=i
 ·subst h1;simp[h]
 ·simp[h1]
theorem Eff.comm {x y:Eff}{m m':Nat}{l l':List Nat}{ρ:Env}(hx:x.within m l)(hy:y.within m' l')(h1:∀t,aO m t=true→aO m' t=true→False)(h2:∀t,t∈l→t∈l'→False):
 y.app (x.app ρ)=x.app (y.app ρ):=by
 cases x with
 |skip=>rfl
 |r t d=>
  cases y with
  |skip=>rfl
  |r u e=>
   have aC:t≠u:=fun e=>h1 t hx (by subst e;exact hy);show Env.setR (Env.setR ρ t d) u e=Env.setR (Env.setR ρ u e) t d;simp only[Env.setR];rw[afQ _ _ _ aC]
  |o u e=>rfl
 |o t d=>
  cases y with
  |skip=>rfl
  |r u e=>rfl
  |o u e=>
   have aC:t≠u:=fun e=>h2 t hx (by subst e;exact hy);show Env.setO (Env.setO ρ t d) u e=Env.setO (Env.setO ρ u e) t d;simp only[Env.setO];rw[afQ _ _ _ aC]
theorem PI.comm {Φ:aR}{p q:PI}(h:Comm p q)(ρ:Env):(p.run Φ ρ).bind (q.run Φ)=(q.run Φ ρ).bind (p.run Φ):=by
 simp only[PI.run_eff];cases hp:p.eff Φ ρ with
 |none=>
  cases hq:q.eff Φ ρ with
  |none=>rfl
  |some y=>
   have:=PI.eff_alike (Φ:=Φ) p (Eff.alike (ρ:=ρ) (PI.eff_within hq) h.rw h.orw);simp[PI.run_eff,this,hp]
 |some x=>
  have hx:=PI.eff_within hp;have e1:=PI.eff_alike (Φ:=Φ) q (Eff.alike (ρ:=ρ) hx h.wr h.owr);cases hq:q.eff Φ ρ with
  |none=>simp[PI.run_eff,e1,hq]
  |some y=>
   have hy:=PI.eff_within hq;have e2:=PI.eff_alike (Φ:=Φ) p (Eff.alike (ρ:=ρ) hy h.rw h.orw);simp only[kj,uU,PI.run_eff,e1,e2,hp,hq];rw[Eff.comm hx hy h.ww h.oww]
theorem PI.comm1 {Φ:aR}{p:PI}:∀(l:List PI),(∀q,q∈l→Comm p q)→∀ρ,(p.run Φ ρ).bind (PI.runs Φ l)=(PI.runs Φ l ρ).bind (p.run Φ)
 |[],_,ρ=>by simp only[PI.runs];cases h:p.run Φ ρ<;>simp[h]
 |q::l,h,ρ=>by
  have ih:=PI.comm1 (Φ:=Φ) l fun q hq=>h q (fj _ hq);have hc:=PI.comm (Φ:=Φ) (h q (fF ..)) ρ;simp only[PI.runs];have e1:((p.run Φ ρ).bind fun ρ1=>(q.run Φ ρ1).bind (PI.runs Φ l))=((p.run Φ ρ).bind (q.run Φ)).bind (PI.runs Φ l):=by cases p.run Φ ρ<;>rfl
  show((p.run Φ ρ).bind fun ρ1=>(q.run Φ ρ1).bind (PI.runs Φ l))=_;rw[e1,hc];cases q.run Φ ρ with
  |none=>rfl
  |some ρ1=>simp only[uU];exact ih ρ1
theorem PI.comms {Φ:aR}:∀(a b:List PI),(∀p q,p∈a→q∈b→Comm p q)→∀ρ,PI.runs Φ (a++b) ρ=PI.runs Φ (b++a) ρ
 |[],b,_,ρ=>by simp
 |p::a,b,h,ρ=>by
  have ih:=PI.comms (Φ:=Φ) a b fun p q hp hq=>h p q (fj _ hp) hq;have h1:=PI.comm1 (Φ:=Φ) b (fun q hq=>h p q (fF ..) hq);simp only[LV,PI.runs,sn];have e1:((p.run Φ ρ).bind (PI.runs Φ (a++b)))=(p.run Φ ρ).bind (PI.runs Φ (b++a)):=by
   cases p.run Φ ρ with
   |none=>rfl
   |some ρ1=>exact ih ρ1
  rw[e1];have e2:PI.runs Φ (b++a)=fun ρ=>(PI.runs Φ b ρ).bind (PI.runs Φ a):=funext fun ρ=>sn;rw[e2];have e3:((p.run Φ ρ).bind fun ρ=>(PI.runs Φ b ρ).bind (PI.runs Φ a))=((p.run Φ ρ).bind (PI.runs Φ b)).bind (PI.runs Φ a):=by cases p.run Φ ρ<;>rfl
  rw[e3,h1 ρ];cases PI.runs Φ b ρ with
  |none=>rfl
  |some ρ1=>rfl
theorem X6 {l:List PI}{p:PI}(h:p∈l):(∀t,aO p.mask t=true→aO (gE l).wr t=true)∧(∀t,t∈p.wo→t∈(gE l).wo)∧(∀t,aO p.lk.r t=true→aO (gE l).k.r t=true)∧∀t,t∈p.lk.o→t∈(gE l).k.o:=by
 induction l with
 |nil=>cases h
 |cons q l ih=>
  rcases di.1 h with e|h
  ·subst e;refine⟨fun t ht=>?_,fun t ht=>ju _ ht,fun t ht=>?_,fun t ht=>ju _ ht⟩
   ·simp only[gE,fR,ht,Be]
   ·simp only[gE,Lk.or,fR,ht,Be]
  ·obtain⟨h1,h2,h3,h4⟩:=ih h;refine⟨fun t ht=>?_,fun t ht=>jT _ (h2 t ht),fun t ht=>?_,fun t ht=>jT _ (h4 t ht)⟩
   ·simp only[gE,fR,h1 t ht,qF]
   ·simp only[gE,Lk.or,fR,h3 t ht,qF]
def jw (S:St)(dst:Nat)(S':St):Prop:=∀t,t≠dst→S'.r t=S.r t
section
variable {C:Ctx} {S:St} {gs:List (Nat×Bool)} {dst:Nat} {r:St×List PI}
theorem jk {X:St}{s:Sh}(h:X.r=S.r):jw S dst (X.setR dst s):=fun t ht=>by simp only[St.setR,bO _ _ ht,h]
theorem akg (S:St)(j:Nat):(S.fz j).r=S.r:=(NM S j).2
theorem aif {T:TypeId}{x:Operand}(h:Cf C S dst T x=some r):jw S dst r.1:=by
 unfold Cf at h;split at h
 ·simp only[aK] at h;obtain⟨e,_,rfl⟩:=h;exact jk rfl
 ·cases h
theorem aim {T:TypeId}{x:Operand}(h:sV C S dst T x=some r):jw S dst r.1:=by
 unfold sV at h;split at h
 ·rename_i v;simp only[aB] at h;obtain⟨e,_,z,_,h⟩:=h;cases hc:iV e v<;>simp only[hc,cond_true,cond_false] at h<;>cases h;exact jk rfl
 ·cases h
theorem ahR {T:TypeId}(h:B8 C S dst T=some r):jw S dst r.1:=by
 unfold B8 at h;split at h
 ·rename_i t inf ag _ _ _;cases hc:(sD inf t&&(t.rowT||t.one))<;>simp only[hc,cond_true,cond_false] at h
  ·cases h
  ·simp only[aK] at h;obtain⟨e,_,rfl⟩:=h;exact jk rfl
 ·cases h
theorem ahV {T:TypeId}{x:Operand}(h:Ca C S dst T x=some r):jw S dst r.1:=by
 unfold Ca at h;split at h
 ·rename_i t e ag _ _;cases hc:(t.rowT||t.one)<;>simp only[hc,cond_true,cond_false] at h<;>cases h;exact jk rfl
 ·cases h
theorem ah9 {T:TypeId}{x:Option Operand}(h:Cd C S dst T x=some r):jw S dst r.1:=by
 unfold Cd at h;split at h
 ·simp only[aB,aK] at h;obtain⟨e,_,z,_,rfl⟩:=h;exact jk rfl
 ·cases h
theorem aii {T:TypeId}{x:Operand}(h:Cg C S dst T x=some r):jw S dst r.1:=by
 unfold Cg at h;split at h
 case h_2=>cases h
 rename_i K E j ver hT es;cases hb:(Nat.beq ver (S.ver j)&& !Nat.beq j dst)<;>simp only[hb,cond_true,cond_false] at h
 ·cases h
 split at h
 ·cases h;exact jk rfl
 ·cases h
theorem ahZ {T U:TypeId}{x:Operand}(h:Cb C S dst T U x=some r):jw S dst r.1:=by
 unfold Cb at h;split at h
 ·split at h
  ·cases h;exact jk rfl
  ·cases h
 ·cases h
theorem aib {T:TypeId}{x y:Operand}(h:Ce C S dst T x y=some r):jw S dst r.1:=by
 unfold Ce at h;split at h
 ·rename_i E _ n _ m _ _ _;simp only[aB] at h;obtain⟨e,_,h⟩:=h;cases hc:pE C.P E e<;>simp only[hc,cond_true,cond_false] at h
  ·cases h
  ·simp only[aB] at h;obtain⟨z,_,h⟩:=h;cases hc2:Ty.sub z.1 e<;>simp only[hc2,cond_true,cond_false] at h<;>cases h;exact jk rfl
 ·cases h
theorem ahX {T:TypeId}{n:Nat}{ps:List (Nat×Operand)}(h:vj C S gs dst T n ps=some r):jw S dst r.1:=by
 unfold vj at h;split at h
 ·simp only[aB] at h;obtain⟨e,_,z,_,h⟩:=h
  revert h
  generalize (_&&_:Bool)=b;intro h;cases b<;>simp only[cond_true,cond_false] at h
  ·cases h
  ·simp only[aK] at h;obtain⟨es,_,rfl⟩:=h;exact jk rfl
 ·cases h
theorem ah7 {T:TypeId}{n:Nat}{ps:List (Nat×Operand)}(h:zd C S gs dst T n ps=some r):jw S dst r.1:=by
 unfold zd at h;split at h
 ·simp only[aB] at h;obtain⟨e,_,h⟩:=h;split at h
  ·cases h;exact jk rfl
  ·cases h
 ·cases h
theorem ahT {T:TypeId}{x y:Operand}(h:B9 C S dst T x y=some r):jw S dst r.1:=by
 unfold B9 at h;split at h
 ·rename_i E _;simp only[aB] at h;obtain⟨e,_,h⟩:=h;split at h
  ·rename_i tx ex _;cases hc:(pE C.P E e&&Lc tx e)<;>simp only[hc,cond_true,cond_false] at h
   ·cases h
   ·split at h
    ·cases h;exact jk rfl
    ·cases h
    ·split at h
     ·rename_i j ver _;cases hc:Nat.beq ver (S.ver j)<;>simp only[hc,cond_true,cond_false] at h
      ·cases h
      ·split at h
       ·rename_i E' e' _;cases hc:(Nat.beq E' E&&Ty.beq e' e)<;>simp only[hc,cond_true,cond_false] at h<;>cases h;exact jk rfl
       ·cases h
     ·cases h
  ·cases h
 ·cases h
theorem ah3 {f:Nat}{xs:List Operand}(h:Cc C S dst f xs=some r):jw S dst r.1:=by
 simp only[Cc,aB] at h;obtain⟨s,_,h⟩:=h;split at h
 ·rename_i T e _;simp only[aB] at h;obtain⟨u,_,h⟩:=h;cases hc:Ty.subs u.1 s.args<;>simp only[hc,cond_true,cond_false] at h<;>cases h;refine jk (X:=(bif e.pure then S else S.fzs (ew S [] xs)).newO dst (.row T e)) ?_;cases e.pure
  ·exact(Cs _ S).2
  ·rfl
 ·cases h
theorem ah5 {f:Nat}{xs:List Operand}{q:St×Sh×List PI}(h:zc C S gs dst f xs=some q):q.1.r=S.r:=by
 simp only[zc,aB] at h;obtain⟨s,_,h⟩:=h;split at h
 ·simp only[aB] at h;obtain⟨u,_,h⟩:=h;cases hc:Ty.subs u.1 s.args<;>simp only[hc,cond_true,cond_false] at h<;>cases h;cases s.res.pure
  ·exact(Cs _ S).2
  ·rfl
 ·cases h
theorem ah1 {x:Operand}{xs:List Operand}{q:St×Sh×List PI}(h:vk C S gs dst x xs=some q):q.1.r=S.r:=by
 unfold vk at h;split at h
 ·rename_i aa r0 _ _;split at h
  case h_1=>cases h
  simp only[aB] at h;obtain⟨u,_,h⟩:=h;cases hc:Ty.subs u.1 aa<;>simp only[hc,cond_true,cond_false] at h<;>cases h;cases r0.pure
  ·exact(Cs _ S).2
  ·rfl
 ·cases h
theorem aik {T:TypeId}{x v:Operand}(h:Ch C S T x v=some r):r.1.r=S.r:=by
 unfold Ch at h;split at h
 case h_2=>cases h
 rename_i inf _;split at h
 ·rename_i j ver off _;cases hc:Nat.beq ver (S.ver j)<;>simp only[hc,cond_true,cond_false] at h
  ·cases h
  split at h
  case h_2=>cases h
  rename_i ag aJ _;split at h
  ·revert h
   generalize (_&&_:Bool)=b;intro h;cases b<;>simp only[cond_true,cond_false] at h<;>cases h;rfl
  ·split at h
   ·revert h
    generalize (_&&_:Bool)=b;intro h;cases b<;>simp only[cond_true,cond_false] at h<;>cases h;rfl
   ·cases h
 ·rename_i j ver size off _;cases hc:Nat.beq ver (S.ver j)<;>simp only[hc,cond_true,cond_false] at h
  ·cases h
  split at h
  ·revert h
   generalize (_&&_:Bool)=b;intro h;cases b<;>simp only[cond_true,cond_false] at h<;>cases h;rfl
  ·revert h
   generalize (_&&_:Bool)=b;intro h;cases b<;>simp only[cond_true,cond_false] at h<;>cases h;rfl
  ·cases h
 ·cases h
theorem XF {T:TypeId}{m k v:Operand}(h:ze C S T m k v=some r):r.1.r=S.r:=by
 unfold ze at h;split at h
 ·rename_i K _ j ver _ _;cases hc:Nat.beq ver (S.ver j)<;>simp only[hc,cond_true,cond_false] at h
  ·cases h
  split at h
  ·revert h
   generalize (_&&_:Bool)=b;intro h;cases b<;>simp only[cond_true,cond_false] at h<;>cases h;rfl
  ·cases h
 ·cases h
theorem XD {f:Nat}{xs:List Operand}{cs:List (Nat×Nat)}{q:St×Ty×List PI}(h:H8 C S f xs cs=some q):q.1.r=S.r:=by cases h
theorem XB {t:Nat}{xs:List Operand}{q:St×Ty×List PI}(h:H9 C S t xs=some q):q.1.r=S.r:=by cases h
theorem aa4 {dst:Nat}{q:St×Ty×List PI}(h:q.1.r=S.r):jw S dst (rN S (some dst) q).1:=jk h
theorem aid {fn:Fn}{a b:Array Operand}(h:Nx C S dst fn a b=some r):jw S dst r.1:=by cases h
theorem ahF {o:Oper}(hr:core C S gs o=some r):∀t,o.dst≠some t→r.1.r t=S.r t:=by
 unfold core at hr;split at hr
 ·rename_i dst hd
  suffices h:jw S dst r.1 by
   intro t ht;exact h t (fun e=>ht (by rw[hd,e]))
  split at hr
  ·rename_i q hq;cases eT:Jw q.1<;>simp only[eT,cond_true,cond_false] at hr<;>cases hr;exact jk rfl
  ·split at hr
   ·rename_i x e _
    have mv:∀r,(match wF C S [] dst x with|some r=>some (S.setR dst r.1,r.2)|none=>sV C S dst o.type x)=some r→jw S dst r.1:=by
     intro r hr;split at hr
     ·cases hr;exact jk rfl
     ·exact aim hr
    cases fI:C.fr.any (Nat.beq dst)<;>simp only[fI,cond_true,cond_false] at hr
    ·split at hr
     ·rename_i q hq;cases hr;exact aif hq
     ·exact mv r hr
    ·exact mv r hr
   ·exact ahR hr
   ·exact ahV hr
   ·split at hr
    ·exact ahX hr
    ·exact ah7 hr
   ·exact aib hr
   ·exact ah9 hr
   ·exact aii hr
   ·exact ahZ hr
   ·rename_i c e;split at hr
    ·split at hr
     ·rename_i s x T T' _ _;cases hT:Nat.beq T T'<;>simp only[hT,cond_true,cond_false] at hr
      ·cases hr
      ·exact ahT hr
     ·cases hr
    ·split at hr
     ·rename_i q hq;cases hr;exact jk (ah5 hq)
     ·split at hr
      ·split at hr
       ·rename_i q hq;cases hr;exact ah3 hq
       ·simp only[aK] at hr;obtain⟨q,hq,rfl⟩:=hr;exact aa4 (XD hq)
      ·cases hr
    ·split at hr
     ·rename_i q hq;cases hr;exact jk (ah1 hq)
     ·split at hr
      ·simp only[aK] at hr;obtain⟨q,hq,rfl⟩:=hr;exact aa4 (XB hq)
      ·cases hr
    ·cases hr
   ·exact aid hr
   ·cases hr
 ·split at hr
  ·intro t _;rw[aik hr]
  ·intro t _;rw[XF hr]
  ·intro t _;rw[XF hr]
  ·cases hr;intro t _;rfl
  ·intro t _;split at hr
   ·simp only[aK] at hr;obtain⟨q,hq,rfl⟩:=hr;simp only[rN,XD hq]
   ·simp only[aK] at hr;obtain⟨q,hq,rfl⟩:=hr;simp only[rN,XB hq]
   ·cases hr
  ·cases hr
theorem aki {g:Gh}(hr:g.run C S=some r):∀t,(∀u j,g=.rereg u j→t≠u)→r.1.r t=S.r t:=by
 intro t ht;cases g with
 |fz j=>simp only[Gh.run,bp] at hr;subst hr;rw[akg]
 |fbox b=>
  simp only[Gh.run,Cr] at hr;split at hr
  case h_2=>cases hr
  rename_i ag aJ _;simp only[aB] at hr;obtain⟨x,_,hr⟩:=hr;cases ag<;>simp only[cond_true,cond_false] at hr
  ·split at hr
   ·cases hr;rfl
   ·cases hr
  ·cases hr;rfl
 |rereg u j=>
  simp only[Gh.run,Fj] at hr;split at hr
  ·revert hr
   generalize (_&&_:Bool)=b;intro hr;cases b<;>simp only[cond_true,cond_false] at hr<;>cases hr
   ·rfl
   ·simp only[St.setR,bO _ _ (ht u j rfl)];rfl
  ·cases hr;rfl
 |recell b i j=>
  simp only[Gh.run,Fi] at hr;split at hr
  ·split at hr
   ·revert hr
    generalize (_&&_:Bool)=b;intro hr;cases b<;>simp only[cond_true,cond_false] at hr<;>cases hr<;>rfl
   ·cases hr;rfl
  ·cases hr;rfl
 |home b i j T=>
  simp only[Gh.run,CY] at hr;split at hr
  ·split at hr
   ·revert hr
    generalize (!_:Bool)=b;intro hr;cases b<;>simp only[cond_true,cond_false] at hr<;>cases hr<;>rfl
   ·cases hr;rfl
  ·cases hr;rfl
theorem NN:∀(l:List Gh) {S:St} {r:St×List PI},mc C l S=some r→∀t,(∀g u j,g∈l→g=.rereg u j→t≠u)→r.1.r t=S.r t
 |[],S,r,hr,t,_=>by simp only[mc,bp] at hr;subst hr;rfl
 |g::l,S,r,hr,t,ht=>by
  simp only[mc,aB,aK] at hr;obtain⟨q,hq,q2,iJ,rfl⟩:=hr;have h1:=NN l iJ t (fun g u j hg=>ht g u j (fj _ hg));have h2:=aki hq t (fun u j e=>ht g u j (fF ..) e);exact h1.trans h2
theorem aqC (S:St)(gs:List (Nat×Bool))(o:Oper):∀g u j,g∈pre C S gs o.op++QZ C S gs o→g≠.rereg u j:=by
 intro g u j hg e;subst e;rw[dp] at hg;rcases hg with hg|hg
 ·unfold pre at hg;split at hg
  ·rename_i fn _ _ _;cases ho:aa3 C fn<;>simp only[ho,cond_true,cond_false] at hg
   case true=>cases hg
   obtain⟨b,_,hb⟩:=FL.1 hg;rw[dp] at hb;rcases hb with hb|hb
   ·split at hb
    ·obtain⟨_,_,h⟩:=eR.1 hb;cases h
    ·cases hb
   ·simp at hb
  ·split at hg
   ·split at hg
    ·obtain⟨_,_,h⟩:=eR.1 hg;cases h
    ·cases hg
   ·cases hg
  ·obtain⟨_,_,h⟩:=eR.1 hg;cases h
 ·unfold QZ at hg;split at hg
  ·rename_i x t _ _;cases hc:C.fr.any (Nat.beq t)<;>simp only[hc,cond_true,cond_false] at hg
   ·cases hg
   ·obtain⟨_,_,h⟩:=eR.1 hg;cases h
  ·cases hg
theorem aqA (S:St)(o:Oper):∀g u j,g∈post C S o→g=.rereg u j→o.dst=some u:=by
 intro g u j hg e;subst e;unfold post at hg;split at hg
 ·rename_i t _ hd;simp at hg;rw[hd,hg.1]
 ·unfold Jh homes at hg;have:=(gC.1 hg).1;obtain⟨x,_,hx⟩:=xF.1 this;cases mw:x.1<;>rw[mw] at hx<;>simp at hx
 ·split at hg
  ·rw[dp] at hg;rcases hg with hg|hg
   ·unfold Jh homes at hg;have:=(gC.1 hg).1;obtain⟨x,_,hx⟩:=xF.1 this;cases mw:x.1<;>rw[mw] at hx<;>simp at hx
   ·unfold aeE at hg;obtain⟨_,_,h⟩:=eR.1 hg;cases h
  ·cases hg
 ·cases hg
theorem ahy {ops:Array Oper}{o:Oper}(hr:B5 C S ops o=some r):∀t,o.dst≠some t→r.1.r t=S.r t:=by
 intro t ht;unfold B5 at hr;split at hr
 ·rename_i q hq;cases hr;simp only[H4,aB] at hq;obtain⟨gs,_,r1,h1,r2,h2,r3,h3,hq⟩:=hq
  revert hq
  generalize Ij gs o.dst r2.2=b;intro hq;cases b<;>simp only[cond_true,cond_false] at hq<;>cases hq;have e1:=NN _ h1 t (fun g u j hg e=>absurd e (aqC S gs o g u j hg));have e2:=ahF h2 t ht
  have e3:=NN _ h3 t (fun g u j hg e=>by
   have:=aqA r2.1 o g u j hg e;intro e';subst e';exact ht this)
  exact e3.trans (e2.trans e1)
 ·cases hr;split
  ·rename_i d hd;simp only[St.setR];rw[bO];intro e;subst e;exact ht hd
  ·rfl
theorem Xq {ops:Array Oper}{o:Oper}(hr:vi C S ops o=some r):∀t,o.dst≠some t→r.1.r t=S.r t:=by
 intro t ht;unfold vi at hr;split at hr
 ·rename_i q hq;cases hr;unfold H6 at hq;split at hq
  case h_2=>cases hq
  rename_i dst _ args _ _ _ hd _ _;simp only[aB] at hq;obtain⟨gs,_,hq⟩:=hq;split at hq
  case h_2=>cases hq
  split at hq
  case h_2=>cases hq
  simp only[aB] at hq;obtain⟨u,_,hq⟩:=hq;rw[nR] at hq;split at hq<;>cases hq;simp only[St.setR];rw[bO,(Cs _ S).2];intro e;subst e;exact ht hd
 ·exact ahy hr t ht
theorem Xs {ops:Array Oper}:∀{l:List Nat} {S:St} {r:St×List PI},sS C ops l S=some r→∀t,(∀i o,i∈l→ops[i]?=some o→o.dst≠some t)→r.1.r t=S.r t
 |[],S,r,h,t,_=>by simp only[sS,bp] at h;subst h;rfl
 |i::l,S,r,h,t,ht=>by
  simp only[sS] at h;split at h
  ·rename_i o ho;simp only[aB,aK] at h;obtain⟨q,hq,q2,iJ,rfl⟩:=h;exact(Xs iJ t fun j o hj=>ht j o (fj _ hj)).trans (Xq hq t (ht i o (fF ..) ho))
  ·cases h
end
end Cx
namespace Cx
open Go Go.RowKit
def j9 (S:St):Sh→Sh
 |.opt gs s=>.opt gs (gQ S s)
 |s=>gQ S s
def St.snapO (n:Nat)(ids:List Nat)(S:St):Snap:=⟨(List.range n).map fun t=>j9 S (S.r t),ids.map fun j=>iN S (S.o j)⟩
def Snap.stO (ids:List Nat)(s:Snap):St:=⟨fun t=>s.rs.getD t .none,fun j=>dX ids s.os j,fun _=>0⟩
theorem rL (S:St)(s:Sh):∀gs s',gQ S s≠.opt gs s':=by
 intro gs s' e;cases s<;>simp only[gQ] at e<;>first|cases e|(revert e;cases Nat.beq _ _<;>intro e<;>cases e)|(revert e;cases List.all _ _<;>intro e<;>cases e)
section
variable {C:Ctx} {S:St} {ρ:Env} {σ:Im} {own:Nat→Option Nat} {hv:Nat→Value} {w0:World} {σ0:Base} {A:Nat→Prop} {a:Act} {w:World} {n:Nat} {ids:List Nat} {Φ:aR}
theorem apQ {s:Sh}{v:Value}{d:D}(h:aT C S ρ σ hv s v d){T:St}(hT:T.ver=fun _=>0):aT C T ρ σ hv (j9 S s) v d:=by
 have hc:Compat S.norm hv T hv:=⟨fun j=>by rw[hT];exact xI _,fun _ _=>rfl⟩
 have key:∀s,aT C S ρ σ hv s v d→aT C T ρ σ hv (gQ S s) v d:=fun s hs=>aT.mono' (.refl σ) hc (rL S s) (Jv hs).1;cases s with
 |opt gs s=>exact⟨fun hh=>key s (h.1 hh),h.2⟩
 |_=>exact key _ h
theorem Good.snapO (h:Good C w0 σ0 S ρ A a w)(n:Nat)(ids:List Nat):Good C w0 σ0 ((S.snapO n ids).stO ids) ρ A a w:=by
 obtain⟨σ,own,hv,h⟩:=h;have h1:=h.norm;have hc:Compat S.norm hv ((S.snapO n ids).stO ids) hv:=⟨fun _=>bJ _,fun _ _=>rfl⟩
 refine⟨σ,own,hv,h.defers,h.ok,h.le,h.old,h.newc,h.newm,h.below,h.bw,h.owns,fun t=>?_,fun j=>?_,fun t gs s e=>?_,?_⟩
 rotate_right
 ·obtain⟨t,fx,cx,f1,f5⟩:=h.frame;refine⟨t,fx,cx,f1,fun j hj=>f5 j ?_⟩;exact wu (fun j=>iN S (S.o j)) (fun ob=>ob=.tr→S.o j=.tr) (fun e=>by cases e) j aa0 ids hj
 ·show aT C _ ρ σ hv (((List.range n).map fun t=>j9 S (S.r t)).getD t .none) _ _;rw[be,dm];by_cases ht:t<n
  ·rw[pw ht];exact apQ (h.regs t) rfl
  ·rw[qI (by simpa using ht)];trivial
 ·have ho:=(h1.objs j).mono (.refl σ) hc (w:=w) (w':=w) rfl rfl (fun k hk=>⟨hk,rfl⟩);exact wu (fun j=>iN S (S.o j)) (fun ob=>dI C _ ρ σ own hv w w0.heap.size j ob) trivial j ho ids
 ·change ((List.range n).map fun t=>j9 S (S.r t)).getD t .none=.opt gs s at e;rw[be,dm] at e;by_cases ht:t<n
  ·rw[pw ht] at e;simp only[kj,ki] at e;cases hs:S.r t with
   |opt bT s'=>
    rw[hs] at e;simp only[j9,Sh.opt.injEq] at e;obtain⟨rfl,rfl⟩:=e;exact⟨(h.opts t bT s' hs).1,rL S s'⟩
   |none=>rw[hs] at e;exact absurd e (rL S .none gs s)
   |yv=>rw[hs] at e;exact absurd e (rL S .yv gs s)
   |fclo f c=>rw[hs] at e;exact absurd e (rL S (.fclo f c) gs s)
   |dat t=>rw[hs] at e;exact absurd e (rL S (.dat t) gs s)
   |obj t u=>rw[hs] at e;exact absurd e (rL S (.obj t u) gs s)
   |ptr t u v=>rw[hs] at e;exact absurd e (rL S (.ptr t u v) gs s)
   |eptr t u v x=>rw[hs] at e;exact absurd e (rL S (.eptr t u v x) gs s)
  ·rw[qI (by simpa using ht)] at e;cases e
theorem Good.snapF (h:Good C w0 σ0 S ρ A a w)(n:Nat)(ids:List Nat):Good C w0 σ0 ((S.snap n ids).st ids) ρ (fun _=>False) a w:=by
 obtain⟨σ,own,hv,h⟩:=h;exact⟨σ,own,hv,h.snap n ids⟩
theorem Good.drew (h:Good C w0 σ0 S ρ A a w):Good C w0 σ0 S ρ A a {w with drawn:=w.drawn+1}:=by
 obtain⟨σ,own,hv,h⟩:=h;refine⟨σ,own,hv,h.defers,⟨fun k o v e=>h.ok.c k o v e,fun k es e=>h.ok.m k es e⟩,h.le,h.old,h.newc,h.newm,h.below.drew,h.bw,h.owns,h.regs,fun j=>?_,h.opts,?_⟩
 rotate_right
 ·obtain⟨t,fx,cx,f1,f2⟩:=h.frame;exact⟨t,fx,cx,⟨σ0.keep _ _ _ _ _ f1.F (Below.drew (.refl _ _)) (fun _ _=>rfl),f1.own,f1.c,f1.m,f1.d⟩,f2⟩
 exact(h.objs j).mono (.refl σ) (.refl S hv) rfl rfl (fun k hk=>⟨hk,rfl⟩)
end
def A1 (g:Sh→Sh)(S:St)(rs:List Sh)(ds:List Nat):List Sh:=(ds.foldl (fun l d=>l.set d (S.r d)) rs).map g
theorem X5 (S:St):∀(ds:List Nat) (rs:List Sh),(ds.foldl (fun l d=>l.set d (S.r d)) rs).length=rs.length∧∀t,t<rs.length→(ds.foldl (fun l d=>l.set d (S.r d)) rs).getD t .none=if t∈ds then S.r t else rs.getD t .none
 |[],rs=>⟨rfl,fun t _=>by simp⟩
 |d::ds,rs=>by
  obtain⟨h1,h2⟩:=X5 S ds (rs.set d (S.r d));simp only[List.length_set] at h1 h2;refine⟨h1,fun t ht=>?_⟩;rw[FI,h2 t ht];simp only[di,be,Bk];by_cases hm:t∈ds
  ·simp[hm]
  ·by_cases e:d=t
   ·subst e;simp[hm,ht]
   ·have e':¬t=d:=fun h=>e h.symm;simp[hm,e,e']
theorem Lb {g:Sh→Sh}{S:St}{rs:List Sh}{ds:List Nat}(h:∀t,t∉ds→g (rs.getD t .none)=g (S.r t)):A1 g S rs ds=(List.range rs.length).map fun t=>g (S.r t):=by
 obtain⟨h1,h2⟩:=X5 S ds rs;unfold A1;apply WA;intro t;simp only[dm];by_cases ht:t<rs.length
 ·have:=h2 t ht;rw[be,bW (by omega)] at this;rw[bW (by omega),pw ht];simp only[ki,kj] at this ⊢;rw[this];by_cases hm:t∈ds
  ·simp[hm]
  ·simp only[hm,if_false];rw[h t hm]
 ·rw[qI (by omega),qI (by simpa using ht)];rfl
def Sh.hd {α:Type}(s:Sh)(k:Sh→α):α:=
 match s with
 |.none=>k .none
 |.dat t=>k (.dat t)
 |.obj j v=>k (.obj j v)
 |.ptr j v o=>k (.ptr j v o)
 |.eptr j v z o=>k (.eptr j v z o)
 |.opt gs s=>k (.opt gs s)
 |.yv=>k .yv
 |.fclo f c=>k (.fclo f c)
theorem Sh.hd_eq {α:Type}(s:Sh)(k:Sh→α):s.hd k=k s:=by cases s<;>rfl
def zu {α:Type}:List Sh→(List Sh→α)→α
 |[],k=>k []
 |s::l,k=>s.hd fun s=>zu l fun l=>k (s::l)
theorem NZ {α:Type}:∀(l:List Sh) (k:List Sh→α),zu l k=k l
 |[],_=>rfl
 |s::l,k=>by rw[zu,Sh.hd_eq,NZ l]
def Ob.hd {α:Type}(s:Ob)(k:Ob→α):α:=
 match s with
 |.dead=>k .dead
 |.fz t=>k (.fz t)
 |.fbox t=>k (.fbox t)
 |.box true l=>zu l fun l=>k (.box true l)
 |.box false l=>zu l fun l=>k (.box false l)
 |.row T e=>k (.row T e)
 |.mp a b=>k (.mp a b)
 |.it a b=>k (.it a b)
 |.tr=>k .tr
theorem Ob.hd_eq {α:Type}(s:Ob)(k:Ob→α):s.hd k=k s:=by
 cases s with
 |box ag l=>cases ag<;>simp only[Ob.hd,NZ]
 |_=>rfl
def Iz {α:Type}:List Ob→(List Ob→α)→α
 |[],k=>k []
 |s::l,k=>s.hd fun s=>Iz l fun l=>k (s::l)
theorem Yt {α:Type}:∀(l:List Ob) (k:List Ob→α),Iz l k=k l
 |[],_=>rfl
 |s::l,k=>by rw[Iz,Ob.hd_eq,Yt l]
def Snap.hard {α:Type}(s:Snap)(k:Snap→α):α:=zu s.rs fun a=>Iz s.os fun b=>k ⟨a,b⟩
theorem Snap.hard_eq {α:Type}(s:Snap)(k:Snap→α):s.hard k=k s:=by rw[Snap.hard,NZ,Yt]
def IA {α β:Type}:List β→(List β→α)→α
 |[],k=>k []
 |s::l,k=>IA l fun l=>k (s::l)
theorem Yv {α β:Type}:∀(l:List β) (k:List β→α),IA l k=k l
 |[],_=>rfl
 |s::l,k=>by rw[IA,Yv l]
def CC {α β:Type}:List (List β)→(List (List β)→α)→α
 |[],k=>k []
 |s::l,k=>IA s fun s=>CC l fun l=>k (s::l)
theorem Yu {α β:Type}:∀(l:List (List β)) (k:List (List β)→α),CC l k=k l
 |[],_=>rfl
 |s::l,k=>by rw[CC,Yv,Yu l]
def aA (P:Program){α:Type}(s:Sem α):Prop:=(∃a,∀w,s.run P w=.ok a w)∨∀w,∃h w',s.run P w=.halt h w'
section
variable {P:Program}
theorem aA.pure {α:Type}(a:α):aA P (Sem.pure a):=.inl ⟨a,fun w=>rfl⟩
theorem aA.pure' {α:Type}(a:α):aA P (Pure.pure a:Sem α):=.inl ⟨a,fun w=>rfl⟩
theorem aA.halt {α:Type}(h:Halt):aA P (Sem.halt h:Sem α):=.inr fun w=>⟨h,w,rfl⟩
theorem aA.bind' {α β:Type}{s:Sem α}{f:α→Sem β}(h:aA P s)(hf:∀a,(∀w,s.run P w=.ok a w)→aA P (f a)):aA P (s>>=f):=by
 rcases h with⟨a,ha⟩|hd
 ·rcases hf a ha with⟨b,hb⟩|hd
  ·exact .inl ⟨b,fun w=>by rw[Sem.run_bind,ha w];exact hb w⟩
  ·refine .inr fun w=>?_;obtain⟨x,w',e⟩:=hd w;exact⟨x,w',by rw[Sem.run_bind,ha w];exact e⟩
 ·refine .inr fun w=>?_;obtain⟨x,w',e⟩:=hd w;exact⟨x,w',by rw[Sem.run_bind,e];rfl⟩
theorem aA.bind {α β:Type}{s:Sem α}{f:α→Sem β}(h:aA P s)(hf:∀a,aA P (f a)):aA P (s>>=f):=h.bind' fun a _=>hf a
def cl {α:Type}(s:Sem α):Prop:=∀P w,∃h w',s.run P w=.halt h w'
theorem cl.noW {α:Type}{s:Sem α}(h:cl s):aA P s:=.inr (h P)
theorem cl.halt {α:Type}(h:Halt):cl (Sem.halt h:Sem α):=fun P w=>⟨h,w,rfl⟩
theorem cl.of_bind {α β:Type}{s:Sem α}{f:α→Sem β}(hf:∀a,cl (f a)):cl (s>>=f):=by
 intro P w;rw[Sem.run_bind];cases e:s.run P w with
 |ok a w'=>exact hf a P w'
 |halt h w'=>exact⟨h,w',rfl⟩
theorem aA.asBool (v:Value):aA P (Go.asBool v):=by
 cases v<;>first|exact .pure _|exact .halt _
theorem aA.asIntOf (v:Value):aA P (Go.asIntOf v):=by
 unfold Go.asIntOf;split<;>first|exact .pure _|exact .halt _
theorem aA.sureAddr (v:Value):aA P (Instr.sureAddr v):=by
 unfold Instr.sureAddr;split<;>first|exact .pure _|exact .halt _
theorem aA.prog:aA P Go.program:=.inl ⟨P,fun w=>rfl⟩
theorem aA.underlying (t:TypeId):aA P (Go.underlying t):=by
 unfold Go.underlying;refine .bind .prog fun p=>?_;split<;>first|exact .pure _|exact .halt _
theorem aA.sizeOf (t:TypeId):aA P (Go.sizeOf t):=by
 unfold Go.sizeOf Go.typeInfo;refine .bind (.bind .prog fun p=>?_) fun _=>.pure _;split<;>first|exact .pure _|exact .halt _
theorem cl.runtimePanic {α:Type}(e:RuntimeError):cl (Go.runtimePanic e:Sem α):=by
 unfold Go.runtimePanic;refine .of_bind fun p=>?_;cases e<;>first|exact .halt _|exact .of_bind fun _=>.halt _|exact .of_bind fun _=>.of_bind fun _=>.halt _
theorem cl.boundsPanic {α:Type}(k:IntKind)(x y:Int)(c:BoundsCode):cl (Go.boundsPanic k x y c:Sem α):=by
 unfold Go.boundsPanic;dsimp only;split<;>exact .of_bind fun _=>.runtimePanic _
theorem aA.indexAt (t:TypeId)(x i:Value):aA P (Instr.indexAt t x i):=by
 unfold Instr.indexAt
 repeat' (first|(first|exact aA.pure _|exact aA.pure' _|exact aA.halt _|exact cl.noW (cl.boundsPanic _ _ _ _)|exact cl.noW (cl.runtimePanic _)|exact aA.prog|exact aA.underlying _|exact aA.sizeOf _|exact aA.asIntOf _|exact aA.sureAddr _|exact aA.asBool _)|(refine aA.bind ?_ fun _=>?_)|dsimp only|split)
theorem aA.sliceBound (x:Value)(y:Nat)(c:BoundsCode):aA P (Instr.sliceBound x y c):=by
 unfold Instr.sliceBound
 repeat' (first|(first|exact aA.pure _|exact aA.pure' _|exact aA.halt _|exact cl.noW (cl.boundsPanic _ _ _ _)|exact cl.noW (cl.runtimePanic _)|exact aA.prog|exact aA.underlying _|exact aA.sizeOf _|exact aA.asIntOf _|exact aA.sureAddr _|exact aA.asBool _)|(refine aA.bind ?_ fun _=>?_)|dsimp only|split)
theorem aA.sliceBounds (b:Bool)(n m:Nat)(lo hi mx:Option Value):aA P (Instr.sliceBounds b n m lo hi mx):=by
 unfold Instr.sliceBounds
 repeat' (first|exact aA.sliceBound _ _ _|(first|exact aA.pure _|exact aA.pure' _|exact aA.halt _|exact cl.noW (cl.boundsPanic _ _ _ _)|exact cl.noW (cl.runtimePanic _)|exact aA.prog|exact aA.underlying _|exact aA.sizeOf _|exact aA.asIntOf _|exact aA.sureAddr _|exact aA.asBool _)|(refine aA.bind ?_ fun _=>?_)|dsimp only|split)
theorem aA.asAddr (v:Value):aA P (Go.asAddr v):=by
 unfold Go.asAddr
 repeat' (first|(first|exact aA.pure _|exact aA.pure' _|exact aA.halt _|exact cl.noW (cl.boundsPanic _ _ _ _)|exact cl.noW (cl.runtimePanic _)|exact aA.prog|exact aA.underlying _|exact aA.sizeOf _|exact aA.asIntOf _|exact aA.sureAddr _|exact aA.asBool _)|(refine aA.bind ?_ fun _=>?_)|dsimp only|split)
theorem aA.slice (t:TypeId)(x:Value)(lo hi mx:Option Value):aA P (Instr.slice t x lo hi mx):=by
 unfold Instr.slice
 repeat' (first|exact aA.sliceBounds _ _ _ _ _ _|exact aA.asAddr _|(first|exact aA.pure _|exact aA.pure' _|exact aA.halt _|exact cl.noW (cl.boundsPanic _ _ _ _)|exact cl.noW (cl.runtimePanic _)|exact aA.prog|exact aA.underlying _|exact aA.sizeOf _|exact aA.asIntOf _|exact aA.sureAddr _|exact aA.asBool _)|(refine aA.bind ?_ fun _=>?_)|dsimp only|split)
theorem aA.sliceAt (t:TypeId)(x:Value)(lo hi mx:Option Value):aA P (Instr.sliceAt t x lo hi mx):=by
 unfold Instr.sliceAt
 repeat' (first|exact aA.sliceBounds _ _ _ _ _ _|exact aA.slice _ _ _ _ _|(first|exact aA.pure _|exact aA.pure' _|exact aA.halt _|exact cl.noW (cl.boundsPanic _ _ _ _)|exact cl.noW (cl.runtimePanic _)|exact aA.prog|exact aA.underlying _|exact aA.sizeOf _|exact aA.asIntOf _|exact aA.sureAddr _|exact aA.asBool _)|(refine aA.bind ?_ fun _=>?_)|dsimp only|split)
def Td (P:Program)(s:TypeId)(i:Nat):Bool:=
 match P.underlying s with
 |some (.struct fs)=>(match fs[i]? with
  |some f=>(match P.info? f.type with|some d=> !Nat.beq d.size 0|none=>false)
  |none=>false)
 |_=>false
theorem aA.fieldAt {s:TypeId}{i:Nat}(h:Td P s i=true)(a:Value):aA P (Instr.fieldAt s a i):=by
 unfold Instr.fieldAt;refine .bind' (.underlying _) fun d hd=>?_;have hu:P.underlying s=some d:=by
  have:=hd default;unfold Go.underlying at this;rw[Sem.run_bind] at this;change Result.andThen (.ok P default) _=_ at this;simp only[Result.andThen_ok] at this;cases hp:P.underlying s with
  |none=>rw[hp] at this;cases this
  |some d'=>
   rw[hp] at this;change Result.ok d' default=_ at this;cases this;rfl
 unfold Td at h;rw[hu] at h;cases d<;>dsimp only at h ⊢<;>try (first|exact aA.pure _|exact aA.pure' _|exact aA.halt _|exact cl.noW (cl.boundsPanic _ _ _ _)|exact cl.noW (cl.runtimePanic _)|exact aA.prog|exact aA.underlying _|exact aA.sizeOf _|exact aA.asIntOf _|exact aA.sureAddr _|exact aA.asBool _)
 rename_i fs;cases hf:fs[i]? with
 |none=>dsimp only;(first|exact aA.pure _|exact aA.pure' _|exact aA.halt _|exact cl.noW (cl.boundsPanic _ _ _ _)|exact cl.noW (cl.runtimePanic _)|exact aA.prog|exact aA.underlying _|exact aA.sizeOf _|exact aA.asIntOf _|exact aA.sureAddr _|exact aA.asBool _)
 |some f=>
  rw[hf] at h;dsimp only at h ⊢;refine .bind (.sureAddr _) fun a=>.bind ?_ fun _=>.pure _;unfold Go.fieldPlace;refine .bind' (.sizeOf _) fun n hn=>?_;have hz:n≠0:=by
   intro e;have:=hn default;unfold Go.sizeOf Go.typeInfo at this;cases hi:P.info? f.type with
   |none=>rw[hi] at h;cases h
   |some inf=>
    rw[hi] at h;rw[Sem.run_bind,Sem.run_bind] at this;change Result.andThen (Result.andThen (.ok P default) _) _=_ at this;simp only[Result.andThen_ok,hi] at this;change Result.ok inf.size default=_ at this;cases this;dsimp only at h;rw[e] at h;cases h
  rw[if_neg hz]
  (first|exact aA.pure _|exact aA.pure' _|exact aA.halt _|exact cl.noW (cl.boundsPanic _ _ _ _)|exact cl.noW (cl.runtimePanic _)|exact aA.prog|exact aA.underlying _|exact aA.sizeOf _|exact aA.asIntOf _|exact aA.sureAddr _|exact aA.asBool _)
def DN (P:Program):Op→Bool
 |.move _=>true
 |.assign _=>true
 |.pick ..=>true
 |.fieldAddr s _ i=>Td P s i
 |.indexAddr ..=>true
 |.slice ..=>true
 |_=>false
theorem aqG {o:Oper}(hp:DN P o.op=true)(ρ:Operand→Value):(∃v,∀w,(execOp ρ o).run P w=.ok (.value v) w)∨∀w,∃h w',(execOp ρ o).run P w=.halt h w':=by
 have key:∀s:Sem Value,aA P s→(∃v,∀w,(do Pure.pure (Next.value (←s)):Sem Next).run P w=.ok (.value v) w)∨∀w,∃h w',(do Pure.pure (Next.value (←s)):Sem Next).run P w=.halt h w':=by
  intro s hs;rcases hs with⟨a,ha⟩|hd
  ·exact .inl ⟨a,fun w=>by rw[Sem.run_bind,ha w];rfl⟩
  ·refine .inr fun w=>?_;obtain⟨x,w',e⟩:=hd w;exact⟨x,w',by rw[Sem.run_bind,e];rfl⟩
 obtain⟨dst,op,type,pos,after,guard⟩:=o;cases op<;>first|(cases hp;done)|skip
 case move x=>exact .inl ⟨_,fun w=>rfl⟩
 case assign x=>exact .inl ⟨_,fun w=>rfl⟩
 case pick c a b=>
  have:=key (do Pure.pure (if←Go.asBool (ρ c) then ρ a else ρ b)) (.bind (.asBool _) fun _=>.pure _);simp only[execOp];rcases aA.asBool (P:=P) (ρ c) with⟨t,ht⟩|hd
  ·exact .inl ⟨_,fun w=>by rw[Sem.run_bind,ht w];rfl⟩
  ·refine .inr fun w=>?_;obtain⟨x,w',e⟩:=hd w;exact⟨x,w',by rw[Sem.run_bind,e];rfl⟩
 case fieldAddr s x i=>exact key _ (.fieldAt hp _)
 case indexAddr t x i=>exact key _ (.indexAt _ _ _)
 case slice t x lo hi mx=>exact key _ (.sliceAt _ _ _ _ _)
theorem aqH {rd:Option Nat}{ops:Array Oper}{i:Nat}{o:Oper}{a:Act}{w:World}{K:Act→World→Prop}(hi:ops[i]?=some o)(hp:DN P o.op=true)
 (h:wpOpIn (FR rd) 0 P ops (fun _ _ _=>False) i K a w):∃v,YieldsFenced P ops o v a∧K (a.put o.dst v) w:=by
 have bS:∀c,o.op≠.defer c:=fun c e=>by rw[e] at hp;cases hp
 have zr:∀w,o.about P w a.eval=none:=fun w=>by
  unfold Oper.about;cases ho:o.op<;>first|rfl|(rw[ho] at hp;cases hp)
 unfold wpOpIn at h;rw[hi] at h;dsimp only at h;cases hw:Region.wanted o (yielded ops a.tmps) with
 |false=>
  rw[hw] at h;exact⟨undef,⟨.inr ⟨hw,rfl⟩,zr⟩,h.2⟩
 |true=>
  rw[hw,if_pos rfl] at h;have h2:=h.2;rw[Oper.semAt_eq _ _ _ bS] at h2;rcases aqG hp a.eval with⟨v,hv⟩|hd
  ·rw[hv w] at h2;exact⟨v,⟨.inl ⟨hw,hv⟩,zr⟩,h2⟩
  ·obtain⟨x,w',e⟩:=hd w;rw[e] at h2;cases x<;>exact h2.elim
section
variable {F:Fence} {n:Nat} {ops:Array Oper} {Q:Exit→Act→World→Prop} {md:Region.Mode}
theorem YF.wpOpIn {i:Nat}{o:Oper}{v:Value}{a:Act}(bS:p8 o.op=true)(hi:ops[i]?=some o)(hy:YieldsFenced P ops o v a)
 {K:Act→World→Prop} {w:World} (h:K (a.put o.dst v) w):wpOpIn F n P ops Q i K a w:=by
 have ly:∀c,o.op≠.defer c:=fun c e=>by rw[e] at bS;cases bS
 unfold Go.wpOpIn;simp only[hi];have zr:∀f,o.about P w a.eval=some f→F.fn f:=fun f hf=>by rw[hy.2 w] at hf;cases hf
 rcases hy.1 with⟨hw,hv⟩|⟨hw,rfl⟩
 ·simp only[hw,if_true,Oper.wpIn,Oper.semAt_eq _ _ _ ly,hv w,Oper.uponIn];exact⟨zr,h⟩
 ·simp only[hw,xx,if_false];exact⟨zr,h⟩
theorem awu {j:Nat}{oi oj:Oper}{v:Value}(bS:p8 oj.op=true)(hj:ops[j]?=some oj)(NY:oi.apart ops oj=true)
 (vR:∀cs b,oi.op≠.select cs b) (hsj:∀cs b,oj.op≠.select cs b)
 (hQ:∀c a w,Q (.panic c) (a.put oi.dst v) w→Q (.panic c) a w) {K:Act→World→Prop} {a:Act} {w:World}
 (hy:YieldsFenced P ops oi v a) (h:wpOpIn F n P ops Q j K (a.put oi.dst v) w):
 wpOpIn F n P ops Q j (fun a' w'=>YieldsFenced P ops oi v a'∧K (a'.put oi.dst v) w') a w:=by
 have ly:∀c,oj.op≠.defer c:=fun c e=>by rw[e] at bS;cases bS
 obtain⟨h1,h2,h3⟩:=Oper.apart_spec NY;have keep:∀(a:Act),YieldsFenced P ops oi v a→∀u,YieldsFenced P ops oi v (a.put oj.dst u):=fun a hy u=>
  hy.of_same (execOp_put oi vR a oj.dst u h3) (wanted_put oi a oj.dst u h3) (fun w=>about_put oi w a oj.dst u h3)
 have anB:∀d,YieldsFenced P ops oi v {a with defers:=d::a.defers}:=fun d=>hy.of_same rfl rfl (fun _=>rfl);unfold Go.wpOpIn at*;simp only[hj] at*;rw[wanted_put oj a oi.dst v h1,about_put oj w a oi.dst v h1] at h;split
 ·rename_i hw;simp only[hw,if_true] at h;unfold Oper.wpIn at*;rw[about_put oj w a oi.dst v h1] at h;refine⟨h.1,?_⟩;have h:=h.2;rw[Oper.semAt_eq _ _ _ ly,execOp_put oj hsj a oi.dst v h1] at h;rw[Oper.semAt_eq _ _ _ ly];generalize (execOp a.eval oj).run P w=r at*;cases r with
  |ok x w'=>
   cases x<;>simp only[Oper.uponIn] at h ⊢
   case value u=>exact⟨keep a hy u,by rw[←Act.put_comm a v u h2];exact h⟩
   case skip=>exact⟨keep a hy _,by rw[←Act.put_comm a v undef h2];exact h⟩
   case defer d=>
        refine⟨keep _ (anB d) _,?_⟩;rw[←Act.put_comm _ v undef h2,←Act.put_defers];exact h
   case enter f args=>
        refine⟨h.1,CallsIn.mono h.2 fun e kg he=>?_⟩;cases e with
        |returned u=>exact⟨keep a hy u,by rw[←Act.put_comm a v u h2];exact he⟩
        |panicked c=>exact hQ _ _ _ he
        |outgrown=>exact he
   case row row args=>exact⟨h.1,RowsIn.mono h.2 fun u kg he=>⟨keep a hy u,by rw[←Act.put_comm a v u h2];exact he⟩⟩
   case round l f tmps assign body=>
        refine⟨h.1,RoundIn.mono h.2 fun e kg he=>?_⟩;cases e with
        |returned u=>exact⟨keep a hy u,by rw[←Act.put_comm a v u h2];exact he⟩
        |panicked c=>exact hQ _ _ _ he
        |outgrown=>exact he
  |halt x w'=>
   cases x<;>simp only[Oper.uponIn] at h ⊢
   case panic u=>exact hQ _ _ _ h
 ·rename_i hw;simp only[hw] at h;exact⟨h.1,keep a hy _,by rw[←Act.put_comm a v undef h2];exact h.2⟩
theorem awt {i:Nat}{oi:Oper}{v:Value}(bS:∀(j:Nat) (o:Oper),ops[j]?=some o→p8 o.op=true)(hi:ops[i]?=some oi)(tD:∀(j:Nat) (o:Oper) cs b,ops[j]?=some o→o.op≠.select cs b)
 (hQ:∀c a w,Q (.panic c) (a.put oi.dst v) w→Q (.panic c) a w):
 ∀(fuel:Nat) (listed:Array Bool) (a:Act) (w:World),
  (∀j oj,ops[j]?=some oj→j≠i→listed.getD j true=false→(∀e∈oj.after,Region.binds md e=true→e.on≠i)→oi.apart ops oj=true)→
  i∈Region.ready md ops listed→YieldsFenced P ops oi v a→
  wpAnyIn F n P md ops Q fuel (listed.setIfInBounds i true) (a.put oi.dst v) w→wpAnyIn F n P md ops Q (fuel+1) listed a w:=by
 intro fuel
 induction fuel with
 |zero=>
  intro listed a w _ hr hy H;refine⟨fun h=>(by rw[h] at hr;cases hr),fun j hj=>?_⟩;by_cases lx:j=i
  ·subst lx;exact YF.wpOpIn (bS _ _ hi) hi hy H
  ·have:=ready_mono hj lx;rw[H.1] at this;cases this
 |succ fuel ih=>
  intro listed a w pO hr hy H;refine⟨fun h=>(by rw[h] at hr;cases hr),fun j hj=>?_⟩;by_cases lx:j=i
  ·subst lx;exact YF.wpOpIn (bS _ _ hi) hi hy H
  ·have h1:=H.2 j (ready_mono hj lx);obtain⟨Za,oj,I0,aW⟩:=mem_ready.1 hj
   have OH:∀e∈oj.after,Region.binds md e=true→e.on≠i:=fun e he hb heq=>by
        have h1:=aW e he hb;have h0:=(mem_ready.1 hr).1;rw[heq] at h1;rcases L4 i listed.size with h'|h'
        ·simp[h'] at h0 h1;rw[h0] at h1;cases h1
        ·simp[Array.getElem?_eq_none h'] at h1
   have h2:=awu (bS _ _ I0) I0 (pO j oj I0 lx Za OH) (fun cs b=>tD i oi cs b hi) (fun cs b=>tD j oj cs b I0) hQ hy h1;have alf:∀k ok,ops[k]?=some ok→k≠i→(listed.setIfInBounds j true).getD k true=false→
    (∀e∈ok.after,Region.binds md e=true→e.on≠i)→oi.apart ops ok=true:=fun k ok hk hki mu eT=>by
        refine pO k ok hk hki ?_ eT;by_cases vH:j=k
        ·subst vH;exact Za
        ·rw[getD_set_ne true vH] at mu;exact mu
   refine wpOpIn_mono (fun a' w' h3=>ih (listed.setIfInBounds j true) a' w' alf (ready_mono hr (sJ lx)) h3.1 ?_) h2;rw[Array.setIfInBounds_comm _ _ lx];exact h3.2
end
end
def qU (P:Program)(ops:Array Oper):List (Option (List Nat)):=(List.range ops.size).map fun i=>match ops[i]? with
 |some oi=>bif DN P oi.op then some ((List.range ops.size).filter fun j=> !(Nat.beq j i||(match ops[j]? with|some oj=>(oj.after.toList.any fun e=>Region.binds .any e&&Nat.beq e.on i)||oi.apart ops oj|none=>true))) else none
 |none=>none
def A2 (bad:List (Option (List Nat)))(E:Nat):List Nat→Option Nat
 |[]=>none
 |i::l=>match bad.getD i none with
  |some b=>bif b.all (aO E) then some i else A2 bad E l
  |none=>A2 bad E l
def PG (ops:Array Oper):Bool:=ops.toList.all fun o=>match o.op with|.select ..=>false|_=>true
theorem Lg {bad:List (Option (List Nat))}{E:Nat}:∀{l:List Nat} {i:Nat},A2 bad E l=some i→i∈l∧∃b,bad.getD i none=some b∧b.all (aO E)=true
 |[],_,h=>by cases h
 |i::l,j,h=>by
  unfold A2 at h;split at h
  ·rename_i b hb;cases hc:b.all (aO E) with
   |true=>
    rw[hc] at h;cases h;exact⟨fF ..,b,hb,hc⟩
   |false=>
    rw[hc] at h;obtain⟨h1,h2⟩:=Lg h;exact⟨fj _ h1,h2⟩
  ·obtain⟨h1,h2⟩:=Lg h;exact⟨fj _ h1,h2⟩
theorem agM {P:Program}{ops:Array Oper}{i:Nat}{b:List Nat}(h:(qU P ops).getD i none=some b):∃oi,ops[i]?=some oi∧DN P oi.op=true∧
 ∀j oj,ops[j]?=some oj→j≠i→j∉b→(∀e∈oj.after,Region.binds .any e=true→e.on≠i)→oi.apart ops oj=true:=by
 unfold qU at h;rw[be,dm] at h;by_cases hi:i<ops.size
 ·rw[pw hi] at h;simp only[kj,ki] at h;rw[jo hi] at h;dsimp only at h;cases hp:DN P ops[i].op<;>rw[hp] at h<;>simp only[cond_true,cond_false] at h
  ·cases h
  injection h with h
  refine⟨ops[i],jo hi,hp,fun j oj hj lx IN eT=>?_⟩;have aq:j<ops.size:=(gl.1 hj).1;rw[←h] at IN;have h2:¬(!(Nat.beq j i||(match ops[j]? with|some oj=>(oj.after.toList.any fun e=>Region.binds .any e&&Nat.beq e.on i)||ops[i].apart ops oj|none=>true)))=true:=fun hc=>IN (gC.2 ⟨gm.2 aq,hc⟩);rw[hj,fQ lx] at h2;simp only[Bool.false_or,kh,Bool.not_eq_false,kV] at h2;rcases h2 with h2|h2
  ·obtain⟨e,he,hb⟩:=xC.1 h2;rw[ay] at hb;exact absurd (dj hb.2) (eT e (by simpa using he) hb.1)
  ·exact h2
 ·rw[qI (by simpa using hi)] at h;cases h
def Dn (E:Nat)(T:Snap):List (Nat×Snap)→Option (List (Nat×Snap))
 |[]=>some [(E,T)]
 |x::l=>bif Nat.beq x.1 E then(bif x.2.beq T then some (x::l) else none) else(Dn E T l).map (x::·)
def nJ (ops:Array Oper)(E:Nat):List Nat:=
 (List.range ops.size).filter fun i=> !aO E i&&(match ops[i]? with|some o=>o.after.toList.all fun e=> !Region.binds .any e||aO E e.on|none=>false)
def QD (C:Ctx)(ops:Array Oper)(n:Nat)(ids:List Nat)(X:List (List PI))(nc:List (List Nat))(E:Nat)(T:Snap)(i:Nat):Option (Nat×Snap):=
 match ops[i]? with
 |some o=>(vi C (T.stO ids) ops o).bind fun r=>
  bif PI.beqs r.2 (X.getD i [])&&(nc.getD i []).all (aO E) then some (Nat.lor E (gp i),⟨A1 (j9 r.1) r.1 T.rs o.dst.toList,ids.map fun j=>iN r.1 (r.1.o j)⟩) else none
 |none=>none
def Fq (one:Nat→Option (Nat×Snap)):List Nat→List (Nat×Snap)→Option (List (Nat×Snap))
 |[],acc=>some acc
 |i::l,acc=>(one i).bind fun x=>x.2.hard fun T=>(Dn x.1 T acc).bind fun acc=>Fq one l acc
def nX (ops:Array Oper)(bad:List (Option (List Nat)))(E:Nat):List Nat:=
 match A2 bad E (nJ ops E) with
 |some i=>[i]
 |none=>nJ ops E
def Dw (ops:Array Oper)(bad:List (Option (List Nat)))(one:Nat→Snap→Nat→Option (Nat×Snap)):List (Nat×Snap)→List (Nat×Snap)→Option (List (Nat×Snap))
 |[],acc=>some acc
 |x::l,acc=>
  match nX ops bad x.1 with
  |[]=>none
  |rs=>(Fq (one x.1 x.2) rs acc).bind fun acc=>Dw ops bad one l acc
def Fo (ops:Array Oper)(bad:List (Option (List Nat)))(one:Nat→Snap→Nat→Option (Nat×Snap)):Nat→List (Nat×Snap)→Option Snap
 |0,L=>
  match L with
  |[x]=>bif (List.range ops.size).all (aO x.1) then some x.2 else none
  |_=>none
 |k+1,L=>(Dw ops bad one L []).bind fun L=>Fo ops bad one k L
theorem Z2 {E:Nat}{T:Snap}:∀{l l':List (Nat×Snap)},Dn E T l=some l'→(E,T)∈l'∧∀x,x∈l→x∈l'
 |[],l',h=>by simp only[Dn,bp] at h;subst h;simp
 |x::l,l',h=>by
  simp only[Dn] at h;cases hb:Nat.beq x.1 E<;>simp only[hb,cond_true,cond_false] at h
  ·simp only[aK] at h;obtain⟨l2,h2,rfl⟩:=h;obtain⟨h3,h4⟩:=Z2 h2;exact⟨fj _ h3,fun y hy=>(di.1 hy).elim (fun e=>e▸fF ..) fun hm=>fj _ (h4 y hm)⟩
  ·cases hs:x.2.beq T<;>simp only[hs,cond_true,cond_false] at h
   ·cases h
   ·cases h;refine⟨?_,fun y hy=>hy⟩;have e1:=dj hb;have e2:=Snap.beq_eq _ _ hs;subst e1;subst e2;simp
theorem ae3 {one:Nat→Option (Nat×Snap)}:∀{rs:List Nat} {acc Bv:List (Nat×Snap)},Fq one rs acc=some Bv→(∀x,x∈acc→x∈Bv)∧∀i,i∈rs→∃x,one i=some x∧x∈Bv
 |[],acc,Bv,h=>by simp only[Fq,bp] at h;subst h;simp
 |i::rs,acc,Bv,h=>by
  simp only[Fq,Snap.hard_eq,aB] at h;obtain⟨x,hx,agv,h1,h2⟩:=h;obtain⟨h3,h4⟩:=Z2 h1;obtain⟨h5,h6⟩:=ae3 h2;refine⟨fun y hy=>h5 y (h4 y hy),fun j hj=>?_⟩;rcases di.1 hj with e|hm
  ·subst e;exact⟨x,hx,h5 _ h3⟩
  ·exact h6 j hm
theorem aam {ops:Array Oper}{bad:List (Option (List Nat))}{one:Nat→Snap→Nat→Option (Nat×Snap)}:∀{L acc L':List (Nat×Snap)},Dw ops bad one L acc=some L'→
 (∀x,x∈acc→x∈L')∧∀x,x∈L→nX ops bad x.1≠[]∧∀i,i∈nX ops bad x.1→∃y,one x.1 x.2 i=some y∧y∈L'
 |[],acc,L',h=>by simp only[Dw,bp] at h;subst h;simp
 |x::L,acc,L',h=>by
  simp only[Dw] at h;split at h
  ·cases h
  ·rename_i aC;simp only[aB] at h;obtain⟨agv,h1,h2⟩:=h;obtain⟨h3,h4⟩:=ae3 h1;obtain⟨h5,h6⟩:=aam h2;refine⟨fun y hy=>h5 y (h3 y hy),fun y hy=>?_⟩;rcases di.1 hy with e|hm
   ·subst e;refine⟨fun e=>aC e,fun i hi=>?_⟩;obtain⟨z,hz,hm⟩:=h4 i hi;exact⟨z,hz,h5 z hm⟩
   ·exact h6 y hm
def fD (X:List (List PI))(l:List Nat)(E:Nat):List PI:=l.flatMap fun i=>bif aO E i then[] else X.getD i []
theorem SV {X:List (List PI)}{E E':Nat}:∀(l:List Nat),(∀i,i∈l→aO E i=aO E' i)→fD X l E=fD X l E'
 |[],_=>rfl
 |i::l,h=>by
  have ih:=SV (X:=X) l fun j hj=>h j (fj _ hj);unfold fD at ih ⊢;simp only[Bj];rw[ih,h i (fF ..)]
theorem Foot.comm_each {a b:List PI}(h:(gE a).comm (gE b)=true):∀p q,p∈a→q∈b→Comm p q:=by
 simp only[Foot.comm,ay] at h;obtain⟨h1,h2,h3,h4,h5,h6⟩:=h;intro p q hp hq;obtain⟨p1,p2,p3,p4⟩:=X6 hp;obtain⟨q1,q2,q3,q4⟩:=X6 hq;exact⟨fun t x y=>Pp h1 (p1 t x) (q1 t y),fun t x y=>Pp h2 (p1 t x) (q3 t y),fun t x y=>Pp h3 (q1 t x) (p3 t y),fun t x y=>Mm h4 (p2 t x) (q2 t y),fun t x y=>Mm h5 (p2 t x) (q4 t y),fun t x y=>Mm h6 (q2 t x) (p4 t y)⟩
def Al (X:List (List PI))(N:Nat):List (List Nat):=
 (List.range N).map fun i=>(List.range i).filter fun j=> !(gE (X.getD j [])).comm (gE (X.getD i []))
theorem vb (E i j:Nat):aO (Nat.lor E (gp i)) j=(aO E j||Nat.beq i j):=by
 rw[fR]
 congr 1
 rw[va];show(1<<<i).testBit j=_;rw[Nat.testBit_shiftLeft];by_cases h:i=j
 ·subst h;simp
 ·have h1:Nat.beq i j=false:=fQ h;rw[h1];by_cases h2:i≤j
  ·have:j-i≠0:=by omega
   cases hk:j-i with
   |zero=>omega
   |succ k=>
    have:(1:Nat).testBit (k+1)=false:=by simp[Nat.testBit_succ]
    simp[this]
  ·simp[h2]
theorem ar1 {X:List (List PI)}{N E i:Nat}(hi:i<N)(hb:aO E i=false)(fK:((Al X N).getD i []).all (aO E)=true)(Φ:aR)(ρ:Env):
 PI.runs Φ (fD X (List.range N) E) ρ=(PI.runs Φ (X.getD i []) ρ).bind (PI.runs Φ (fD X (List.range N) (Nat.lor E (gp i)))):=by
 obtain⟨l1,l2,hl⟩:=List.append_of_mem (gm.2 hi);have hp:=List.pairwise_lt_range (n:=N);rw[hl,List.pairwise_append] at hp;obtain⟨_,fX,hp3⟩:=hp;rw[WH] at fX;have lt1:∀j,j∈l1→j<i:=fun j hj=>hp3 j hj i (fF ..);have lt2:∀j,j∈l2→i<j:=fun j hj=>fX.1 j hj;have e0:∀E,fD X (l1++i::l2) E=fD X l1 E++((bif aO E i then[] else X.getD i [])++fD X l2 E):=fun E=>by simp[fD]
 have e1:fD X l1 (Nat.lor E (gp i))=fD X l1 E:=SV l1 fun j hj=>by
  rw[vb,fQ (by have:=lt1 j hj;omega),LK]
 have e2:fD X l2 (Nat.lor E (gp i))=fD X l2 E:=SV l2 fun j hj=>by
  rw[vb,fQ (by have:=lt2 j hj;omega),LK]
 have e3:aO (Nat.lor E (gp i)) i=true:=by rw[vb,lU,qF]
 rw[hl,e0,e0,e1,e2,e3,hb];simp only[cond_true,cond_false,uT]
 have akY:PI.runs Φ (fD X l1 E++X.getD i [])=PI.runs Φ (X.getD i []++fD X l1 E):=funext fun ρ=>PI.comms _ _ (fun p q hp hq=>by
  unfold fD at hp;obtain⟨j,hj,hp⟩:=FL.1 hp;cases YA:aO E j<;>simp only[YA,cond_true,cond_false] at hp
  case true=>cases hp
  have hc:(gE (X.getD j [])).comm (gE (X.getD i []))=true:=by
   cases hZ:(gE (X.getD j [])).comm (gE (X.getD i [])) with
   |true=>rfl
   |false=>
    have tj:(Al X N).getD i []=(List.range i).filter fun j=> !(gE (X.getD j [])).comm (gE (X.getD i [])):=by
     unfold Al;rw[be,dm,pw hi];rfl
    rw[tj] at fK;have:=eQ.1 fK j (gC.2 ⟨gm.2 (lt1 j hj),by rw[hZ];rfl⟩);rw[YA] at this;cases this
  exact Foot.comm_each hc p q hp hq) ρ
 rw[←nS,sn,akY];have:=sn (Φ:=Φ) (a:=X.getD i []) (b:=fD X l1 E) (ρ:=ρ);rw[this,Option.bind_assoc]
 congr 1
 funext ρ1;rw[sn]
def eZ (C:Ctx)(ops:Array Oper):List Nat→St→Option (List (List PI))
 |[],_=>some []
 |i::l,S=>
  match ops[i]? with
  |some o=>(vi C S ops o).bind fun r=>(eZ C ops l r.1).map fun q=>r.2::q
  |none=>none
def Yd (ops:Array Oper):Bool:=(List.range ops.size).all fun i=>match ops[i]? with
 |some o=>(match o.guard with|some (j,_)=>Nat.blt j i|none=>true)
 |none=>true
def Ik (ops:Array Oper):Bool:=ops.toList.all fun o=>match o.guard with
 |some (j,_)=>o.after.toList.any fun e=>Region.binds .any e&&Nat.beq e.on j
 |none=>true
section
variable {C:Ctx} {S:St} {f:Nat→Sh} {gs:List (Nat×Bool)} {dst:Nat}
end
section
variable {C:Ctx} {S:St} {f:Nat→Sh} {gs:List (Nat×Bool)} {dst:Nat}
end
section
variable {C:Ctx} {S:St} {ρ:Env} {σ:Im} {own:Nat→Option Nat} {hv:Nat→Value} {w0:World} {σ0:Base} {A:Nat→Prop} {a:Act} {w:World} {n:Nat} {ids:List Nat} {Φ:aR}
theorem aCC {ops:Array Oper}{listed:Array Bool}{E:Nat}(bh:listed.size=ops.size)(hl:∀i,listed.getD i false=aO E i)(i:Nat):i∈Region.ready .any ops listed↔i∈nJ ops E:=by
 unfold Region.ready nJ;simp only[gC,gm];refine and_congr_right fun hi=>?_;have h1:listed.getD i true=aO E i:=by
  rw[←hl i];simp only[gA];rw[jo (by omega)];rfl
 have h2:ops[i]?=some ops[i]:=jo hi;rw[h1,h2];simp only[kj,ki,←Array.all_toList,hl]
end
def KT (C:Ctx)(n:Nat)(ids:List Nat)(ops:Array Oper)(draw:Bool)(S:Snap):Option (Snap×List PI):=
 bif AX n ops then
    bif draw then
     bif Ik ops&&PG ops&&C.P.follows .mixedOrders then
        (eZ C ops (List.range ops.size) (S.st ids)).bind fun X=>CC X fun X=>CC (Al X ops.size) fun nc=>
         (Snap.hard ⟨S.rs.map fun s=>j9 (S.st ids) (cG s),ids.map fun j=>iN (S.st ids) ((S.st ids).o j)⟩ fun T0=>Fo ops (qU C.P ops) (QD C ops n ids X nc) ops.size [(0,T0)]).map fun T=>(⟨T.rs.map (gQ (T.stO ids)),ids.map fun j=>iN (T.stO ids) ((T.stO ids).o j)⟩,X.flatten)
     else none
    else bif Yd ops then(sS C ops (List.range ops.size) (S.st ids)).map fun r=>(⟨A1 (gQ r.1) r.1 S.rs (ops.toList.filterMap (·.dst)),ids.map fun j=>iN r.1 (r.1.o j)⟩,r.2) else none
 else none
def KS (C:Ctx)(n:Nat)(ids:List Nat)(ops:Array Oper)(draw:Bool)(S:Snap):Option (Snap×List PI):=
 (KT C n ids ops draw S).bind fun r=>r.1.hard fun T=>some (T,r.2)
theorem arX (C:Ctx)(n:Nat)(ids:List Nat)(ops:Array Oper)(draw:Bool)(S:Snap):KS C n ids ops draw S=KT C n ids ops draw S:=by
 unfold KS;cases KT C n ids ops draw S with
 |none=>rfl
 |some r=>rw[uU,Snap.hard_eq]
def xj (ops:Array Oper)(E:Nat):Nat→Prop:=fun t=>∃i o,aO E i=true∧ops[i]?=some o∧o.dst=some t
section
variable {C:Ctx} {S:St} {ρ:Env} {σ:Im} {own:Nat→Option Nat} {hv:Nat→Value} {w0:World} {σ0:Base} {A:Nat→Prop} {a:Act} {w:World} {n:Nat} {ids:List Nat} {Φ:aR}
theorem KQ {ops:Array Oper}{listed:Array Bool}{E:Nat}(bh:listed.size=ops.size)(hl:∀i,listed.getD i false=aO E i)(i:Nat):i∈Region.ready .any ops listed↔i∈nJ ops E:=by
 unfold Region.ready nJ;simp only[gC,gm];refine and_congr_right fun hi=>?_;have h1:listed.getD i true=aO E i:=by
  rw[←hl i];simp only[gA];rw[jo (by omega)];rfl
 have h2:ops[i]?=some ops[i]:=jo hi;rw[h1,h2];simp only[kj,ki,←Array.all_toList,hl]
theorem asj {rd:Option Nat}(hC:CtxOK C σ0)(bD:dP C)(hΦ:dz C Φ)(hY:qQ C Φ w0 σ0){a0:Act}(hn0:a0.tmps.size=n){ops:Array Oper}(az:AX n ops=true)(gH:Ik ops=true){X:List (List PI)}{Q:Exit→Act→World→Prop}{ρ':Env}(tD:PG ops=true)(hQp:∀c a w,¬Q (.panic c) a w):
 ∀(k:Nat) {L:List (Nat×Snap)} {T:Snap},Fo ops (qU C.P ops) (QD C ops n ids X (Al X ops.size)) k L=some T→
  (∀a' w',SameBut (za ops) a0 a'→Good C w0 σ0 (T.stO ids) ρ' (fun t=>∃E,xj ops E t) a' w'→Q .normal a' w')→
  ∀(E:Nat) (U:Snap),(E,U)∈L→∀(listed:Array Bool) (ρ:Env) (a:Act) (w:World),listed.size=ops.size→(∀i,listed.getD i false=aO E i)→SameBut (za ops) a0 a→
   Good C w0 σ0 (U.stO ids) ρ (xj ops E) a w→PI.runs Φ (fD X (List.range ops.size) E) ρ=some ρ'→wpAnyIn (FR rd) 0 C.P .any ops Q k listed a w:=by
 simp only[AX,ay] at az;have bS:=rK az.1;intro k
 induction k with
 |zero=>
  intro L T hs hQ E U hm listed ρ a w bh hl hn hg ax;simp only[Fo] at hs;split at hs
  case h_2=>cases hs
  rename_i x;cases aW:(List.range ops.size).all (aO x.1)<;>simp only[aW,cond_true,cond_false] at hs
  ·cases hs
  cases hs;simp only[FM] at hm;subst hm;simp only at aW hg hQ ax hl;have zt:=eQ.1 aW;have ak9:fD X (List.range ops.size) E=[]:=by
   unfold fD;rw[List.flatMap_eq_nil_iff];intro i hi;rw[zt i hi];rfl
  rw[ak9] at ax;simp only[PI.runs,bp] at ax;subst ax;refine⟨?_,hQ a w hn ?_⟩
  ·rw[agh];intro i hi;rw[KQ bh hl] at hi;unfold nJ at hi;simp only[gC,ay,kh] at hi;rw[zt i hi.1] at hi;cases hi.2.1
  ·obtain⟨σ,own,hv,h⟩:=hg;exact⟨σ,own,hv,h.defers,h.ok,h.le,h.old,h.newc,h.newm,h.below,h.bw,h.owns,h.regs,h.objs,fun t gs s e=>⟨fun g hm=>⟨E,(h.opts t gs s e).1 g hm⟩,(h.opts t gs s e).2⟩,h.frame⟩
 |succ k ih=>
  intro L T hs hQ E U hm listed ρ a w bh hl hn hg ax;simp only[Fo,aB] at hs;obtain⟨L',hL,hs⟩:=hs;obtain⟨_,cI⟩:=aam hL;obtain⟨aC,O2⟩:=cI _ hm;have al1:nJ ops E≠[]:=fun e=>aC (by unfold nX;rw[e];rfl)
  have cJ:∀i,i∈nX ops (qU C.P ops) E→i∈nJ ops E:=fun i hi=>by
   unfold nX at hi;split at hi
   ·rename_i i' hp;rw[FM.1 hi];exact(Lg hp).1
   ·exact hi
  have step:∀i,i∈nX ops (qU C.P ops) E→∀Q':Exit→Act→World→Prop,wpOpIn (FR rd) 0 C.P ops Q' i (wpAnyIn (FR rd) 0 C.P .any ops Q k (listed.setIfInBounds i true)) a w:=by
   intro i hi Q';obtain⟨y,hy,hyL⟩:=O2 i hi;have hi:=cJ i hi;unfold nJ at hi;simp only[gC,gm,ay,kh] at hi;obtain⟨cf,dL,Oh⟩:=hi;simp only[QD] at hy;split at hy
   case h_2=>cases hy
   rename_i o ho;simp only[aB] at hy;obtain⟨r,hr,hy⟩:=hy;cases hc:(PI.beqs r.2 (X.getD i [])&&((Al X ops.size).getD i []).all (aO E))<;>simp only[hc,cond_true,cond_false] at hy
   ·cases hy
   cases hy;simp only[ay] at hc;have hX:=PI.beqs_eq _ _ hc.1;rw[ar1 cf dL hc.2,aB] at ax;obtain⟨ρ1,hρ1,hρ2⟩:=ax;rw[←hX] at hρ1;rw[ho] at Oh;simp only at Oh;have Og:∀d,o.dst=some d→¬xj ops E d∧d<a.tmps.size:=by
        intro d hd;refine⟨fun⟨i',o',fo,fp,eJ⟩=>?_,?_⟩
        ·have aC:i'≠i:=fun e=>by subst e;rw[dL] at fo;cases fo
         exact H5.dst_once bS fp ho eJ hd aC
        ·have:=eQ.1 az.2 o (by simpa using nQ ho);simp only[hd,ay] at this;rw[hn.size,hn0];simpa [py] using this.2
   have ly:p8 o.op=true:=by
        have:=eQ.1 az.2 o (by simpa using nQ ho);simp only[ay] at this;exact this.1
   have hj:∀j want t,o.guard=some (j,want)→(ops[j]?).bind (·.dst)=some t→xj ops E t:=by
        intro j want t mf ht;rw[aB] at ht;obtain⟨oj,h1,h2⟩:=ht;have YW:=eQ.1 gH o (by simpa using nQ ho);simp only[mf] at YW;obtain⟨e,oy,CH⟩:=xC.1 YW;simp only[ay] at CH;have h3:=eQ.1 Oh e oy;rw[CH.1] at h3;simp only[Bool.not_true,Bool.false_or] at h3;exact⟨j,oj,by rw[←dj CH.2];exact h3,h1,h2⟩
   have main:=Xr (rd:=rd) (K:=wpAnyIn (FR rd) 0 C.P .any ops Q k (listed.setIfInBounds i true)) (Q:=Q') hg hC bD hΦ hY ly Og hj hr hρ1 (fun a' w' j2 tG=>by
        have hA:(fun u=>xj ops E u∨o.dst=some u)=xj ops (Nat.lor E (gp i)):=by
         funext u;apply propext;constructor
         ·rintro(⟨i',o',h1,h2,h3⟩|h1)
          ·exact⟨i',o',by rw[vb,h1,Be],h2,h3⟩
          ·exact⟨i,o,by rw[vb,lU,qF],ho,h1⟩
         ·rintro⟨i',o',h1,h2,h3⟩;rw[vb,kV] at h1;rcases h1 with h1|h1
          ·exact .inl ⟨i',o',h1,h2,h3⟩
          ·rw[←dj h1,ho] at h2;cases h2;exact .inr h3
        rw[hA] at j2
        refine ih hs hQ _ _ hyL _ ρ1 a' w' (by simpa using bh) (fun j=>?_) (hn.trans (tG.mono fun t e=>⟨o,by simpa using nQ ho,e⟩)) (by
         have:=j2.snapO U.rs.length ids
         rw[show r.1.snapO U.rs.length ids=⟨A1 (j9 r.1) r.1 U.rs o.dst.toList,ids.map fun j=>iN r.1 (r.1.o j)⟩ from by
          unfold St.snapO;rw[Lb fun t ht=>?_];rw[Xq hr t (fun e=>ht (by rw[e];simp))];rfl] at this
         exact this) hρ2
        rw[vb];simp only[gA,Bb];by_cases ru:i=j
        ·subst ru;simp[bh,cf]
        ·rw[if_neg ru,fQ ru,LK,←hl j];simp only[gA])
   simp only[wpOpIn,ho];split
   ·rename_i hw;rw[if_pos hw] at main;exact main
   ·rename_i hw;rw[if_neg hw] at main;exact⟨fun _ _=>trivial,main⟩
  cases ON:A2 (qU C.P ops) E (nJ ops E) with
  |none=>
   have j1:nX ops (qU C.P ops) E=nJ ops E:=by unfold nX;rw[ON]
   refine⟨fun he=>?_,fun i hi=>step i (by rw[j1];exact(KQ bh hl i).1 hi) Q⟩;exfalso;refine al1 ?_;rw[agh];intro i hi;rw[←KQ bh hl,he] at hi;cases hi
  |some i=>
   have j1:nX ops (qU C.P ops) E=[i]:=by unfold nX;rw[ON]
   obtain⟨hir,b,hb,akS⟩:=Lg ON;obtain⟨oi,Zq,OO,NY⟩:=agM hb;obtain⟨v,hv,hK⟩:=aqH Zq OO (step i (by rw[j1];simp) _);refine awt (fun j o ho=>?_) Zq (fun j o cs b' ho e=>?_) (fun c a' w' h=>(hQp _ _ _ h).elim) k listed a w (fun j oj hj lx mu eT=>NY j oj hj lx (fun IN=>?_) eT) ((KQ bh hl i).2 hir) hv hK
   ·have:=eQ.1 az.2 o (by simpa using nQ ho);simp only[ay] at this;exact this.1
   ·have:=eQ.1 tD o (by simpa using nQ ho);rw[e] at this;cases this
   ·have h1:=eQ.1 akS j IN;have h2:=hl j;rw[h1] at h2;simp only[gA] at h2 mu;cases zF:listed[j]? with
    |none=>rw[zF] at h2;cases h2
    |some x=>
     rw[zF] at h2 mu;simp only[ki] at h2 mu;rw[h2] at mu;cases mu
theorem aeT {ops:Array Oper}:∀{l:List Nat} {S:St} {X:List (List PI)},eZ C ops l S=some X→X.length=l.length
 |[],S,X,h=>by simp only[eZ,bp] at h;subst h;rfl
 |i::l,S,X,h=>by
  simp only[eZ] at h;split at h
  case h_2=>cases h
  simp only[aB,aK] at h;obtain⟨r,_,q,hq,rfl⟩:=h;simp[aeT hq]
theorem ar2 (X:List (List PI)):fD X (List.range X.length) 0=X.flatten:=by
 have h0:∀i,aO 0 i=false:=fun i=>by rw[va];simp
 have key:∀(Y Z:List (List PI)),fD (Y++Z) (List.range' Y.length Z.length) 0=Z.flatten:=by
  intro Y Z
  induction Z generalizing Y with
  |nil=>rfl
  |cons z Z ih=>
   have:=ih (Y++[z]);simp only[nS,List.singleton_append,lT,mU,qK,lV] at this;rw[mU,L0];have e:fD (Y++z::Z) (Y.length::List.range' (Y.length+1) Z.length) 0=(Y++z::Z).getD Y.length []++fD (Y++z::Z) (List.range' (Y.length+1) Z.length) 0:=by
        unfold fD;rw[Bj,h0];rfl
   rw[e,this,WB]
   congr 1
   simp[be]
 have:=key [] X;simp only[uT,qK] at this;rw[L1];exact this
theorem arY (bD:dP C)(hΦ:dz C Φ):L7 C n ids Φ (KS C n ids):=by
 intro id ops draw S r hr rd w0 σ0 ρ ρ' a w Q hC hY hn hg ax hQ;rw[arX] at hr;unfold KT at hr;cases az:AX n ops<;>simp only[az,cond_true,cond_false] at hr
 ·cases hr
 cases draw with
 |false=>
  simp only[cond_false] at hr;cases YT:Yd ops<;>simp only[YT,cond_true,cond_false] at hr
  ·cases hr
  simp only[aK] at hr;obtain⟨q,hq,rfl⟩:=hr;refine wpIn_region ?_
  have tE:xh ops []=fun _=>False:=by
   funext t;apply propext;constructor
   ·rintro⟨i,o,h,_⟩;cases h
   ·intro h;exact h.elim
  refine H5 hC bD hΦ hY az (List.range ops.size) [] (by simpa using WG) (fun p i q o j want hl ho mf=>?_) hn (by rw[tE];exact hg) hq ax (fun a' w' iz j2=>hQ a' w' iz (by
   have:=j2.snapF S.rs.length ids
   rw[show q.1.snap S.rs.length ids=⟨A1 (gQ q.1) q.1 S.rs (ops.toList.filterMap (·.dst)),ids.map fun j=>iN q.1 (q.1.o j)⟩ from by
        unfold St.snap;rw[Lb fun t ht=>?_];rw[Xs hq t (fun i o hi ho e=>ht (xF.2 ⟨o,by simpa using nQ ho,e⟩))];show _=gQ q.1 (cG (S.rs.getD t .none));cases S.rs.getD t .none<;>rfl] at this
   exact this))
  have hi:i<ops.size:=by
   have:i∈List.range ops.size:=by rw[hl];simp
   exact gm.1 this
  have hb:=eQ.1 YT i (gm.2 hi);rw[ho] at hb;simp only[mf,py] at hb;have hp:=List.pairwise_lt_range (n:=ops.size);have tn:j∈List.range ops.size:=gm.2 (by omega);rw[hl,List.pairwise_append] at hp;obtain⟨_,fX,_⟩:=hp;rw[WH] at fX;rw[hl,dp] at tn;simp only[uT];rcases tn with hm|hm
  ·exact hm
  ·rcases di.1 hm with e|hm
   ·omega
   ·have:=fX.1 j hm;omega
 |true=>
  simp only[cond_true] at hr;cases gH:(Ik ops&&PG ops&&C.P.follows .mixedOrders)<;>simp only[gH,cond_true,cond_false] at hr
  ·cases hr
  simp only[ay] at gH;have tD:=gH.1.2
  replace gH:Ik ops=true∧C.P.follows .mixedOrders=true:=⟨gH.1.1,gH.2⟩
  have h0:∀i,aO 0 i=false:=fun i=>by rw[va];simp
  simp only[Yu,Snap.hard_eq,aB,aK] at hr;obtain⟨X,hX,T,hT,rfl⟩:=hr;refine wpIn_mono (Q:=fun e a w=>(∀c,e≠.panic c)∧Q e a w) ?_ fun e a w h=>h.2;refine wpIn_region_any gH.2 ?_
  have tE:xj ops 0=fun _=>False:=by
   funext t;apply propext;constructor
   ·rintro⟨i,o,h,_⟩;rw[h0] at h;cases h
   ·intro h;exact h.elim
  have hlen:=aeT hX;rw[List.length_range] at hlen
  refine asj (w0:=w0) hC bD hΦ hY hn az gH.1 (ρ':=ρ') tD (fun c a w h=>h.1 c rfl) ops.size hT (fun a' w' iz j2=>⟨fun c e=>(by cases e),hQ a' w' iz (by
   have:=j2.snapF T.rs.length ids
   rw[show(T.stO ids).snap T.rs.length ids=⟨T.rs.map (gQ (T.stO ids)),ids.map fun j=>iN (T.stO ids) ((T.stO ids).o j)⟩ from by
        unfold St.snap;have:=Lb (g:=gQ (T.stO ids)) (S:=T.stO ids) (rs:=T.rs) (ds:=[]) (fun t _=>rfl);rw[←this];rfl] at this
   exact this)⟩) 0 _ (FM.2 rfl) _ ρ a _ (by simp) (fun i=>?_) (.refl _ _) ?_ ?_
  ·rw[h0];simp only[gA,Array.getElem?_replicate];split<;>rfl
  ·rw[tE];have:=(hg.drew).snapO S.rs.length ids
   rw[show(S.st ids).snapO S.rs.length ids=⟨S.rs.map fun s=>j9 (S.st ids) (cG s),ids.map fun j=>iN (S.st ids) ((S.st ids).o j)⟩ from by
        unfold St.snapO
        have:=Lb (g:=fun s=>j9 (S.st ids) (cG s)) (S:=S.st ids) (rs:=S.rs) (ds:=[]) (fun t _=>by
         show j9 _ (cG (S.rs.getD t .none))=j9 _ (cG (cG (S.rs.getD t .none)));cases S.rs.getD t .none<;>rfl)
        have h2:(fun t=>j9 (S.st ids) (cG ((S.st ids).r t)))=fun t=>j9 (S.st ids) ((S.st ids).r t):=by
         funext t;show j9 _ (cG (cG (S.rs.getD t .none)))=j9 _ (cG (S.rs.getD t .none));cases S.rs.getD t .none<;>rfl
        rw[h2] at this;rw[←this];rfl] at this
   exact this
  ·rw[←hlen,ar2];exact ax
end
end Cx
namespace Cx
open Go Go.RowKit
def XN (m:Nat)(s:Sig):Snap:=⟨s.args.map .dat++List.replicate (m-s.args.length) .none,[]⟩
def l8 (ds:List D):Env:=⟨fun t=>ds.getD t .none,fun _=>.none⟩
def y9 (C:Ctx)(fn:Func)(s:Sig)(ids:List Nat)(S0:Snap):Option PC:=
 match fn.body with
 |some c=>
  (comp C fn s fn.ntmps ids (KS C fn.ntmps ids) false c S0).bind fun r=>
    match r.out with
    |none=>some r.pc
    |some S=>(xf C fn s (S.st ids)).map fun e=>.seq r.pc (.ret e)
 |none=>none
def l5 (C:Ctx)(fn:Func)(s:Sig)(ids:List Nat):Option PC:=
 match C.yl with
 |none=>
  match s.mode with
  |.ob _ _=>none
  |_=>bif Nat.ble s.args.length fn.ntmps then y9 C fn s ids (XN fn.ntmps s) else none
 |some _=>none
theorem aas:∀(ids:List Nat) (j:Nat),dX ids [] j=.dead
 |[],_=>rfl
 |_::_,_=>rfl
theorem Xp {C:Ctx}{Φ:aR}(bD:dP C)(hΦ:dz C Φ)(fG:fP C Φ){fn:Func}{s:Sig}{ids:List Nat}{S0:Snap}{pc:PC}{c:Code}(hb:fn.body=some c)(hc:y9 C fn s ids S0=some pc){w0:World}{σ0:Base}(oz:σ0.fin)(hC:CtxOK C σ0)(hY:qQ C Φ w0 σ0)
 {N:Nat} {ρ:Env} {d:D} {a:Act} {w:World} (hn:a.tmps.size=fn.ntmps) (hg:Good C w0 σ0 (S0.st ids) ρ (fun _=>False) a w) (he:pc.ev Φ N ρ=some (.ret d)):
 c.wpIn (FR none) 0 C.P (fun e a' w'=>(e=.normal∨e=.ret)∧qN C w0 σ0 fn s d a'.tmps a'.defers w'∧SameBut (fun t=>t∈cH c) a a') a w:=by
 unfold y9 at hc;rw[hb] at hc;simp only[aB] at hc;obtain⟨r,hr,hc⟩:=hc;have O1:=fun x hx=>ahB (fn:=fn) (s:=s) (N:=N) fG (arY (n:=fn.ntmps) (ids:=ids) bD hΦ) c false S0 r hr none w0 σ0 (fun t=>t∈cH c) ρ x a w (fun _=>⟨rfl,oz⟩) hC hY (fun _ h=>h) hn hg hx;split at hc
 ·rename_i jD;cases hc;refine wpIn_mono (O1 (.ret d) he) fun e a' w' ho=>?_;cases e with
  |normal=>obtain⟨_,_,h,_⟩:=ho;cases h
  |exit id=>obtain⟨_,_,h,_⟩:=ho;cases h
  |ret=>obtain⟨d',h,h2⟩:=ho;cases h;exact⟨.inr rfl,h2⟩
  |_=>exact ho.elim
 ·rename_i S jD;simp only[aK] at hc;obtain⟨pe,tu,rfl⟩:=hc;simp only[PC.ev] at he;split at he
  ·rename_i ρ1 h1;cases he;refine wpIn_mono (O1 (.next ρ1) h1) fun e a' w' ho=>?_;cases e with
   |normal=>
    obtain⟨ρ2,S2,e1,e2,IW,ia⟩:=ho;cases e1;rw[jD] at e2;cases e2;obtain⟨σ2,own,hv,hi⟩:=ia;exact⟨.inl rfl,Inv.retD hC (fun _=>rfl) oz tu _ hi rfl,IW⟩
   |exit id=>obtain⟨_,_,h,_⟩:=ho;cases h
   |ret=>obtain⟨d',h,h2⟩:=ho;cases h
   |_=>exact ho.elim
  ·rename_i aC;refine wpIn_mono (O1 (.ret d) he) fun e a' w' ho=>?_;cases e with
   |normal=>obtain⟨_,_,h,_⟩:=ho;cases h
   |exit id=>obtain⟨_,_,h,_⟩:=ho;cases h
   |ret=>obtain⟨d',h,h2⟩:=ho;cases h;exact⟨.inr rfl,h2⟩
   |_=>exact ho.elim
theorem qN.leaves {C:Ctx}{w0:World}{σ0:Base}{fn:Func}{s:Sig}{d:D}{tmps:Array Value}{R:Ending→World→Prop}(hR:∀w',L9 C w0 σ0 fn s d {tmps:=tmps,defers:=[]} w'→∃v,(results fn tmps).run C.P w'=.ok v w'∧R (.returned v) w'):
 ∀(ds:List Deferred) (w:World),qN C w0 σ0 fn s d tmps ds w→LeavesInM (FR none) 0 C.P fn tmps R ds .returning w
 |[],w,h=>hR w h
 |x::ds,w,⟨D,h1,h2,h3⟩=>⟨by simp,.inl ⟨D,_,h1,run_takeDeferred h2,qN.leaves hR ds _ h3⟩⟩
theorem aiD {C:Ctx}{σ:Im}{w:World}{args:Array Value}{ds:List D}{s:Sig}{m:Nat}{ids:List Nat}(az:σ.ok w)(ha:pq C σ s.args args.toList ds):
 Good C w (Base.mk0 σ w.heap.size) ((XN m s).st ids) (l8 ds) (fun _=>False) {tmps:=args++Array.replicate (m-args.size) undef,defers:=[]} w:=by
 obtain⟨h1,h2,h3⟩:=ha;have bh:args.size=s.args.length:=by simpa using h1
 refine⟨σ,fun _=>none,fun _=>undef,trivial,az,.refl σ,fun _ k e=>(az.m k _ e).lt,fun _ _ _ h=>.inl h,fun _ _ h=>.inl h,.refl _ _,bJ _,(fun k j h=>by cases h),fun t=>?_,fun j=>?_,fun t gs s' e=>absurd e (Snap.noOpt _ _ t gs s'),
  .none,fun _=>False,fun _=>False,⟨⟨fun _=>id,fun _=>id⟩,(fun k j h=>by cases h),fun _ _ _ _=>id,fun _ _ _=>id,fun _ _ _=>id⟩,fun j hj=>?_⟩
 ·show aT C _ _ σ _ (cG ((s.args.map Sh.dat++List.replicate (m-s.args.length) Sh.none).getD t .none)) _ _;rw[be];by_cases ht:t<s.args.length
  ·rw[qH (by simpa using ht),dm,bW ht];simp only[kj,ki,cG];have:=h3 t _ (bW ht);have e1:(args++Array.replicate (m-args.size) undef).getD t undef=args.toList.getD t undef:=by
        simp only[gA,be];rw[Array.getElem?_append_left (by omega)];simp
   show aT C _ _ σ _ (.dat _) ((args++Array.replicate (m-args.size) undef).getD t undef) (ds.getD t .none);rw[e1];exact this
  ·rw[pv (by simpa using ht),agi];split<;>trivial
 ·show dI C _ _ σ _ _ w _ j (dX ids [] j);rw[aas];trivial
 ·change dX ids [] j=.tr at hj;rw[aas] at hj;cases hj
theorem Ns {C:Ctx}{Φ:aR}(bD:dP C)(hΦ:dz C Φ)(fG:fP C Φ){f:Nat}{fn:Func}{s:Sig}{ids:List Nat}{pc:PC}(hf:C.P.funcs[f]?=some fn)(hc:l5 C fn s ids=some pc){N:Nat}{ds:List D}{d:D}(cS:we s.mode=false)
 (he:pc.ev Φ N (l8 ds)=some (.ret d)):kX C f s ds d:=by
 intro σ w args az hC ha;unfold l5 at hc;split at hc
 case h_2=>cases hc
 rename_i my;split at hc
 case h_1=>rename_i e;rw[e] at cS;cases cS
 cases hle:Nat.ble s.args.length fn.ntmps<;>simp only[hle,cond_true,cond_false] at hc
 ·cases hc
 have IS:=kZ hle;have bh:args.size=s.args.length:=by simpa using ha.1
 cases hb:fn.body with
 |none=>unfold y9 at hc;rw[hb] at hc;cases hc
 |some c=>
 refine(callsIn_wide (n:=0)).1 (callsIn_of_wp_marks (F:=FR none) hf hb trivial ?_);have hg:=aiD (C:=C) (m:=fn.ntmps) (ids:=ids) az ha;have hn:(args++Array.replicate (fn.ntmps-args.size) undef).size=fn.ntmps:=by simp;omega
 refine wpIn_mono (Xp bD hΦ fG hb hc (σ0:=Base.mk0 σ w.heap.size) trivial hC (fun J ys e=>by rw[my] at e;cases e) hn hg he) fun e a' w' ho=>?_
 have main:=qN.leaves (R:=fun e w'=>∃v σ',e=.returned v∧σ.le σ'∧σ'.ok w'∧Below w.heap.size w w'∧
  (∀k o x,σ'.c k o=some x→σ.c k o=some x∨w.heap.size≤k)∧(∀k x,σ'.m k=some x→σ.m k=some x∨w.heap.size≤k)∧qM C s σ' w w' v d) (fun w2 OW=>by
  obtain⟨v,σ',_,h2,h3,h4,h5,h6,h7,h8⟩:=OW;exact⟨v,h2,v,σ',rfl,h3,h4,h5,h6,h7,h8⟩) _ _ ho.2.1
 rcases ho.1 with rfl|rfl<;>exact main
theorem ahv {C:Ctx}{Φ:aR}(bD:dP C)(hΦ:dz C Φ)(fG:fP C Φ){f:Nat}{fn:Func}{s:Sig}{ids:List Nat}{pc:PC}(hf:C.P.funcs[f]?=some fn)(hc:l5 C fn s ids=some pc){N:Nat}{ds:List D}{d:D}{aJ:List Sh}{eP:List (Nat×Ob)}(cS:s.mode=.ob aJ eP)
 (he:pc.ev Φ N (l8 ds)=some (.ret d)):lR C f aJ eP s.res ds d:=trivial
def XM (m:Nat)(cts:List Ty)(J:Nat)(ids:List Nat):Snap:=⟨.yv::(cts.map .dat++List.replicate (m-(cts.length+1)) .none),ids.map fun j=>bif Nat.beq j J then .tr else .dead⟩
def zf (J:Nat)(ds:List D):Env:=⟨fun t=>(D.none::ds).getD t .none,fun j=>bif Nat.beq j J then .list [] else .none⟩
def B4 (C:Ctx)(fn:Func)(cts ys:List Ty)(J:Nat)(ids:List Nat):Option PC:=
 match C.yl,C.sig lP,C.cap lP with
 |none,none,none=>bif Nat.ble (cts.length+1) fn.ntmps then y9 {C with yl:=some (J,ys)} fn ⟨[],.tup [],.it J⟩ ids (XM fn.ntmps cts J ids) else none
 |_,_,_=>none
open Classical in
def yldΦ (Φ:aR)(xs:List D)(m:Nat):aR:=fun f ds=>
 if f=lP then(match ds with|[.list l]=>if 0<l.length∧l.length≤m+1∧l=xs.take l.length then some (.v (.bool (decide (l.length≤m)))) else none|_=>none)
 else Φ f ds
theorem yldΦ_at {Φ:aR}{xs l ds:List D}{d:D}{m:Nat}(h:yldΦ Φ xs m lP [.list (l++[.tup ds])]=some d):l.length≤m∧l=xs.take l.length∧xs[l.length]?=some (.tup ds)∧l++[.tup ds]=xs.take (l.length+1)∧d=.v (.bool (decide (l.length<m))):=by
 simp only[yldΦ,if_true] at h;split at h
 ·rename_i hc;obtain⟨h1,h2,h3⟩:=hc;simp only[lT,mU,qK,lV] at h2 h3 h;have hx:xs[l.length]?=some (.tup ds):=by
   have:(xs.take (l.length+1))[l.length]?=some (.tup ds):=by rw[←h3];simp
   rw[gB] at this;simpa using this
  have hl:l=xs.take l.length:=by
   have:=congrArg (List.take l.length) h3;simpa [List.take_take] using this
  refine⟨by omega,hl,hx,h3,?_⟩;cases h
  congr 2
 ·cases h
theorem dz.yl {C:Ctx}{Φ:aR}(h:dz C Φ){y:Option (Nat×List Ty)}{v:Value}{xs:List D}{m:Nat}(hs:C.sig lP=none):dz {C with yl:=y,yv:=v} (yldΦ Φ xs m):=by
 intro f ds d e s dV;have aC:f≠lP:=fun e'=>by subst e';change C.sig lP=some s at dV;rw[hs] at dV;cases dV
 simp only[yldΦ,if_neg aC] at e;obtain⟨h1,h2⟩:=h f ds d e s dV;exact⟨fun hm σ w args az hC ha=>h1 hm σ w args az ⟨hC.glob⟩ ha,fun aJ eP hm=>(h2 aJ eP hm).ctx rfl rfl rfl⟩
theorem kY.yl {C:Ctx}{y:Option (Nat×List Ty)}{v:Value}{f:Nat}{cts ys:List Ty}{ds xs:List D}(h:kY C f cts ys ds xs):kY {C with yl:=y,yv:=v} f cts ys ds xs:=
 fun σ w yv vs F fx cx m az hC=>h σ w yv vs F fx cx m az ⟨hC.glob⟩
theorem fP.yl {C:Ctx}{Φ:aR}(h:fP C Φ){y:Option (Nat×List Ty)}{v:Value}{xs:List D}{m:Nat}(hs:C.cap lP=none):fP {C with yl:=y,yv:=v} (yldΦ Φ xs m):=by
 intro f cs ys hc hi;have aC:f≠lP:=fun e'=>by subst e';change C.cap lP=some cs at hc;rw[hs] at hc;cases hc
 obtain⟨h1,h2⟩:=h f cs ys hc hi;refine⟨h1,fun ds d e=>?_⟩;simp only[yldΦ,if_neg aC] at e;obtain⟨xs,e1,e2,e3⟩:=h2 ds d e;exact⟨xs,e1,e2,e3.yl⟩
def Wx (Φ:aR)(pc:PC)(J:Nat)(ds xs:List D):Prop:=∀m,m≤xs.length→∃N,pc.ev (yldΦ Φ xs m) N (zf J ds)=some (.ret (.list (xs.take (m+1))))
theorem aiC {C:Ctx}{σ:Im}{σ0:Base}{w:World}{yv:Value}{vs:List Value}{ds:List D}{cts ys:List Ty}{J m:Nat}{ids:List Nat}(az:σ.ok w)(ha:pq C σ cts vs ds)(hm:cts.length+1≤m)(my:C.yl=some (J,ys))(Dk:C.yv=yv)
 (h0:σ0.toIm=σ) (hB:σ0.B=0) {fx cx:Nat→Prop} (hF:σ0.F (.list []) fx cx w) (hZ:∀k o x,σ.c k o=some x→¬cx k) (ku:∀k x,σ.m k=some x→¬cx k):
 Good C w σ0 ((XM m cts J ids).st ids) (zf J ds) (fun _=>False) {tmps:=#[yv]++vs.toArray++Array.replicate (m-(vs.length+1)) undef,defers:=[]} w:=by
 obtain⟨h1,h2,h3⟩:=ha
 refine⟨σ,fun _=>none,fun _=>undef,trivial,az,by rw[h0];exact .refl σ,fun _ k e=>by rw[h0] at e;exact(az.m k _ e).lt,fun _ _ _ h=>by rw[h0];exact .inl h,fun _ _ h=>by rw[h0];exact .inl h,.refl _ _,by omega,(fun k j h=>by cases h),fun t=>?_,fun j=>?_,fun t gs s' e=>absurd e (Snap.noOpt _ _ t gs s'),
  .list [],fx,cx,⟨hF,(fun k j h=>by cases h),hZ,ku,fun k e hk=>by have:=(az.m k _ e).lt;omega⟩,fun j hj=>?_⟩
 ·show aT C _ _ σ _ (cG ((Sh.yv::(cts.map Sh.dat++List.replicate (m-(cts.length+1)) Sh.none)).getD t .none)) ((#[yv]++vs.toArray++Array.replicate (m-(vs.length+1)) undef).getD t undef) ((D.none::ds).getD t .none);have ea:((#[yv]++vs.toArray++Array.replicate (m-(vs.length+1)) undef).getD t undef)=(yv::(vs++List.replicate (m-(vs.length+1)) undef)).getD t undef:=by
   rw[gA,←Bc,be];simp
  rw[ea];cases t with
  |zero=>simp only[uS,cG];exact Dk.symm
  |succ t=>
   simp only[FJ];rw[be];by_cases ht:t<cts.length
   ·rw[qH (by simpa using ht),dm,bW ht];simp only[kj,ki,cG];have:=h3 t _ (bW ht);have e1:(vs++List.replicate (m-(vs.length+1)) undef).getD t undef=vs.getD t undef:=by
     simp only[be];rw[qH (by omega)]
    show aT C _ _ σ _ (.dat _) _ (ds.getD t .none);rw[e1];exact this
   ·rw[pv (by simpa using ht),agi];split<;>trivial
 ·show dI C _ _ σ _ _ w _ j (dX ids (ids.map fun j=>bif Nat.beq j J then .tr else .dead) j);refine wu _ (fun ob=>dI C _ _ σ _ _ w _ j ob) trivial j ?_ ids;cases Nat.beq j J<;>trivial
 ·change dX ids (ids.map fun j=>bif Nat.beq j J then .tr else .dead) j=.tr at hj
  have hb:=wu (fun j=>bif Nat.beq j J then Ob.tr else .dead) (fun ob=>ob=.tr→Nat.beq j J=true) (fun e=>by cases e) j (fun e=>by
   cases hb:Nat.beq j J
   ·rw[hb] at e;cases e
   ·rfl) ids hj
  have:=aG hb;subst this;refine⟨⟨ys,my⟩,?_⟩;show(bif Nat.beq j j then D.list [] else .none)=_;rw[lU];rfl
theorem ahw {C:Ctx}{Φ:aR}(bD:dP C)(hΦ:dz C Φ)(fG:fP C Φ){f:Nat}{fn:Func}{cts ys:List Ty}{J:Nat}{ids:List Nat}{pc:PC}(hf:C.P.funcs[f]?=some fn)(hc:∀yv,B4 {C with yv:=yv} fn cts ys J ids=some pc){ds xs:List D}
 (hr:Wx Φ pc J ds xs):kY C f cts ys ds xs:=by
 intro σ w yv vs F fx cx m az hC ha hm aq cJ alI hF hZ ku Ph;have hc:=hc yv;unfold B4 at hc;split at hc
 case h_2=>cases hc
 rename_i my hsy hcy;cases hle:Nat.ble (cts.length+1) fn.ntmps<;>simp only[hle,cond_true,cond_false] at hc
 ·cases hc
 have IS:=kZ hle;obtain⟨N,he⟩:=hr m hm;cases hb:fn.body with
 |none=>unfold y9 at hc;rw[hb] at hc;cases hc
 |some c=>
 refine(callsIn_wide (n:=0)).1 (callsIn_of_wp_marks (F:=FR none) hf hb trivial ?_);obtain⟨σ0,hσ0⟩:∃σ0:Base,σ0={σ with B:=0,fin:=True,F:=fun t fx cx w=>(∃l,t=.list l)∧F t fx cx w,lt:=fun t fx cx w h=>aq t fx cx w h.2,sub:=fun t fx cx w h=>cJ t fx cx w h.2,keep:=fun t fx cx w w' h hb hs=>⟨h.1,alI t fx cx w w' h.2 hb hs⟩}:=⟨_,rfl⟩
 have e1:σ0.toIm=σ:=by rw[hσ0]
 have e2:σ0.B=0:=by rw[hσ0]
 have e3:σ0.fin:=by rw[hσ0];trivial
 have e4:∀t fx cx w,σ0.F t fx cx w↔(∃l,t=.list l)∧F t fx cx w:=fun t fx cx w=>by rw[hσ0]
 have hg:=aiC (C:={C with yl:=some (J,ys),yv:=yv}) (σ0:=σ0) (w:=w) (yv:=yv) (vs:=vs) (ds:=ds) (cts:=cts) (ys:=ys) (J:=J) (m:=fn.ntmps) (ids:=ids) az ha IS rfl rfl e1 e2 ((e4 _ _ _ _).2 ⟨⟨_,rfl⟩,hF⟩) hZ ku;have bh:(#[yv]++vs.toArray).size=vs.length+1:=by simp<;>omega
 have I7:vs.length=cts.length:=ha.1;have hY:qQ {C with yl:=some (J,ys),yv:=yv} (yldΦ Φ xs m) w σ0:=by
  intro J' ys' e;cases e;refine⟨e2,fun t fx cx w h=>((e4 _ _ _ _).1 h).1,fun LG cw d hd fx cx w1 σ1 args zo amd vB YC vL fK dM=>?_⟩;obtain⟨g1,g2,g3,g4,rfl⟩:=yldΦ_at hd;rw[e1] at fK dM;have:=Ph LG.length fx cx w1 σ1 args cw g1 g3 (by rw[←g2];exact((e4 _ _ _ _).1 zo).2) amd vB YC vL fK dM;intro rd o a x aa ts K Q cZ hv has hK;refine this rd o a x aa ts K Q cZ hv has fun u w2 hu=>hK u w2 ?_;obtain⟨u1,u2,u3,l9,l6,u4,u5,u6⟩:=hu;refine⟨_,rfl,u1,u2,u3,l9,l6,(e4 _ _ _ _).2 ⟨⟨_,rfl⟩,?_⟩,u5,u6⟩;rw[g4];exact u4
 have hn:(#[yv]++vs.toArray++Array.replicate (fn.ntmps-(vs.length+1)) undef).size=fn.ntmps:=by simp;omega
 rw[bh];refine wpIn_mono (Xp (C:={C with yl:=some (J,ys),yv:=yv}) bD (hΦ.yl hsy) (fG.yl hcy) hb hc (σ0:=σ0) e3 (by rw[e1];exact⟨hC.glob⟩) hY hn hg he) fun e a' w' ho=>?_
 have main:=qN.leaves (R:=fun e w'=>(∃v,e=.returned v)∧∃fx cx,F (.list (xs.take (m+1))) fx cx w') (fun w2 OW=>by
  obtain⟨v,σ',⟨own,t,fx,cx,h1,ht,_⟩,h2,_⟩:=OW;refine⟨v,h2,⟨v,rfl⟩,fx,cx,?_⟩;rw[ht J rfl];exact((e4 _ _ _ _).1 h1.F).2) _ _ ho.2.1
 rcases ho.1 with rfl|rfl<;>exact main
def fb (tab:Nat→Option PC)(ext:Nat→Option (aR→List D→Option D)):Nat→aR
 |0=>fun _ _=>none
 |n+1=>fun f ds=>
  match ext f with
  |some g=>g (fb tab ext n) ds
  |none=>
   match tab f with
   |some pc=>(match pc.ev (fb tab ext n) n (l8 ds) with|some (.ret d)=>some d|_=>none)
   |none=>none
theorem kX.hint {C:Ctx}{fr nh:List Nat}{f:Nat}{s:Sig}{ds:List D}{d:D}(h:kX C f s ds d):kX {C with fr:=fr,nh:=nh} f s ds d:=
 fun σ w args az hC ha=>h σ w args az ⟨hC.glob⟩ ha
theorem kX.unhint {C:Ctx}{fr nh:List Nat}{f:Nat}{s:Sig}{ds:List D}{d:D}(h:kX {C with fr:=fr,nh:=nh} f s ds d):kX C f s ds d:=
 fun σ w args az hC ha=>h σ w args az ⟨hC.glob⟩ ha
theorem kY.hint {C:Ctx}{fr nh:List Nat}{f:Nat}{cts ys:List Ty}{ds xs:List D}(h:kY C f cts ys ds xs):kY {C with fr:=fr,nh:=nh} f cts ys ds xs:=
 fun σ w yv vs F fx cx m az hC=>h σ w yv vs F fx cx m az ⟨hC.glob⟩
theorem kY.unhint {C:Ctx}{fr nh:List Nat}{f:Nat}{cts ys:List Ty}{ds xs:List D}(h:kY {C with fr:=fr,nh:=nh} f cts ys ds xs):kY C f cts ys ds xs:=
 fun σ w yv vs F fx cx m az hC=>h σ w yv vs F fx cx m az ⟨hC.glob⟩
theorem lR.hint {C:Ctx}{fr nh:List Nat}{f:Nat}{aJ:List Sh}{eP:List (Nat×Ob)}{res:Ty}{ds:List D}{d:D}(h:lR C f aJ eP res ds d):lR {C with fr:=fr,nh:=nh} f aJ eP res ds d:=h.ctx rfl rfl rfl
theorem lR.unhint {C:Ctx}{fr nh:List Nat}{f:Nat}{aJ:List Sh}{eP:List (Nat×Ob)}{res:Ty}{ds:List D}{d:D}(h:lR {C with fr:=fr,nh:=nh} f aJ eP res ds d):lR C f aJ eP res ds d:=lR.ctx (C':=C) h rfl rfl rfl
theorem dz.hint {C:Ctx}{fr nh:List Nat}{Φ:aR}(h:dz C Φ):dz {C with fr:=fr,nh:=nh} Φ:=
 fun f ds d e s hs=>⟨fun hm=>((h f ds d e s hs).1 hm).hint,fun aJ eP hm=>((h f ds d e s hs).2 aJ eP hm).hint⟩
theorem fP.hint {C:Ctx}{fr nh:List Nat}{Φ:aR}(h:fP C Φ):fP {C with fr:=fr,nh:=nh} Φ:=
 fun f cs ys hc hi=>let⟨h1,h2⟩:=h f cs ys hc hi;⟨h1,fun ds d e=>let⟨xs,e1,e2,e3⟩:=h2 ds d e;⟨xs,e1,e2,e3.hint⟩⟩
theorem dP.hint {C:Ctx}{fr nh:List Nat}(h:dP C):dP {C with fr:=fr,nh:=nh}:=h
def LO (C:Ctx)(f:Nat)(s:Sig)(ds:List D)(d:D):Prop:=(we s.mode=false→kX C f s ds d)∧∀aJ eP,s.mode=.ob aJ eP→lR C f aJ eP s.res ds d
structure TabOK (C:Ctx) (tab:Nat→Option PC) (ext:Nat→Option (aR→List D→Option D)):Prop where
 clos:dP C
 its:∀f cs ys,C.cap f=some cs→mB cs.args cs.res=some ys→tab f=none∧∃fn,C.P.funcs[f]?=some fn∧fn.body.isSome=true∧(fn.name== "runtime.NumGoroutine")=false
 tab:∀f pc,ext f=none→tab f=some pc→∃fn s ids fr nh,C.P.funcs[f]?=some fn∧C.sig f=some s∧l5 {C with fr:=fr,nh:=nh} fn s ids=some pc
 ext:∀f g,ext f=some g→∀Φ,dz C Φ→fP C Φ→∀ds d,g Φ ds=some d→(∀s,C.sig f=some s→LO C f s ds d)∧
  ∀cs ys,C.cap f=some cs→mB cs.args cs.res=some ys→∃xs,d=.list xs∧(∀x,x∈xs→∃cw,x=.tup cw∧cw.length=ys.length)∧kY C f cs.caps ys ds xs
theorem WL {C:Ctx}{tab:Nat→Option PC}{ext:Nat→Option (aR→List D→Option D)}(h:TabOK C tab ext):∀n,dz C (fb tab ext n)∧fP C (fb tab ext n)
 |0=>⟨fun f ds d e=>by simp[fb] at e,fun f cs ys hc hi=>⟨(h.its f cs ys hc hi).2,fun ds d e=>by simp[fb] at e⟩⟩
 |n+1=>by
  obtain⟨ih,np⟩:=WL h n;refine⟨fun f ds d e=>?_,fun f cs ys hc hi=>⟨(h.its f cs ys hc hi).2,fun ds d e=>?_⟩⟩
  ·simp only[fb] at e;split at e
   ·rename_i g hg;exact(h.ext f g hg _ ih np ds d e).1
   ·rename_i hx;split at e
    ·rename_i pc ab;split at e
     ·rename_i d' he;cases e;obtain⟨fn,s,ids,fr,nh,h1,h2,h3⟩:=h.tab f pc hx ab;intro s' dV;rw[h2] at dV;cases dV
      exact⟨fun hm=>(Ns (C:={C with fr:=fr,nh:=nh}) (dP.hint h.clos) (dz.hint ih) (fP.hint np) h1 h3 hm he).unhint,
       fun aJ eP hm=>(ahv (C:={C with fr:=fr,nh:=nh}) (dP.hint h.clos) (dz.hint ih) (fP.hint np) h1 h3 hm he).unhint⟩
     ·cases e
    ·cases e
  ·simp only[fb] at e;split at e
   ·rename_i g hg;exact(h.ext f g hg _ ih np ds d e).2 cs ys hc hi
   ·rw[(h.its f cs ys hc hi).1] at e;cases e
def agd (Φ:aR)(pc:PC)(J k:Nat)(ds xs:List D):Prop:=Wx Φ pc J ds xs∧∀x,x∈xs→∃cw,x=.tup cw∧cw.length=k
open Classical in
def Dq (pc:PC)(J k:Nat)(spec:List D→List D):aR→List D→Option D:=fun Φ ds=>if agd Φ pc J k ds (spec ds) then some (.list (spec ds)) else none
theorem ans {C:Ctx}{Φ:aR}(bD:dP C)(hΦ:dz C Φ)(fG:fP C Φ){f:Nat}{fn:Func}{cts ys:List Ty}{J k:Nat}{ids fr nh:List Nat}{pc:PC}(hf:C.P.funcs[f]?=some fn)(hc:∀yv,B4 {C with fr:=fr,nh:=nh,yv:=yv} fn cts ys J ids=some pc){spec:List D→List D}
 {ds:List D} {d:D} (h:Dq pc J k spec Φ ds=some d) (hk:k=ys.length):∃xs,d=.list xs∧(∀x,x∈xs→∃cw,x=.tup cw∧cw.length=ys.length)∧kY C f cts ys ds xs:=by
 unfold Dq at h;split at h
 ·rename_i hs;cases h;subst hk;exact⟨_,rfl,hs.2,(ahw (C:={C with fr:=fr,nh:=nh}) (dP.hint bD) (dz.hint hΦ) (fP.hint fG) hf hc hs.1).unhint⟩
 ·cases h
def bP {α:Type}:List (Nat×α)→Nat→Option α
 |[],_=>none
 |x::l,f=>bif Nat.beq x.1 f then some x.2 else bP l f
def FD {α:Type}(R:Nat→α→Prop):List (Nat×α)→Prop
 |[]=>True
 |x::l=>R x.1 x.2∧FD R l
theorem Px {α:Type}{R:Nat→α→Prop}:∀{l:List (Nat×α)},FD R l→∀f x,bP l f=some x→R f x
 |[],_,f,x,h=>by cases h
 |y::l,⟨h1,h2⟩,f,x,h=>by
  simp only[bP] at h;cases hb:Nat.beq y.1 f<;>simp only[hb,cond_true,cond_false] at h
  ·exact Px h2 f x h
  ·cases h;rw[←dj hb];exact h1
def Tl (P:Program):List (Nat×Sig)→Bool
 |[]=>true
 |x::l=>(match P.funcs[x.1]? with|some fn=>fn.body.isSome&& !(fn.name== "runtime.NumGoroutine")|none=>false)&&Tl P l
theorem afa {P:Program}:∀{l:List (Nat×Sig)},Tl P l=true→∀f s,bP l f=some s→∃fn,P.funcs[f]?=some fn∧fn.body.isSome=true∧(fn.name== "runtime.NumGoroutine")=false
 |[],_,f,s,h=>by cases h
 |y::l,hl,f,s,h=>by
  simp only[Tl,ay] at hl;simp only[bP] at h;cases hb:Nat.beq y.1 f<;>simp only[hb,cond_true,cond_false] at h
  ·exact afa hl.2 f s h
  ·rw[←dj hb];have h1:=hl.1;split at h1
   ·rename_i fn e;simp only[ay,kh] at h1;exact⟨fn,e,h1.1,h1.2⟩
   ·cases h1
def Tc (a b:Sig):Bool:=Ty.beqs a.args b.args&&Ty.beq a.res b.res&&(match a.mode,b.mode with|.dat,.dat=>true|_,_=>false)
theorem asz {a b:Sig}(h:Tc a b=true):a=b:=by
 obtain⟨a1,a2,a3⟩:=a;obtain⟨b1,b2,b3⟩:=b;simp only[Tc,ay] at h;rw[Ty.beqs_eq _ _ h.1.1,Ty.beq_eq _ _ h.1.2];cases a3<;>cases b3<;>first|rfl|(have:=h.2;cases this)
def Fu (P:Program)(f:Nat):Bool:=match P.funcs[f]? with|some fn=>fn.body.isSome&& !(fn.name== "runtime.NumGoroutine")|none=>false
theorem as4 {P:Program}{f:Nat}(h:Fu P f=true):∃fn,P.funcs[f]?=some fn∧fn.body.isSome=true∧(fn.name== "runtime.NumGoroutine")=false:=by
 unfold Fu at h;split at h
 ·rename_i fn e;simp only[ay,kh] at h;exact⟨fn,e,h.1,h.2⟩
 ·cases h
def Nm (P:Program)(sig:List (Nat×Sig))(pcs:List Nat):List (Nat×CSig)→Bool
 |[]=>true
 |x::l=>(match mB x.2.args x.2.res with
   |none=>(match bP sig x.1 with|some s=>Tc s ⟨x.2.args++x.2.caps,x.2.res,.dat⟩|none=>false)
   |some _=> !fu pcs x.1&&Fu P x.1)&&Nm P sig pcs l
theorem Xe {P:Program}{sig:List (Nat×Sig)}{pcs:List Nat}:∀{l:List (Nat×CSig)},Nm P sig pcs l=true→∀f cs,bP l f=some cs→
 (mB cs.args cs.res=none→bP sig f=some ⟨cs.args++cs.caps,cs.res,.dat⟩)∧∀ys,mB cs.args cs.res=some ys→fu pcs f=false∧Fu P f=true
 |[],_,f,cs,h=>by cases h
 |x::l,hl,f,cs,h=>by
  simp only[Nm,ay] at hl;simp only[bP] at h;cases hb:Nat.beq x.1 f<;>simp only[hb,cond_true,cond_false] at h
  ·exact Xe hl.2 f cs h
  ·cases h;rw[←dj hb];have h1:=hl.1;refine⟨fun e=>?_,fun ys e=>?_⟩
   ·rw[e] at h1;simp only at h1;split at h1
    ·rename_i s hs;rw[hs,asz h1]
    ·cases h1
   ·rw[e] at h1;simpa using h1
theorem aap {α:Type}:∀{l:List (Nat×α)} {f:Nat},fu (l.map (·.1)) f=false→bP l f=none
 |[],f,_=>rfl
 |x::l,f,h=>by
  simp only[iX,fu,List.any_cons,Wv] at h;simp only[bP];have hb:Nat.beq x.1 f=false:=by
   cases e:Nat.beq x.1 f
   ·rfl
   ·rw[aG e,lU] at h;cases h.1
  rw[hb];exact aap (l:=l) h.2
def agp (Φ:aR)(pa pb:PC)(ds:List D)(d:D):Prop:=(∃N xs,pa.ev Φ N (l8 ds)=some (.ret (.list xs))∧xs≠[]∧d=.list xs)∨∃N,pb.ev Φ N (l8 ds)=some (.ret (.list []))∧d=.list []
open Classical in
def Am (pa pb:PC)(spec:List D→D):aR→List D→Option D:=fun Φ ds=>if agp Φ pa pb ds (spec ds) then some (spec ds) else none
theorem apR {C:Ctx}{Φ:aR}(bD:dP C)(hΦ:dz C Φ)(fG:fP C Φ){f:Nat}{fn:Func}{args:List Ty}{e:Ty}{ids ank fr nh X7 nhb:List Nat}{pa pb:PC}(hf:C.P.funcs[f]?=some fn)(ha:l5 {C with fr:=fr,nh:=nh} fn ⟨args,.slice e,.dat⟩ ids=some pa)
 (hb:l5 {C with fr:=X7,nh:=nhb} fn ⟨args,.nils .bool,.dat⟩ ank=some pb) {spec:List D→D} {ds:List D} {d:D} (h:Am pa pb spec Φ ds=some d):kX C f ⟨args,.nsl e,.dat⟩ ds d:=by
 unfold Am at h;split at h
 case isFalse=>cases h
 rename_i hs;cases h;rcases hs with⟨N,xs,h1,h2,h3⟩|⟨N,h1,h2⟩
 ·rw[h3];have:=(Ns (C:={C with fr:=fr,nh:=nh}) (dP.hint bD) (dz.hint hΦ) (fP.hint fG) hf ha (N:=N) rfl h1).unhint;intro σ w aa az hC kr;refine(this σ w aa az hC kr).mono fun en w' hh=>?_;obtain⟨v,σ',g1,g2,g3,g4,g5,g6,g7⟩:=hh;refine⟨v,σ',g1,g2,g3,g4,g5,g6,?_⟩;change Rep C.cap σ' (.slice e) v (.list xs) at g7;show Rep C.cap σ' (.nsl e) v (.list xs);generalize hd:D.list xs=dd at g7;cases g7 with
  |nil=>injection hd with hd;exact absurd hd h2
  |emp=>injection hd with hd;exact absurd hd h2
  |slice _ k o n c LG vs a1 a2 a3 a4 a5=>exact .nsl e k o n c LG (.slice e k o n c LG vs a1 a2 a3 a4 a5) (by injection hd with hd;rw[←hd];exact h2)
 ·rw[h2];have:=(Ns (C:={C with fr:=X7,nh:=nhb}) (dP.hint bD) (dz.hint hΦ) (fP.hint fG) hf hb (N:=N) rfl h1).unhint;intro σ w aa az hC kr;refine(this σ w aa az hC kr).mono fun en w' hh=>?_;obtain⟨v,σ',g1,g2,g3,g4,g5,g6,g7⟩:=hh;refine⟨v,σ',g1,g2,g3,g4,g5,g6,?_⟩;change Rep C.cap σ' (.nils .bool) v (.list []) at g7;show Rep C.cap σ' (.nsl e) v (.list []);generalize D.list []=dd at g7;cases g7;exact .nsl0 e
end Cx
