/-
  Shared texts of this claim.
-/
import Derived.Test.YtopjnikcppafdaaGreatDoorKAF
import Derived.OrdersIn
set_option linter.unusedSimpArgs false
set_option linter.unusedVariables false
noncomputable section
namespace Cx
open Go Go.RowKit
def aal:Value→Value→Bool
 |.int k n,.int k' m=>k==k'&&n==m
 |.bool a,.bool b=>a==b
 |.string a,.string b=>decide (a=b)
 |.nilFunc,.nilFunc=>true
 |_,_=>false
theorem aBS:∀a b,aal a b=true→a=b:=by
 intro a b h;unfold aal at h;split at h
 ·simp only[aw,beq_iff_eq] at h;rw[h.1,h.2]
 ·simp only[beq_iff_eq] at h;rw[h]
 ·simp only[decide_eq_true_eq] at h;rw[h]
 ·rfl
 ·cases h
mutual
def D.beq:D→D→Bool
 |.v a,e=>match e with|.v b=>aal a b|_=>false
 |.agg a,e=>match e with|.agg b=>D.beqs a b|_=>false
 |.list a,e=>match e with|.list b=>D.beqs a b|_=>false
 |.tup a,e=>match e with|.tup b=>D.beqs a b|_=>false
 |.map a,e=>match e with|.map b=>a.isEmpty&&b.isEmpty|_=>false
 |.ref a,e=>match e with|.ref b=>D.beq a b|_=>false
 |.clo f a,e=>match e with|.clo g b=>Nat.beq f g&&D.beqs a b|_=>false
 |.none,e=>match e with|.none=>true|_=>false
def D.beqs:List D→List D→Bool
 |[],e=>match e with|[]=>true|_=>false
 |a::aa,e=>match e with|b::bs=>D.beq a b&&D.beqs aa bs|_=>false
end
mutual
theorem D.beq_eq:∀a b:D,D.beq a b=true→a=b
 |.v a,e,h=>by cases e<;>first|(simp only[D.beq] at h;rw[aBS _ _ h])|cases h
 |.agg a,e,h=>by cases e<;>first|(simp only[D.beq] at h;rw[D.beqs_eq _ _ h])|cases h
 |.list a,e,h=>by cases e<;>first|(simp only[D.beq] at h;rw[D.beqs_eq _ _ h])|cases h
 |.tup a,e,h=>by cases e<;>first|(simp only[D.beq] at h;rw[D.beqs_eq _ _ h])|cases h
 |.map a,e,h=>by
  cases e<;>first|(simp only[D.beq,aw,aa0] at h;rw[h.1,h.2])|cases h
 |.ref a,e,h=>by cases e<;>first|(simp only[D.beq] at h;rw[D.beq_eq _ _ h])|cases h
 |.clo f a,e,h=>by cases e<;>first|(simp only[D.beq,aw] at h;rw[aD h.1,D.beqs_eq _ _ h.2])|cases h
 |.none,e,h=>by cases e<;>first|rfl|cases h
theorem D.beqs_eq:∀a b:List D,D.beqs a b=true→a=b
 |[],e,h=>by cases e<;>first|rfl|cases h
 |a::aa,e,h=>by
  cases e with
  |nil=>cases h
  |cons b bs=>simp only[D.beqs,aw] at h;rw[D.beq_eq _ _ h.1,D.beqs_eq _ _ h.2]
end
mutual
def PE.beq:PE→PE→Bool
 |.r a,e=>match e with|.r b=>Nat.beq a b|_=>false
 |.o a,e=>match e with|.o b=>Nat.beq a b|_=>false
 |.con a,e=>match e with|.con b=>D.beq a b|_=>false
 |.cell x i,e=>match e with|.cell y j=>PE.beq x y&&Nat.beq i j|_=>false
 |.sub x i n,e=>match e with|.sub y j m=>PE.beq x y&&(Nat.beq i j&&Nat.beq n m)|_=>false
 |.setc x i z,e=>match e with|.setc y j u=>PE.beq x y&&(Nat.beq i j&&PE.beq z u)|_=>false
 |.mk x,e=>match e with|.mk y=>PE.beqs x y|_=>false
 |.ai op k x y,e=>match e with|.ai zn k' x' y'=>op==zn&&(k==k'&&(PE.beq x x'&&PE.beq y y'))|_=>false
 |.ci op x y,e=>match e with|.ci zn x' y'=>op==zn&&(PE.beq x x'&&PE.beq y y')|_=>false
 |.cb op x y,e=>match e with|.cb zn x' y'=>op==zn&&(PE.beq x x'&&PE.beq y y')|_=>false
 |.cs op x y,e=>match e with|.cs zn x' y'=>op==zn&&(PE.beq x x'&&PE.beq y y')|_=>false
 |.sadd x y,e=>match e with|.sadd x' y'=>PE.beq x x'&&PE.beq y y'|_=>false
 |.nt x,e=>match e with|.nt y=>PE.beq x y|_=>false
 |.conv k x,e=>match e with|.conv k' y=>k==k'&&PE.beq x y|_=>false
 |.pick c x y,e=>match e with|.pick c' x' y'=>PE.beq c c'&&(PE.beq x x'&&PE.beq y y')|_=>false
 |.llen x,e=>match e with|.llen y=>PE.beq x y|_=>false
 |.bytes x,e=>match e with|.bytes y=>PE.beq x y|_=>false
 |.slen x,e=>match e with|.slen y=>PE.beq x y|_=>false
 |.mlen x,e=>match e with|.mlen y=>PE.beq x y|_=>false
 |.nth x y,e=>match e with|.nth x' y'=>PE.beq x x'&&PE.beq y y'|_=>false
 |.idx x y,e=>match e with|.idx x' y'=>PE.beq x x'&&PE.beq y y'|_=>false
 |.sidx x y,e=>match e with|.sidx x' y'=>PE.beq x x'&&PE.beq y y'|_=>false
 |.sok x y,e=>match e with|.sok x' y'=>PE.beq x x'&&PE.beq y y'|_=>false
 |.setn x i n y,e=>match e with|.setn x' i' n' y'=>PE.beq x x'&&(PE.beq i i'&&(Nat.beq n n'&&PE.beq y y'))|_=>false
 |.app x y,e=>match e with|.app x' y'=>PE.beq x x'&&PE.beq y y'|_=>false
 |.lst x,e=>match e with|.lst y=>PE.beqs x y|_=>false
 |.rep x y,e=>match e with|.rep x' y'=>PE.beq x x'&&PE.beq y y'|_=>false
 |.slc c x y,e=>match e with|.slc c' x' y'=>PE.beq c c'&&(PE.beq x x'&&PE.beq y y')|_=>false
 |.slok c x y,e=>match e with|.slok c' x' y'=>PE.beq c c'&&(PE.beq x x'&&PE.beq y y')|_=>false
 |.ref x,e=>match e with|.ref y=>PE.beq x y|_=>false
 |.deref x,e=>match e with|.deref y=>PE.beq x y|_=>false
 |.look c x y,e=>match e with|.look c' x' y'=>PE.beq c c'&&(PE.beq x x'&&PE.beq y y')|_=>false
 |.has x y,e=>match e with|.has x' y'=>PE.beq x x'&&PE.beq y y'|_=>false
 |.put c x y,e=>match e with|.put c' x' y'=>PE.beq c c'&&(PE.beq x x'&&PE.beq y y')|_=>false
 |.mn x y,e=>match e with|.mn x' y'=>PE.beq x x'&&PE.beq y y'|_=>false
 |.mx x y,e=>match e with|.mx x' y'=>PE.beq x x'&&PE.beq y y'|_=>false
 |.tup x,e=>match e with|.tup y=>PE.beqs x y|_=>false
 |.tget x i,e=>match e with|.tget y j=>PE.beq x y&&Nat.beq i j|_=>false
 |.clo f x,e=>match e with|.clo g y=>Nat.beq f g&&PE.beqs x y|_=>false
 |.an x y,e=>match e with|.an x' y'=>PE.beq x x'&&PE.beq y y'|_=>false
 |.imp c x,e=>match e with|.imp c' y=>uq c c'&&PE.beq x y|_=>false
def PE.beqs:List PE→List PE→Bool
 |[],e=>match e with|[]=>true|_=>false
 |a::aa,e=>match e with|b::bs=>PE.beq a b&&PE.beqs aa bs|_=>false
end
theorem dA {a b:Nat}(h:Nat.beq a b=true):a=b:=aD h
mutual
theorem PE.beq_eq:∀a b:PE,PE.beq a b=true→a=b
 |.r a,e,h=>by cases e<;>first|(rw[dA h])|cases h
 |.o a,e,h=>by cases e<;>first|(rw[dA h])|cases h
 |.con a,e,h=>by cases e<;>first|(rw[D.beq_eq _ _ h])|cases h
 |.cell x i,e,h=>by cases e<;>first|(simp only[PE.beq,aw] at h;rw[PE.beq_eq _ _ h.1,dA h.2])|cases h
 |.sub x i n,e,h=>by cases e<;>first|(simp only[PE.beq,aw] at h;rw[PE.beq_eq _ _ h.1,dA h.2.1,dA h.2.2])|cases h
 |.setc x i z,e,h=>by cases e<;>first|(simp only[PE.beq,aw] at h;rw[PE.beq_eq _ _ h.1,dA h.2.1,PE.beq_eq _ _ h.2.2])|cases h
 |.mk x,e,h=>by cases e<;>first|(simp only[PE.beq] at h;rw[PE.beqs_eq _ _ h])|cases h
 |.ai op k x y,e,h=>by cases e<;>first|(simp only[PE.beq,aw,beq_iff_eq] at h;rw[h.1,h.2.1,PE.beq_eq _ _ h.2.2.1,PE.beq_eq _ _ h.2.2.2])|cases h
 |.ci op x y,e,h=>by cases e<;>first|(simp only[PE.beq,aw,beq_iff_eq] at h;rw[h.1,PE.beq_eq _ _ h.2.1,PE.beq_eq _ _ h.2.2])|cases h
 |.cb op x y,e,h=>by cases e<;>first|(simp only[PE.beq,aw,beq_iff_eq] at h;rw[h.1,PE.beq_eq _ _ h.2.1,PE.beq_eq _ _ h.2.2])|cases h
 |.cs op x y,e,h=>by cases e<;>first|(simp only[PE.beq,aw,beq_iff_eq] at h;rw[h.1,PE.beq_eq _ _ h.2.1,PE.beq_eq _ _ h.2.2])|cases h
 |.sadd x y,e,h=>by cases e<;>first|(simp only[PE.beq,aw] at h;rw[PE.beq_eq _ _ h.1,PE.beq_eq _ _ h.2])|cases h
 |.nt x,e,h=>by cases e<;>first|(simp only[PE.beq] at h;rw[PE.beq_eq _ _ h])|cases h
 |.conv k x,e,h=>by cases e<;>first|(simp only[PE.beq,aw,beq_iff_eq] at h;rw[h.1,PE.beq_eq _ _ h.2])|cases h
 |.pick c x y,e,h=>by cases e<;>first|(simp only[PE.beq,aw] at h;rw[PE.beq_eq _ _ h.1,PE.beq_eq _ _ h.2.1,PE.beq_eq _ _ h.2.2])|cases h
 |.llen x,e,h=>by cases e<;>first|(simp only[PE.beq] at h;rw[PE.beq_eq _ _ h])|cases h
 |.bytes x,e,h=>by cases e<;>first|(simp only[PE.beq] at h;rw[PE.beq_eq _ _ h])|cases h
 |.slen x,e,h=>by cases e<;>first|(simp only[PE.beq] at h;rw[PE.beq_eq _ _ h])|cases h
 |.mlen x,e,h=>by cases e<;>first|(simp only[PE.beq] at h;rw[PE.beq_eq _ _ h])|cases h
 |.nth x y,e,h=>by cases e<;>first|(simp only[PE.beq,aw] at h;rw[PE.beq_eq _ _ h.1,PE.beq_eq _ _ h.2])|cases h
 |.idx x y,e,h=>by cases e<;>first|(simp only[PE.beq,aw] at h;rw[PE.beq_eq _ _ h.1,PE.beq_eq _ _ h.2])|cases h
 |.sidx x y,e,h=>by cases e<;>first|(simp only[PE.beq,aw] at h;rw[PE.beq_eq _ _ h.1,PE.beq_eq _ _ h.2])|cases h
 |.sok x y,e,h=>by cases e<;>first|(simp only[PE.beq,aw] at h;rw[PE.beq_eq _ _ h.1,PE.beq_eq _ _ h.2])|cases h
 |.setn x i n y,e,h=>by cases e<;>first|(simp only[PE.beq,aw] at h;rw[PE.beq_eq _ _ h.1,PE.beq_eq _ _ h.2.1,dA h.2.2.1,PE.beq_eq _ _ h.2.2.2])|cases h
 |.app x y,e,h=>by cases e<;>first|(simp only[PE.beq,aw] at h;rw[PE.beq_eq _ _ h.1,PE.beq_eq _ _ h.2])|cases h
 |.lst x,e,h=>by cases e<;>first|(simp only[PE.beq] at h;rw[PE.beqs_eq _ _ h])|cases h
 |.rep x y,e,h=>by cases e<;>first|(simp only[PE.beq,aw] at h;rw[PE.beq_eq _ _ h.1,PE.beq_eq _ _ h.2])|cases h
 |.slc c x y,e,h=>by cases e<;>first|(simp only[PE.beq,aw] at h;rw[PE.beq_eq _ _ h.1,PE.beq_eq _ _ h.2.1,PE.beq_eq _ _ h.2.2])|cases h
 |.slok c x y,e,h=>by cases e<;>first|(simp only[PE.beq,aw] at h;rw[PE.beq_eq _ _ h.1,PE.beq_eq _ _ h.2.1,PE.beq_eq _ _ h.2.2])|cases h
 |.ref x,e,h=>by cases e<;>first|(simp only[PE.beq] at h;rw[PE.beq_eq _ _ h])|cases h
 |.deref x,e,h=>by cases e<;>first|(simp only[PE.beq] at h;rw[PE.beq_eq _ _ h])|cases h
 |.look c x y,e,h=>by cases e<;>first|(simp only[PE.beq,aw] at h;rw[PE.beq_eq _ _ h.1,PE.beq_eq _ _ h.2.1,PE.beq_eq _ _ h.2.2])|cases h
 |.has x y,e,h=>by cases e<;>first|(simp only[PE.beq,aw] at h;rw[PE.beq_eq _ _ h.1,PE.beq_eq _ _ h.2])|cases h
 |.put c x y,e,h=>by cases e<;>first|(simp only[PE.beq,aw] at h;rw[PE.beq_eq _ _ h.1,PE.beq_eq _ _ h.2.1,PE.beq_eq _ _ h.2.2])|cases h
 |.mn x y,e,h=>by cases e<;>first|(simp only[PE.beq,aw] at h;rw[PE.beq_eq _ _ h.1,PE.beq_eq _ _ h.2])|cases h
 |.mx x y,e,h=>by cases e<;>first|(simp only[PE.beq,aw] at h;rw[PE.beq_eq _ _ h.1,PE.beq_eq _ _ h.2])|cases h
 |.tup x,e,h=>by cases e<;>first|(simp only[PE.beq] at h;rw[PE.beqs_eq _ _ h])|cases h
 |.tget x i,e,h=>by cases e<;>first|(simp only[PE.beq,aw] at h;rw[PE.beq_eq _ _ h.1,dA h.2])|cases h
 |.clo f x,e,h=>by cases e<;>first|(simp only[PE.beq,aw] at h;rw[dA h.1,PE.beqs_eq _ _ h.2])|cases h
 |.an x y,e,h=>by cases e<;>first|(simp only[PE.beq,aw] at h;rw[PE.beq_eq _ _ h.1,PE.beq_eq _ _ h.2])|cases h
 |.imp c x,e,h=>by cases e<;>first|(simp only[PE.beq,aw] at h;rw[Ff _ _ h.1,PE.beq_eq _ _ h.2])|cases h
theorem PE.beqs_eq:∀a b:List PE,PE.beqs a b=true→a=b
 |[],e,h=>by cases e<;>first|rfl|cases h
 |a::aa,e,h=>by
  cases e with
  |nil=>cases h
  |cons b bs=>simp only[PE.beqs,aw] at h;rw[PE.beq_eq _ _ h.1,PE.beqs_eq _ _ h.2]
end
def PI.beq:PI→PI→Bool
 |.setR t x,e=>match e with|.setR u y=>Nat.beq t u&&PE.beq x y|_=>false
 |.setO t x,e=>match e with|.setO u y=>Nat.beq t u&&PE.beq x y|_=>false
 |.chk x,e=>match e with|.chk y=>PE.beq x y|_=>false
 |.call gs d f aa,e=>match e with|.call bP d' f' D4=>uq gs bP&&(Nat.beq d d'&&(Nat.beq f f'&&PE.beqs aa D4))|_=>false
 |.callc gs d f aa,e=>match e with|.callc bP d' f' D4=>uq gs bP&&(Nat.beq d d'&&(PE.beq f f'&&PE.beqs aa D4))|_=>false
 |.mcall d f aa,e=>match e with|.mcall d' f' D4=>Nat.beq d d'&&(Nat.beq f f'&&PE.beqs aa D4)|_=>false
theorem PI.beq_eq:∀a b:PI,PI.beq a b=true→a=b:=by
 intro a b h;cases a<;>cases b<;>first
  |(cases h;done)
  |(simp only[PI.beq,aw] at h;first
       |rw[dA h.1,PE.beq_eq _ _ h.2]
       |rw[PE.beq_eq _ _ h]
       |rw[Ff _ _ h.1,dA h.2.1,dA h.2.2.1,PE.beqs_eq _ _ h.2.2.2]
       |rw[Ff _ _ h.1,dA h.2.1,PE.beq_eq _ _ h.2.2.1,PE.beqs_eq _ _ h.2.2.2]
       |rw[dA h.1,dA h.2.1,PE.beqs_eq _ _ h.2.2])
def PI.beqs:List PI→List PI→Bool
 |[],e=>match e with|[]=>true|_=>false
 |a::aa,e=>match e with|b::bs=>PI.beq a b&&PI.beqs aa bs|_=>false
theorem PI.beqs_eq:∀a b:List PI,PI.beqs a b=true→a=b
 |[],e,h=>by cases e<;>first|rfl|cases h
 |a::aa,e,h=>by
  cases e with
  |nil=>cases h
  |cons b bs=>simp only[PI.beqs,aw] at h;rw[PI.beq_eq _ _ h.1,PI.beqs_eq _ _ h.2]
end Cx
namespace Cx
open Go Go.RowKit
structure Lk where
 r:Nat
 o:List Nat
def Lk.or (a b:Lk):Lk:=⟨Nat.lor a.r b.r,a.o++b.o⟩
def Lk.none:Lk:=⟨0,[]⟩
def mB:List (Nat×Bool)→Lk
 |[]=>.none
 |g::gs=>⟨Nat.lor (iu g.1) (mB gs).r,(mB gs).o⟩
mutual
def PE.lk:PE→Lk
 |.r t=>⟨iu t,[]⟩
 |.o j=>⟨0,[j]⟩
 |.con _=>.none
 |.cell e _|.sub e _ _|.nt e|.conv _ e|.llen e|.bytes e|.slen e|.mlen e|.ref e|.deref e|.tget e _=>PE.lk e
 |.setc x _ y|.ai _ _ x y|.ci _ x y|.cb _ x y|.cs _ x y|.sadd x y|.nth x y|.idx x y|.sidx x y|.sok x y|.app x y|.rep x y|.has x y|.mn x y|.mx x y|.an x y=>(PE.lk x).or (PE.lk y)
 |.mk es|.lst es|.tup es|.clo _ es=>PE.lks es
 |.pick x y z|.slc x y z|.slok x y z|.look x y z|.put x y z|.setn x y _ z=>(PE.lk x).or ((PE.lk y).or (PE.lk z))
 |.imp c x=>(mB c).or (PE.lk x)
def PE.lks:List PE→Lk
 |[]=>.none
 |e::es=>(PE.lk e).or (PE.lks es)
end
structure Alike (k:Lk) (ρ ρ':Env):Prop where
 r:∀t,aU k.r t=true→ρ'.r t=ρ.r t
 o:∀j,j∈k.o→ρ'.o j=ρ.o j
theorem Alike.left {a b:Lk}{ρ ρ':Env}(h:Alike (a.or b) ρ ρ'):Alike a ρ ρ':=
 ⟨fun t ht=>h.r t (by simp only[Lk.or,gJ,ht,DL]),fun j hj=>h.o j (jd _ hj)⟩
theorem Alike.right {a b:Lk}{ρ ρ':Env}(h:Alike (a.or b) ρ ρ'):Alike b ρ ρ':=
 ⟨fun t ht=>h.r t (by simp only[Lk.or,gJ,ht,tG]),fun j hj=>h.o j (jA _ hj)⟩
theorem Ci {ρ ρ':Env}:∀{c:List (Nat×Bool)},Alike (mB c) ρ ρ'→holds c ρ'=holds c ρ
 |[],_=>rfl
 |g::gs,h=>by
  have ih:=Ci (ρ:=ρ) (ρ':=ρ') (c:=gs) ⟨fun t ht=>h.r t (by simp only[mB,gJ,ht,tG]),fun j hj=>h.o j hj⟩;have h1:=h.r g.1 (by simp only[mB,gJ,rZ,DL]);unfold holds at ih ⊢;simp only[tJ];rw[ih,h1]
mutual
theorem PE.ev_alike {ρ ρ':Env}:∀(e:PE),Alike e.lk ρ ρ'→e.ev ρ'=e.ev ρ
 |.r t,h=>h.r t (rZ t)
 |.o j,h=>h.o j (by simp[PE.lk])
 |.con _,h=>rfl
 |.cell e _,h=>by simp only[PE.ev,PE.ev_alike e h]
 |.sub e _ _,h=>by simp only[PE.ev,PE.ev_alike e h]
 |.nt e,h=>by simp only[PE.ev,PE.ev_alike e h]
 |.conv _ e,h=>by simp only[PE.ev,PE.ev_alike e h]
 |.llen e,h=>by simp only[PE.ev,PE.ev_alike e h]
 |.bytes e,h=>by simp only[PE.ev,PE.ev_alike e h]
 |.slen e,h=>by simp only[PE.ev,PE.ev_alike e h]
 |.mlen e,h=>by simp only[PE.ev,PE.ev_alike e h]
 |.ref e,h=>by simp only[PE.ev,PE.ev_alike e h]
 |.deref e,h=>by simp only[PE.ev,PE.ev_alike e h]
 |.tget e _,h=>by simp only[PE.ev,PE.ev_alike e h]
 |.setc x _ y,h=>by simp only[PE.ev,PE.ev_alike x h.left,PE.ev_alike y h.right]
 |.ai _ _ x y,h=>by simp only[PE.ev,PE.ev_alike x h.left,PE.ev_alike y h.right]
 |.ci _ x y,h=>by simp only[PE.ev,PE.ev_alike x h.left,PE.ev_alike y h.right]
 |.cb _ x y,h=>by simp only[PE.ev,PE.ev_alike x h.left,PE.ev_alike y h.right]
 |.cs _ x y,h=>by simp only[PE.ev,PE.ev_alike x h.left,PE.ev_alike y h.right]
 |.sadd x y,h=>by simp only[PE.ev,PE.ev_alike x h.left,PE.ev_alike y h.right]
 |.nth x y,h=>by simp only[PE.ev,PE.ev_alike x h.left,PE.ev_alike y h.right]
 |.idx x y,h=>by simp only[PE.ev,PE.ev_alike x h.left,PE.ev_alike y h.right]
 |.sidx x y,h=>by simp only[PE.ev,PE.ev_alike x h.left,PE.ev_alike y h.right]
 |.sok x y,h=>by simp only[PE.ev,PE.ev_alike x h.left,PE.ev_alike y h.right]
 |.app x y,h=>by simp only[PE.ev,PE.ev_alike x h.left,PE.ev_alike y h.right]
 |.rep x y,h=>by simp only[PE.ev,PE.ev_alike x h.left,PE.ev_alike y h.right]
 |.has x y,h=>by simp only[PE.ev,PE.ev_alike x h.left,PE.ev_alike y h.right]
 |.mn x y,h=>by simp only[PE.ev,PE.ev_alike x h.left,PE.ev_alike y h.right]
 |.mx x y,h=>by simp only[PE.ev,PE.ev_alike x h.left,PE.ev_alike y h.right]
 |.an x y,h=>by simp only[PE.ev,PE.ev_alike x h.left,PE.ev_alike y h.right]
 |.mk es,h=>by simp only[PE.ev,PE.evc_alike es h]
 |.lst es,h=>by simp only[PE.ev,PE.evs_alike es h]
 |.tup es,h=>by simp only[PE.ev,PE.evs_alike es h]
 |.clo _ es,h=>by simp only[PE.ev,PE.evs_alike es h]
 |.pick x y z,h=>by simp only[PE.ev,PE.ev_alike x h.left,PE.ev_alike y h.right.left,PE.ev_alike z h.right.right]
 |.slc x y z,h=>by simp only[PE.ev,PE.ev_alike x h.left,PE.ev_alike y h.right.left,PE.ev_alike z h.right.right]
 |.slok x y z,h=>by simp only[PE.ev,PE.ev_alike x h.left,PE.ev_alike y h.right.left,PE.ev_alike z h.right.right]
 |.look x y z,h=>by simp only[PE.ev,PE.ev_alike x h.left,PE.ev_alike y h.right.left,PE.ev_alike z h.right.right]
 |.put x y z,h=>by simp only[PE.ev,PE.ev_alike x h.left,PE.ev_alike y h.right.left,PE.ev_alike z h.right.right]
 |.setn x y _ z,h=>by simp only[PE.ev,PE.ev_alike x h.left,PE.ev_alike y h.right.left,PE.ev_alike z h.right.right]
 |.imp c x,h=>by simp only[PE.ev,Ci h.left,PE.ev_alike x h.right]
theorem PE.evs_alike {ρ ρ':Env}:∀(es:List PE),Alike (PE.lks es) ρ ρ'→PE.evs ρ' es=PE.evs ρ es
 |[],h=>rfl
 |e::es,h=>by simp only[PE.evs,PE.ev_alike e h.left,PE.evs_alike es h.right]
theorem PE.evc_alike {ρ ρ':Env}:∀(es:List PE),Alike (PE.lks es) ρ ρ'→PE.evc ρ' es=PE.evc ρ es
 |[],h=>rfl
 |e::es,h=>by simp only[PE.evc,PE.ev_alike e h.left,PE.evc_alike es h.right]
end
def PI.lk:PI→Lk
 |.setR _ e|.setO _ e|.chk e=>e.lk
 |.call gs _ _ aa=>(mB gs).or (PE.lks aa)
 |.callc gs _ e aa=>(mB gs).or (e.lk.or (PE.lks aa))
 |.mcall _ _ aa=>PE.lks aa
inductive Eff where
 |skip
 |r (t:Nat) (d:D)
 |o (j:Nat) (d:D)
def Eff.app (ρ:Env):Eff→Env
 |.skip=>ρ
 |.r t d=>ρ.setR t d
 |.o j d=>ρ.setO j d
def PI.eff (Φ:aW)(ρ:Env):PI→Option Eff
 |.setR t e=>some (.r t (e.ev ρ))
 |.setO j e=>some (.o j (e.ev ρ))
 |.chk e=>bif (e.ev ρ).b then some .skip else none
 |.call gs dst f args=>bif holds gs ρ then(Φ f (PE.evs ρ args)).map (.r dst) else some .skip
 |.callc gs dst e args=>bif holds gs ρ then(match e.ev ρ with|.clo f caps=>(Φ f (PE.evs ρ args++caps)).map (.r dst)|_=>none) else some .skip
 |.mcall j f args=>(Φ f (PE.evs ρ args)).map (.o j)
theorem PI.run_eff (Φ:aW)(ρ:Env)(p:PI):p.run Φ ρ=(p.eff Φ ρ).map (Eff.app ρ):=by
 cases p with
 |setR t e=>rfl
 |setO t e=>rfl
 |chk e=>simp only[PI.run,PI.eff];cases(e.ev ρ).b<;>rfl
 |call gs d f aa=>
  simp only[PI.run,PI.eff];cases holds gs ρ
  ·rfl
  ·simp only[cond_true,abf];rfl
 |callc gs d e aa=>
  simp only[PI.run,PI.eff];cases holds gs ρ
  ·rfl
  ·simp only[cond_true];cases e.ev ρ<;>first|rfl|(simp only[abf];rfl)
 |mcall j f aa=>simp only[PI.run,PI.eff,abf];rfl
theorem PI.eff_alike {Φ:aW}{ρ ρ':Env}(p:PI)(h:Alike p.lk ρ ρ'):p.eff Φ ρ'=p.eff Φ ρ:=by
 cases p with
 |setR t e=>simp only[PI.eff,PE.ev_alike e h]
 |setO t e=>simp only[PI.eff,PE.ev_alike e h]
 |chk e=>simp only[PI.eff,PE.ev_alike e h]
 |call gs d f aa=>simp only[PI.eff,Ci h.left,PE.evs_alike aa h.right]
 |callc gs d e aa=>simp only[PI.eff,Ci h.left,PE.ev_alike e h.right.left,PE.evs_alike aa h.right.right]
 |mcall j f aa=>simp only[PI.eff,PE.evs_alike aa h]
def PI.wo:PI→List Nat
 |.setO j _|.mcall j _ _=>[j]
 |_=>[]
def Eff.within (m:Nat)(l:List Nat):Eff→Prop
 |.skip=>True
 |.r t _=>aU m t=true
 |.o j _=>j∈l
theorem PI.eff_within {Φ:aW}{ρ:Env}{p:PI}{x:Eff}(h:p.eff Φ ρ=some x):x.within p.mask p.wo:=by
 cases p with
 |setR t e=>simp only[PI.eff,bj] at h;subst h;exact rZ t
 |setO t e=>simp only[PI.eff,bj] at h;subst h;simp[Eff.within,PI.wo]
 |chk e=>simp only[PI.eff] at h;cases hb:(e.ev ρ).b<;>rw[hb] at h<;>cases h;trivial
 |call gs d f aa=>
  simp only[PI.eff] at h;cases hb:holds gs ρ<;>simp only[hb,cond_true,cond_false,bj,aC] at h
  ·subst h;trivial
  ·obtain⟨d,_,rfl⟩:=h;exact rZ _
 |callc gs d e aa=>
  simp only[PI.eff] at h;cases hb:holds gs ρ<;>simp only[hb,cond_true,cond_false,bj] at h
  ·subst h;trivial
  ·split at h
   ·simp only[aC] at h;obtain⟨d,_,rfl⟩:=h;exact rZ _
   ·cases h
 |mcall j f aa=>simp only[PI.eff,aC] at h;obtain⟨d,_,rfl⟩:=h;simp[Eff.within,PI.wo]
def Je (a b:List Nat):Bool:=a.all fun x=> !fR b x
structure Foot where
 wr:Nat
 wo:List Nat
 k:Lk
def iO:List PI→Foot
 |[]=>⟨0,[],.none⟩
 |p::l=>⟨Nat.lor p.mask (iO l).wr,p.wo++(iO l).wo,p.lk.or (iO l).k⟩
def Foot.comm (a b:Foot):Bool:=
 Nat.beq (Nat.land a.wr b.wr) 0&&(Nat.beq (Nat.land a.wr b.k.r) 0&&(Nat.beq (Nat.land b.wr a.k.r) 0&&
    (Je a.wo b.wo&&(Je a.wo b.k.o&&Je b.wo a.k.o))))
theorem TV {a b t:Nat}(h:Nat.beq (Nat.land a b) 0=true)(ha:aU a t=true)(hb:aU b t=true):False:=by
 have h1:=dA h;have h2:(a&&& b).testBit t=true:=by rw[Nat.testBit_and,←xU,←xU,ha,hb];rfl
 have h3:(a&&& b)=0:=h1;rw[h3] at h2;simp at h2
theorem P6 {a b:List Nat}(h:Je a b=true){x:Nat}(ha:x∈a)(hb:x∈b):False:=by
 have:=da.1 h x ha;rw[(sU b x).2 hb] at this;cases this
structure Comm (p q:PI):Prop where
 ww:∀t,aU p.mask t=true→aU q.mask t=true→False
 wr:∀t,aU p.mask t=true→aU q.lk.r t=true→False
 rw:∀t,aU q.mask t=true→aU p.lk.r t=true→False
 oww:∀t,t∈p.wo→t∈q.wo→False
 owr:∀t,t∈p.wo→t∈q.lk.o→False
 orw:∀t,t∈q.wo→t∈p.lk.o→False
theorem Eff.alike {x:Eff}{m:Nat}{l:List Nat}{k:Lk}{ρ:Env}(h:x.within m l)(h1:∀t,aU m t=true→aU k.r t=true→False)(h2:∀t,t∈l→t∈k.o→False):Alike k ρ (x.app ρ):=by
 cases x with
 |skip=>exact⟨fun _ _=>rfl,fun _ _=>rfl⟩
 |r t d=>exact⟨fun u hu=>bM _ _ (fun e=>h1 t h (e▸hu)),fun _ _=>rfl⟩
 |o t d=>exact⟨fun _ _=>rfl,fun u hu=>bM _ _ (fun e=>h2 t h (e▸hu))⟩
theorem akp {α:Type}(f:Nat→α){i j:Nat}(x y:α)(h:i≠j):cd (cd f i x) j y=cd (cd f j y) i x:=by
 funext t;simp only[fJ];by_cases h1:t=i
 ·subst h1;simp[h]
 ·simp[h1]
theorem Eff.comm {x y:Eff}{m m':Nat}{l l':List Nat}{ρ:Env}(hx:x.within m l)(hy:y.within m' l')(h1:∀t,aU m t=true→aU m' t=true→False)(h2:∀t,t∈l→t∈l'→False):
 y.app (x.app ρ)=x.app (y.app ρ):=by
 cases x with
 |skip=>rfl
 |r t d=>
  cases y with
  |skip=>rfl
  |r u e=>
   have ay:t≠u:=fun e=>h1 t hx (by subst e;exact hy);show Env.setR (Env.setR ρ t d) u e=Env.setR (Env.setR ρ u e) t d;simp only[Env.setR];rw[akp _ _ _ ay]
  |o u e=>rfl
 |o t d=>
  cases y with
  |skip=>rfl
  |r u e=>rfl
  |o u e=>
   have ay:t≠u:=fun e=>h2 t hx (by subst e;exact hy);show Env.setO (Env.setO ρ t d) u e=Env.setO (Env.setO ρ u e) t d;simp only[Env.setO];rw[akp _ _ _ ay]
theorem PI.comm {Φ:aW}{p q:PI}(h:Comm p q)(ρ:Env):(p.run Φ ρ).bind (q.run Φ)=(q.run Φ ρ).bind (p.run Φ):=by
 simp only[PI.run_eff];cases hp:p.eff Φ ρ with
 |none=>
  cases hq:q.eff Φ ρ with
  |none=>rfl
  |some y=>
   have:=PI.eff_alike (Φ:=Φ) p (Eff.alike (ρ:=ρ) (PI.eff_within hq) h.rw h.orw);simp[PI.run_eff,this,hp]
 |some x=>
  have hx:=PI.eff_within hp;have e1:=PI.eff_alike (Φ:=Φ) q (Eff.alike (ρ:=ρ) hx h.wr h.owr);cases hq:q.eff Φ ρ with
  |none=>simp[PI.run_eff,e1,hq]
  |some y=>
   have hy:=PI.eff_within hq;have e2:=PI.eff_alike (Φ:=Φ) p (Eff.alike (ρ:=ρ) hy h.rw h.orw);simp only[kW,tN,PI.run_eff,e1,e2,hp,hq];rw[Eff.comm hx hy h.ww h.oww]
theorem PI.comm1 {Φ:aW}{p:PI}:∀(l:List PI),(∀q,q∈l→Comm p q)→∀ρ,(p.run Φ ρ).bind (PI.runs Φ l)=(PI.runs Φ l ρ).bind (p.run Φ)
 |[],_,ρ=>by simp only[PI.runs];cases h:p.run Φ ρ<;>simp[h]
 |q::l,h,ρ=>by
  have ih:=PI.comm1 (Φ:=Φ) l fun q hq=>h q (fy _ hq);have hc:=PI.comm (Φ:=Φ) (h q (fK ..)) ρ;simp only[PI.runs];have e1:((p.run Φ ρ).bind fun ρ1=>(q.run Φ ρ1).bind (PI.runs Φ l))=((p.run Φ ρ).bind (q.run Φ)).bind (PI.runs Φ l):=by cases p.run Φ ρ<;>rfl
  show((p.run Φ ρ).bind fun ρ1=>(q.run Φ ρ1).bind (PI.runs Φ l))=_;rw[e1,hc];cases q.run Φ ρ with
  |none=>rfl
  |some ρ1=>simp only[tN];exact ih ρ1
theorem PI.comms {Φ:aW}:∀(a b:List PI),(∀p q,p∈a→q∈b→Comm p q)→∀ρ,PI.runs Φ (a++b) ρ=PI.runs Φ (b++a) ρ
 |[],b,_,ρ=>by simp
 |p::a,b,h,ρ=>by
  have ih:=PI.comms (Φ:=Φ) a b fun p q hp hq=>h p q (fy _ hp) hq;have h1:=PI.comm1 (Φ:=Φ) b (fun q hq=>h p q (fK ..) hq);simp only[IW,PI.runs,uY];have e1:((p.run Φ ρ).bind (PI.runs Φ (a++b)))=(p.run Φ ρ).bind (PI.runs Φ (b++a)):=by
   cases p.run Φ ρ with
   |none=>rfl
   |some ρ1=>exact ih ρ1
  rw[e1];have e2:PI.runs Φ (b++a)=fun ρ=>(PI.runs Φ b ρ).bind (PI.runs Φ a):=funext fun ρ=>uY;rw[e2];have e3:((p.run Φ ρ).bind fun ρ=>(PI.runs Φ b ρ).bind (PI.runs Φ a))=((p.run Φ ρ).bind (PI.runs Φ b)).bind (PI.runs Φ a):=by cases p.run Φ ρ<;>rfl
  rw[e3,h1 ρ];cases PI.runs Φ b ρ with
  |none=>rfl
  |some ρ1=>rfl
theorem acS {l:List PI}{p:PI}(h:p∈l):(∀t,aU p.mask t=true→aU (iO l).wr t=true)∧(∀t,t∈p.wo→t∈(iO l).wo)∧(∀t,aU p.lk.r t=true→aU (iO l).k.r t=true)∧∀t,t∈p.lk.o→t∈(iO l).k.o:=by
 induction l with
 |nil=>cases h
 |cons q l ih=>
  rcases cC.1 h with e|h
  ·subst e;refine⟨fun t ht=>?_,fun t ht=>jd _ ht,fun t ht=>?_,fun t ht=>jd _ ht⟩
   ·simp only[iO,gJ,ht,DL]
   ·simp only[iO,Lk.or,gJ,ht,DL]
  ·obtain⟨h1,h2,h3,h4⟩:=ih h;refine⟨fun t ht=>?_,fun t ht=>jA _ (h2 t ht),fun t ht=>?_,fun t ht=>jA _ (h4 t ht)⟩
   ·simp only[iO,gJ,h1 t ht,tG]
   ·simp only[iO,Lk.or,gJ,h3 t ht,tG]
def jB (S:St)(dst:Nat)(S':St):Prop:=∀t,t≠dst→S'.r t=S.r t
section
variable {C:Ctx} {S:St} {gs:List (Nat×Bool)} {dst:Nat} {r:St×List PI}
theorem jw {X:St}{s:Sh}(h:X.r=S.r):jB S dst (X.setR dst s):=fun t ht=>by simp only[St.setR,bM _ _ ht,h]
theorem apW (S:St)(j:Nat):(S.fz j).r=S.r:=(RO S j).2
theorem an1 {T:TypeId}{x:Operand}(h:EV C S dst T x=some r):jB S dst r.1:=by
 unfold EV at h;split at h
 ·simp only[aC] at h;obtain⟨e,_,rfl⟩:=h;exact jw rfl
 ·cases h
theorem an7 {T:TypeId}{x:Operand}(h:vq C S dst T x=some r):jB S dst r.1:=by
 unfold vq at h;split at h
 ·rename_i v;simp only[aA] at h;obtain⟨e,_,z,_,h⟩:=h;cases hc:jV e v<;>simp only[hc,cond_true,cond_false] at h<;>cases h;exact jw rfl
 ·cases h
theorem anx {T:TypeId}(h:EL C S dst T=some r):jB S dst r.1:=by
 unfold EL at h;split at h
 ·rename_i t inf ag _ _ _;cases hc:(u9 inf t&&(t.rowT||t.one))<;>simp only[hc,cond_true,cond_false] at h
  ·cases h
  ·simp only[aC] at h;obtain⟨e,_,rfl⟩:=h;exact jw rfl
 ·cases h
theorem anC {T:TypeId}{x:Operand}(h:EN C S dst T x=some r):jB S dst r.1:=by
 unfold EN at h;split at h
 ·rename_i t e ag _ _;cases hc:(t.rowT||t.one)<;>simp only[hc,cond_true,cond_false] at h<;>cases h;exact jw rfl
 ·split at h
  ·cases h;exact jw rfl
  ·cases h
 ·cases h
theorem anV {T:TypeId}{x:Option Operand}(h:ES C S dst T x=some r):jB S dst r.1:=by
 unfold ES at h;split at h
 ·simp only[aA,aC] at h;obtain⟨e,_,z,_,rfl⟩:=h;exact jw rfl
 ·cases h
theorem an3 {T:TypeId}{x:Operand}(h:EW C S dst T x=some r):jB S dst r.1:=by
 unfold EW at h;split at h
 case h_2=>cases h
 rename_i K E j ver hT es;cases hb:(Nat.beq ver (S.ver j)&& !Nat.beq j dst)<;>simp only[hb,cond_true,cond_false] at h
 ·cases h
 split at h
 ·cases h;exact jw rfl
 ·cases h
theorem anG {T U:TypeId}{x:Operand}(h:EO C S dst T U x=some r):jB S dst r.1:=by
 unfold EO at h;split at h
 ·split at h
  ·cases h;exact jw rfl
  ·cases h
 ·cases h
theorem anX {T:TypeId}{x y:Operand}(h:ET C S dst T x y=some r):jB S dst r.1:=by
 unfold ET at h;split at h
 ·rename_i E _ n _ m _ _ _;simp only[aA] at h;obtain⟨e,_,h⟩:=h;cases hc:sk C.P E e<;>simp only[hc,cond_true,cond_false] at h
  ·cases h
  ·simp only[aA] at h;obtain⟨z,_,h⟩:=h;cases yw:Ty.sub z.1 e<;>simp only[yw,cond_true,cond_false] at h<;>cases h;exact jw rfl
 ·cases h
theorem anE {T:TypeId}{n:Nat}{ps:List (Nat×Operand)}(h:yc C S gs dst T n ps=some r):jB S dst r.1:=by
 unfold yc at h;split at h
 ·simp only[aA] at h;obtain⟨e,_,z,_,h⟩:=h
  revert h
  generalize (_&&_:Bool)=b;intro h;cases b<;>simp only[cond_true,cond_false] at h
  ·cases h
  ·simp only[aC] at h;obtain⟨es,_,rfl⟩:=h;exact jw rfl
 ·cases h
theorem anT {T:TypeId}{n:Nat}{ps:List (Nat×Operand)}(h:BJ C S gs dst T n ps=some r):jB S dst r.1:=by
 unfold BJ at h;split at h
 ·simp only[aA] at h;obtain⟨e,_,h⟩:=h;split at h
  ·cases h;exact jw rfl
  ·cases h
 ·cases h
theorem anA {T:TypeId}{x y:Operand}(h:EM C S dst T x y=some r):jB S dst r.1:=by
 unfold EM at h;split at h
 ·rename_i E _;simp only[aA] at h;obtain⟨e,_,h⟩:=h;split at h
  ·rename_i tx ex _;cases hc:(sk C.P E e&&OP tx e)<;>simp only[hc,cond_true,cond_false] at h
   ·cases h
   ·split at h
    ·cases h;exact jw rfl
    ·cases h
    ·split at h
     ·rename_i j ver _;cases hc:Nat.beq ver (S.ver j)<;>simp only[hc,cond_true,cond_false] at h
      ·cases h
      ·split at h
       ·rename_i E' e' _;cases hc:(Nat.beq E' E&&Ty.beq e' e)<;>simp only[hc,cond_true,cond_false] at h<;>cases h;exact jw rfl
       ·cases h
     ·cases h
  ·cases h
 ·cases h
theorem anN {f:Nat}{xs:List Operand}(h:ER C S dst f xs=some r):jB S dst r.1:=by
 simp only[ER,aA] at h;obtain⟨s,_,h⟩:=h;split at h
 ·rename_i T e _;simp only[aA] at h;obtain⟨u,_,h⟩:=h;cases hc:Ty.subs u.1 s.args<;>simp only[hc,cond_true,cond_false] at h<;>cases h;refine jw (X:=(bif e.pure then S else S.fzs (ef S [] xs)).newO dst (.row T e)) ?_;cases e.pure
  ·exact(yj _ S).2
  ·rfl
 ·cases h
theorem anR {f:Nat}{xs:List Operand}{q:St×Sh×List PI}(h:BI C S gs dst f xs=some q):q.1.r=S.r:=by
 simp only[BI,aA] at h;obtain⟨s,_,h⟩:=h;split at h
 ·simp only[aA] at h;obtain⟨u,_,h⟩:=h;cases hc:Ty.subs u.1 s.args<;>simp only[hc,cond_true,cond_false] at h<;>cases h;cases s.res.pure
  ·exact(yj _ S).2
  ·rfl
 ·cases h
theorem anI {x:Operand}{xs:List Operand}{q:St×Sh×List PI}(h:yd C S gs dst x xs=some q):q.1.r=S.r:=by
 unfold yd at h;split at h
 ·rename_i aa r0 _ _;split at h
  case h_1=>cases h
  simp only[aA] at h;obtain⟨u,_,h⟩:=h;cases hc:Ty.subs u.1 aa<;>simp only[hc,cond_true,cond_false] at h<;>cases h;cases r0.pure
  ·exact(yj _ S).2
  ·rfl
 ·cases h
theorem an5 {T:TypeId}{x v:Operand}(h:EX C S T x v=some r):r.1.r=S.r:=by
 unfold EX at h;split at h
 case h_2=>cases h
 rename_i inf _;split at h
 ·rename_i j ver off _;cases hc:Nat.beq ver (S.ver j)<;>simp only[hc,cond_true,cond_false] at h
  ·cases h
  split at h
  case h_2=>cases h
  rename_i ag shs _;split at h
  ·revert h
   generalize (_&&_:Bool)=b;intro h;cases b<;>simp only[cond_true,cond_false] at h<;>cases h;rfl
  ·split at h
   ·revert h
    generalize (_&&_:Bool)=b;intro h;cases b<;>simp only[cond_true,cond_false] at h<;>cases h;rfl
   ·cases h
 ·rename_i j ver size off _;cases hc:Nat.beq ver (S.ver j)<;>simp only[hc,cond_true,cond_false] at h
  ·cases h
  split at h
  ·revert h
   generalize (_&&_:Bool)=b;intro h;cases b<;>simp only[cond_true,cond_false] at h<;>cases h;rfl
  ·revert h
   generalize (_&&_:Bool)=b;intro h;cases b<;>simp only[cond_true,cond_false] at h<;>cases h;rfl
  ·cases h
 ·cases h
theorem acp {T:TypeId}{m k v:Operand}(h:BK C S T m k v=some r):r.1.r=S.r:=by
 unfold BK at h;split at h
 ·rename_i K _ j ver _ _;cases hc:Nat.beq ver (S.ver j)<;>simp only[hc,cond_true,cond_false] at h
  ·cases h
  split at h
  ·revert h
   generalize (_&&_:Bool)=b;intro h;cases b<;>simp only[cond_true,cond_false] at h<;>cases h;rfl
  ·cases h
 ·cases h
theorem anP {f:Nat}{xs:List Operand}(h:Rr C S dst f xs=some r):jB S dst r.1:=by cases h
theorem anK {f:Nat}{xs:List Operand}(h:EP C S dst f xs=some r):jB S dst r.1:=by
 simp only[EP,aA] at h;obtain⟨s,_,h⟩:=h;split at h
 case h_2=>cases h
 split at h
 case h_2=>cases h
 split at h
 case h_2=>cases h
 revert h
 generalize (_&&_:Bool)=b;intro h;cases b<;>simp only[cond_true,cond_false] at h
 ·cases h
 simp only[aA] at h;obtain⟨u,_,h⟩:=h
 revert h
 generalize Ty.subs _ _=b;intro h;cases b<;>simp only[cond_true,cond_false] at h
 ·cases h
 cases h;exact jw rfl
theorem acn {f:Nat}{xs:List Operand}{cs:List (Nat×Nat)}{q:St×Ty×List PI}(h:vp C S f xs cs=some q):q.1.r=S.r:=by
 simp only[vp,aA] at h;obtain⟨s,_,h⟩:=h;split at h
 ·rename_i shs obs _;unfold Rq Rp at h;simp only[aA] at h;obtain⟨u,_,h⟩:=h
  revert h
  generalize (_&&_:Bool)=b;intro h;cases b<;>simp only[cond_true,cond_false] at h<;>cases h;exact(yj _ S).2
 ·cases h
theorem ack {t:Nat}{xs:List Operand}{q:St×Ty×List PI}(h:K5 C S t xs=some q):q.1.r=S.r:=by cases h
theorem agc {dst:Nat}{q:St×Ty×List PI}(h:q.1.r=S.r):jB S dst (ri S (some dst) q).1:=jw h
theorem anZ {fn:Fn}{a b:Array Operand}(h:Rs C S dst fn a b=some r):jB S dst r.1:=by cases h
theorem am8 {o:Oper}(hr:core C S gs o=some r):∀t,o.dst≠some t→r.1.r t=S.r t:=by
 unfold core at hr;split at hr
 ·rename_i dst hd
  suffices h:jB S dst r.1 by
   intro t ht;exact h t (fun e=>ht (by rw[hd,e]))
  split at hr
  ·rename_i q hq;cases gl:MH q.1<;>simp only[gl,cond_true,cond_false] at hr<;>cases hr;exact jw rfl
  ·split at hr
   ·rename_i x e _
    have mv:∀r,(match zo C S [] dst x with|some r=>some (S.setR dst r.1,r.2)|none=>vq C S dst o.type x)=some r→jB S dst r.1:=by
     intro r hr;split at hr
     ·cases hr;exact jw rfl
     ·exact an7 hr
    cases fj:C.fr.any (Nat.beq dst)<;>simp only[fj,cond_true,cond_false] at hr
    ·split at hr
     ·rename_i q hq;cases hr;exact an1 hq
     ·exact mv r hr
    ·exact mv r hr
   ·exact anx hr
   ·exact anC hr
   ·split at hr
    ·exact anE hr
    ·exact anT hr
   ·exact anX hr
   ·exact anV hr
   ·exact an3 hr
   ·exact anG hr
   ·rename_i c e;split at hr
    ·split at hr
     ·rename_i s x T T' _ _;cases hT:Nat.beq T T'<;>simp only[hT,cond_true,cond_false] at hr
      ·cases hr
      ·exact anA hr
     ·cases hr
    ·split at hr
     ·rename_i q hq;cases hr;exact jw (anR hq)
     ·split at hr
      ·split at hr
       ·rename_i q hq;cases hr;exact anN hq
       ·split at hr
        ·rename_i q hq;cases hr;exact anP hq
        split at hr
        ·rename_i q hq;cases hr;exact anK hq
        ·simp only[aC] at hr;obtain⟨q,hq,rfl⟩:=hr;exact agc (acn hq)
      ·cases hr
    ·split at hr
     ·rename_i q hq;cases hr;exact jw (anI hq)
     ·split at hr
      ·simp only[aC] at hr;obtain⟨q,hq,rfl⟩:=hr;exact agc (ack hq)
      ·cases hr
    ·cases hr
   ·exact anZ hr
   ·cases hr
 ·split at hr
  ·intro t _;rw[an5 hr]
  ·intro t _;rw[acp hr]
  ·intro t _;rw[acp hr]
  ·cases hr;intro t _;rfl
  ·intro t _;split at hr
   ·simp only[aC] at hr;obtain⟨q,hq,rfl⟩:=hr;simp only[ri,acn hq]
   ·simp only[aC] at hr;obtain⟨q,hq,rfl⟩:=hr;simp only[ri,ack hq]
   ·cases hr
  ·cases hr
theorem apY {g:Gh}(hr:g.run C S=some r):∀t,(∀u j,g=.rereg u j→t≠u)→r.1.r t=S.r t:=by
 intro t ht;cases g with
 |fz j=>simp only[Gh.run,bj] at hr;subst hr;rw[apW]
 |fbox b=>
  simp only[Gh.run,Fb] at hr;split at hr
  case h_2=>cases hr
  rename_i ag shs _;simp only[aA] at hr;obtain⟨x,_,hr⟩:=hr;cases ag<;>simp only[cond_true,cond_false] at hr
  ·split at hr
   ·cases hr;rfl
   ·cases hr
  ·cases hr;rfl
 |rereg u j=>
  simp only[Gh.run,Ie] at hr;split at hr
  ·revert hr
   generalize (_&&_:Bool)=b;intro hr;cases b<;>simp only[cond_true,cond_false] at hr<;>cases hr
   ·rfl
   ·simp only[St.setR,bM _ _ (ht u j rfl)];rfl
  ·cases hr;rfl
 |recell b i j=>cases hr
 |home b i j T=>
  simp only[Gh.run,FV] at hr;split at hr
  ·split at hr
   ·revert hr
    generalize (!_:Bool)=b;intro hr;cases b<;>simp only[cond_true,cond_false] at hr<;>cases hr<;>rfl
   ·cases hr;rfl
  ·cases hr;rfl
theorem RP:∀(l:List Gh) {S:St} {r:St×List PI},nS C l S=some r→∀t,(∀g u j,g∈l→g=.rereg u j→t≠u)→r.1.r t=S.r t
 |[],S,r,hr,t,_=>by simp only[nS,bj] at hr;subst hr;rfl
 |g::l,S,r,hr,t,ht=>by
  simp only[nS,aA,aC] at hr;obtain⟨q,hq,q2,fO,rfl⟩:=hr;have h1:=RP l fO t (fun g u j hg=>ht g u j (fy _ hg));have h2:=apY hq t (fun u j e=>ht g u j (fK ..) e);exact h1.trans h2
theorem awI (S:St)(gs:List (Nat×Bool))(o:Oper):∀g u j,g∈pre C S gs o.op++Vu C S gs o→g≠.rereg u j:=by
 intro g u j hg e;subst e;rw[dN] at hg;rcases hg with hg|hg
 ·unfold pre at hg;split at hg
  ·rename_i fn _ _ _;cases ho:agb C fn<;>simp only[ho,cond_true,cond_false] at hg
   case true=>cases hg
   obtain⟨b,_,hb⟩:=xA.1 hg;rw[dN] at hb;rcases hb with hb|hb
   ·split at hb
    ·obtain⟨_,_,h⟩:=cu.1 hb;cases h
    ·cases hb
   ·simp at hb
  ·split at hg
   ·replace hg:=avy hg
    split at hg
    ·obtain⟨_,_,h⟩:=cu.1 hg;cases h
    ·cases hg
   ·cases hg
  ·obtain⟨_,_,h⟩:=cu.1 hg;cases h
  ·obtain⟨_,_,h⟩:=cu.1 hg;cases h
 ·unfold Vu at hg;split at hg
  ·rename_i x t _ _;cases hc:C.fr.any (Nat.beq t)<;>simp only[hc,cond_true,cond_false] at hg
   ·cases hg
   ·obtain⟨_,_,h⟩:=cu.1 hg;cases h
  ·cases hg
theorem awH (S:St)(o:Oper):∀g u j,g∈post C S o→g=.rereg u j→o.dst=some u:=by
 intro g u j hg e;subst e;unfold post at hg;split at hg
 ·rename_i t _ hd;simp at hg;rw[hd,hg.1]
 ·unfold Mp homes at hg;have:=(eu.1 hg).1;obtain⟨x,_,hx⟩:=Aq.1 this;cases kF:x.1<;>rw[kF] at hx<;>simp at hx
 ·split at hg
  ·unfold Mp homes at hg;have:=(eu.1 hg).1;obtain⟨x,_,hx⟩:=Aq.1 this;cases kF:x.1<;>rw[kF] at hx<;>simp at hx
  ·cases hg
 ·cases hg
theorem amY {ops:Array Oper}{o:Oper}(hr:EH C S ops o=some r):∀t,o.dst≠some t→r.1.r t=S.r t:=by
 intro t ht;unfold EH at hr;split at hr
 ·rename_i q hq;cases hr;simp only[KX,aA] at hq;obtain⟨gs,_,r1,h1,r2,h2,r3,h3,hq⟩:=hq
  revert hq
  generalize Lj gs o.dst r2.2=b;intro hq;cases b<;>simp only[cond_true,cond_false] at hq<;>cases hq;have e1:=RP _ h1 t (fun g u j hg e=>absurd e (awI S gs o g u j hg));have e2:=am8 h2 t ht
  have e3:=RP _ h3 t (fun g u j hg e=>by
   have:=awH r2.1 o g u j hg e;intro e';subst e';exact ht this)
  exact e3.trans (e2.trans e1)
 ·cases hr;split
  ·rename_i d hd;simp only[St.setR];rw[bM];intro e;subst e;exact ht hd
  ·rfl
theorem ab1 {ops:Array Oper}{o:Oper}(hr:yb C S ops o=some r):∀t,o.dst≠some t→r.1.r t=S.r t:=by
 intro t ht;unfold yb at hr;split at hr
 ·rename_i q hq;cases hr;unfold KZ at hq;split at hq
  case h_2=>cases hq
  rename_i dst _ args _ _ _ hd _ _;simp only[aA] at hq;obtain⟨gs,_,hq⟩:=hq;split at hq
  case h_2=>cases hq
  split at hq
  case h_2=>cases hq
  simp only[aA] at hq;obtain⟨u,_,hq⟩:=hq;rw[qg] at hq;split at hq<;>cases hq;simp only[St.setR];rw[bM,(yj _ S).2];intro e;subst e;exact ht hd
 ·exact amY hr t ht
theorem ab3 {ops:Array Oper}:∀{l:List Nat} {S:St} {r:St×List PI},vm C ops l S=some r→∀t,(∀i o,i∈l→ops[i]?=some o→o.dst≠some t)→r.1.r t=S.r t
 |[],S,r,h,t,_=>by simp only[vm,bj] at h;subst h;rfl
 |i::l,S,r,h,t,ht=>by
  simp only[vm] at h;split at h
  ·rename_i o ho;simp only[aA,aC] at h;obtain⟨q,hq,q2,fO,rfl⟩:=h;exact(ab3 fO t fun j o hj=>ht j o (fy _ hj)).trans (ab1 hq t (ht i o (fK ..) ho))
  ·cases h
end
end Cx
namespace Cx
open Go Go.RowKit
def lC (S:St):Sh→Sh
 |.opt gs s=>.opt gs (ix S s)
 |s=>ix S s
def St.snapO (n:Nat)(ids:List Nat)(S:St):Snap:=⟨(List.range n).map fun t=>lC S (S.r t),ids.map fun j=>jO S (S.o j)⟩
def Snap.stO (ids:List Nat)(s:Snap):St:=⟨fun t=>s.rs.getD t .none,fun j=>eH ids s.os j,fun _=>0⟩
theorem sV (S:St)(s:Sh):∀gs s',ix S s≠.opt gs s':=by
 intro gs s' e;cases s<;>simp only[ix] at e<;>first|cases e|(revert e;cases Nat.beq _ _<;>intro e<;>cases e)|(revert e;cases List.all _ _<;>intro e<;>cases e)
section
variable {C:Ctx} {S:St} {ρ:Env} {σ:Im} {own:Nat→Option Nat} {hv:Nat→Value} {w0:World} {σ0:Base} {A:Nat→Prop} {a:Act} {w:World} {n:Nat} {ids:List Nat} {Φ:aW}
theorem avH {s:Sh}{v:Value}{d:D}(h:aJ C S ρ σ hv s v d){T:St}(hT:T.ver=fun _=>0):aJ C T ρ σ hv (lC S s) v d:=by
 have hc:Compat S.norm hv T hv:=⟨fun j=>by rw[hT];exact kU _,fun _ _=>rfl⟩
 have key:∀s,aJ C S ρ σ hv s v d→aJ C T ρ σ hv (ix S s) v d:=fun s hs=>aJ.mono' (.refl σ) hc (sV S s) (MG hs).1;cases s with
 |opt gs s=>exact⟨fun hh=>key s (h.1 hh),h.2⟩
 |_=>exact key _ h
theorem Good.snapO (h:Good C w0 σ0 S ρ A a w)(n:Nat)(ids:List Nat):Good C w0 σ0 ((S.snapO n ids).stO ids) ρ A a w:=by
 obtain⟨σ,own,hv,h⟩:=h;have h1:=h.norm;have hc:Compat S.norm hv ((S.snapO n ids).stO ids) hv:=⟨fun _=>bn _,fun _ _=>rfl⟩
 refine⟨σ,own,hv,h.defers,h.ok,h.le,h.old,h.newc,h.newm,h.below,h.bw,h.owns,fun t=>?_,fun j=>?_,fun t gs s e=>?_,?_⟩
 rotate_right
 ·obtain⟨t,fx,cx,f1,f5⟩:=h.frame;refine⟨t,fx,cx,f1,fun j hj=>f5 j ?_⟩;exact zc (fun j=>jO S (S.o j)) (fun ob=>ob=.tr→S.o j=.tr) (fun e=>by cases e) j af5 ids hj
 ·show aJ C _ ρ σ hv (((List.range n).map fun t=>lC S (S.r t)).getD t .none) _ _;rw[aI,ct];by_cases ht:t<n
  ·rw[rU ht];exact avH (h.regs t) rfl
  ·rw[jW (by simpa using ht)];trivial
 ·have ho:=(h1.objs j).mono (.refl σ) hc (w:=w) (w':=w) rfl rfl (fun k hk=>⟨hk,rfl⟩);exact zc (fun j=>jO S (S.o j)) (fun ob=>cA C _ ρ σ own hv w w0.heap.size j ob) trivial j ho ids
 ·change ((List.range n).map fun t=>lC S (S.r t)).getD t .none=.opt gs s at e;rw[aI,ct] at e;by_cases ht:t<n
  ·rw[rU ht] at e;simp only[kW,kV] at e;cases hs:S.r t with
   |opt bP s'=>
    rw[hs] at e;simp only[lC,Sh.opt.injEq] at e;obtain⟨rfl,rfl⟩:=e;exact⟨(h.opts t bP s' hs).1,sV S s'⟩
   |none=>rw[hs] at e;exact absurd e (sV S .none gs s)
   |yv=>rw[hs] at e;exact absurd e (sV S .yv gs s)
   |fclo f c=>rw[hs] at e;exact absurd e (sV S (.fclo f c) gs s)
   |agg l=>rw[hs] at e;exact absurd e (sV S (.agg l) gs s)
   |dat t=>rw[hs] at e;exact absurd e (sV S (.dat t) gs s)
   |obj t u=>rw[hs] at e;exact absurd e (sV S (.obj t u) gs s)
   |ptr t u v=>rw[hs] at e;exact absurd e (sV S (.ptr t u v) gs s)
   |eptr t u v x=>rw[hs] at e;exact absurd e (sV S (.eptr t u v x) gs s)
  ·rw[jW (by simpa using ht)] at e;cases e
theorem Good.snapF (h:Good C w0 σ0 S ρ A a w)(n:Nat)(ids:List Nat):Good C w0 σ0 ((S.snap n ids).st ids) ρ (fun _=>False) a w:=by
 obtain⟨σ,own,hv,h⟩:=h;exact⟨σ,own,hv,h.snap n ids⟩
theorem Good.drew (h:Good C w0 σ0 S ρ A a w):Good C w0 σ0 S ρ A a {w with drawn:=w.drawn+1}:=by
 obtain⟨σ,own,hv,h⟩:=h;refine⟨σ,own,hv,h.defers,⟨fun k o v e=>h.ok.c k o v e,fun k es e=>h.ok.m k es e,fun k o n e=>h.ok.f k o n e⟩,h.le,h.old,h.newc,h.newm,h.below.drew,h.bw,h.owns,h.regs,fun j=>?_,h.opts,?_⟩
 rotate_right
 ·obtain⟨t,fx,cx,f1,f2⟩:=h.frame;exact⟨t,fx,cx,⟨σ0.keep _ _ _ _ _ f1.F (Below.drew (.refl _ _)) (fun _ _=>rfl),f1.own,f1.c,f1.m,f1.d⟩,f2⟩
 exact(h.objs j).mono (.refl σ) (.refl S hv) rfl rfl (fun k hk=>⟨hk,rfl⟩)
end
def Dt (g:Sh→Sh)(S:St)(rs:List Sh)(ds:List Nat):List Sh:=(ds.foldl (fun l d=>l.set d (S.r d)) rs).map g
theorem acR (S:St):∀(ds:List Nat) (rs:List Sh),(ds.foldl (fun l d=>l.set d (S.r d)) rs).length=rs.length∧∀t,t<rs.length→(ds.foldl (fun l d=>l.set d (S.r d)) rs).getD t .none=if t∈ds then S.r t else rs.getD t .none
 |[],rs=>⟨rfl,fun t _=>by simp⟩
 |d::ds,rs=>by
  obtain⟨h1,h2⟩:=acR S ds (rs.set d (S.r d));simp only[List.length_set] at h1 h2;refine⟨h1,fun t ht=>?_⟩;rw[xw,h2 t ht];simp only[cC,aI,IY];by_cases hm:t∈ds
  ·simp[hm]
  ·by_cases e:d=t
   ·subst e;simp[hm,ht]
   ·have e':¬t=d:=fun h=>e h.symm;simp[hm,e,e']
theorem OL {g:Sh→Sh}{S:St}{rs:List Sh}{ds:List Nat}(h:∀t,t∉ds→g (rs.getD t .none)=g (S.r t)):Dt g S rs ds=(List.range rs.length).map fun t=>g (S.r t):=by
 obtain⟨h1,h2⟩:=acR S ds rs;unfold Dt;apply vc;intro t;simp only[ct];by_cases ht:t<rs.length
 ·have:=h2 t ht;rw[aI,aX (by omega)] at this;rw[aX (by omega),rU ht];simp only[kV,kW] at this ⊢;rw[this];by_cases hm:t∈ds
  ·simp[hm]
  ·simp only[hm,if_false];rw[h t hm]
 ·rw[jW (by omega),jW (by simpa using ht)];rfl
def Sh.hd {α:Type}(s:Sh)(k:Sh→α):α:=
 match s with
 |.none=>k .none
 |.dat t=>k (.dat t)
 |.obj j v=>k (.obj j v)
 |.ptr j v o=>k (.ptr j v o)
 |.eptr j v z o=>k (.eptr j v z o)
 |.opt gs s=>k (.opt gs s)
 |.yv=>k .yv
 |.fclo f c=>k (.fclo f c)
 |.agg l=>k (.agg l)
theorem Sh.hd_eq {α:Type}(s:Sh)(k:Sh→α):s.hd k=k s:=by cases s<;>rfl
def B1 {α:Type}:List Sh→(List Sh→α)→α
 |[],k=>k []
 |s::l,k=>s.hd fun s=>B1 l fun l=>k (s::l)
theorem R5 {α:Type}:∀(l:List Sh) (k:List Sh→α),B1 l k=k l
 |[],_=>rfl
 |s::l,k=>by rw[B1,Sh.hd_eq,R5 l]
def Ob.hd {α:Type}(s:Ob)(k:Ob→α):α:=
 match s with
 |.dead=>k .dead
 |.fz t=>k (.fz t)
 |.fbox t=>k (.fbox t)
 |.box true l=>B1 l fun l=>k (.box true l)
 |.box false l=>B1 l fun l=>k (.box false l)
 |.row T e=>k (.row T e)
 |.mp a b=>k (.mp a b)
 |.it a b=>k (.it a b)
 |.tr=>k .tr
theorem Ob.hd_eq {α:Type}(s:Ob)(k:Ob→α):s.hd k=k s:=by
 cases s with
 |box ag l=>cases ag<;>simp only[Ob.hd,R5]
 |_=>rfl
def Ly {α:Type}:List Ob→(List Ob→α)→α
 |[],k=>k []
 |s::l,k=>s.hd fun s=>Ly l fun l=>k (s::l)
theorem adn {α:Type}:∀(l:List Ob) (k:List Ob→α),Ly l k=k l
 |[],_=>rfl
 |s::l,k=>by rw[Ly,Ob.hd_eq,adn l]
def Snap.hard {α:Type}(s:Snap)(k:Snap→α):α:=B1 s.rs fun a=>Ly s.os fun b=>k ⟨a,b⟩
theorem Snap.hard_eq {α:Type}(s:Snap)(k:Snap→α):s.hard k=k s:=by rw[Snap.hard,R5,adn]
def Lz {α β:Type}:List β→(List β→α)→α
 |[],k=>k []
 |s::l,k=>Lz l fun l=>k (s::l)
theorem adp {α β:Type}:∀(l:List β) (k:List β→α),Lz l k=k l
 |[],_=>rfl
 |s::l,k=>by rw[Lz,adp l]
def Fo {α β:Type}:List (List β)→(List (List β)→α)→α
 |[],k=>k []
 |s::l,k=>Lz s fun s=>Fo l fun l=>k (s::l)
theorem ado {α β:Type}:∀(l:List (List β)) (k:List (List β)→α),Fo l k=k l
 |[],_=>rfl
 |s::l,k=>by rw[Fo,adp,ado l]
def aB (P:Program){α:Type}(s:Sem α):Prop:=(∃a,∀w,s.run P w=.ok a w)∨∀w,∃h w',s.run P w=.halt h w'
section
variable {P:Program}
theorem aB.pure {α:Type}(a:α):aB P (Sem.pure a):=.inl ⟨a,fun w=>rfl⟩
theorem aB.pure' {α:Type}(a:α):aB P (Pure.pure a:Sem α):=.inl ⟨a,fun w=>rfl⟩
theorem aB.halt {α:Type}(h:Halt):aB P (Sem.halt h:Sem α):=.inr fun w=>⟨h,w,rfl⟩
theorem aB.bind' {α β:Type}{s:Sem α}{f:α→Sem β}(h:aB P s)(hf:∀a,(∀w,s.run P w=.ok a w)→aB P (f a)):aB P (s>>=f):=by
 rcases h with⟨a,ha⟩|hd
 ·rcases hf a ha with⟨b,hb⟩|hd
  ·exact .inl ⟨b,fun w=>by rw[Sem.run_bind,ha w];exact hb w⟩
  ·refine .inr fun w=>?_;obtain⟨x,w',e⟩:=hd w;exact⟨x,w',by rw[Sem.run_bind,ha w];exact e⟩
 ·refine .inr fun w=>?_;obtain⟨x,w',e⟩:=hd w;exact⟨x,w',by rw[Sem.run_bind,e];rfl⟩
theorem aB.bind {α β:Type}{s:Sem α}{f:α→Sem β}(h:aB P s)(hf:∀a,aB P (f a)):aB P (s>>=f):=h.bind' fun a _=>hf a
def cr {α:Type}(s:Sem α):Prop:=∀P w,∃h w',s.run P w=.halt h w'
theorem cr.noW {α:Type}{s:Sem α}(h:cr s):aB P s:=.inr (h P)
theorem cr.halt {α:Type}(h:Halt):cr (Sem.halt h:Sem α):=fun P w=>⟨h,w,rfl⟩
theorem cr.of_bind {α β:Type}{s:Sem α}{f:α→Sem β}(hf:∀a,cr (f a)):cr (s>>=f):=by
 intro P w;rw[Sem.run_bind];cases e:s.run P w with
 |ok a w'=>exact hf a P w'
 |halt h w'=>exact⟨h,w',rfl⟩
theorem aB.asBool (v:Value):aB P (Go.asBool v):=by
 cases v<;>first|exact .pure _|exact .halt _
theorem aB.asIntOf (v:Value):aB P (Go.asIntOf v):=by
 unfold Go.asIntOf;split<;>first|exact .pure _|exact .halt _
theorem aB.sureAddr (v:Value):aB P (Instr.sureAddr v):=by
 unfold Instr.sureAddr;split<;>first|exact .pure _|exact .halt _
theorem aB.prog:aB P Go.program:=.inl ⟨P,fun w=>rfl⟩
theorem aB.underlying (t:TypeId):aB P (Go.underlying t):=by
 unfold Go.underlying;refine .bind .prog fun p=>?_;split<;>first|exact .pure _|exact .halt _
theorem aB.sizeOf (t:TypeId):aB P (Go.sizeOf t):=by
 unfold Go.sizeOf Go.typeInfo;refine .bind (.bind .prog fun p=>?_) fun _=>.pure _;split<;>first|exact .pure _|exact .halt _
theorem cr.runtimePanic {α:Type}(e:RuntimeError):cr (Go.runtimePanic e:Sem α):=by
 unfold Go.runtimePanic;refine .of_bind fun p=>?_;cases e<;>first|exact .halt _|exact .of_bind fun _=>.halt _|exact .of_bind fun _=>.of_bind fun _=>.halt _
theorem cr.boundsPanic {α:Type}(k:IntKind)(x y:Int)(c:BoundsCode):cr (Go.boundsPanic k x y c:Sem α):=by
 unfold Go.boundsPanic;dsimp only;split<;>exact .of_bind fun _=>.runtimePanic _
theorem aB.indexAt (t:TypeId)(x i:Value):aB P (Instr.indexAt t x i):=by
 unfold Instr.indexAt
 repeat' (first|(first|exact aB.pure _|exact aB.pure' _|exact aB.halt _|exact cr.noW (cr.boundsPanic _ _ _ _)|exact cr.noW (cr.runtimePanic _)|exact aB.prog|exact aB.underlying _|exact aB.sizeOf _|exact aB.asIntOf _|exact aB.sureAddr _|exact aB.asBool _)|(refine aB.bind ?_ fun _=>?_)|dsimp only|split)
theorem aB.sliceBound (x:Value)(y:Nat)(c:BoundsCode):aB P (Instr.sliceBound x y c):=by
 unfold Instr.sliceBound
 repeat' (first|(first|exact aB.pure _|exact aB.pure' _|exact aB.halt _|exact cr.noW (cr.boundsPanic _ _ _ _)|exact cr.noW (cr.runtimePanic _)|exact aB.prog|exact aB.underlying _|exact aB.sizeOf _|exact aB.asIntOf _|exact aB.sureAddr _|exact aB.asBool _)|(refine aB.bind ?_ fun _=>?_)|dsimp only|split)
theorem aB.sliceBounds (b:Bool)(n m:Nat)(lo hi mx:Option Value):aB P (Instr.sliceBounds b n m lo hi mx):=by
 unfold Instr.sliceBounds
 repeat' (first|exact aB.sliceBound _ _ _|(first|exact aB.pure _|exact aB.pure' _|exact aB.halt _|exact cr.noW (cr.boundsPanic _ _ _ _)|exact cr.noW (cr.runtimePanic _)|exact aB.prog|exact aB.underlying _|exact aB.sizeOf _|exact aB.asIntOf _|exact aB.sureAddr _|exact aB.asBool _)|(refine aB.bind ?_ fun _=>?_)|dsimp only|split)
theorem aB.asAddr (v:Value):aB P (Go.asAddr v):=by
 unfold Go.asAddr
 repeat' (first|(first|exact aB.pure _|exact aB.pure' _|exact aB.halt _|exact cr.noW (cr.boundsPanic _ _ _ _)|exact cr.noW (cr.runtimePanic _)|exact aB.prog|exact aB.underlying _|exact aB.sizeOf _|exact aB.asIntOf _|exact aB.sureAddr _|exact aB.asBool _)|(refine aB.bind ?_ fun _=>?_)|dsimp only|split)
theorem aB.slice (t:TypeId)(x:Value)(lo hi mx:Option Value):aB P (Instr.slice t x lo hi mx):=by
 unfold Instr.slice
 repeat' (first|exact aB.sliceBounds _ _ _ _ _ _|exact aB.asAddr _|(first|exact aB.pure _|exact aB.pure' _|exact aB.halt _|exact cr.noW (cr.boundsPanic _ _ _ _)|exact cr.noW (cr.runtimePanic _)|exact aB.prog|exact aB.underlying _|exact aB.sizeOf _|exact aB.asIntOf _|exact aB.sureAddr _|exact aB.asBool _)|(refine aB.bind ?_ fun _=>?_)|dsimp only|split)
theorem aB.sliceAt (t:TypeId)(x:Value)(lo hi mx:Option Value):aB P (Instr.sliceAt t x lo hi mx):=by
 unfold Instr.sliceAt
 repeat' (first|exact aB.sliceBounds _ _ _ _ _ _|exact aB.slice _ _ _ _ _|(first|exact aB.pure _|exact aB.pure' _|exact aB.halt _|exact cr.noW (cr.boundsPanic _ _ _ _)|exact cr.noW (cr.runtimePanic _)|exact aB.prog|exact aB.underlying _|exact aB.sizeOf _|exact aB.asIntOf _|exact aB.sureAddr _|exact aB.asBool _)|(refine aB.bind ?_ fun _=>?_)|dsimp only|split)
def Xh (P:Program)(s:TypeId)(i:Nat):Bool:=
 match P.underlying s with
 |some (.struct fs)=>(match fs[i]? with
  |some f=>(match P.info? f.type with|some d=> !Nat.beq d.size 0|none=>false)
  |none=>false)
 |_=>false
theorem akn {t:TypeId}{d:TypeDesc}(h:∀w,(Go.underlying t).run P w=.ok d w):P.underlying t=some d:=by
 have:=h default;unfold Go.underlying at this;rw[Sem.run_bind] at this;change Result.andThen (.ok P default) _=_ at this;simp only[Result.andThen_ok] at this;cases hp:P.underlying t with
 |none=>rw[hp] at this;cases this
 |some e=>
  rw[hp] at this;change Result.ok e default=_ at this;cases this;rfl
theorem aB.fieldAt {s:TypeId}{i:Nat}(h:Xh P s i=true)(a:Value):aB P (Instr.fieldAt s a i):=by
 unfold Instr.fieldAt;refine .bind' (.underlying _) fun d hd=>?_;have hu:=akn hd;unfold Xh at h;rw[hu] at h;cases d<;>dsimp only at h ⊢<;>try (first|exact aB.pure _|exact aB.pure' _|exact aB.halt _|exact cr.noW (cr.boundsPanic _ _ _ _)|exact cr.noW (cr.runtimePanic _)|exact aB.prog|exact aB.underlying _|exact aB.sizeOf _|exact aB.asIntOf _|exact aB.sureAddr _|exact aB.asBool _)
 rename_i fs;cases hf:fs[i]? with
 |none=>dsimp only;(first|exact aB.pure _|exact aB.pure' _|exact aB.halt _|exact cr.noW (cr.boundsPanic _ _ _ _)|exact cr.noW (cr.runtimePanic _)|exact aB.prog|exact aB.underlying _|exact aB.sizeOf _|exact aB.asIntOf _|exact aB.sureAddr _|exact aB.asBool _)
 |some f=>
  rw[hf] at h;dsimp only at h ⊢;refine .bind (.sureAddr _) fun a=>.bind ?_ fun _=>.pure _;unfold Go.fieldPlace;refine .bind' (.sizeOf _) fun n hn=>?_;have hz:n≠0:=by
   intro e;have:=hn default;unfold Go.sizeOf Go.typeInfo at this;cases hi:P.info? f.type with
   |none=>rw[hi] at h;cases h
   |some inf=>
    rw[hi] at h;rw[Sem.run_bind,Sem.run_bind] at this;change Result.andThen (Result.andThen (.ok P default) _) _=_ at this;simp only[Result.andThen_ok,hi] at this;change Result.ok inf.size default=_ at this;cases this;dsimp only at h;rw[e] at h;cases h
  rw[if_neg hz]
  (first|exact aB.pure _|exact aB.pure' _|exact aB.halt _|exact cr.noW (cr.boundsPanic _ _ _ _)|exact cr.noW (cr.runtimePanic _)|exact aB.prog|exact aB.underlying _|exact aB.sizeOf _|exact aB.asIntOf _|exact aB.sureAddr _|exact aB.asBool _)
def CW (P:Program):Op→Bool
 |.move _=>true
 |.assign _=>true
 |.pick ..=>true
 |.fieldAddr s _ i=>Xh P s i
 |.indexAddr ..=>true
 |.slice ..=>true
 |.convert _ d _=>(match P.underlying d with|some (.int _)=>true|_=>false)
 |.binOp op ..=>(match op with|.quo|.rem|.shl|.shr=>false|_=>true)
 |_=>false
def zj:Op→List Operand
 |.convert _ _ x=>[x]
 |.binOp _ _ x y _=>[x,y]
 |_=>[]
theorem awW {o:Oper}(hp:CW P o.op=true)(ρ:Operand→Value)(hn:∀x,x∈zj o.op→∃k n,ρ x=.int k n):(∃v,∀w,(execOp ρ o).run P w=.ok (.value v) w)∨∀w,∃h w',(execOp ρ o).run P w=.halt h w':=by
 have key:∀s:Sem Value,aB P s→(∃v,∀w,(do Pure.pure (Next.value (←s)):Sem Next).run P w=.ok (.value v) w)∨∀w,∃h w',(do Pure.pure (Next.value (←s)):Sem Next).run P w=.halt h w':=by
  intro s hs;rcases hs with⟨a,ha⟩|hd
  ·exact .inl ⟨a,fun w=>by rw[Sem.run_bind,ha w];rfl⟩
  ·refine .inr fun w=>?_;obtain⟨x,w',e⟩:=hd w;exact⟨x,w',by rw[Sem.run_bind,e];rfl⟩
 obtain⟨dst,op,type,pos,after,guard⟩:=o;cases op<;>first|(cases hp;done)|skip
 case move x=>exact .inl ⟨_,fun w=>rfl⟩
 case assign x=>exact .inl ⟨_,fun w=>rfl⟩
 case pick c a b=>
  have:=key (do Pure.pure (if←Go.asBool (ρ c) then ρ a else ρ b)) (.bind (.asBool _) fun _=>.pure _);simp only[execOp];rcases aB.asBool (P:=P) (ρ c) with⟨t,ht⟩|hd
  ·exact .inl ⟨_,fun w=>by rw[Sem.run_bind,ht w];rfl⟩
  ·refine .inr fun w=>?_;obtain⟨x,w',e⟩:=hd w;exact⟨x,w',by rw[Sem.run_bind,e];rfl⟩
 case fieldAddr s x i=>exact key _ (.fieldAt hp _)
 case indexAddr t x i=>exact key _ (.indexAt _ _ _)
 case slice t x lo hi mx=>exact key _ (.sliceAt _ _ _ _ _)
 case convert s d x=>
  obtain⟨k,n,e⟩:=hn x (by simp[zj]);refine key (Go.convert s d (ρ x)) ?_;rw[e];unfold Go.convert;refine .bind (.underlying _) fun _=>.bind' (.underlying _) fun u hu=>?_;simp only[CW,akn hu] at hp;cases u<;>first|exact .pure' _|cases hp
 case binOp op t x y c=>
  obtain⟨k,n,e⟩:=hn x (by simp[zj]);obtain⟨k',n',e'⟩:=hn y (by simp[zj]);refine key (do eqGuard op t x y (ρ x) (ρ y);Go.binOp op t (ρ x) (ρ y)) ?_;rw[e,e'];refine .bind ?_ fun _=>?_
  ·unfold eqGuard;cases op<;>exact .pure' _
  ·cases op<;>first|(cases hp;done)|skip
   all_goals
        unfold Go.binOp;dsimp only;split
        ·exact .halt _
        ·exact .pure' _
theorem awX {rd:Option Nat}{ops:Array Oper}{i:Nat}{o:Oper}{a:Act}{w:World}{K:Act→World→Prop}(hi:ops[i]?=some o)(hp:CW P o.op=true)(hn:∀x,x∈zj o.op→∃k n,a.eval x=.int k n)
 (h:wpOpIn (FR rd) 0 P ops (fun _ _ _=>False) i K a w):∃v,YieldsFenced P ops o v a∧K (a.put o.dst v) w:=by
 have bx:∀c,o.op≠.defer c:=fun c e=>by rw[e] at hp;cases hp
 have qN:∀w,o.about P w a.eval=none:=fun w=>by
  unfold Oper.about;cases ho:o.op<;>first|rfl|(rw[ho] at hp;cases hp)
 unfold wpOpIn at h;rw[hi] at h;dsimp only at h;cases hw:Region.wanted o (yielded ops a.tmps) with
 |false=>
  rw[hw] at h;exact⟨undef,⟨.inr ⟨hw,rfl⟩,qN⟩,h.2⟩
 |true=>
  rw[hw,if_pos rfl] at h;have h2:=h.2;rw[Oper.semAt_eq _ _ _ bx] at h2;rcases awW hp a.eval hn with⟨v,hv⟩|hd
  ·rw[hv w] at h2;exact⟨v,⟨.inl ⟨hw,hv⟩,qN⟩,h2⟩
  ·obtain⟨x,w',e⟩:=hd w;rw[e] at h2;cases x<;>exact h2.elim
section
variable {F:Fence} {n:Nat} {ops:Array Oper} {Q:Exit→Act→World→Prop} {md:Region.Mode}
theorem YF.wpOpIn {i:Nat}{o:Oper}{v:Value}{a:Act}(bx:sW o.op=true)(hi:ops[i]?=some o)(hy:YieldsFenced P ops o v a)
 {K:Act→World→Prop} {w:World} (h:K (a.put o.dst v) w):wpOpIn F n P ops Q i K a w:=by
 have mI:∀c,o.op≠.defer c:=fun c e=>by rw[e] at bx;cases bx
 unfold Go.wpOpIn;simp only[hi];have qN:∀f,o.about P w a.eval=some f→F.fn f:=fun f hf=>by rw[hy.2 w] at hf;cases hf
 rcases hy.1 with⟨hw,hv⟩|⟨hw,rfl⟩
 ·simp only[hw,if_true,Oper.wpIn,Oper.semAt_eq _ _ _ mI,hv w,Oper.uponIn];exact⟨qN,h⟩
 ·simp only[hw,Ae,if_false];exact⟨qN,h⟩
theorem aB7 {j:Nat}{oi oj:Oper}{v:Value}(bx:sW oj.op=true)(hj:ops[j]?=some oj)(R4:oi.apart ops oj=true)
 (hsi:∀cs b,oi.op≠.select cs b) (hsj:∀cs b,oj.op≠.select cs b)
 (hQ:∀c a w,Q (.panic c) (a.put oi.dst v) w→Q (.panic c) a w) {K:Act→World→Prop} {a:Act} {w:World}
 (hy:YieldsFenced P ops oi v a) (h:wpOpIn F n P ops Q j K (a.put oi.dst v) w):
 wpOpIn F n P ops Q j (fun a' w'=>YieldsFenced P ops oi v a'∧K (a'.put oi.dst v) w') a w:=by
 have mI:∀c,oj.op≠.defer c:=fun c e=>by rw[e] at bx;cases bx
 obtain⟨h1,h2,h3⟩:=Oper.apart_spec R4;have keep:∀(a:Act),YieldsFenced P ops oi v a→∀u,YieldsFenced P ops oi v (a.put oj.dst u):=fun a hy u=>
  hy.of_same (execOp_put oi hsi a oj.dst u h3) (wanted_put oi a oj.dst u h3) (fun w=>about_put oi w a oj.dst u h3)
 have gW:∀d,YieldsFenced P ops oi v {a with defers:=d::a.defers}:=fun d=>hy.of_same rfl rfl (fun _=>rfl);unfold Go.wpOpIn at*;simp only[hj] at*;rw[wanted_put oj a oi.dst v h1,about_put oj w a oi.dst v h1] at h;split
 ·rename_i hw;simp only[hw,if_true] at h;unfold Oper.wpIn at*;rw[about_put oj w a oi.dst v h1] at h;refine⟨h.1,?_⟩;have h:=h.2;rw[Oper.semAt_eq _ _ _ mI,execOp_put oj hsj a oi.dst v h1] at h;rw[Oper.semAt_eq _ _ _ mI];generalize (execOp a.eval oj).run P w=r at*;cases r with
  |ok x w'=>
   cases x<;>simp only[Oper.uponIn] at h ⊢
   case value u=>exact⟨keep a hy u,by rw[←Act.put_comm a v u h2];exact h⟩
   case skip=>exact⟨keep a hy _,by rw[←Act.put_comm a v undef h2];exact h⟩
   case defer d=>
        refine⟨keep _ (gW d) _,?_⟩;rw[←Act.put_comm _ v undef h2,←Act.put_defers];exact h
   case enter f args=>
        refine⟨h.1,CallsIn.mono h.2 fun e lL he=>?_⟩;cases e with
        |returned u=>exact⟨keep a hy u,by rw[←Act.put_comm a v u h2];exact he⟩
        |panicked c=>exact hQ _ _ _ he
        |outgrown=>exact he
   case row row args=>exact⟨h.1,RowsIn.mono h.2 fun u lL he=>⟨keep a hy u,by rw[←Act.put_comm a v u h2];exact he⟩⟩
   case round l f tmps assign body=>
        refine⟨h.1,RoundIn.mono h.2 fun e lL he=>?_⟩;cases e with
        |returned u=>exact⟨keep a hy u,by rw[←Act.put_comm a v u h2];exact he⟩
        |panicked c=>exact hQ _ _ _ he
        |outgrown=>exact he
  |halt x w'=>
   cases x<;>simp only[Oper.uponIn] at h ⊢
   case panic u=>exact hQ _ _ _ h
 ·rename_i hw;simp only[hw] at h;exact⟨h.1,keep a hy _,by rw[←Act.put_comm a v undef h2];exact h.2⟩
theorem aB6 {i:Nat}{oi:Oper}{v:Value}(bx:∀(j:Nat) (o:Oper),ops[j]?=some o→sW o.op=true)(hi:ops[i]?=some oi)(Co:∀(j:Nat) (o:Oper) cs b,ops[j]?=some o→o.op≠.select cs b)
 (hQ:∀c a w,Q (.panic c) (a.put oi.dst v) w→Q (.panic c) a w):
 ∀(fuel:Nat) (listed:Array Bool) (a:Act) (w:World),
  (∀j oj,ops[j]?=some oj→j≠i→listed.getD j true=false→(∀e∈oj.after,Region.binds md e=true→e.on≠i)→oi.apart ops oj=true)→
  i∈Region.ready md ops listed→YieldsFenced P ops oi v a→
  wpAnyIn F n P md ops Q fuel (listed.setIfInBounds i true) (a.put oi.dst v) w→wpAnyIn F n P md ops Q (fuel+1) listed a w:=by
 intro fuel
 induction fuel with
 |zero=>
  intro listed a w _ hr hy H;refine⟨fun h=>(by rw[h] at hr;cases hr),fun j hj=>?_⟩;by_cases j5:j=i
  ·subst j5;exact YF.wpOpIn (bx _ _ hi) hi hy H
  ·have:=ready_mono hj j5;rw[H.1] at this;cases this
 |succ fuel ih=>
  intro listed a w nU hr hy H;refine⟨fun h=>(by rw[h] at hr;cases hr),fun j hj=>?_⟩;by_cases j5:j=i
  ·subst j5;exact YF.wpOpIn (bx _ _ hi) hi hy H
  ·have h1:=H.2 j (ready_mono hj j5);obtain⟨adX,oj,L4,aO⟩:=mem_ready.1 hj
   have SR:∀e∈oj.after,Region.binds md e=true→e.on≠i:=fun e he hb heq=>by
        have h1:=aO e he hb;have h0:=(mem_ready.1 hr).1;rw[heq] at h1;rcases I4 i listed.size with h'|h'
        ·simp[h'] at h0 h1;rw[h0] at h1;cases h1
        ·simp[Array.getElem?_eq_none h'] at h1
   have h2:=aB7 (bx _ _ L4) L4 (nU j oj L4 j5 adX SR) (fun cs b=>Co i oi cs b hi) (fun cs b=>Co j oj cs b L4) hQ hy h1;have arb:∀k ok,ops[k]?=some ok→k≠i→(listed.setIfInBounds j true).getD k true=false→
    (∀e∈ok.after,Region.binds md e=true→e.on≠i)→oi.apart ops ok=true:=fun k ok hk hki lW gl=>by
        refine nU k ok hk hki ?_ gl;by_cases mE:j=k
        ·subst mE;exact adX
        ·rw[getD_set_ne true mE] at lW;exact lW
   refine wpOpIn_mono (fun a' w' h3=>ih (listed.setIfInBounds j true) a' w' arb (ready_mono hr (xM j5)) h3.1 ?_) h2;rw[Array.setIfInBounds_comm _ _ j5];exact h3.2
end
end
def tY (P:Program)(ops:Array Oper):List (Option (List Nat)):=(List.range ops.size).map fun i=>match ops[i]? with
 |some oi=>bif CW P oi.op then some ((List.range ops.size).filter fun j=> !(Nat.beq j i||(match ops[j]? with|some oj=>(oj.after.toList.any fun e=>Region.binds .any e&&Nat.beq e.on i)||oi.apart ops oj|none=>true))) else none
 |none=>none
def Dw (bad:List (Option (List Nat)))(pu:Nat→Bool)(E:Nat):List Nat→Option Nat
 |[]=>none
 |i::l=>match bad.getD i none with
  |some b=>bif b.all (aU E)&&pu i then some i else Dw bad pu E l
  |none=>Dw bad pu E l
def Ug (ops:Array Oper):Bool:=ops.toList.all fun o=>match o.op with|.select ..=>false|_=>true
theorem OZ {bad:List (Option (List Nat))}{pu:Nat→Bool}{E:Nat}:∀{l:List Nat} {i:Nat},Dw bad pu E l=some i→i∈l∧pu i=true∧∃b,bad.getD i none=some b∧b.all (aU E)=true
 |[],_,h=>by cases h
 |i::l,j,h=>by
  unfold Dw at h;split at h
  ·rename_i b hb;cases hc:b.all (aU E)&&pu i with
   |true=>
    rw[hc] at h;cases h;rw[aw] at hc;exact⟨fK ..,hc.2,b,hb,hc.1⟩
   |false=>
    rw[hc] at h;obtain⟨h1,h2⟩:=OZ h;exact⟨fy _ h1,h2⟩
  ·obtain⟨h1,h2⟩:=OZ h;exact⟨fy _ h1,h2⟩
theorem al3 {P:Program}{ops:Array Oper}{i:Nat}{b:List Nat}(h:(tY P ops).getD i none=some b):∃oi,ops[i]?=some oi∧CW P oi.op=true∧
 ∀j oj,ops[j]?=some oj→j≠i→j∉b→(∀e∈oj.after,Region.binds .any e=true→e.on≠i)→oi.apart ops oj=true:=by
 unfold tY at h;rw[aI,ct] at h;by_cases hi:i<ops.size
 ·rw[rU hi] at h;simp only[kW,kV] at h;rw[jz hi] at h;dsimp only at h;cases hp:CW P ops[i].op<;>rw[hp] at h<;>simp only[cond_true,cond_false] at h
  ·cases h
  injection h with h
  refine⟨ops[i],jz hi,hp,fun j oj hj j5 LR gl=>?_⟩;have af:j<ops.size:=(ei.1 hj).1;rw[←h] at LR;have h2:¬(!(Nat.beq j i||(match ops[j]? with|some oj=>(oj.after.toList.any fun e=>Region.binds .any e&&Nat.beq e.on i)||ops[i].apart ops oj|none=>true)))=true:=fun hc=>LR (eu.2 ⟨fY.2 af,hc⟩);rw[hj,ga j5] at h2;simp only[Bool.false_or,mi,Bool.not_eq_false,lN] at h2;rcases h2 with h2|h2
  ·obtain⟨e,he,hb⟩:=xu.1 h2;rw[aw] at hb;exact absurd (dA hb.2) (gl e (by simpa using he) hb.1)
  ·exact h2
 ·rw[jW (by simpa using hi)] at h;cases h
def Gi (E:Nat)(T:Snap):List (Nat×Snap)→Option (List (Nat×Snap))
 |[]=>some [(E,T)]
 |x::l=>bif Nat.beq x.1 E then(bif x.2.beq T then some (x::l) else none) else(Gi E T l).map (x::·)
def tl (ops:Array Oper)(E:Nat):List Nat:=
 (List.range ops.size).filter fun i=> !aU E i&&(match ops[i]? with|some o=>o.after.toList.all fun e=> !Region.binds .any e||aU E e.on|none=>false)
def U4 (C:Ctx)(ops:Array Oper)(n:Nat)(ids:List Nat)(X:List (List PI))(nc:List (List Nat))(E:Nat)(T:Snap)(i:Nat):Option (Nat×Snap):=
 match ops[i]? with
 |some o=>(yb C (T.stO ids) ops o).bind fun r=>
  bif PI.beqs r.2 (X.getD i [])&&(nc.getD i []).all (aU E) then some (Nat.lor E (iu i),⟨Dt (lC r.1) r.1 T.rs o.dst.toList,ids.map fun j=>jO r.1 (r.1.o j)⟩) else none
 |none=>none
def aeZ (C:Ctx)(S:St)(x:Operand):Bool:=match use C S [] x with|some (.int _,_)=>true|_=>false
def wA (C:Ctx)(ids:List Nat)(ops:Array Oper)(U:Snap)(i:Nat):Bool:=match ops[i]? with|some o=>(zj o.op).all (aeZ C (U.stO ids))|none=>false
def It (one:Nat→Option (Nat×Snap)):List Nat→List (Nat×Snap)→Option (List (Nat×Snap))
 |[],acc=>some acc
 |i::l,acc=>(one i).bind fun x=>x.2.hard fun T=>(Gi x.1 T acc).bind fun acc=>It one l acc
def qv (ops:Array Oper)(bad:List (Option (List Nat)))(pu:Nat→Bool)(E:Nat):List Nat:=
 match Dw bad pu E (tl ops E) with
 |some i=>[i]
 |none=>tl ops E
def Gr (ops:Array Oper)(bad:List (Option (List Nat)))(pu:Snap→Nat→Bool)(one:Nat→Snap→Nat→Option (Nat×Snap)):List (Nat×Snap)→List (Nat×Snap)→Option (List (Nat×Snap))
 |[],acc=>some acc
 |x::l,acc=>
  match qv ops bad (pu x.2) x.1 with
  |[]=>none
  |rs=>(It (one x.1 x.2) rs acc).bind fun acc=>Gr ops bad pu one l acc
def Il (ops:Array Oper)(bad:List (Option (List Nat)))(pu:Snap→Nat→Bool)(one:Nat→Snap→Nat→Option (Nat×Snap)):Nat→List (Nat×Snap)→Option Snap
 |0,L=>
  match L with
  |[x]=>bif (List.range ops.size).all (aU x.1) then some x.2 else none
  |_=>none
 |k+1,L=>(Gr ops bad pu one L []).bind fun L=>Il ops bad pu one k L
theorem aeY {E:Nat}{T:Snap}:∀{l l':List (Nat×Snap)},Gi E T l=some l'→(E,T)∈l'∧∀x,x∈l→x∈l'
 |[],l',h=>by simp only[Gi,bj] at h;subst h;simp
 |x::l,l',h=>by
  simp only[Gi] at h;cases hb:Nat.beq x.1 E<;>simp only[hb,cond_true,cond_false] at h
  ·simp only[aC] at h;obtain⟨l2,h2,rfl⟩:=h;obtain⟨h3,h4⟩:=aeY h2;exact⟨fy _ h3,fun y hy=>(cC.1 hy).elim (fun e=>e▸fK ..) fun hm=>fy _ (h4 y hm)⟩
  ·cases hs:x.2.beq T<;>simp only[hs,cond_true,cond_false] at h
   ·cases h
   ·cases h;refine⟨?_,fun y hy=>hy⟩;have e1:=dA hb;have e2:=Snap.beq_eq _ _ hs;subst e1;subst e2;simp
theorem aj2 {one:Nat→Option (Nat×Snap)}:∀{rs:List Nat} {acc D1:List (Nat×Snap)},It one rs acc=some D1→(∀x,x∈acc→x∈D1)∧∀i,i∈rs→∃x,one i=some x∧x∈D1
 |[],acc,D1,h=>by simp only[It,bj] at h;subst h;simp
 |i::rs,acc,D1,h=>by
  simp only[It,Snap.hard_eq,aA] at h;obtain⟨x,hx,als,h1,h2⟩:=h;obtain⟨h3,h4⟩:=aeY h1;obtain⟨h5,h6⟩:=aj2 h2;refine⟨fun y hy=>h5 y (h4 y hy),fun j hj=>?_⟩;rcases cC.1 hj with e|hm
  ·subst e;exact⟨x,hx,h5 _ h3⟩
  ·exact h6 j hm
theorem afo {ops:Array Oper}{bad:List (Option (List Nat))}{pu:Snap→Nat→Bool}{one:Nat→Snap→Nat→Option (Nat×Snap)}:∀{L acc L':List (Nat×Snap)},Gr ops bad pu one L acc=some L'→
 (∀x,x∈acc→x∈L')∧∀x,x∈L→qv ops bad (pu x.2) x.1≠[]∧∀i,i∈qv ops bad (pu x.2) x.1→∃y,one x.1 x.2 i=some y∧y∈L'
 |[],acc,L',h=>by simp only[Gr,bj] at h;subst h;simp
 |x::L,acc,L',h=>by
  simp only[Gr] at h;split at h
  ·cases h
  ·rename_i ay;simp only[aA] at h;obtain⟨als,h1,h2⟩:=h;obtain⟨h3,h4⟩:=aj2 h1;obtain⟨h5,h6⟩:=afo h2;refine⟨fun y hy=>h5 y (h3 y hy),fun y hy=>?_⟩;rcases cC.1 hy with e|hm
   ·subst e;refine⟨fun e=>ay e,fun i hi=>?_⟩;obtain⟨z,hz,hm⟩:=h4 i hi;exact⟨z,hz,h5 z hm⟩
   ·exact h6 y hm
def fV (X:List (List PI))(l:List Nat)(E:Nat):List PI:=l.flatMap fun i=>bif aU E i then[] else X.getD i []
theorem W4 {X:List (List PI)}{E E':Nat}:∀(l:List Nat),(∀i,i∈l→aU E i=aU E' i)→fV X l E=fV X l E'
 |[],_=>rfl
 |i::l,h=>by
  have ih:=W4 (X:=X) l fun j hj=>h j (fy _ hj);unfold fV at ih ⊢;simp only[vd];rw[ih,h i (fK ..)]
theorem Foot.comm_each {a b:List PI}(h:(iO a).comm (iO b)=true):∀p q,p∈a→q∈b→Comm p q:=by
 simp only[Foot.comm,aw] at h;obtain⟨h1,h2,h3,h4,h5,h6⟩:=h;intro p q hp hq;obtain⟨p1,p2,p3,p4⟩:=acS hp;obtain⟨q1,q2,q3,q4⟩:=acS hq;exact⟨fun t x y=>TV h1 (p1 t x) (q1 t y),fun t x y=>TV h2 (p1 t x) (q3 t y),fun t x y=>TV h3 (q1 t x) (p3 t y),fun t x y=>P6 h4 (p2 t x) (q2 t y),fun t x y=>P6 h5 (p2 t x) (q4 t y),fun t x y=>P6 h6 (q2 t x) (p4 t y)⟩
def CI (X:List (List PI))(N:Nat):List (List Nat):=
 (List.range N).map fun i=>(List.range i).filter fun j=> !(iO (X.getD j [])).comm (iO (X.getD i []))
theorem xV (E i j:Nat):aU (Nat.lor E (iu i)) j=(aU E j||Nat.beq i j):=by
 rw[gJ]
 congr 1
 rw[xU];show(1<<<i).testBit j=_;rw[Nat.testBit_shiftLeft];by_cases h:i=j
 ·subst h;simp
 ·have h1:Nat.beq i j=false:=ga h;rw[h1];by_cases h2:i≤j
  ·have:j-i≠0:=by omega
   cases hk:j-i with
   |zero=>omega
   |succ k=>
    have:(1:Nat).testBit (k+1)=false:=by simp[Nat.testBit_succ]
    simp[this]
  ·simp[h2]
theorem axT {X:List (List PI)}{N E i:Nat}(hi:i<N)(hb:aU E i=false)(eD:((CI X N).getD i []).all (aU E)=true)(Φ:aW)(ρ:Env):
 PI.runs Φ (fV X (List.range N) E) ρ=(PI.runs Φ (X.getD i []) ρ).bind (PI.runs Φ (fV X (List.range N) (Nat.lor E (iu i)))):=by
 obtain⟨l1,l2,hl⟩:=List.append_of_mem (fY.2 hi);have hp:=List.pairwise_lt_range (n:=N);rw[hl,aa4] at hp;obtain⟨_,fl,hp3⟩:=hp;rw[xD] at fl;have lt1:∀j,j∈l1→j<i:=fun j hj=>hp3 j hj i (fK ..);have lt2:∀j,j∈l2→i<j:=fun j hj=>fl.1 j hj;have e0:∀E,fV X (l1++i::l2) E=fV X l1 E++((bif aU E i then[] else X.getD i [])++fV X l2 E):=fun E=>by simp[fV]
 have e1:fV X l1 (Nat.lor E (iu i))=fV X l1 E:=W4 l1 fun j hj=>by
  rw[xV,ga (by have:=lt1 j hj;omega),Pr]
 have e2:fV X l2 (Nat.lor E (iu i))=fV X l2 E:=W4 l2 fun j hj=>by
  rw[xV,ga (by have:=lt2 j hj;omega),Pr]
 have e3:aU (Nat.lor E (iu i)) i=true:=by rw[xV,lP,tG]
 rw[hl,e0,e0,e1,e2,e3,hb];simp only[cond_true,cond_false,xC]
 have aqQ:PI.runs Φ (fV X l1 E++X.getD i [])=PI.runs Φ (X.getD i []++fV X l1 E):=funext fun ρ=>PI.comms _ _ (fun p q hp hq=>by
  unfold fV at hp;obtain⟨j,hj,hp⟩:=xA.1 hp;cases hbj:aU E j<;>simp only[hbj,cond_true,cond_false] at hp
  case true=>cases hp
  have hc:(iO (X.getD j [])).comm (iO (X.getD i []))=true:=by
   cases jn:(iO (X.getD j [])).comm (iO (X.getD i [])) with
   |true=>rfl
   |false=>
    have qT:(CI X N).getD i []=(List.range i).filter fun j=> !(iO (X.getD j [])).comm (iO (X.getD i [])):=by
     unfold CI;rw[aI,ct,rU hi];rfl
    rw[qT] at eD;have:=da.1 eD j (eu.2 ⟨fY.2 (lt1 j hj),by rw[jn];rfl⟩);rw[hbj] at this;cases this
  exact Foot.comm_each hc p q hp hq) ρ
 rw[←rS,uY,aqQ];have:=uY (Φ:=Φ) (a:=X.getD i []) (b:=fV X l1 E) (ρ:=ρ);rw[this,Option.bind_assoc]
 congr 1
 funext ρ1;rw[uY]
def fp (C:Ctx)(ops:Array Oper):List Nat→St→Option (List (List PI))
 |[],_=>some []
 |i::l,S=>
  match ops[i]? with
  |some o=>(yb C S ops o).bind fun r=>(fp C ops l r.1).map fun q=>r.2::q
  |none=>none
def ac3 (ops:Array Oper):Bool:=(List.range ops.size).all fun i=>match ops[i]? with
 |some o=>(match o.guard with|some (j,_)=>Nat.blt j i|none=>true)
 |none=>true
def Ll (ops:Array Oper):Bool:=ops.toList.all fun o=>match o.guard with
 |some (j,_)=>o.after.toList.any fun e=>Region.binds .any e&&Nat.beq e.on j
 |none=>true
def Ov (C:Ctx)(n:Nat)(ids:List Nat)(ops:Array Oper)(draw:Bool)(S:Snap):Option (Snap×List PI):=
 bif Dn n ops then
    bif draw then
     bif Ll ops&&Ug ops&&C.P.follows .mixedOrders then
        (fp C ops (List.range ops.size) (S.st ids)).bind fun X=>Fo X fun X=>Fo (CI X ops.size) fun nc=>
         (Snap.hard ⟨S.rs.map fun s=>lC (S.st ids) (cO s),ids.map fun j=>jO (S.st ids) ((S.st ids).o j)⟩ fun T0=>Il ops (tY C.P ops) (wA C ids ops) (U4 C ops n ids X nc) ops.size [(0,T0)]).map fun T=>(⟨T.rs.map (ix (T.stO ids)),ids.map fun j=>jO (T.stO ids) ((T.stO ids).o j)⟩,X.flatten)
     else none
    else bif ac3 ops then(vm C ops (List.range ops.size) (S.st ids)).map fun r=>(⟨Dt (ix r.1) r.1 S.rs (ops.toList.filterMap (·.dst)),ids.map fun j=>jO r.1 (r.1.o j)⟩,r.2) else none
 else none
def Ou (C:Ctx)(n:Nat)(ids:List Nat)(ops:Array Oper)(draw:Bool)(S:Snap):Option (Snap×List PI):=
 (Ov C n ids ops draw S).bind fun r=>r.1.hard fun T=>some (T,r.2)
theorem axN (C:Ctx)(n:Nat)(ids:List Nat)(ops:Array Oper)(draw:Bool)(S:Snap):Ou C n ids ops draw S=Ov C n ids ops draw S:=by
 unfold Ou;cases Ov C n ids ops draw S with
 |none=>rfl
 |some r=>rw[tN,Snap.hard_eq]
def zP (ops:Array Oper)(E:Nat):Nat→Prop:=fun t=>∃i o,aU E i=true∧ops[i]?=some o∧o.dst=some t
section
variable {C:Ctx} {S:St} {ρ:Env} {σ:Im} {own:Nat→Option Nat} {hv:Nat→Value} {w0:World} {σ0:Base} {A:Nat→Prop} {a:Act} {w:World} {n:Nat} {ids:List Nat} {Φ:aW}
theorem Oq {ops:Array Oper}{listed:Array Bool}{E:Nat}(aP:listed.size=ops.size)(hl:∀i,listed.getD i false=aU E i)(i:Nat):i∈Region.ready .any ops listed↔i∈tl ops E:=by
 unfold Region.ready tl;simp only[eu,fY];refine and_congr_right fun hi=>?_;have h1:listed.getD i true=aU E i:=by
  rw[←hl i];simp only[gG];rw[jz (by omega)];rfl
 have h2:ops[i]?=some ops[i]:=jz hi;rw[h1,h2];simp only[kW,kV,←Array.all_toList,hl]
theorem aye {rd:Option Nat}(hC:CtxOK C σ0)(aZ:dL C)(hΦ:dt C Φ)(hY:tR C Φ w0 σ0){a0:Act}(SM:a0.tmps.size=n){ops:Array Oper}(ax:Dn n ops=true)(fN:Ll ops=true){X:List (List PI)}{Q:Exit→Act→World→Prop}{ρ':Env}(Co:Ug ops=true)(hQp:∀c a w,¬Q (.panic c) a w):
 ∀(k:Nat) {L:List (Nat×Snap)} {T:Snap},Il ops (tY C.P ops) (wA C ids ops) (U4 C ops n ids X (CI X ops.size)) k L=some T→
  (∀a' w',SameBut (BH ops) a0 a'→Good C w0 σ0 (T.stO ids) ρ' (fun t=>∃E,zP ops E t) a' w'→Q .normal a' w')→
  ∀(E:Nat) (U:Snap),(E,U)∈L→∀(listed:Array Bool) (ρ:Env) (a:Act) (w:World),listed.size=ops.size→(∀i,listed.getD i false=aU E i)→SameBut (BH ops) a0 a→
   Good C w0 σ0 (U.stO ids) ρ (zP ops E) a w→PI.runs Φ (fV X (List.range ops.size) E) ρ=some ρ'→wpAnyIn (FR rd) 0 C.P .any ops Q k listed a w:=by
 simp only[Dn,aw] at ax;have bx:=rf ax.1;intro k
 induction k with
 |zero=>
  intro L T hs hQ E U hm listed ρ a w aP hl hn hg ao;simp only[Il] at hs;split at hs
  case h_2=>cases hs
  rename_i x;cases aO:(List.range ops.size).all (aU x.1)<;>simp only[aO,cond_true,cond_false] at hs
  ·cases hs
  cases hs;simp only[xB] at hm;subst hm;simp only at aO hg hQ ao hl;have ux:=da.1 aO;have aq7:fV X (List.range ops.size) E=[]:=by
   unfold fV;rw[List.flatMap_eq_nil_iff];intro i hi;rw[ux i hi];rfl
  rw[aq7] at ao;simp only[PI.runs,bj] at ao;subst ao;refine⟨?_,hQ a w hn ?_⟩
  ·rw[aaV];intro i hi;rw[Oq aP hl] at hi;unfold tl at hi;simp only[eu,aw,mi] at hi;rw[ux i hi.1] at hi;cases hi.2.1
  ·obtain⟨σ,own,hv,h⟩:=hg;exact⟨σ,own,hv,h.defers,h.ok,h.le,h.old,h.newc,h.newm,h.below,h.bw,h.owns,h.regs,h.objs,fun t gs s e=>⟨fun g hm=>⟨E,(h.opts t gs s e).1 g hm⟩,(h.opts t gs s e).2⟩,h.frame⟩
 |succ k ih=>
  intro L T hs hQ E U hm listed ρ a w aP hl hn hg ao;simp only[Il,aA] at hs;obtain⟨L',hL,hs⟩:=hs;obtain⟨_,dc⟩:=afo hL;obtain⟨ay,yS⟩:=dc _ hm;have ar3:tl ops E≠[]:=fun e=>ay (by unfold qv;rw[e];rfl)
  have cM:∀i,i∈qv ops (tY C.P ops) (wA C ids ops U) E→i∈tl ops E:=fun i hi=>by
   unfold qv at hi;split at hi
   ·rename_i i' hp;rw[xB.1 hi];exact(OZ hp).1
   ·exact hi
  have step:∀i,i∈qv ops (tY C.P ops) (wA C ids ops U) E→∀Q':Exit→Act→World→Prop,wpOpIn (FR rd) 0 C.P ops Q' i (wpAnyIn (FR rd) 0 C.P .any ops Q k (listed.setIfInBounds i true)) a w:=by
   intro i hi Q';obtain⟨y,hy,hyL⟩:=yS i hi;have hi:=cM i hi;unfold tl at hi;simp only[eu,fY,aw,mi] at hi;obtain⟨cf,dS,Sj⟩:=hi;simp only[U4] at hy;split at hy
   case h_2=>cases hy
   rename_i o ho;simp only[aA] at hy;obtain⟨r,hr,hy⟩:=hy;cases hc:(PI.beqs r.2 (X.getD i [])&&((CI X ops.size).getD i []).all (aU E))<;>simp only[hc,cond_true,cond_false] at hy
   ·cases hy
   cases hy;simp only[aw] at hc;have hX:=PI.beqs_eq _ _ hc.1;rw[axT cf dS hc.2,aA] at ao;obtain⟨ρ1,hρ1,hρ2⟩:=ao;rw[←hX] at hρ1;rw[ho] at Sj;simp only at Sj;have Si:∀d,o.dst=some d→¬zP ops E d∧d<a.tmps.size:=by
        intro d hd;refine⟨fun⟨i',o',db,gU,gQ⟩=>?_,?_⟩
        ·have ay:i'≠i:=fun e=>by subst e;rw[dS] at db;cases db
         exact KY.dst_once bx gU ho gQ hd ay
        ·have:=da.1 ax.2 o (by simpa using qf ho);simp only[hd,aw] at this;rw[hn.size,SM];simpa [ql] using this.2
   have mI:sW o.op=true:=by
        have:=da.1 ax.2 o (by simpa using qf ho);simp only[aw] at this;exact this.1
   have hj:∀j want t,o.guard=some (j,want)→(ops[j]?).bind (·.dst)=some t→zP ops E t:=by
        intro j want t nV ht;rw[aA] at ht;obtain⟨oj,h1,h2⟩:=ht;have nW:=da.1 fN o (by simpa using qf ho);simp only[nV] at nW;obtain⟨e,yz,Fx⟩:=xu.1 nW;simp only[aw] at Fx;have h3:=da.1 Sj e yz;rw[Fx.1] at h3;simp only[Bool.not_true,Bool.false_or] at h3;exact⟨j,oj,by rw[←dA Fx.2];exact h3,h1,h2⟩
   have main:=ab2 (rd:=rd) (K:=wpAnyIn (FR rd) 0 C.P .any ops Q k (listed.setIfInBounds i true)) (Q:=Q') hg hC aZ hΦ hY mI Si hj hr hρ1 (fun a' w' lh vQ=>by
        have hA:(fun u=>zP ops E u∨o.dst=some u)=zP ops (Nat.lor E (iu i)):=by
         funext u;apply propext;constructor
         ·rintro(⟨i',o',h1,h2,h3⟩|h1)
          ·exact⟨i',o',by rw[xV,h1,DL],h2,h3⟩
          ·exact⟨i,o,by rw[xV,lP,tG],ho,h1⟩
         ·rintro⟨i',o',h1,h2,h3⟩;rw[xV,lN] at h1;rcases h1 with h1|h1
          ·exact .inl ⟨i',o',h1,h2,h3⟩
          ·rw[←dA h1,ho] at h2;cases h2;exact .inr h3
        rw[hA] at lh
        refine ih hs hQ _ _ hyL _ ρ1 a' w' (by simpa using aP) (fun j=>?_) (hn.trans (vQ.mono fun t e=>⟨o,by simpa using qf ho,e⟩)) (by
         have:=lh.snapO U.rs.length ids
         rw[show r.1.snapO U.rs.length ids=⟨Dt (lC r.1) r.1 U.rs o.dst.toList,ids.map fun j=>jO r.1 (r.1.o j)⟩ from by
          unfold St.snapO;rw[OL fun t ht=>?_];rw[ab1 hr t (fun e=>ht (by rw[e];simp))];rfl] at this
         exact this) hρ2
        rw[xV];simp only[gG,DK];by_cases dH:i=j
        ·subst dH;simp[aP,cf]
        ·rw[if_neg dH,ga dH,Pr,←hl j];simp only[gG])
   simp only[wpOpIn,ho];split
   ·rename_i hw;rw[if_pos hw] at main;exact main
   ·rename_i hw;rw[if_neg hw] at main;exact⟨fun _ _=>trivial,main⟩
  cases Ta:Dw (tY C.P ops) (wA C ids ops U) E (tl ops E) with
  |none=>
   have kB:qv ops (tY C.P ops) (wA C ids ops U) E=tl ops E:=by unfold qv;rw[Ta]
   refine⟨fun he=>?_,fun i hi=>step i (by rw[kB];exact(Oq aP hl i).1 hi) Q⟩;exfalso;refine ar3 ?_;rw[aaV];intro i hi;rw[←Oq aP hl,he] at hi;cases hi
  |some i=>
   have kB:qv ops (tY C.P ops) (wA C ids ops U) E=[i]:=by unfold qv;rw[Ta]
   obtain⟨hir,Tc,b,hb,aqJ⟩:=OZ Ta;obtain⟨oi,S4,Tb,R4⟩:=al3 hb
   have vJ:∀x,x∈zj oi.op→∃k n,a.eval x=.int k n:=fun x hx=>by
        unfold wA at Tc;rw[S4] at Tc;have h1:=da.1 Tc x hx;unfold aeZ at h1;obtain⟨σ,own,hv,h⟩:=hg;split at h1
        ·rename_i hu;obtain⟨m,hm,_⟩:=(cw h hC rfl hu).int_inv;exact⟨_,m,hm⟩
        ·cases h1
   obtain⟨v,hv,hK⟩:=awX S4 Tb vJ (step i (by rw[kB];simp) _);refine aB6 (fun j o ho=>?_) S4 (fun j o cs b' ho e=>?_) (fun c a' w' h=>(hQp _ _ _ h).elim) k listed a w (fun j oj hj j5 lW gl=>R4 j oj hj j5 (fun LR=>?_) gl) ((Oq aP hl i).2 hir) hv hK
   ·have:=da.1 ax.2 o (by simpa using qf ho);simp only[aw] at this;exact this.1
   ·have:=da.1 Co o (by simpa using qf ho);rw[e] at this;cases this
   ·have h1:=da.1 aqJ j LR;have h2:=hl j;rw[h1] at h2;simp only[gG] at h2 lW;cases yB:listed[j]? with
    |none=>rw[yB] at h2;cases h2
    |some x=>
     rw[yB] at h2 lW;simp only[kV] at h2 lW;rw[h2] at lW;cases lW
theorem ajO {ops:Array Oper}:∀{l:List Nat} {S:St} {X:List (List PI)},fp C ops l S=some X→X.length=l.length
 |[],S,X,h=>by simp only[fp,bj] at h;subst h;rfl
 |i::l,S,X,h=>by
  simp only[fp] at h;split at h
  case h_2=>cases h
  simp only[aA,aC] at h;obtain⟨r,_,q,hq,rfl⟩:=h;simp[ajO hq]
theorem axU (X:List (List PI)):fV X (List.range X.length) 0=X.flatten:=by
 have h0:∀i,aU 0 i=false:=fun i=>by rw[xU];simp
 have key:∀(Y Z:List (List PI)),fV (Y++Z) (List.range' Y.length Z.length) 0=Z.flatten:=by
  intro Y Z
  induction Z generalizing Y with
  |nil=>rfl
  |cons z Z ih=>
   have:=ih (Y++[z]);simp only[rS,List.singleton_append,mm,oL,Ap,je] at this;rw[oL,PH];have e:fV (Y++z::Z) (Y.length::List.range' (Y.length+1) Z.length) 0=(Y++z::Z).getD Y.length []++fV (Y++z::Z) (List.range' (Y.length+1) Z.length) 0:=by
        unfold fV;rw[vd,h0];rfl
   rw[e,this,aaW]
   congr 1
   simp[aI]
 have:=key [] X;simp only[xC,Ap] at this;rw[PJ];exact this
theorem axO (aZ:dL C)(hΦ:dt C Φ):PW C n ids Φ (Ou C n ids):=by
 intro id ops draw S r hr rd w0 σ0 ρ ρ' a w Q hC hY hn hg ao hQ;rw[axN] at hr;unfold Ov at hr;cases ax:Dn n ops<;>simp only[ax,cond_true,cond_false] at hr
 ·cases hr
 cases draw with
 |false=>
  simp only[cond_false] at hr;cases hgb:ac3 ops<;>simp only[hgb,cond_true,cond_false] at hr
  ·cases hr
  simp only[aC] at hr;obtain⟨q,hq,rfl⟩:=hr;refine wpIn_region ?_
  have yQ:zO ops []=fun _=>False:=by
   funext t;apply propext;constructor
   ·rintro⟨i,o,h,_⟩;cases h
   ·intro h;exact h.elim
  refine KY hC aZ hΦ hY ax (List.range ops.size) [] (by simpa using aa3) (fun p i q o j want hl ho nV=>?_) hn (by rw[yQ];exact hg) hq ao (fun a' w' ll lh=>hQ a' w' ll (by
   have:=lh.snapF S.rs.length ids
   rw[show q.1.snap S.rs.length ids=⟨Dt (ix q.1) q.1 S.rs (ops.toList.filterMap (·.dst)),ids.map fun j=>jO q.1 (q.1.o j)⟩ from by
        unfold St.snap;rw[OL fun t ht=>?_];rw[ab3 hq t (fun i o hi ho e=>ht (Aq.2 ⟨o,by simpa using qf ho,e⟩))];show _=ix q.1 (cO (S.rs.getD t .none));cases S.rs.getD t .none<;>rfl] at this
   exact this))
  have hi:i<ops.size:=by
   have:i∈List.range ops.size:=by rw[hl];simp
   exact fY.1 this
  have hb:=da.1 hgb i (fY.2 hi);rw[ho] at hb;simp only[nV,ql] at hb;have hp:=List.pairwise_lt_range (n:=ops.size);have vE:j∈List.range ops.size:=fY.2 (by omega);rw[hl,aa4] at hp;obtain⟨_,fl,_⟩:=hp;rw[xD] at fl;rw[hl,dN] at vE;simp only[xC];rcases vE with hm|hm
  ·exact hm
  ·rcases cC.1 hm with e|hm
   ·omega
   ·have:=fl.1 j hm;omega
 |true=>
  simp only[cond_true] at hr;cases fN:(Ll ops&&Ug ops&&C.P.follows .mixedOrders)<;>simp only[fN,cond_true,cond_false] at hr
  ·cases hr
  simp only[aw] at fN;have Co:=fN.1.2
  replace fN:Ll ops=true∧C.P.follows .mixedOrders=true:=⟨fN.1.1,fN.2⟩
  have h0:∀i,aU 0 i=false:=fun i=>by rw[xU];simp
  simp only[ado,Snap.hard_eq,aA,aC] at hr;obtain⟨X,hX,T,hT,rfl⟩:=hr;refine wpIn_mono (Q:=fun e a w=>(∀c,e≠.panic c)∧Q e a w) ?_ fun e a w h=>h.2;refine wpIn_region_any fN.2 ?_
  have yQ:zP ops 0=fun _=>False:=by
   funext t;apply propext;constructor
   ·rintro⟨i,o,h,_⟩;rw[h0] at h;cases h
   ·intro h;exact h.elim
  have hlen:=ajO hX;rw[aa1] at hlen
  refine aye (w0:=w0) hC aZ hΦ hY hn ax fN.1 (ρ':=ρ') Co (fun c a w h=>h.1 c rfl) ops.size hT (fun a' w' ll lh=>⟨fun c e=>(by cases e),hQ a' w' ll (by
   have:=lh.snapF T.rs.length ids
   rw[show(T.stO ids).snap T.rs.length ids=⟨T.rs.map (ix (T.stO ids)),ids.map fun j=>jO (T.stO ids) ((T.stO ids).o j)⟩ from by
        unfold St.snap;have:=OL (g:=ix (T.stO ids)) (S:=T.stO ids) (rs:=T.rs) (ds:=[]) (fun t _=>rfl);rw[←this];rfl] at this
   exact this)⟩) 0 _ (xB.2 rfl) _ ρ a _ (by simp) (fun i=>?_) (.refl _ _) ?_ ?_
  ·rw[h0];simp only[gG,Array.getElem?_replicate];split<;>rfl
  ·rw[yQ];have:=(hg.drew).snapO S.rs.length ids
   rw[show(S.st ids).snapO S.rs.length ids=⟨S.rs.map fun s=>lC (S.st ids) (cO s),ids.map fun j=>jO (S.st ids) ((S.st ids).o j)⟩ from by
        unfold St.snapO
        have:=OL (g:=fun s=>lC (S.st ids) (cO s)) (S:=S.st ids) (rs:=S.rs) (ds:=[]) (fun t _=>by
         show lC _ (cO (S.rs.getD t .none))=lC _ (cO (cO (S.rs.getD t .none)));cases S.rs.getD t .none<;>rfl)
        have h2:(fun t=>lC (S.st ids) (cO ((S.st ids).r t)))=fun t=>lC (S.st ids) ((S.st ids).r t):=by
         funext t;show lC _ (cO (cO (S.rs.getD t .none)))=lC _ (cO (S.rs.getD t .none));cases S.rs.getD t .none<;>rfl
        rw[h2] at this;rw[←this];rfl] at this
   exact this
  ·rw[←hlen,axU];exact ao
end
end Cx
namespace Cx
open Go Go.RowKit
def acz (m:Nat)(s:Sig):Snap:=⟨s.args.map .dat++List.replicate (m-s.args.length) .none,[]⟩
def oV (ds:List D):Env:=⟨fun t=>ds.getD t .none,fun _=>.none⟩
def BG (C:Ctx)(fn:Func)(s:Sig)(ids:List Nat)(S0:Snap):Option PC:=
 match fn.body with
 |some c=>
  (comp C fn s fn.ntmps ids (Ou C fn.ntmps ids) false c S0).bind fun r=>
    match r.out with
    |none=>some r.pc
    |some S=>(zN C fn s (S.st ids)).map fun e=>.seq r.pc (.ret e)
 |none=>none
def my (C:Ctx)(fn:Func)(s:Sig)(ids:List Nat):Option PC:=
 match C.yl with
 |none=>
  match s.mode with
  |.ob _ _=>none
  |_=>bif Nat.ble s.args.length fn.ntmps then BG C fn s ids (acz fn.ntmps s) else none
 |some _=>none
theorem afz:∀(ids:List Nat) (j:Nat),eH ids [] j=.dead
 |[],_=>rfl
 |_::_,_=>rfl
theorem ab0 {C:Ctx}{Φ:aW}(aZ:dL C)(hΦ:dt C Φ)(dY:gH C Φ){fn:Func}{s:Sig}{ids:List Nat}{S0:Snap}{pc:PC}{c:Code}(hb:fn.body=some c)(hc:BG C fn s ids S0=some pc){w0:World}{σ0:Base}(j4:σ0.fin)(hC:CtxOK C σ0)(hY:tR C Φ w0 σ0)
 {N:Nat} {ρ:Env} {d:D} {a:Act} {w:World} (hn:a.tmps.size=fn.ntmps) (hg:Good C w0 σ0 (S0.st ids) ρ (fun _=>False) a w) (he:pc.ev Φ N ρ=some (.ret d)):
 c.wpIn (FR none) 0 C.P (fun e a' w'=>(e=.normal∨e=.ret)∧tP C w0 σ0 fn s d a'.tmps a'.defers w'∧SameBut (fun t=>t∈cP c) a a') a w:=by
 unfold BG at hc;rw[hb] at hc;simp only[aA] at hc;obtain⟨r,hr,hc⟩:=hc;have Tr:=fun x hx=>am1 (fn:=fn) (s:=s) (N:=N) dY (axO (n:=fn.ntmps) (ids:=ids) aZ hΦ) c false S0 r hr none w0 σ0 (fun t=>t∈cP c) ρ x a w (fun _=>⟨rfl,j4⟩) hC hY (fun _ h=>h) hn hg hx;split at hc
 ·rename_i kD;cases hc;refine wpIn_mono (Tr (.ret d) he) fun e a' w' ho=>?_;cases e with
  |normal=>obtain⟨_,_,h,_⟩:=ho;cases h
  |exit id=>obtain⟨_,_,h,_⟩:=ho;cases h
  |ret=>obtain⟨d',h,h2⟩:=ho;cases h;exact⟨.inr rfl,h2⟩
  |_=>exact ho.elim
 ·rename_i S kD;simp only[aC] at hc;obtain⟨pe,ln,rfl⟩:=hc;simp only[PC.ev] at he;split at he
  ·rename_i ρ1 h1;cases he;refine wpIn_mono (Tr (.next ρ1) h1) fun e a' w' ho=>?_;cases e with
   |normal=>
    obtain⟨ρ2,S2,e1,e2,qV,gR⟩:=ho;cases e1;rw[kD] at e2;cases e2;obtain⟨σ2,own,hv,hi⟩:=gR;exact⟨.inl rfl,Inv.retD hC (fun _=>rfl) j4 ln _ hi rfl,qV⟩
   |exit id=>obtain⟨_,_,h,_⟩:=ho;cases h
   |ret=>obtain⟨d',h,h2⟩:=ho;cases h
   |_=>exact ho.elim
  ·rename_i ay;refine wpIn_mono (Tr (.ret d) he) fun e a' w' ho=>?_;cases e with
   |normal=>obtain⟨_,_,h,_⟩:=ho;cases h
   |exit id=>obtain⟨_,_,h,_⟩:=ho;cases h
   |ret=>obtain⟨d',h,h2⟩:=ho;cases h;exact⟨.inr rfl,h2⟩
   |_=>exact ho.elim
theorem tP.leaves {C:Ctx}{w0:World}{σ0:Base}{fn:Func}{s:Sig}{d:D}{tmps:Array Value}{R:Ending→World→Prop}(hR:∀w',PY C w0 σ0 fn s d {tmps:=tmps,defers:=[]} w'→∃v,(results fn tmps).run C.P w'=.ok v w'∧R (.returned v) w'):
 ∀(ds:List Deferred) (w:World),tP C w0 σ0 fn s d tmps ds w→LeavesInM (FR none) 0 C.P fn tmps R ds .returning w
 |[],w,h=>hR w h
 |x::ds,w,⟨D,h1,h2,h3⟩=>⟨by simp,.inl ⟨D,_,h1,run_takeDeferred h2,tP.leaves hR ds _ h3⟩⟩
theorem aop {C:Ctx}{σ:Im}{w:World}{args:Array Value}{ds:List D}{s:Sig}{m:Nat}{ids:List Nat}(ax:σ.ok w)(ha:qd C σ s.args args.toList ds):
 Good C w (Base.mk0 σ w.heap.size) ((acz m s).st ids) (oV ds) (fun _=>False) {tmps:=args++Array.replicate (m-args.size) undef,defers:=[]} w:=by
 obtain⟨h1,h2,h3⟩:=ha;have aP:args.size=s.args.length:=by simpa using h1
 refine⟨σ,fun _=>none,fun _=>undef,trivial,ax,.refl σ,fun _ k e=>(ax.m k _ e).lt,fun _ _ _ h=>.inl h,fun _ _ h=>.inl h,.refl _ _,bn _,(fun k j h=>by cases h),fun t=>?_,fun j=>?_,fun t gs s' e=>absurd e (Snap.noOpt _ _ t gs s'),
  .none,fun _=>False,fun _=>False,⟨⟨fun _=>id,fun _=>id⟩,(fun k j h=>by cases h),fun _ _ _ _=>id,fun _ _ _=>id,fun _ _ _=>id⟩,fun j hj=>?_⟩
 ·show aJ C _ _ σ _ (cO ((s.args.map Sh.dat++List.replicate (m-s.args.length) Sh.none).getD t .none)) _ _;rw[aI];by_cases ht:t<s.args.length
  ·rw[oJ (by simpa using ht),ct,aX ht];simp only[kW,kV,cO];have:=h3 t _ (aX ht);have e1:(args++Array.replicate (m-args.size) undef).getD t undef=args.toList.getD t undef:=by
        simp only[gG,aI];rw[Array.getElem?_append_left (by omega)];simp
   show aJ C _ _ σ _ (.dat _) ((args++Array.replicate (m-args.size) undef).getD t undef) (ds.getD t .none);rw[e1];exact this
  ·rw[oK (by simpa using ht),ak6];split<;>trivial
 ·show cA C _ _ σ _ _ w _ j (eH ids [] j);rw[afz];trivial
 ·change eH ids [] j=.tr at hj;rw[afz] at hj;cases hj
theorem Rf {C:Ctx}{Φ:aW}(aZ:dL C)(hΦ:dt C Φ)(dY:gH C Φ){f:Nat}{fn:Func}{s:Sig}{ids:List Nat}{pc:PC}(hf:C.P.funcs[f]?=some fn)(hc:my C fn s ids=some pc){N:Nat}{ds:List D}{d:D}(cW:v7 s.mode=false)
 (he:pc.ev Φ N (oV ds)=some (.ret d)):ij C f s ds d:=by
 intro σ w args ax hC ha;unfold my at hc;split at hc
 case h_2=>cases hc
 rename_i oc;split at hc
 case h_1=>rename_i e;rw[e] at cW;cases cW
 cases hle:Nat.ble s.args.length fn.ntmps<;>simp only[hle,cond_true,cond_false] at hc
 ·cases hc
 have ph:=lQ hle;have aP:args.size=s.args.length:=by simpa using ha.1
 cases hb:fn.body with
 |none=>unfold BG at hc;rw[hb] at hc;cases hc
 |some c=>
 refine(callsIn_wide (n:=0)).1 (callsIn_of_wp_marks (F:=FR none) hf hb trivial ?_);have hg:=aop (C:=C) (m:=fn.ntmps) (ids:=ids) ax ha;have hn:(args++Array.replicate (fn.ntmps-args.size) undef).size=fn.ntmps:=by simp;omega
 refine wpIn_mono (ab0 aZ hΦ dY hb hc (σ0:=Base.mk0 σ w.heap.size) trivial hC (fun J ys e=>by rw[oc] at e;cases e) hn hg he) fun e a' w' ho=>?_
 have main:=tP.leaves (R:=fun e w'=>∃v σ',e=.returned v∧σ.le σ'∧σ'.ok w'∧Below w.heap.size w w'∧
  (∀k o x,σ'.c k o=some x→σ.c k o=some x∨w.heap.size≤k)∧(∀k x,σ'.m k=some x→σ.m k=some x∨w.heap.size≤k)∧nu C s σ' w w' v d) (fun w2 Tl=>by
  obtain⟨v,σ',_,h2,h3,h4,h5,h6,h7,h8⟩:=Tl;exact⟨v,h2,v,σ',rfl,h3,h4,h5,h6,h7,h8⟩) _ _ ho.2.1
 rcases ho.1 with rfl|rfl<;>exact main
theorem amV {C:Ctx}{Φ:aW}(aZ:dL C)(hΦ:dt C Φ)(dY:gH C Φ){f:Nat}{fn:Func}{s:Sig}{ids:List Nat}{pc:PC}(hf:C.P.funcs[f]?=some fn)(hc:my C fn s ids=some pc){N:Nat}{ds:List D}{d:D}{shs:List Sh}{obs:List (Nat×Ob)}(cW:s.mode=.ob shs obs)
 (he:pc.ev Φ N (oV ds)=some (.ret d)):eJ C f shs obs s.res ds d:=by
 unfold my at hc;split at hc
 case h_2=>cases hc
 rw[cW] at hc;cases hc
def acy (m:Nat)(cts:List Ty)(J:Nat)(ids:List Nat):Snap:=⟨.yv::(cts.map .dat++List.replicate (m-(cts.length+1)) .none),ids.map fun j=>bif Nat.beq j J then .tr else .dead⟩
def BL (J:Nat)(ds:List D):Env:=⟨fun t=>(D.none::ds).getD t .none,fun j=>bif Nat.beq j J then .list [] else .none⟩
def EG (C:Ctx)(fn:Func)(cts ys:List Ty)(J:Nat)(ids:List Nat):Option PC:=
 match C.yl,C.sig nl,C.cap nl with
 |none,none,none=>bif Nat.ble (cts.length+1) fn.ntmps then BG {C with yl:=some (J,ys)} fn ⟨[],.tup [],.it J⟩ ids (acy fn.ntmps cts J ids) else none
 |_,_,_=>none
open Classical in
def yldΦ (Φ:aW)(xs:List D)(m:Nat):aW:=fun f ds=>
 if f=nl then(match ds with|[.list l]=>if 0<l.length∧l.length≤m+1∧l=xs.take l.length then some (.v (.bool (decide (l.length≤m)))) else none|_=>none)
 else Φ f ds
theorem yldΦ_at {Φ:aW}{xs l ds:List D}{d:D}{m:Nat}(h:yldΦ Φ xs m nl [.list (l++[.tup ds])]=some d):l.length≤m∧l=xs.take l.length∧xs[l.length]?=some (.tup ds)∧l++[.tup ds]=xs.take (l.length+1)∧d=.v (.bool (decide (l.length<m))):=by
 simp only[yldΦ,if_true] at h;split at h
 ·rename_i hc;obtain⟨h1,h2,h3⟩:=hc;simp only[mm,oL,Ap,je] at h2 h3 h;have hx:xs[l.length]?=some (.tup ds):=by
   have:(xs.take (l.length+1))[l.length]?=some (.tup ds):=by rw[←h3];simp
   rw[iI] at this;simpa using this
  have hl:l=xs.take l.length:=by
   have:=congrArg (List.take l.length) h3;simpa [PL] using this
  refine⟨by omega,hl,hx,h3,?_⟩;cases h
  congr 2
 ·cases h
theorem dt.yl {C:Ctx}{Φ:aW}(h:dt C Φ){y:Option (Nat×List Ty)}{v:Value}{xs:List D}{m:Nat}(hs:C.sig nl=none):dt {C with yl:=y,yv:=v} (yldΦ Φ xs m):=by
 intro f ds d e s dZ;have ay:f≠nl:=fun e'=>by subst e';change C.sig nl=some s at dZ;rw[hs] at dZ;cases dZ
 simp only[yldΦ,if_neg ay] at e;obtain⟨h1,h2⟩:=h f ds d e s dZ;exact⟨fun hm σ w args ax hC ha=>h1 hm σ w args ax ⟨hC.glob,hC.mg⟩ ha,fun shs obs hm=>(h2 shs obs hm).ctx rfl rfl rfl⟩
theorem mj.yl {C:Ctx}{y:Option (Nat×List Ty)}{v:Value}{f:Nat}{cts ys:List Ty}{ds xs:List D}(h:mj C f cts ys ds xs):mj {C with yl:=y,yv:=v} f cts ys ds xs:=
 fun σ w yv vs F fx cx m ax hC=>h σ w yv vs F fx cx m ax ⟨hC.glob,hC.mg⟩
theorem gH.yl {C:Ctx}{Φ:aW}(h:gH C Φ){y:Option (Nat×List Ty)}{v:Value}{xs:List D}{m:Nat}(hs:C.cap nl=none):gH {C with yl:=y,yv:=v} (yldΦ Φ xs m):=by
 intro f cs ys hc hi;have ay:f≠nl:=fun e'=>by subst e';change C.cap nl=some cs at hc;rw[hs] at hc;cases hc
 obtain⟨h1,h2⟩:=h f cs ys hc hi;refine⟨h1,fun ds d e=>?_⟩;simp only[yldΦ,if_neg ay] at e;obtain⟨xs,e1,e2,e3⟩:=h2 ds d e;exact⟨xs,e1,e2,e3.yl⟩
def aaR (Φ:aW)(pc:PC)(J:Nat)(ds xs:List D):Prop:=∀m,m≤xs.length→∃N,pc.ev (yldΦ Φ xs m) N (BL J ds)=some (.ret (.list (xs.take (m+1))))
theorem aoo {C:Ctx}{σ:Im}{σ0:Base}{w:World}{yv:Value}{vs:List Value}{ds:List D}{cts ys:List Ty}{J m:Nat}{ids:List Nat}(ax:σ.ok w)(ha:qd C σ cts vs ds)(hm:cts.length+1≤m)(oc:C.yl=some (J,ys))(Gd:C.yv=yv)
 (h0:σ0.toIm=σ) (hB:σ0.B=0) {fx cx:Nat→Prop} (hF:σ0.F (.list []) fx cx w) (jn:∀k o x,σ.c k o=some x→¬cx k) (nT:∀k x,σ.m k=some x→¬cx k):
 Good C w σ0 ((acy m cts J ids).st ids) (BL J ds) (fun _=>False) {tmps:=#[yv]++vs.toArray++Array.replicate (m-(vs.length+1)) undef,defers:=[]} w:=by
 obtain⟨h1,h2,h3⟩:=ha
 refine⟨σ,fun _=>none,fun _=>undef,trivial,ax,by rw[h0];exact .refl σ,fun _ k e=>by rw[h0] at e;exact(ax.m k _ e).lt,fun _ _ _ h=>by rw[h0];exact .inl h,fun _ _ h=>by rw[h0];exact .inl h,.refl _ _,by omega,(fun k j h=>by cases h),fun t=>?_,fun j=>?_,fun t gs s' e=>absurd e (Snap.noOpt _ _ t gs s'),
  .list [],fx,cx,⟨hF,(fun k j h=>by cases h),jn,nT,fun k e hk=>by have:=(ax.m k _ e).lt;omega⟩,fun j hj=>?_⟩
 ·show aJ C _ _ σ _ (cO ((Sh.yv::(cts.map Sh.dat++List.replicate (m-(cts.length+1)) Sh.none)).getD t .none)) ((#[yv]++vs.toArray++Array.replicate (m-(vs.length+1)) undef).getD t undef) ((D.none::ds).getD t .none);have ea:((#[yv]++vs.toArray++Array.replicate (m-(vs.length+1)) undef).getD t undef)=(yv::(vs++List.replicate (m-(vs.length+1)) undef)).getD t undef:=by
   rw[gG,←qe,aI];simp
  rw[ea];cases t with
  |zero=>simp only[oI,cO];exact Gd.symm
  |succ t=>
   simp only[xx];rw[aI];by_cases ht:t<cts.length
   ·rw[oJ (by simpa using ht),ct,aX ht];simp only[kW,kV,cO];have:=h3 t _ (aX ht);have e1:(vs++List.replicate (m-(vs.length+1)) undef).getD t undef=vs.getD t undef:=by
     simp only[aI];rw[oJ (by omega)]
    show aJ C _ _ σ _ (.dat _) _ (ds.getD t .none);rw[e1];exact this
   ·rw[oK (by simpa using ht),ak6];split<;>trivial
 ·show cA C _ _ σ _ _ w _ j (eH ids (ids.map fun j=>bif Nat.beq j J then .tr else .dead) j);refine zc _ (fun ob=>cA C _ _ σ _ _ w _ j ob) trivial j ?_ ids;cases Nat.beq j J<;>trivial
 ·change eH ids (ids.map fun j=>bif Nat.beq j J then .tr else .dead) j=.tr at hj
  have hb:=zc (fun j=>bif Nat.beq j J then Ob.tr else .dead) (fun ob=>ob=.tr→Nat.beq j J=true) (fun e=>by cases e) j (fun e=>by
   cases hb:Nat.beq j J
   ·rw[hb] at e;cases e
   ·rfl) ids hj
  have:=aD hb;subst this;refine⟨⟨ys,oc⟩,?_⟩;show(bif Nat.beq j j then D.list [] else .none)=_;rw[lP];rfl
theorem amW {C:Ctx}{Φ:aW}(aZ:dL C)(hΦ:dt C Φ)(dY:gH C Φ){f:Nat}{fn:Func}{cts ys:List Ty}{J:Nat}{ids:List Nat}{pc:PC}(hf:C.P.funcs[f]?=some fn)(hc:∀yv,EG {C with yv:=yv} fn cts ys J ids=some pc){ds xs:List D}
 (hr:aaR Φ pc J ds xs):mj C f cts ys ds xs:=by
 intro σ w yv vs F fx cx m ax hC ha hm af cM uE hF jn nT TI;have hc:=hc yv;unfold EG at hc;split at hc
 case h_2=>cases hc
 rename_i oc hsy hcy;cases hle:Nat.ble (cts.length+1) fn.ntmps<;>simp only[hle,cond_true,cond_false] at hc
 ·cases hc
 have ph:=lQ hle;obtain⟨N,he⟩:=hr m hm;cases hb:fn.body with
 |none=>unfold BG at hc;rw[hb] at hc;cases hc
 |some c=>
 refine(callsIn_wide (n:=0)).1 (callsIn_of_wp_marks (F:=FR none) hf hb trivial ?_);obtain⟨σ0,hσ0⟩:∃σ0:Base,σ0={σ with B:=0,fin:=True,F:=fun t fx cx w=>(∃l,t=.list l)∧F t fx cx w,lt:=fun t fx cx w h=>af t fx cx w h.2,sub:=fun t fx cx w h=>cM t fx cx w h.2,keep:=fun t fx cx w w' h hb hs=>⟨h.1,uE t fx cx w w' h.2 hb hs⟩}:=⟨_,rfl⟩
 have e1:σ0.toIm=σ:=by rw[hσ0]
 have e2:σ0.B=0:=by rw[hσ0]
 have e3:σ0.fin:=by rw[hσ0];trivial
 have e4:∀t fx cx w,σ0.F t fx cx w↔(∃l,t=.list l)∧F t fx cx w:=fun t fx cx w=>by rw[hσ0]
 have hg:=aoo (C:={C with yl:=some (J,ys),yv:=yv}) (σ0:=σ0) (w:=w) (yv:=yv) (vs:=vs) (ds:=ds) (cts:=cts) (ys:=ys) (J:=J) (m:=fn.ntmps) (ids:=ids) ax ha ph rfl rfl e1 e2 ((e4 _ _ _ _).2 ⟨⟨_,rfl⟩,hF⟩) jn nT;have aP:(#[yv]++vs.toArray).size=vs.length+1:=by simp<;>omega
 have vR:vs.length=cts.length:=ha.1;have hY:tR {C with yl:=some (J,ys),yv:=yv} (yldΦ Φ xs m) w σ0:=by
  intro J' ys' e;cases e;refine⟨e2,fun t fx cx w h=>((e4 _ _ _ _).1 h).1,fun fw ds' d hd fx cx w1 σ1 args BX asd yr hc1 FK eD dv=>?_⟩;obtain⟨g1,g2,g3,g4,rfl⟩:=yldΦ_at hd;rw[e1] at eD dv;have:=TI fw.length fx cx w1 σ1 args ds' g1 g3 (by rw[←g2];exact((e4 _ _ _ _).1 BX).2) asd yr hc1 FK eD dv;intro rd o a x aa ts K Q eE hv has hK;refine this rd o a x aa ts K Q eE hv has fun u w2 hu=>hK u w2 ?_;obtain⟨u1,u2,u3,nR,ny,u4,u5,u6⟩:=hu;refine⟨_,rfl,u1,u2,u3,nR,ny,(e4 _ _ _ _).2 ⟨⟨_,rfl⟩,?_⟩,u5,u6⟩;rw[g4];exact u4
 have hn:(#[yv]++vs.toArray++Array.replicate (fn.ntmps-(vs.length+1)) undef).size=fn.ntmps:=by simp;omega
 rw[aP];refine wpIn_mono (ab0 (C:={C with yl:=some (J,ys),yv:=yv}) aZ (hΦ.yl hsy) (dY.yl hcy) hb hc (σ0:=σ0) e3 (by rw[e1];exact⟨hC.glob,hC.mg⟩) hY hn hg he) fun e a' w' ho=>?_
 have main:=tP.leaves (R:=fun e w'=>(∃v,e=.returned v)∧∃fx cx,F (.list (xs.take (m+1))) fx cx w') (fun w2 Tl=>by
  obtain⟨v,σ',⟨own,t,fx,cx,h1,ht,_⟩,h2,_⟩:=Tl;refine⟨v,h2,⟨v,rfl⟩,fx,cx,?_⟩;rw[ht J rfl];exact((e4 _ _ _ _).1 h1.F).2) _ _ ho.2.1
 rcases ho.1 with rfl|rfl<;>exact main
def eL (tab:Nat→Option PC)(ext:Nat→Option (aW→List D→Option D)):Nat→aW
 |0=>fun _ _=>none
 |n+1=>fun f ds=>
  match ext f with
  |some g=>g (eL tab ext n) ds
  |none=>
   match tab f with
   |some pc=>(match pc.ev (eL tab ext n) n (oV ds) with|some (.ret d)=>some d|_=>none)
   |none=>none
theorem ij.hint {C:Ctx}{fr nh:List Nat}{f:Nat}{s:Sig}{ds:List D}{d:D}(h:ij C f s ds d):ij {C with fr:=fr,nh:=nh} f s ds d:=
 fun σ w args ax hC ha=>h σ w args ax ⟨hC.glob,hC.mg⟩ ha
theorem ij.unhint {C:Ctx}{fr nh:List Nat}{f:Nat}{s:Sig}{ds:List D}{d:D}(h:ij {C with fr:=fr,nh:=nh} f s ds d):ij C f s ds d:=
 fun σ w args ax hC ha=>h σ w args ax ⟨hC.glob,hC.mg⟩ ha
theorem mj.hint {C:Ctx}{fr nh:List Nat}{f:Nat}{cts ys:List Ty}{ds xs:List D}(h:mj C f cts ys ds xs):mj {C with fr:=fr,nh:=nh} f cts ys ds xs:=
 fun σ w yv vs F fx cx m ax hC=>h σ w yv vs F fx cx m ax ⟨hC.glob,hC.mg⟩
theorem mj.unhint {C:Ctx}{fr nh:List Nat}{f:Nat}{cts ys:List Ty}{ds xs:List D}(h:mj {C with fr:=fr,nh:=nh} f cts ys ds xs):mj C f cts ys ds xs:=
 fun σ w yv vs F fx cx m ax hC=>h σ w yv vs F fx cx m ax ⟨hC.glob,hC.mg⟩
theorem eJ.hint {C:Ctx}{fr nh:List Nat}{f:Nat}{shs:List Sh}{obs:List (Nat×Ob)}{res:Ty}{ds:List D}{d:D}(h:eJ C f shs obs res ds d):eJ {C with fr:=fr,nh:=nh} f shs obs res ds d:=h.ctx rfl rfl rfl
theorem eJ.unhint {C:Ctx}{fr nh:List Nat}{f:Nat}{shs:List Sh}{obs:List (Nat×Ob)}{res:Ty}{ds:List D}{d:D}(h:eJ {C with fr:=fr,nh:=nh} f shs obs res ds d):eJ C f shs obs res ds d:=eJ.ctx (C':=C) h rfl rfl rfl
theorem dt.hint {C:Ctx}{fr nh:List Nat}{Φ:aW}(h:dt C Φ):dt {C with fr:=fr,nh:=nh} Φ:=
 fun f ds d e s hs=>⟨fun hm=>((h f ds d e s hs).1 hm).hint,fun shs obs hm=>((h f ds d e s hs).2 shs obs hm).hint⟩
theorem gH.hint {C:Ctx}{fr nh:List Nat}{Φ:aW}(h:gH C Φ):gH {C with fr:=fr,nh:=nh} Φ:=
 fun f cs ys hc hi=>let⟨h1,h2⟩:=h f cs ys hc hi;⟨h1,fun ds d e=>let⟨xs,e1,e2,e3⟩:=h2 ds d e;⟨xs,e1,e2,e3.hint⟩⟩
theorem dL.hint {C:Ctx}{fr nh:List Nat}(h:dL C):dL {C with fr:=fr,nh:=nh}:=h
def Pt (C:Ctx)(f:Nat)(s:Sig)(ds:List D)(d:D):Prop:=(v7 s.mode=false→ij C f s ds d)∧∀shs obs,s.mode=.ob shs obs→eJ C f shs obs s.res ds d
structure TabOK (C:Ctx) (tab:Nat→Option PC) (ext:Nat→Option (aW→List D→Option D)):Prop where
 clos:dL C
 its:∀f cs ys,C.cap f=some cs→og cs.args cs.res=some ys→tab f=none∧∃fn,C.P.funcs[f]?=some fn∧fn.body.isSome=true∧(fn.name== "runtime.NumGoroutine")=false
 tab:∀f pc,ext f=none→tab f=some pc→∃fn s ids fr nh,C.P.funcs[f]?=some fn∧C.sig f=some s∧my {C with fr:=fr,nh:=nh} fn s ids=some pc
 ext:∀f g,ext f=some g→∀Φ,dt C Φ→gH C Φ→∀ds d,g Φ ds=some d→(∀s,C.sig f=some s→Pt C f s ds d)∧
  ∀cs ys,C.cap f=some cs→og cs.args cs.res=some ys→∃xs,d=.list xs∧(∀x,x∈xs→∃ds',x=.tup ds'∧ds'.length=ys.length)∧mj C f cs.caps ys ds xs
theorem abh {C:Ctx}{tab:Nat→Option PC}{ext:Nat→Option (aW→List D→Option D)}(h:TabOK C tab ext):∀n,dt C (eL tab ext n)∧gH C (eL tab ext n)
 |0=>⟨fun f ds d e=>by simp[eL] at e,fun f cs ys hc hi=>⟨(h.its f cs ys hc hi).2,fun ds d e=>by simp[eL] at e⟩⟩
 |n+1=>by
  obtain⟨ih,vY⟩:=abh h n;refine⟨fun f ds d e=>?_,fun f cs ys hc hi=>⟨(h.its f cs ys hc hi).2,fun ds d e=>?_⟩⟩
  ·simp only[eL] at e;split at e
   ·rename_i g hg;exact(h.ext f g hg _ ih vY ds d e).1
   ·rename_i hx;split at e
    ·rename_i pc ab;split at e
     ·rename_i d' he;cases e;obtain⟨fn,s,ids,fr,nh,h1,h2,h3⟩:=h.tab f pc hx ab;intro s' dZ;rw[h2] at dZ;cases dZ
      exact⟨fun hm=>(Rf (C:={C with fr:=fr,nh:=nh}) (dL.hint h.clos) (dt.hint ih) (gH.hint vY) h1 h3 hm he).unhint,
       fun shs obs hm=>(amV (C:={C with fr:=fr,nh:=nh}) (dL.hint h.clos) (dt.hint ih) (gH.hint vY) h1 h3 hm he).unhint⟩
     ·cases e
    ·cases e
  ·simp only[eL] at e;split at e
   ·rename_i g hg;exact(h.ext f g hg _ ih vY ds d e).2 cs ys hc hi
   ·rw[(h.its f cs ys hc hi).1] at e;cases e
def ak2 (Φ:aW)(pc:PC)(J k:Nat)(ds xs:List D):Prop:=aaR Φ pc J ds xs∧∀x,x∈xs→∃ds',x=.tup ds'∧ds'.length=k
open Classical in
def Gl (pc:PC)(J k:Nat)(spec:List D→List D):aW→List D→Option D:=fun Φ ds=>if ak2 Φ pc J k ds (spec ds) then some (.list (spec ds)) else none
theorem atA {C:Ctx}{Φ:aW}(aZ:dL C)(hΦ:dt C Φ)(dY:gH C Φ){f:Nat}{fn:Func}{cts ys:List Ty}{J k:Nat}{ids fr nh:List Nat}{pc:PC}(hf:C.P.funcs[f]?=some fn)(hc:∀yv,EG {C with fr:=fr,nh:=nh,yv:=yv} fn cts ys J ids=some pc){spec:List D→List D}
 {ds:List D} {d:D} (h:Gl pc J k spec Φ ds=some d) (hk:k=ys.length):∃xs,d=.list xs∧(∀x,x∈xs→∃ds',x=.tup ds'∧ds'.length=ys.length)∧mj C f cts ys ds xs:=by
 unfold Gl at h;split at h
 ·rename_i hs;cases h;subst hk;exact⟨_,rfl,hs.2,(amW (C:={C with fr:=fr,nh:=nh}) (dL.hint aZ) (dt.hint hΦ) (gH.hint dY) hf hc hs.1).unhint⟩
 ·cases h
def bL {α:Type}:List (Nat×α)→Nat→Option α
 |[],_=>none
 |x::l,f=>bif Nat.beq x.1 f then some x.2 else bL l f
def IM {α:Type}(R:Nat→α→Prop):List (Nat×α)→Prop
 |[]=>True
 |x::l=>R x.1 x.2∧IM R l
theorem T5 {α:Type}{R:Nat→α→Prop}:∀{l:List (Nat×α)},IM R l→∀f x,bL l f=some x→R f x
 |[],_,f,x,h=>by cases h
 |y::l,⟨h1,h2⟩,f,x,h=>by
  simp only[bL] at h;cases hb:Nat.beq y.1 f<;>simp only[hb,cond_true,cond_false] at h
  ·exact T5 h2 f x h
  ·cases h;rw[←dA hb];exact h1
def Xs (P:Program):List (Nat×Sig)→Bool
 |[]=>true
 |x::l=>(match P.funcs[x.1]? with|some fn=>fn.body.isSome&& !(fn.name== "runtime.NumGoroutine")|none=>false)&&Xs P l
theorem aka {P:Program}:∀{l:List (Nat×Sig)},Xs P l=true→∀f s,bL l f=some s→∃fn,P.funcs[f]?=some fn∧fn.body.isSome=true∧(fn.name== "runtime.NumGoroutine")=false
 |[],_,f,s,h=>by cases h
 |y::l,hl,f,s,h=>by
  simp only[Xs,aw] at hl;simp only[bL] at h;cases hb:Nat.beq y.1 f<;>simp only[hb,cond_true,cond_false] at h
  ·exact aka hl.2 f s h
  ·rw[←dA hb];have h1:=hl.1;split at h1
   ·rename_i fn e;simp only[aw,mi] at h1;exact⟨fn,e,h1.1,h1.2⟩
   ·cases h1
def Xg (a b:Sig):Bool:=Ty.beqs a.args b.args&&Ty.beq a.res b.res&&(match a.mode,b.mode with|.dat,.dat=>true|_,_=>false)
theorem ayo {a b:Sig}(h:Xg a b=true):a=b:=by
 obtain⟨a1,a2,a3⟩:=a;obtain⟨b1,b2,b3⟩:=b;simp only[Xg,aw] at h;rw[Ty.beqs_eq _ _ h.1.1,Ty.beq_eq _ _ h.1.2];cases a3<;>cases b3<;>first|rfl|(have:=h.2;cases this)
def Iz (P:Program)(f:Nat):Bool:=match P.funcs[f]? with|some fn=>fn.body.isSome&& !(fn.name== "runtime.NumGoroutine")|none=>false
theorem ayZ {P:Program}{f:Nat}(h:Iz P f=true):∃fn,P.funcs[f]?=some fn∧fn.body.isSome=true∧(fn.name== "runtime.NumGoroutine")=false:=by
 unfold Iz at h;split at h
 ·rename_i fn e;simp only[aw,mi] at h;exact⟨fn,e,h.1,h.2⟩
 ·cases h
def Q0 (P:Program)(sig:List (Nat×Sig))(pcs:List Nat):List (Nat×CSig)→Bool
 |[]=>true
 |x::l=>(match og x.2.args x.2.res with
   |none=>(match bL sig x.1 with|some s=>Xg s ⟨x.2.args++x.2.caps,x.2.res,.dat⟩|none=>false)
   |some _=> !fR pcs x.1&&Iz P x.1)&&Q0 P sig pcs l
theorem abP {P:Program}{sig:List (Nat×Sig)}{pcs:List Nat}:∀{l:List (Nat×CSig)},Q0 P sig pcs l=true→∀f cs,bL l f=some cs→
 (og cs.args cs.res=none→bL sig f=some ⟨cs.args++cs.caps,cs.res,.dat⟩)∧∀ys,og cs.args cs.res=some ys→fR pcs f=false∧Iz P f=true
 |[],_,f,cs,h=>by cases h
 |x::l,hl,f,cs,h=>by
  simp only[Q0,aw] at hl;simp only[bL] at h;cases hb:Nat.beq x.1 f<;>simp only[hb,cond_true,cond_false] at h
  ·exact abP hl.2 f cs h
  ·cases h;rw[←dA hb];have h1:=hl.1;refine⟨fun e=>?_,fun ys e=>?_⟩
   ·rw[e] at h1;simp only at h1;split at h1
    ·rename_i s hs;rw[hs,ayo h1]
    ·cases h1
   ·rw[e] at h1;simpa using h1
theorem afu {α:Type}:∀{l:List (Nat×α)} {f:Nat},fR (l.map (·.1)) f=false→bL l f=none
 |[],f,_=>rfl
 |x::l,f,h=>by
  simp only[jc,fR,List.any_cons,aaI] at h;simp only[bL];have hb:Nat.beq x.1 f=false:=by
   cases e:Nat.beq x.1 f
   ·rfl
   ·rw[aD e,lP] at h;cases h.1
  rw[hb];exact afu (l:=l) h.2
def alf (Φ:aW)(pa pb:PC)(ds:List D)(d:D):Prop:=(∃N xs,pa.ev Φ N (oV ds)=some (.ret (.list xs))∧xs≠[]∧d=.list xs)∨∃N,pb.ev Φ N (oV ds)=some (.ret (.list []))∧d=.list []
open Classical in
def CK (pa pb:PC)(spec:List D→D):aW→List D→Option D:=fun Φ ds=>if alf Φ pa pb ds (spec ds) then some (spec ds) else none
theorem avI {C:Ctx}{Φ:aW}(aZ:dL C)(hΦ:dt C Φ)(dY:gH C Φ){f:Nat}{fn:Func}{args:List Ty}{e:Ty}{ids ato fr nh frb nhb:List Nat}{pa pb:PC}(hf:C.P.funcs[f]?=some fn)(ha:my {C with fr:=fr,nh:=nh} fn ⟨args,.slice e,.dat⟩ ids=some pa)
 (hb:my {C with fr:=frb,nh:=nhb} fn ⟨args,.nils .bool,.dat⟩ ato=some pb) {spec:List D→D} {ds:List D} {d:D} (h:CK pa pb spec Φ ds=some d):ij C f ⟨args,.nsl e,.dat⟩ ds d:=by
 unfold CK at h;split at h
 case isFalse=>cases h
 rename_i hs;cases h;rcases hs with⟨N,xs,h1,h2,h3⟩|⟨N,h1,h2⟩
 ·rw[h3];have:=(Rf (C:={C with fr:=fr,nh:=nh}) (dL.hint aZ) (dt.hint hΦ) (gH.hint dY) hf ha (N:=N) rfl h1).unhint;intro σ w aa ax hC jm;refine(this σ w aa ax hC jm).mono fun en w' hh=>?_;obtain⟨v,σ',g1,g2,g3,g4,g5,g6,g7⟩:=hh;refine⟨v,σ',g1,g2,g3,g4,g5,g6,?_⟩;change Rep C.cap σ' (.slice e) v (.list xs) at g7;show Rep C.cap σ' (.nsl e) v (.list xs);generalize hd:D.list xs=dd at g7;cases g7 with
  |nil=>injection hd with hd;exact absurd hd h2
  |emp=>injection hd with hd;exact absurd hd h2
  |slice _ k o n c fw vs a1 a2 a3 a4 a5 a6=>exact .nsl e k o n c fw (.slice e k o n c fw vs a1 a2 a3 a4 a5 a6) (by injection hd with hd;rw[←hd];exact h2)
 ·rw[h2];have:=(Rf (C:={C with fr:=frb,nh:=nhb}) (dL.hint aZ) (dt.hint hΦ) (gH.hint dY) hf hb (N:=N) rfl h1).unhint;intro σ w aa ax hC jm;refine(this σ w aa ax hC jm).mono fun en w' hh=>?_;obtain⟨v,σ',g1,g2,g3,g4,g5,g6,g7⟩:=hh;refine⟨v,σ',g1,g2,g3,g4,g5,g6,?_⟩;change Rep C.cap σ' (.nils .bool) v (.list []) at g7;show Rep C.cap σ' (.nsl e) v (.list []);generalize D.list []=dd at g7;cases g7;exact .nsl0 e
end Cx
