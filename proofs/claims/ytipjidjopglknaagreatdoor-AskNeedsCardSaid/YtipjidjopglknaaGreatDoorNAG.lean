/-
  Shared texts of this claim.
-/
import Derived.Test.YtipjidjopglknaaGreatDoorNAF
set_option linter.unusedSimpArgs false
set_option linter.unusedVariables false
namespace Cx
open Go Go.RowKit
def Vp:Value→Value→Bool
 |.int k n,.int k' m=>k==k'&&n==m
 |.bool a,.bool b=>a==b
 |.string a,.string b=>decide (a=b)
 |.nilFunc,.nilFunc=>true
 |_,_=>false
theorem avf:∀a b,Vp a b=true→a=b:=by
 intro a b h;unfold Vp at h;split at h
 ·simp only[ao,beq_iff_eq] at h;rw[h.1,h.2]
 ·simp only[beq_iff_eq] at h;rw[h]
 ·simp only[decide_eq_true_eq] at h;rw[h]
 ·rfl
 ·cases h
mutual
def D.beq:D→D→Bool
 |.v a,e=>match e with|.v b=>Vp a b|_=>false
 |.agg a,e=>match e with|.agg b=>D.beqs a b|_=>false
 |.list a,e=>match e with|.list b=>D.beqs a b|_=>false
 |.tup a,e=>match e with|.tup b=>D.beqs a b|_=>false
 |.map a,e=>match e with|.map b=>a.isEmpty&&b.isEmpty|_=>false
 |.ref a,e=>match e with|.ref b=>D.beq a b|_=>false
 |.clo f a,e=>match e with|.clo g b=>Nat.beq f g&&D.beqs a b|_=>false
 |.none,e=>match e with|.none=>true|_=>false
def D.beqs:List D→List D→Bool
 |[],e=>match e with|[]=>true|_=>false
 |a::aa,e=>match e with|b::bs=>D.beq a b&&D.beqs aa bs|_=>false
end
mutual
theorem D.beq_eq:∀a b:D,D.beq a b=true→a=b
 |.v a,e,h=>by cases e<;>first|(simp only[D.beq] at h;rw[avf _ _ h])|cases h
 |.agg a,e,h=>by cases e<;>first|(simp only[D.beq] at h;rw[D.beqs_eq _ _ h])|cases h
 |.list a,e,h=>by cases e<;>first|(simp only[D.beq] at h;rw[D.beqs_eq _ _ h])|cases h
 |.tup a,e,h=>by cases e<;>first|(simp only[D.beq] at h;rw[D.beqs_eq _ _ h])|cases h
 |.map a,e,h=>by
  cases e<;>first|(simp only[D.beq,ao,tX] at h;rw[h.1,h.2])|cases h
 |.ref a,e,h=>by cases e<;>first|(simp only[D.beq] at h;rw[D.beq_eq _ _ h])|cases h
 |.clo f a,e,h=>by cases e<;>first|(simp only[D.beq,ao] at h;rw[ay h.1,D.beqs_eq _ _ h.2])|cases h
 |.none,e,h=>by cases e<;>first|rfl|cases h
theorem D.beqs_eq:∀a b:List D,D.beqs a b=true→a=b
 |[],e,h=>by cases e<;>first|rfl|cases h
 |a::aa,e,h=>by
  cases e with
  |nil=>cases h
  |cons b bs=>simp only[D.beqs,ao] at h;rw[D.beq_eq _ _ h.1,D.beqs_eq _ _ h.2]
end
mutual
def PE.beq:PE→PE→Bool
 |.r a,e=>match e with|.r b=>Nat.beq a b|_=>false
 |.o a,e=>match e with|.o b=>Nat.beq a b|_=>false
 |.con a,e=>match e with|.con b=>D.beq a b|_=>false
 |.cell x i,e=>match e with|.cell y j=>PE.beq x y&&Nat.beq i j|_=>false
 |.sub x i n,e=>match e with|.sub y j m=>PE.beq x y&&(Nat.beq i j&&Nat.beq n m)|_=>false
 |.setc x i z,e=>match e with|.setc y j u=>PE.beq x y&&(Nat.beq i j&&PE.beq z u)|_=>false
 |.mk x,e=>match e with|.mk y=>PE.beqs x y|_=>false
 |.ai op k x y,e=>match e with|.ai xz k' x' y'=>op==xz&&(k==k'&&(PE.beq x x'&&PE.beq y y'))|_=>false
 |.ci op x y,e=>match e with|.ci xz x' y'=>op==xz&&(PE.beq x x'&&PE.beq y y')|_=>false
 |.cb op x y,e=>match e with|.cb xz x' y'=>op==xz&&(PE.beq x x'&&PE.beq y y')|_=>false
 |.cs op x y,e=>match e with|.cs xz x' y'=>op==xz&&(PE.beq x x'&&PE.beq y y')|_=>false
 |.sadd x y,e=>match e with|.sadd x' y'=>PE.beq x x'&&PE.beq y y'|_=>false
 |.nt x,e=>match e with|.nt y=>PE.beq x y|_=>false
 |.conv k x,e=>match e with|.conv k' y=>k==k'&&PE.beq x y|_=>false
 |.pick c x y,e=>match e with|.pick c' x' y'=>PE.beq c c'&&(PE.beq x x'&&PE.beq y y')|_=>false
 |.llen x,e=>match e with|.llen y=>PE.beq x y|_=>false
 |.bytes x,e=>match e with|.bytes y=>PE.beq x y|_=>false
 |.slen x,e=>match e with|.slen y=>PE.beq x y|_=>false
 |.mlen x,e=>match e with|.mlen y=>PE.beq x y|_=>false
 |.nth x y,e=>match e with|.nth x' y'=>PE.beq x x'&&PE.beq y y'|_=>false
 |.idx x y,e=>match e with|.idx x' y'=>PE.beq x x'&&PE.beq y y'|_=>false
 |.sidx x y,e=>match e with|.sidx x' y'=>PE.beq x x'&&PE.beq y y'|_=>false
 |.sok x y,e=>match e with|.sok x' y'=>PE.beq x x'&&PE.beq y y'|_=>false
 |.setn x i n y,e=>match e with|.setn x' i' n' y'=>PE.beq x x'&&(PE.beq i i'&&(Nat.beq n n'&&PE.beq y y'))|_=>false
 |.app x y,e=>match e with|.app x' y'=>PE.beq x x'&&PE.beq y y'|_=>false
 |.lst x,e=>match e with|.lst y=>PE.beqs x y|_=>false
 |.rep x y,e=>match e with|.rep x' y'=>PE.beq x x'&&PE.beq y y'|_=>false
 |.slc c x y,e=>match e with|.slc c' x' y'=>PE.beq c c'&&(PE.beq x x'&&PE.beq y y')|_=>false
 |.slok c x y,e=>match e with|.slok c' x' y'=>PE.beq c c'&&(PE.beq x x'&&PE.beq y y')|_=>false
 |.ref x,e=>match e with|.ref y=>PE.beq x y|_=>false
 |.deref x,e=>match e with|.deref y=>PE.beq x y|_=>false
 |.look c x y,e=>match e with|.look c' x' y'=>PE.beq c c'&&(PE.beq x x'&&PE.beq y y')|_=>false
 |.has x y,e=>match e with|.has x' y'=>PE.beq x x'&&PE.beq y y'|_=>false
 |.put c x y,e=>match e with|.put c' x' y'=>PE.beq c c'&&(PE.beq x x'&&PE.beq y y')|_=>false
 |.mn x y,e=>match e with|.mn x' y'=>PE.beq x x'&&PE.beq y y'|_=>false
 |.mx x y,e=>match e with|.mx x' y'=>PE.beq x x'&&PE.beq y y'|_=>false
 |.tup x,e=>match e with|.tup y=>PE.beqs x y|_=>false
 |.tget x i,e=>match e with|.tget y j=>PE.beq x y&&Nat.beq i j|_=>false
 |.clo f x,e=>match e with|.clo g y=>Nat.beq f g&&PE.beqs x y|_=>false
 |.an x y,e=>match e with|.an x' y'=>PE.beq x x'&&PE.beq y y'|_=>false
 |.imp c x,e=>match e with|.imp c' y=>sO c c'&&PE.beq x y|_=>false
def PE.beqs:List PE→List PE→Bool
 |[],e=>match e with|[]=>true|_=>false
 |a::aa,e=>match e with|b::bs=>PE.beq a b&&PE.beqs aa bs|_=>false
end
theorem cU {a b:Nat}(h:Nat.beq a b=true):a=b:=ay h
mutual
theorem PE.beq_eq:∀a b:PE,PE.beq a b=true→a=b
 |.r a,e,h=>by cases e<;>first|(rw[cU h])|cases h
 |.o a,e,h=>by cases e<;>first|(rw[cU h])|cases h
 |.con a,e,h=>by cases e<;>first|(rw[D.beq_eq _ _ h])|cases h
 |.cell x i,e,h=>by cases e<;>first|(simp only[PE.beq,ao] at h;rw[PE.beq_eq _ _ h.1,cU h.2])|cases h
 |.sub x i n,e,h=>by cases e<;>first|(simp only[PE.beq,ao] at h;rw[PE.beq_eq _ _ h.1,cU h.2.1,cU h.2.2])|cases h
 |.setc x i z,e,h=>by cases e<;>first|(simp only[PE.beq,ao] at h;rw[PE.beq_eq _ _ h.1,cU h.2.1,PE.beq_eq _ _ h.2.2])|cases h
 |.mk x,e,h=>by cases e<;>first|(simp only[PE.beq] at h;rw[PE.beqs_eq _ _ h])|cases h
 |.ai op k x y,e,h=>by cases e<;>first|(simp only[PE.beq,ao,beq_iff_eq] at h;rw[h.1,h.2.1,PE.beq_eq _ _ h.2.2.1,PE.beq_eq _ _ h.2.2.2])|cases h
 |.ci op x y,e,h=>by cases e<;>first|(simp only[PE.beq,ao,beq_iff_eq] at h;rw[h.1,PE.beq_eq _ _ h.2.1,PE.beq_eq _ _ h.2.2])|cases h
 |.cb op x y,e,h=>by cases e<;>first|(simp only[PE.beq,ao,beq_iff_eq] at h;rw[h.1,PE.beq_eq _ _ h.2.1,PE.beq_eq _ _ h.2.2])|cases h
 |.cs op x y,e,h=>by cases e<;>first|(simp only[PE.beq,ao,beq_iff_eq] at h;rw[h.1,PE.beq_eq _ _ h.2.1,PE.beq_eq _ _ h.2.2])|cases h
 |.sadd x y,e,h=>by cases e<;>first|(simp only[PE.beq,ao] at h;rw[PE.beq_eq _ _ h.1,PE.beq_eq _ _ h.2])|cases h
 |.nt x,e,h=>by cases e<;>first|(simp only[PE.beq] at h;rw[PE.beq_eq _ _ h])|cases h
 |.conv k x,e,h=>by cases e<;>first|(simp only[PE.beq,ao,beq_iff_eq] at h;rw[h.1,PE.beq_eq _ _ h.2])|cases h
 |.pick c x y,e,h=>by cases e<;>first|(simp only[PE.beq,ao] at h;rw[PE.beq_eq _ _ h.1,PE.beq_eq _ _ h.2.1,PE.beq_eq _ _ h.2.2])|cases h
 |.llen x,e,h=>by cases e<;>first|(simp only[PE.beq] at h;rw[PE.beq_eq _ _ h])|cases h
 |.bytes x,e,h=>by cases e<;>first|(simp only[PE.beq] at h;rw[PE.beq_eq _ _ h])|cases h
 |.slen x,e,h=>by cases e<;>first|(simp only[PE.beq] at h;rw[PE.beq_eq _ _ h])|cases h
 |.mlen x,e,h=>by cases e<;>first|(simp only[PE.beq] at h;rw[PE.beq_eq _ _ h])|cases h
 |.nth x y,e,h=>by cases e<;>first|(simp only[PE.beq,ao] at h;rw[PE.beq_eq _ _ h.1,PE.beq_eq _ _ h.2])|cases h
 |.idx x y,e,h=>by cases e<;>first|(simp only[PE.beq,ao] at h;rw[PE.beq_eq _ _ h.1,PE.beq_eq _ _ h.2])|cases h
 |.sidx x y,e,h=>by cases e<;>first|(simp only[PE.beq,ao] at h;rw[PE.beq_eq _ _ h.1,PE.beq_eq _ _ h.2])|cases h
 |.sok x y,e,h=>by cases e<;>first|(simp only[PE.beq,ao] at h;rw[PE.beq_eq _ _ h.1,PE.beq_eq _ _ h.2])|cases h
 |.setn x i n y,e,h=>by cases e<;>first|(simp only[PE.beq,ao] at h;rw[PE.beq_eq _ _ h.1,PE.beq_eq _ _ h.2.1,cU h.2.2.1,PE.beq_eq _ _ h.2.2.2])|cases h
 |.app x y,e,h=>by cases e<;>first|(simp only[PE.beq,ao] at h;rw[PE.beq_eq _ _ h.1,PE.beq_eq _ _ h.2])|cases h
 |.lst x,e,h=>by cases e<;>first|(simp only[PE.beq] at h;rw[PE.beqs_eq _ _ h])|cases h
 |.rep x y,e,h=>by cases e<;>first|(simp only[PE.beq,ao] at h;rw[PE.beq_eq _ _ h.1,PE.beq_eq _ _ h.2])|cases h
 |.slc c x y,e,h=>by cases e<;>first|(simp only[PE.beq,ao] at h;rw[PE.beq_eq _ _ h.1,PE.beq_eq _ _ h.2.1,PE.beq_eq _ _ h.2.2])|cases h
 |.slok c x y,e,h=>by cases e<;>first|(simp only[PE.beq,ao] at h;rw[PE.beq_eq _ _ h.1,PE.beq_eq _ _ h.2.1,PE.beq_eq _ _ h.2.2])|cases h
 |.ref x,e,h=>by cases e<;>first|(simp only[PE.beq] at h;rw[PE.beq_eq _ _ h])|cases h
 |.deref x,e,h=>by cases e<;>first|(simp only[PE.beq] at h;rw[PE.beq_eq _ _ h])|cases h
 |.look c x y,e,h=>by cases e<;>first|(simp only[PE.beq,ao] at h;rw[PE.beq_eq _ _ h.1,PE.beq_eq _ _ h.2.1,PE.beq_eq _ _ h.2.2])|cases h
 |.has x y,e,h=>by cases e<;>first|(simp only[PE.beq,ao] at h;rw[PE.beq_eq _ _ h.1,PE.beq_eq _ _ h.2])|cases h
 |.put c x y,e,h=>by cases e<;>first|(simp only[PE.beq,ao] at h;rw[PE.beq_eq _ _ h.1,PE.beq_eq _ _ h.2.1,PE.beq_eq _ _ h.2.2])|cases h
 |.mn x y,e,h=>by cases e<;>first|(simp only[PE.beq,ao] at h;rw[PE.beq_eq _ _ h.1,PE.beq_eq _ _ h.2])|cases h
 |.mx x y,e,h=>by cases e<;>first|(simp only[PE.beq,ao] at h;rw[PE.beq_eq _ _ h.1,PE.beq_eq _ _ h.2])|cases h
 |.tup x,e,h=>by cases e<;>first|(simp only[PE.beq] at h;rw[PE.beqs_eq _ _ h])|cases h
 |.tget x i,e,h=>by cases e<;>first|(simp only[PE.beq,ao] at h;rw[PE.beq_eq _ _ h.1,cU h.2])|cases h
 |.clo f x,e,h=>by cases e<;>first|(simp only[PE.beq,ao] at h;rw[cU h.1,PE.beqs_eq _ _ h.2])|cases h
 |.an x y,e,h=>by cases e<;>first|(simp only[PE.beq,ao] at h;rw[PE.beq_eq _ _ h.1,PE.beq_eq _ _ h.2])|cases h
 |.imp c x,e,h=>by cases e<;>first|(simp only[PE.beq,ao] at h;rw[Dv _ _ h.1,PE.beq_eq _ _ h.2])|cases h
theorem PE.beqs_eq:∀a b:List PE,PE.beqs a b=true→a=b
 |[],e,h=>by cases e<;>first|rfl|cases h
 |a::aa,e,h=>by
  cases e with
  |nil=>cases h
  |cons b bs=>simp only[PE.beqs,ao] at h;rw[PE.beq_eq _ _ h.1,PE.beqs_eq _ _ h.2]
end
def PI.beq:PI→PI→Bool
 |.setR t x,e=>match e with|.setR u y=>Nat.beq t u&&PE.beq x y|_=>false
 |.setO t x,e=>match e with|.setO u y=>Nat.beq t u&&PE.beq x y|_=>false
 |.chk x,e=>match e with|.chk y=>PE.beq x y|_=>false
 |.call gs d f aa,e=>match e with|.call bO d' f' Cc=>sO gs bO&&(Nat.beq d d'&&(Nat.beq f f'&&PE.beqs aa Cc))|_=>false
 |.callc gs d f aa,e=>match e with|.callc bO d' f' Cc=>sO gs bO&&(Nat.beq d d'&&(PE.beq f f'&&PE.beqs aa Cc))|_=>false
 |.mcall d f aa,e=>match e with|.mcall d' f' Cc=>Nat.beq d d'&&(Nat.beq f f'&&PE.beqs aa Cc)|_=>false
theorem PI.beq_eq:∀a b:PI,PI.beq a b=true→a=b:=by
 intro a b h;cases a<;>cases b<;>first
  |(cases h;done)
  |(simp only[PI.beq,ao] at h;first
       |rw[cU h.1,PE.beq_eq _ _ h.2]
       |rw[PE.beq_eq _ _ h]
       |rw[Dv _ _ h.1,cU h.2.1,cU h.2.2.1,PE.beqs_eq _ _ h.2.2.2]
       |rw[Dv _ _ h.1,cU h.2.1,PE.beq_eq _ _ h.2.2.1,PE.beqs_eq _ _ h.2.2.2]
       |rw[cU h.1,cU h.2.1,PE.beqs_eq _ _ h.2.2])
def PI.beqs:List PI→List PI→Bool
 |[],e=>match e with|[]=>true|_=>false
 |a::aa,e=>match e with|b::bs=>PI.beq a b&&PI.beqs aa bs|_=>false
theorem PI.beqs_eq:∀a b:List PI,PI.beqs a b=true→a=b
 |[],e,h=>by cases e<;>first|rfl|cases h
 |a::aa,e,h=>by
  cases e with
  |nil=>cases h
  |cons b bs=>simp only[PI.beqs,ao] at h;rw[PI.beq_eq _ _ h.1,PI.beqs_eq _ _ h.2]
end Cx
namespace Cx
open Go Go.RowKit
structure Lk where
 r:Nat
 o:List Nat
def Lk.or (a b:Lk):Lk:=⟨Nat.lor a.r b.r,a.o++b.o⟩
def Lk.none:Lk:=⟨0,[]⟩
def mh:List (Nat×Bool)→Lk
 |[]=>.none
 |g::gs=>⟨Nat.lor (dK g.1) (mh gs).r,(mh gs).o⟩
mutual
def PE.lk:PE→Lk
 |.r t=>⟨dK t,[]⟩
 |.o j=>⟨0,[j]⟩
 |.con _=>.none
 |.cell e _|.sub e _ _|.nt e|.conv _ e|.llen e|.bytes e|.slen e|.mlen e|.ref e|.deref e|.tget e _=>PE.lk e
 |.setc x _ y|.ai _ _ x y|.ci _ x y|.cb _ x y|.cs _ x y|.sadd x y|.nth x y|.idx x y|.sidx x y|.sok x y|.app x y|.rep x y|.has x y|.mn x y|.mx x y|.an x y=>(PE.lk x).or (PE.lk y)
 |.mk es|.lst es|.tup es|.clo _ es=>PE.lks es
 |.pick x y z|.slc x y z|.slok x y z|.look x y z|.put x y z|.setn x y _ z=>(PE.lk x).or ((PE.lk y).or (PE.lk z))
 |.imp c x=>(mh c).or (PE.lk x)
def PE.lks:List PE→Lk
 |[]=>.none
 |e::es=>(PE.lk e).or (PE.lks es)
end
structure Alike (k:Lk) (ρ ρ':Env):Prop where
 r:∀t,au k.r t=true→ρ'.r t=ρ.r t
 o:∀j,j∈k.o→ρ'.o j=ρ.o j
theorem Alike.left {a b:Lk}{ρ ρ':Env}(h:Alike (a.or b) ρ ρ'):Alike a ρ ρ':=
 ⟨fun t ht=>h.r t (by simp only[Lk.or,fp,ht,yo]),fun j hj=>h.o j (iu _ hj)⟩
theorem Alike.right {a b:Lk}{ρ ρ':Env}(h:Alike (a.or b) ρ ρ'):Alike b ρ ρ':=
 ⟨fun t ht=>h.r t (by simp only[Lk.or,fp,ht,nH]),fun j hj=>h.o j (iV _ hj)⟩
theorem Au {ρ ρ':Env}:∀{c:List (Nat×Bool)},Alike (mh c) ρ ρ'→holds c ρ'=holds c ρ
 |[],_=>rfl
 |g::gs,h=>by
  have ih:=Au (ρ:=ρ) (ρ':=ρ') (c:=gs) ⟨fun t ht=>h.r t (by simp only[mh,fp,ht,nH]),fun j hj=>h.o j hj⟩;have h1:=h.r g.1 (by simp only[mh,fp,qT,yo]);unfold holds at ih ⊢;simp only[qJ];rw[ih,h1]
mutual
theorem PE.ev_alike {ρ ρ':Env}:∀(e:PE),Alike e.lk ρ ρ'→e.ev ρ'=e.ev ρ
 |.r t,h=>h.r t (qT t)
 |.o j,h=>h.o j (by simp[PE.lk])
 |.con _,h=>rfl
 |.cell e _,h=>by simp only[PE.ev,PE.ev_alike e h]
 |.sub e _ _,h=>by simp only[PE.ev,PE.ev_alike e h]
 |.nt e,h=>by simp only[PE.ev,PE.ev_alike e h]
 |.conv _ e,h=>by simp only[PE.ev,PE.ev_alike e h]
 |.llen e,h=>by simp only[PE.ev,PE.ev_alike e h]
 |.bytes e,h=>by simp only[PE.ev,PE.ev_alike e h]
 |.slen e,h=>by simp only[PE.ev,PE.ev_alike e h]
 |.mlen e,h=>by simp only[PE.ev,PE.ev_alike e h]
 |.ref e,h=>by simp only[PE.ev,PE.ev_alike e h]
 |.deref e,h=>by simp only[PE.ev,PE.ev_alike e h]
 |.tget e _,h=>by simp only[PE.ev,PE.ev_alike e h]
 |.setc x _ y,h=>by simp only[PE.ev,PE.ev_alike x h.left,PE.ev_alike y h.right]
 |.ai _ _ x y,h=>by simp only[PE.ev,PE.ev_alike x h.left,PE.ev_alike y h.right]
 |.ci _ x y,h=>by simp only[PE.ev,PE.ev_alike x h.left,PE.ev_alike y h.right]
 |.cb _ x y,h=>by simp only[PE.ev,PE.ev_alike x h.left,PE.ev_alike y h.right]
 |.cs _ x y,h=>by simp only[PE.ev,PE.ev_alike x h.left,PE.ev_alike y h.right]
 |.sadd x y,h=>by simp only[PE.ev,PE.ev_alike x h.left,PE.ev_alike y h.right]
 |.nth x y,h=>by simp only[PE.ev,PE.ev_alike x h.left,PE.ev_alike y h.right]
 |.idx x y,h=>by simp only[PE.ev,PE.ev_alike x h.left,PE.ev_alike y h.right]
 |.sidx x y,h=>by simp only[PE.ev,PE.ev_alike x h.left,PE.ev_alike y h.right]
 |.sok x y,h=>by simp only[PE.ev,PE.ev_alike x h.left,PE.ev_alike y h.right]
 |.app x y,h=>by simp only[PE.ev,PE.ev_alike x h.left,PE.ev_alike y h.right]
 |.rep x y,h=>by simp only[PE.ev,PE.ev_alike x h.left,PE.ev_alike y h.right]
 |.has x y,h=>by simp only[PE.ev,PE.ev_alike x h.left,PE.ev_alike y h.right]
 |.mn x y,h=>by simp only[PE.ev,PE.ev_alike x h.left,PE.ev_alike y h.right]
 |.mx x y,h=>by simp only[PE.ev,PE.ev_alike x h.left,PE.ev_alike y h.right]
 |.an x y,h=>by simp only[PE.ev,PE.ev_alike x h.left,PE.ev_alike y h.right]
 |.mk es,h=>by simp only[PE.ev,PE.evc_alike es h]
 |.lst es,h=>by simp only[PE.ev,PE.evs_alike es h]
 |.tup es,h=>by simp only[PE.ev,PE.evs_alike es h]
 |.clo _ es,h=>by simp only[PE.ev,PE.evs_alike es h]
 |.pick x y z,h=>by simp only[PE.ev,PE.ev_alike x h.left,PE.ev_alike y h.right.left,PE.ev_alike z h.right.right]
 |.slc x y z,h=>by simp only[PE.ev,PE.ev_alike x h.left,PE.ev_alike y h.right.left,PE.ev_alike z h.right.right]
 |.slok x y z,h=>by simp only[PE.ev,PE.ev_alike x h.left,PE.ev_alike y h.right.left,PE.ev_alike z h.right.right]
 |.look x y z,h=>by simp only[PE.ev,PE.ev_alike x h.left,PE.ev_alike y h.right.left,PE.ev_alike z h.right.right]
 |.put x y z,h=>by simp only[PE.ev,PE.ev_alike x h.left,PE.ev_alike y h.right.left,PE.ev_alike z h.right.right]
 |.setn x y _ z,h=>by simp only[PE.ev,PE.ev_alike x h.left,PE.ev_alike y h.right.left,PE.ev_alike z h.right.right]
 |.imp c x,h=>by simp only[PE.ev,Au h.left,PE.ev_alike x h.right]
theorem PE.evs_alike {ρ ρ':Env}:∀(es:List PE),Alike (PE.lks es) ρ ρ'→PE.evs ρ' es=PE.evs ρ es
 |[],h=>rfl
 |e::es,h=>by simp only[PE.evs,PE.ev_alike e h.left,PE.evs_alike es h.right]
theorem PE.evc_alike {ρ ρ':Env}:∀(es:List PE),Alike (PE.lks es) ρ ρ'→PE.evc ρ' es=PE.evc ρ es
 |[],h=>rfl
 |e::es,h=>by simp only[PE.evc,PE.ev_alike e h.left,PE.evc_alike es h.right]
end
def PI.lk:PI→Lk
 |.setR _ e|.setO _ e|.chk e=>e.lk
 |.call gs _ _ aa=>(mh gs).or (PE.lks aa)
 |.callc gs _ e aa=>(mh gs).or (e.lk.or (PE.lks aa))
 |.mcall _ _ aa=>PE.lks aa
inductive Eff where
 |skip
 |r (t:Nat) (d:D)
 |o (j:Nat) (d:D)
def Eff.app (ρ:Env):Eff→Env
 |.skip=>ρ
 |.r t d=>ρ.setR t d
 |.o j d=>ρ.setO j d
def PI.eff (Φ:aL)(ρ:Env):PI→Option Eff
 |.setR t e=>some (.r t (e.ev ρ))
 |.setO j e=>some (.o j (e.ev ρ))
 |.chk e=>bif (e.ev ρ).b then some .skip else none
 |.call gs dst f args=>bif holds gs ρ then(Φ f (PE.evs ρ args)).map (.r dst) else some .skip
 |.callc gs dst e args=>bif holds gs ρ then(match e.ev ρ with|.clo f caps=>(Φ f (PE.evs ρ args++caps)).map (.r dst)|_=>none) else some .skip
 |.mcall j f args=>(Φ f (PE.evs ρ args)).map (.o j)
theorem PI.run_eff (Φ:aL)(ρ:Env)(p:PI):p.run Φ ρ=(p.eff Φ ρ).map (Eff.app ρ):=by
 cases p with
 |setR t e=>rfl
 |setO t e=>rfl
 |chk e=>simp only[PI.run,PI.eff];cases(e.ev ρ).b<;>rfl
 |call gs d f aa=>
  simp only[PI.run,PI.eff];cases holds gs ρ
  ·rfl
  ·simp only[cond_true,VZ];rfl
 |callc gs d e aa=>
  simp only[PI.run,PI.eff];cases holds gs ρ
  ·rfl
  ·simp only[cond_true];cases e.ev ρ<;>first|rfl|(simp only[VZ];rfl)
 |mcall j f aa=>simp only[PI.run,PI.eff,VZ];rfl
theorem PI.eff_alike {Φ:aL}{ρ ρ':Env}(p:PI)(h:Alike p.lk ρ ρ'):p.eff Φ ρ'=p.eff Φ ρ:=by
 cases p with
 |setR t e=>simp only[PI.eff,PE.ev_alike e h]
 |setO t e=>simp only[PI.eff,PE.ev_alike e h]
 |chk e=>simp only[PI.eff,PE.ev_alike e h]
 |call gs d f aa=>simp only[PI.eff,Au h.left,PE.evs_alike aa h.right]
 |callc gs d e aa=>simp only[PI.eff,Au h.left,PE.ev_alike e h.right.left,PE.evs_alike aa h.right.right]
 |mcall j f aa=>simp only[PI.eff,PE.evs_alike aa h]
def PI.wo:PI→List Nat
 |.setO j _|.mcall j _ _=>[j]
 |_=>[]
def Eff.within (m:Nat)(l:List Nat):Eff→Prop
 |.skip=>True
 |.r t _=>au m t=true
 |.o j _=>j∈l
theorem PI.eff_within {Φ:aL}{ρ:Env}{p:PI}{x:Eff}(h:p.eff Φ ρ=some x):x.within p.mask p.wo:=by
 cases p with
 |setR t e=>simp only[PI.eff,aS] at h;subst h;exact qT t
 |setO t e=>simp only[PI.eff,aS] at h;subst h;simp[Eff.within,PI.wo]
 |chk e=>simp only[PI.eff] at h;cases hb:(e.ev ρ).b<;>rw[hb] at h<;>cases h;trivial
 |call gs d f aa=>
  simp only[PI.eff] at h;cases hb:holds gs ρ<;>simp only[hb,cond_true,cond_false,aS,az] at h
  ·subst h;trivial
  ·obtain⟨d,_,rfl⟩:=h;exact qT _
 |callc gs d e aa=>
  simp only[PI.eff] at h;cases hb:holds gs ρ<;>simp only[hb,cond_true,cond_false,aS] at h
  ·subst h;trivial
  ·split at h
   ·simp only[az] at h;obtain⟨d,_,rfl⟩:=h;exact qT _
   ·cases h
 |mcall j f aa=>simp only[PI.eff,az] at h;obtain⟨d,_,rfl⟩:=h;simp[Eff.within,PI.wo]
def GY (a b:List Nat):Bool:=a.all fun x=> !fe b x
structure Foot where
 wr:Nat
 wo:List Nat
 k:Lk
def iy:List PI→Foot
 |[]=>⟨0,[],.none⟩
 |p::l=>⟨Nat.lor p.mask (iy l).wr,p.wo++(iy l).wo,p.lk.or (iy l).k⟩
def Foot.comm (a b:Foot):Bool:=
 Nat.beq (Nat.land a.wr b.wr) 0&&(Nat.beq (Nat.land a.wr b.k.r) 0&&(Nat.beq (Nat.land b.wr a.k.r) 0&&
    (GY a.wo b.wo&&(GY a.wo b.k.o&&GY b.wo a.k.o))))
theorem PJ {a b t:Nat}(h:Nat.beq (Nat.land a b) 0=true)(ha:au a t=true)(hb:au b t=true):False:=by
 have h1:=cU h;have h2:(a&&& b).testBit t=true:=by rw[Nat.testBit_and,←sD,←sD,ha,hb];rfl
 have h3:(a&&& b)=0:=h1;rw[h3] at h2;simp at h2
theorem Mk {a b:List Nat}(h:GY a b=true){x:Nat}(ha:x∈a)(hb:x∈b):False:=by
 have:=bF.1 h x ha;rw[(ql b x).2 hb] at this;cases this
structure Comm (p q:PI):Prop where
 ww:∀t,au p.mask t=true→au q.mask t=true→False
 wr:∀t,au p.mask t=true→au q.lk.r t=true→False
 rw:∀t,au q.mask t=true→au p.lk.r t=true→False
 oww:∀t,t∈p.wo→t∈q.wo→False
 owr:∀t,t∈p.wo→t∈q.lk.o→False
 orw:∀t,t∈q.wo→t∈p.lk.o→False
theorem Eff.alike {x:Eff}{m:Nat}{l:List Nat}{k:Lk}{ρ:Env}(h:x.within m l)(h1:∀t,au m t=true→au k.r t=true→False)(h2:∀t,t∈l→t∈k.o→False):Alike k ρ (x.app ρ):=by
 cases x with
 |skip=>exact⟨fun _ _=>rfl,fun _ _=>rfl⟩
 |r t d=>exact⟨fun u hu=>bo _ _ (fun e=>h1 t h (e▸hu)),fun _ _=>rfl⟩
 |o t d=>exact⟨fun _ _=>rfl,fun u hu=>bo _ _ (fun e=>h2 t h (e▸hu))⟩
theorem ae9 {α:Type}(f:Nat→α){i j:Nat}(x y:α)(h:i≠j):bT (bT f i x) j y=bT (bT f j y) i x:=by
 funext t;simp only[fj];by_cases h1:t=i
 ·subst h1;simp[h]
 ·simp[h1]
theorem Eff.comm {x y:Eff}{m m':Nat}{l l':List Nat}{ρ:Env}(hx:x.within m l)(hy:y.within m' l')(h1:∀t,au m t=true→au m' t=true→False)(h2:∀t,t∈l→t∈l'→False):
 y.app (x.app ρ)=x.app (y.app ρ):=by
 cases x with
 |skip=>rfl
 |r t d=>
  cases y with
  |skip=>rfl
  |r u e=>
   have aw:t≠u:=fun e=>h1 t hx (by subst e;exact hy);show Env.setR (Env.setR ρ t d) u e=Env.setR (Env.setR ρ u e) t d;simp only[Env.setR];rw[ae9 _ _ _ aw]
  |o u e=>rfl
 |o t d=>
  cases y with
  |skip=>rfl
  |r u e=>rfl
  |o u e=>
   have aw:t≠u:=fun e=>h2 t hx (by subst e;exact hy);show Env.setO (Env.setO ρ t d) u e=Env.setO (Env.setO ρ u e) t d;simp only[Env.setO];rw[ae9 _ _ _ aw]
theorem PI.comm {Φ:aL}{p q:PI}(h:Comm p q)(ρ:Env):(p.run Φ ρ).bind (q.run Φ)=(q.run Φ ρ).bind (p.run Φ):=by
 simp only[PI.run_eff];cases hp:p.eff Φ ρ with
 |none=>
  cases hq:q.eff Φ ρ with
  |none=>rfl
  |some y=>
   have:=PI.eff_alike (Φ:=Φ) p (Eff.alike (ρ:=ρ) (PI.eff_within hq) h.rw h.orw);simp[PI.run_eff,this,hp]
 |some x=>
  have hx:=PI.eff_within hp;have e1:=PI.eff_alike (Φ:=Φ) q (Eff.alike (ρ:=ρ) hx h.wr h.owr);cases hq:q.eff Φ ρ with
  |none=>simp[PI.run_eff,e1,hq]
  |some y=>
   have hy:=PI.eff_within hq;have e2:=PI.eff_alike (Φ:=Φ) p (Eff.alike (ρ:=ρ) hy h.rw h.orw);simp only[ka,j8,PI.run_eff,e1,e2,hp,hq];rw[Eff.comm hx hy h.ww h.oww]
theorem PI.comm1 {Φ:aL}{p:PI}:∀(l:List PI),(∀q,q∈l→Comm p q)→∀ρ,(p.run Φ ρ).bind (PI.runs Φ l)=(PI.runs Φ l ρ).bind (p.run Φ)
 |[],_,ρ=>by simp only[PI.runs];cases h:p.run Φ ρ<;>simp[h]
 |q::l,h,ρ=>by
  have ih:=PI.comm1 (Φ:=Φ) l fun q hq=>h q (dy _ hq);have hc:=PI.comm (Φ:=Φ) (h q (dB ..)) ρ;simp only[PI.runs];have e1:((p.run Φ ρ).bind fun ρ1=>(q.run Φ ρ1).bind (PI.runs Φ l))=((p.run Φ ρ).bind (q.run Φ)).bind (PI.runs Φ l):=by cases p.run Φ ρ<;>rfl
  show((p.run Φ ρ).bind fun ρ1=>(q.run Φ ρ1).bind (PI.runs Φ l))=_;rw[e1,hc];cases q.run Φ ρ with
  |none=>rfl
  |some ρ1=>simp only[j8];exact ih ρ1
theorem PI.comms {Φ:aL}:∀(a b:List PI),(∀p q,p∈a→q∈b→Comm p q)→∀ρ,PI.runs Φ (a++b) ρ=PI.runs Φ (b++a) ρ
 |[],b,_,ρ=>by simp
 |p::a,b,h,ρ=>by
  have ih:=PI.comms (Φ:=Φ) a b fun p q hp hq=>h p q (dy _ hp) hq;have h1:=PI.comm1 (Φ:=Φ) b (fun q hq=>h p q (dB ..) hq);simp only[GG,PI.runs,oY];have e1:((p.run Φ ρ).bind (PI.runs Φ (a++b)))=(p.run Φ ρ).bind (PI.runs Φ (b++a)):=by
   cases p.run Φ ρ with
   |none=>rfl
   |some ρ1=>exact ih ρ1
  rw[e1];have e2:PI.runs Φ (b++a)=fun ρ=>(PI.runs Φ b ρ).bind (PI.runs Φ a):=funext fun ρ=>oY;rw[e2];have e3:((p.run Φ ρ).bind fun ρ=>(PI.runs Φ b ρ).bind (PI.runs Φ a))=((p.run Φ ρ).bind (PI.runs Φ b)).bind (PI.runs Φ a):=by cases p.run Φ ρ<;>rfl
  rw[e3,h1 ρ];cases PI.runs Φ b ρ with
  |none=>rfl
  |some ρ1=>rfl
theorem XL {l:List PI}{p:PI}(h:p∈l):(∀t,au p.mask t=true→au (iy l).wr t=true)∧(∀t,t∈p.wo→t∈(iy l).wo)∧(∀t,au p.lk.r t=true→au (iy l).k.r t=true)∧∀t,t∈p.lk.o→t∈(iy l).k.o:=by
 induction l with
 |nil=>cases h
 |cons q l ih=>
  rcases cT.1 h with e|h
  ·subst e;refine⟨fun t ht=>?_,fun t ht=>iu _ ht,fun t ht=>?_,fun t ht=>iu _ ht⟩
   ·simp only[iy,fp,ht,yo]
   ·simp only[iy,Lk.or,fp,ht,yo]
  ·obtain⟨h1,h2,h3,h4⟩:=ih h;refine⟨fun t ht=>?_,fun t ht=>iV _ (h2 t ht),fun t ht=>?_,fun t ht=>iV _ (h4 t ht)⟩
   ·simp only[iy,fp,h1 t ht,nH]
   ·simp only[iy,Lk.or,fp,h3 t ht,nH]
def jo (S:St)(dst:Nat)(S':St):Prop:=∀t,t≠dst→S'.r t=S.r t
section
variable {C:Ctx} {S:St} {gs:List (Nat×Bool)} {dst:Nat} {r:St×List PI}
theorem gY {X:St}{s:Sh}(h:X.r=S.r):jo S dst (X.setR dst s):=fun t ht=>by simp only[St.setR,bo _ _ ht,h]
theorem akh (S:St)(j:Nat):(S.fz j).r=S.r:=(It S j).2
theorem ait {T:TypeId}{x:Operand}(h:Da C S dst T x=some r):jo S dst r.1:=by
 unfold Da at h;split at h
 ·simp only[az] at h;obtain⟨e,_,rfl⟩:=h;exact gY rfl
 ·cases h
theorem aiz {T:TypeId}{x:Operand}(h:uo C S dst T x=some r):jo S dst r.1:=by
 unfold uo at h;split at h
 ·rename_i v;simp only[aq] at h;obtain⟨e,_,z,_,h⟩:=h;cases hc:jL e v<;>simp only[hc,cond_true,cond_false] at h<;>cases h;exact gY rfl
 ·cases h
theorem ahY {T:TypeId}(h:C0 C S dst T=some r):jo S dst r.1:=by
 unfold C0 at h;split at h
 ·rename_i t inf ag _ _ _;cases hc:(tR inf t&&(t.rowT||t.one))<;>simp only[hc,cond_true,cond_false] at h
  ·cases h
  ·simp only[az] at h;obtain⟨e,_,rfl⟩:=h;exact gY rfl
 ·cases h
theorem ah2 {T:TypeId}{x:Operand}(h:C2 C S dst T x=some r):jo S dst r.1:=by
 unfold C2 at h;split at h
 ·rename_i t e ag _ _;cases hc:(t.rowT||t.one)<;>simp only[hc,cond_true,cond_false] at h<;>cases h;exact gY rfl
 ·split at h
  ·cases h;exact gY rfl
  ·cases h
 ·cases h
theorem ain {T:TypeId}{x:Option Operand}(h:C7 C S dst T x=some r):jo S dst r.1:=by
 unfold C7 at h;split at h
 ·simp only[aq,az] at h;obtain⟨e,_,z,_,rfl⟩:=h;exact gY rfl
 ·cases h
theorem aiv {T:TypeId}{x:Operand}(h:Db C S dst T x=some r):jo S dst r.1:=by
 unfold Db at h;split at h
 case h_2=>cases h
 rename_i K E j ver hT es;cases hb:(Nat.beq ver (S.ver j)&& !Nat.beq j dst)<;>simp only[hb,cond_true,cond_false] at h
 ·cases h
 split at h
 ·cases h;exact gY rfl
 ·cases h
theorem ah6 {T U:TypeId}{x:Operand}(h:C3 C S dst T U x=some r):jo S dst r.1:=by
 unfold C3 at h;split at h
 ·split at h
  ·cases h;exact gY rfl
  ·cases h
 ·cases h
theorem aip {T:TypeId}{x y:Operand}(h:C8 C S dst T x y=some r):jo S dst r.1:=by
 unfold C8 at h;split at h
 ·rename_i E _ n _ m _ _ _;simp only[aq] at h;obtain⟨e,_,h⟩:=h;cases hc:qY C.P E e<;>simp only[hc,cond_true,cond_false] at h
  ·cases h
  ·simp only[aq] at h;obtain⟨z,_,h⟩:=h;cases hc2:Ty.sub z.1 e<;>simp only[hc2,cond_true,cond_false] at h<;>cases h;exact gY rfl
 ·cases h
theorem ah4 {T:TypeId}{n:Nat}{ps:List (Nat×Operand)}(h:wh C S gs dst T n ps=some r):jo S dst r.1:=by
 unfold wh at h;split at h
 ·simp only[aq] at h;obtain⟨e,_,z,_,h⟩:=h
  revert h
  generalize (_&&_:Bool)=b;intro h;cases b<;>simp only[cond_true,cond_false] at h
  ·cases h
  ·simp only[az] at h;obtain⟨es,_,rfl⟩:=h;exact gY rfl
 ·cases h
theorem ail {T:TypeId}{n:Nat}{ps:List (Nat×Operand)}(h:zM C S gs dst T n ps=some r):jo S dst r.1:=by
 unfold zM at h;split at h
 ·simp only[aq] at h;obtain⟨e,_,h⟩:=h;split at h
  ·cases h;exact gY rfl
  ·cases h
 ·cases h
theorem ah0 {T:TypeId}{x y:Operand}(h:C1 C S dst T x y=some r):jo S dst r.1:=by
 unfold C1 at h;split at h
 ·rename_i E _;simp only[aq] at h;obtain⟨e,_,h⟩:=h;split at h
  ·rename_i tx ex _;cases hc:(qY C.P E e&&Ln tx e)<;>simp only[hc,cond_true,cond_false] at h
   ·cases h
   ·split at h
    ·cases h;exact gY rfl
    ·cases h
    ·split at h
     ·rename_i j ver _;cases hc:Nat.beq ver (S.ver j)<;>simp only[hc,cond_true,cond_false] at h
      ·cases h
      ·split at h
       ·rename_i E' e' _;cases hc:(Nat.beq E' E&&Ty.beq e' e)<;>simp only[hc,cond_true,cond_false] at h<;>cases h;exact gY rfl
       ·cases h
     ·cases h
  ·cases h
 ·cases h
theorem aid {f:Nat}{xs:List Operand}(h:C5 C S dst f xs=some r):jo S dst r.1:=by
 simp only[C5,aq] at h;obtain⟨s,_,h⟩:=h;split at h
 ·rename_i T e _;simp only[aq] at h;obtain⟨u,_,h⟩:=h;cases hc:Ty.subs u.1 s.args<;>simp only[hc,cond_true,cond_false] at h<;>cases h;refine gY (X:=(bif e.pure then S else S.fzs (bP S [] xs)).newO dst (.row T e)) ?_;cases e.pure
  ·exact(oc _ S).2
  ·rfl
 ·cases h
theorem aij {f:Nat}{xs:List Operand}{q:St×Sh×List PI}(h:pO C S gs dst f xs=some q):q.1.r=S.r:=by
 simp only[pO,aq] at h;obtain⟨s,_,h⟩:=h;split at h
 ·simp only[aq] at h;obtain⟨u,_,h⟩:=h;cases hc:Ty.subs u.1 s.args<;>simp only[hc,cond_true,cond_false] at h<;>cases h;cases s.res.pure
  ·exact(oc _ S).2
  ·rfl
 ·cases h
theorem ah9 {x:Operand}{xs:List Operand}{q:St×Sh×List PI}(h:nZ C S gs dst x xs=some q):q.1.r=S.r:=by
 unfold nZ at h;split at h
 ·rename_i aa r0 _ _;split at h
  case h_1=>cases h
  simp only[aq] at h;obtain⟨u,_,h⟩:=h;cases hc:Ty.subs u.1 aa<;>simp only[hc,cond_true,cond_false] at h<;>cases h;cases r0.pure
  ·exact(oc _ S).2
  ·rfl
 ·cases h
theorem aix {T:TypeId}{x v:Operand}(h:um C S T x v=some r):r.1.r=S.r:=by
 unfold um at h;split at h
 case h_2=>cases h
 rename_i inf _;split at h
 ·rename_i j ver off _;cases hc:Nat.beq ver (S.ver j)<;>simp only[hc,cond_true,cond_false] at h
  ·cases h
  split at h
  case h_2=>cases h
  rename_i ag shs _;split at h
  ·revert h
   generalize (_&&_:Bool)=b;intro h;cases b<;>simp only[cond_true,cond_false] at h<;>cases h;rfl
  ·split at h
   ·revert h
    generalize (_&&_:Bool)=b;intro h;cases b<;>simp only[cond_true,cond_false] at h<;>cases h;rfl
   ·revert h
    generalize (_&&_:Bool)=b;intro h;cases b<;>simp only[cond_true,cond_false] at h<;>cases h;rfl
   ·cases h
 ·rename_i j ver size off _;cases hc:Nat.beq ver (S.ver j)<;>simp only[hc,cond_true,cond_false] at h
  ·cases h
  split at h
  ·revert h
   generalize (_&&_:Bool)=b;intro h;cases b<;>simp only[cond_true,cond_false] at h<;>cases h;rfl
  ·revert h
   generalize (_&&_:Bool)=b;intro h;cases b<;>simp only[cond_true,cond_false] at h<;>cases h;rfl
  ·cases h
 ·cases h
theorem Xe {T:TypeId}{m k v:Operand}(h:sG C S T m k v=some r):r.1.r=S.r:=by
 unfold sG at h;split at h
 ·rename_i K _ j ver _ _;cases hc:Nat.beq ver (S.ver j)<;>simp only[hc,cond_true,cond_false] at h
  ·cases h
  split at h
  ·revert h
   generalize (_&&_:Bool)=b;intro h;cases b<;>simp only[cond_true,cond_false] at h<;>cases h;rfl
  ·cases h
 ·cases h
theorem aif {f:Nat}{xs:List Operand}(h:C6 C S dst f xs=some r):jo S dst r.1:=by
 simp only[C6,aq] at h;obtain⟨s,_,h⟩:=h;split at h
 case h_2=>cases h
 simp only[aq] at h;obtain⟨u,_,h⟩:=h
 revert h
 generalize (_&&_:Bool)=b;intro h;cases b<;>simp only[cond_true,cond_false] at h
 ·cases h
 cases h;refine gY (X:=St.newRows _ _ _) ?_;exact(oc _ S).2
theorem aib {f:Nat}{xs:List Operand}(h:C4 C S dst f xs=some r):jo S dst r.1:=by
 simp only[C4,aq] at h;obtain⟨s,_,h⟩:=h;split at h
 case h_2=>cases h
 split at h
 case h_2=>cases h
 split at h
 case h_2=>cases h
 revert h
 generalize (_&&_:Bool)=b;intro h;cases b<;>simp only[cond_true,cond_false] at h
 ·cases h
 simp only[aq] at h;obtain⟨u,_,h⟩:=h
 revert h
 generalize Ty.subs _ _=b;intro h;cases b<;>simp only[cond_true,cond_false] at h
 ·cases h
 cases h;exact gY rfl
theorem Nl {f:Nat}{xs:List Operand}{cs:List (Nat×Nat)}{q:St×Ty×List PI}(h:qX C S f xs cs=some q):q.1.r=S.r:=by
 simp only[qX,aq] at h;obtain⟨s,_,h⟩:=h;split at h
 ·rename_i shs obs _;unfold Nk Nj at h;simp only[aq] at h;obtain⟨u,_,h⟩:=h
  revert h
  generalize (_&&_:Bool)=b;intro h;cases b<;>simp only[cond_true,cond_false] at h<;>cases h;exact(oc _ S).2
 ·cases h
theorem Xa {t:Nat}{xs:List Operand}{q:St×Ty×List PI}(h:zL C S t xs=some q):q.1.r=S.r:=by
 unfold zL at h;split at h
 ·rename_i f caps _;cases hc:yI S caps<;>simp only[hc,cond_true,cond_false] at h
  ·cases h
  ·exact Nl h
 ·cases h
theorem aaM {dst:Nat}{q:St×Ty×List PI}(h:q.1.r=S.r):jo S dst (qo S (some dst) q).1:=gY h
theorem air {fn:Fn}{a b:Array Operand}(h:C9 C S dst fn a b=some r):jo S dst r.1:=by
 unfold C9 at h;split at h
 case h_2=>cases h
 split at h
 case h_2=>cases h
 rename_i s _;cases hb:oG s.mode<;>simp only[hb,cond_true,cond_false] at h
 ·cases h
 simp only[az] at h;obtain⟨c,_,rfl⟩:=h;exact gY rfl
theorem ahI {o:Oper}(hr:core C S gs o=some r):∀t,o.dst≠some t→r.1.r t=S.r t:=by
 unfold core at hr;split at hr
 ·rename_i dst hd
  suffices h:jo S dst r.1 by
   intro t ht;exact h t (fun e=>ht (by rw[hd,e]))
  split at hr
  ·rename_i q hq;cases eI:rB q.1<;>simp only[eI,cond_true,cond_false] at hr<;>cases hr;exact gY rfl
  ·split at hr
   ·rename_i x e _
    have mv:∀r,(match qp C S [] dst x with|some r=>some (S.setR dst r.1,r.2)|none=>uo C S dst o.type x)=some r→jo S dst r.1:=by
     intro r hr;split at hr
     ·cases hr;exact gY rfl
     ·exact aiz hr
    cases db:C.fr.any (Nat.beq dst)<;>simp only[db,cond_true,cond_false] at hr
    ·split at hr
     ·rename_i q hq;cases hr;exact ait hq
     ·exact mv r hr
    ·exact mv r hr
   ·exact ahY hr
   ·exact ah2 hr
   ·split at hr
    ·exact ah4 hr
    ·exact ail hr
   ·exact aip hr
   ·exact ain hr
   ·exact aiv hr
   ·exact ah6 hr
   ·rename_i c e;split at hr
    ·split at hr
     ·rename_i s x T T' _ _;cases hT:Nat.beq T T'<;>simp only[hT,cond_true,cond_false] at hr
      ·cases hr
      ·exact ah0 hr
     ·cases hr
    ·split at hr
     ·rename_i q hq;cases hr;exact gY (aij hq)
     ·split at hr
      ·split at hr
       ·rename_i q hq;cases hr;exact aid hq
       ·split at hr
        ·rename_i q hq;cases hr;exact aif hq
        split at hr
        ·rename_i q hq;cases hr;exact aib hq
        ·simp only[az] at hr;obtain⟨q,hq,rfl⟩:=hr;exact aaM (Nl hq)
      ·cases hr
    ·split at hr
     ·rename_i q hq;cases hr;exact gY (ah9 hq)
     ·split at hr
      ·simp only[az] at hr;obtain⟨q,hq,rfl⟩:=hr;exact aaM (Xa hq)
      ·cases hr
    ·cases hr
   ·exact air hr
   ·cases hr
 ·split at hr
  ·intro t _;rw[aix hr]
  ·intro t _;rw[Xe hr]
  ·intro t _;rw[Xe hr]
  ·cases hr;intro t _;rfl
  ·intro t _;split at hr
   ·simp only[az] at hr;obtain⟨q,hq,rfl⟩:=hr;simp only[qo,Nl hq]
   ·simp only[az] at hr;obtain⟨q,hq,rfl⟩:=hr;simp only[qo,Xa hq]
   ·cases hr
  ·cases hr
theorem akk {g:Gh}(hr:g.run C S=some r):∀t,(∀u j,g=.rereg u j→t≠u)→r.1.r t=S.r t:=by
 intro t ht;cases g with
 |fz j=>simp only[Gh.run,aS] at hr;subst hr;rw[akh]
 |fbox b=>
  simp only[Gh.run,Dt] at hr;split at hr
  case h_2=>cases hr
  rename_i ag shs _;simp only[aq] at hr;obtain⟨x,_,hr⟩:=hr;cases ag<;>simp only[cond_true,cond_false] at hr
  ·split at hr
   ·cases hr;rfl
   ·cases hr
  ·cases hr;rfl
 |rereg u j=>
  simp only[Gh.run,xX] at hr;split at hr
  ·revert hr
   generalize (_&&_:Bool)=b;intro hr;cases b<;>simp only[cond_true,cond_false] at hr<;>cases hr
   ·rfl
   ·simp only[St.setR,bo _ _ (ht u j rfl)];rfl
  ·cases hr;rfl
 |recell b i j=>
  simp only[Gh.run,Gb] at hr;split at hr
  ·split at hr
   ·revert hr
    generalize (_&&_:Bool)=b;intro hr;cases b<;>simp only[cond_true,cond_false] at hr<;>cases hr<;>rfl
   ·cases hr;rfl
  ·cases hr;rfl
 |home b i j T=>
  simp only[Gh.run,Ec] at hr;split at hr
  ·split at hr
   ·revert hr
    generalize (!_:Bool)=b;intro hr;cases b<;>simp only[cond_true,cond_false] at hr<;>cases hr<;>rfl
   ·cases hr;rfl
  ·cases hr;rfl
theorem NJ:∀(l:List Gh) {S:St} {r:St×List PI},jQ C l S=some r→∀t,(∀g u j,g∈l→g=.rereg u j→t≠u)→r.1.r t=S.r t
 |[],S,r,hr,t,_=>by simp only[jQ,aS] at hr;subst hr;rfl
 |g::l,S,r,hr,t,ht=>by
  simp only[jQ,aq,az] at hr;obtain⟨q,hq,q2,jB,rfl⟩:=hr;have h1:=NJ l jB t (fun g u j hg=>ht g u j (dy _ hg));have h2:=akk hq t (fun u j e=>ht g u j (dB ..) e);exact h1.trans h2
theorem aqL (S:St)(gs:List (Nat×Bool))(o:Oper):∀g u j,g∈pre C S gs o.op++qt C S gs o→g≠.rereg u j:=by
 intro g u j hg e;subst e;rw[dJ] at hg;rcases hg with hg|hg
 ·unfold pre at hg;split at hg
  ·rename_i fn _ _ _;cases ho:aaL C fn<;>simp only[ho,cond_true,cond_false] at hg
   case true=>cases hg
   obtain⟨b,_,hb⟩:=j7.1 hg;rw[dJ] at hb;rcases hb with hb|hb
   ·split at hb
    ·obtain⟨_,_,h⟩:=ei.1 hb;cases h
    ·cases hb
   ·simp at hb
  ·split at hg
   ·replace hg:=apj hg
    split at hg
    ·obtain⟨_,_,h⟩:=ei.1 hg;cases h
    ·cases hg
   ·cases hg
  ·obtain⟨_,_,h⟩:=ei.1 hg;cases h
  ·obtain⟨_,_,h⟩:=ei.1 hg;cases h
 ·unfold qt at hg;split at hg
  ·rename_i x t _ _;cases hc:C.fr.any (Nat.beq t)<;>simp only[hc,cond_true,cond_false] at hg
   ·cases hg
   ·obtain⟨_,_,h⟩:=ei.1 hg;cases h
  ·cases hg
theorem aqI (S:St)(o:Oper):∀g u j,g∈post C S o→g=.rereg u j→o.dst=some u:=by
 intro g u j hg e;subst e;unfold post at hg;split at hg
 ·rename_i t _ hd;simp at hg;rw[hd,hg.1]
 ·unfold Jx homes at hg;have:=(dX.1 hg).1;obtain⟨x,_,hx⟩:=tY.1 this;cases oD:x.1<;>rw[oD] at hx<;>simp at hx
 ·split at hg
  ·rw[dJ] at hg;rcases hg with hg|hg
   ·unfold Jx homes at hg;have:=(dX.1 hg).1;obtain⟨x,_,hx⟩:=tY.1 this;cases oD:x.1<;>rw[oD] at hx<;>simp at hx
   ·unfold adJ at hg;obtain⟨_,_,h⟩:=ei.1 hg;cases h
  ·cases hg
 ·cases hg
theorem ahz {ops:Array Oper}{o:Oper}(hr:zH C S ops o=some r):∀t,o.dst≠some t→r.1.r t=S.r t:=by
 intro t ht;unfold zH at hr;split at hr
 ·rename_i q hq;cases hr;simp only[CV,aq] at hq;obtain⟨gs,_,r1,h1,r2,h2,r3,h3,hq⟩:=hq
  revert hq
  generalize jv gs o.dst r2.2=b;intro hq;cases b<;>simp only[cond_true,cond_false] at hq<;>cases hq;have e1:=NJ _ h1 t (fun g u j hg e=>absurd e (aqL S gs o g u j hg));have e2:=ahI h2 t ht
  have e3:=NJ _ h3 t (fun g u j hg e=>by
   have:=aqI r2.1 o g u j hg e;intro e';subst e';exact ht this)
  exact e3.trans (e2.trans e1)
 ·cases hr;split
  ·rename_i d hd;simp only[St.setR];rw[bo];intro e;subst e;exact ht hd
  ·rfl
theorem WV {ops:Array Oper}{o:Oper}(hr:pK C S ops o=some r):∀t,o.dst≠some t→r.1.r t=S.r t:=by
 intro t ht;unfold pK at hr;split at hr
 ·rename_i q hq;cases hr;unfold zI at hq;split at hq
  case h_2=>cases hq
  rename_i dst _ args _ _ _ hd _ _;simp only[aq] at hq;obtain⟨gs,_,hq⟩:=hq;split at hq
  case h_2=>cases hq
  split at hq
  case h_2=>cases hq
  simp only[aq] at hq;obtain⟨u,_,hq⟩:=hq;rw[pq] at hq;split at hq<;>cases hq;simp only[St.setR];rw[bo,(oc _ S).2];intro e;subst e;exact ht hd
 ·exact ahz hr t ht
theorem Nd {ops:Array Oper}:∀{l:List Nat} {S:St} {r:St×List PI},nX C ops l S=some r→∀t,(∀i o,i∈l→ops[i]?=some o→o.dst≠some t)→r.1.r t=S.r t
 |[],S,r,h,t,_=>by simp only[nX,aS] at h;subst h;rfl
 |i::l,S,r,h,t,ht=>by
  simp only[nX] at h;split at h
  ·rename_i o ho;simp only[aq,az] at h;obtain⟨q,hq,q2,jB,rfl⟩:=h;exact(Nd jB t fun j o hj=>ht j o (dy _ hj)).trans (WV hq t (ht i o (dB ..) ho))
  ·cases h
end
end Cx
