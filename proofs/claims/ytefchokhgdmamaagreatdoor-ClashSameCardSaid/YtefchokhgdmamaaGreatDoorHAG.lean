/-
  Shared texts of this claim.
-/
import Derived.Test.YtefchokhgdmamaaGreatDoorHAF
set_option linter.unusedSimpArgs false
set_option linter.unusedVariables false
namespace Cx
open Go Go.RowKit
def RJ:Value→Value→Bool
 |.int k n,.int k' m=>k==k'&&n==m
 |.bool a,.bool b=>a==b
 |.string a,.string b=>decide (a=b)
 |.nilFunc,.nilFunc=>true
 |_,_=>false
theorem aoe:∀a b,RJ a b=true→a=b:=by
 intro a b h;unfold RJ at h;split at h
 ·simp only[aj,beq_iff_eq] at h;rw[h.1,h.2]
 ·simp only[beq_iff_eq] at h;rw[h]
 ·simp only[decide_eq_true_eq] at h;rw[h]
 ·rfl
 ·cases h
mutual
def D.beq:D→D→Bool
 |.v a,e=>match e with|.v b=>RJ a b|_=>false
 |.agg a,e=>match e with|.agg b=>D.beqs a b|_=>false
 |.list a,e=>match e with|.list b=>D.beqs a b|_=>false
 |.tup a,e=>match e with|.tup b=>D.beqs a b|_=>false
 |.map a,e=>match e with|.map b=>a.isEmpty&&b.isEmpty|_=>false
 |.ref a,e=>match e with|.ref b=>D.beq a b|_=>false
 |.clo f a,e=>match e with|.clo g b=>Nat.beq f g&&D.beqs a b|_=>false
 |.none,e=>match e with|.none=>true|_=>false
def D.beqs:List D→List D→Bool
 |[],e=>match e with|[]=>true|_=>false
 |a::aa,e=>match e with|b::bs=>D.beq a b&&D.beqs aa bs|_=>false
end
mutual
theorem D.beq_eq:∀a b:D,D.beq a b=true→a=b
 |.v a,e,h=>by cases e<;>first|(simp only[D.beq] at h;rw[aoe _ _ h])|cases h
 |.agg a,e,h=>by cases e<;>first|(simp only[D.beq] at h;rw[D.beqs_eq _ _ h])|cases h
 |.list a,e,h=>by cases e<;>first|(simp only[D.beq] at h;rw[D.beqs_eq _ _ h])|cases h
 |.tup a,e,h=>by cases e<;>first|(simp only[D.beq] at h;rw[D.beqs_eq _ _ h])|cases h
 |.map a,e,h=>by
  cases e<;>first|(simp only[D.beq,aj,sD] at h;rw[h.1,h.2])|cases h
 |.ref a,e,h=>by cases e<;>first|(simp only[D.beq] at h;rw[D.beq_eq _ _ h])|cases h
 |.clo f a,e,h=>by cases e<;>first|(simp only[D.beq,aj] at h;rw[au h.1,D.beqs_eq _ _ h.2])|cases h
 |.none,e,h=>by cases e<;>first|rfl|cases h
theorem D.beqs_eq:∀a b:List D,D.beqs a b=true→a=b
 |[],e,h=>by cases e<;>first|rfl|cases h
 |a::aa,e,h=>by
  cases e with
  |nil=>cases h
  |cons b bs=>simp only[D.beqs,aj] at h;rw[D.beq_eq _ _ h.1,D.beqs_eq _ _ h.2]
end
mutual
def PE.beq:PE→PE→Bool
 |.r a,e=>match e with|.r b=>Nat.beq a b|_=>false
 |.o a,e=>match e with|.o b=>Nat.beq a b|_=>false
 |.con a,e=>match e with|.con b=>D.beq a b|_=>false
 |.cell x i,e=>match e with|.cell y j=>PE.beq x y&&Nat.beq i j|_=>false
 |.sub x i n,e=>match e with|.sub y j m=>PE.beq x y&&(Nat.beq i j&&Nat.beq n m)|_=>false
 |.setc x i z,e=>match e with|.setc y j u=>PE.beq x y&&(Nat.beq i j&&PE.beq z u)|_=>false
 |.mk x,e=>match e with|.mk y=>PE.beqs x y|_=>false
 |.ai op k x y,e=>match e with|.ai wy k' x' y'=>op==wy&&(k==k'&&(PE.beq x x'&&PE.beq y y'))|_=>false
 |.ci op x y,e=>match e with|.ci wy x' y'=>op==wy&&(PE.beq x x'&&PE.beq y y')|_=>false
 |.cb op x y,e=>match e with|.cb wy x' y'=>op==wy&&(PE.beq x x'&&PE.beq y y')|_=>false
 |.cs op x y,e=>match e with|.cs wy x' y'=>op==wy&&(PE.beq x x'&&PE.beq y y')|_=>false
 |.sadd x y,e=>match e with|.sadd x' y'=>PE.beq x x'&&PE.beq y y'|_=>false
 |.nt x,e=>match e with|.nt y=>PE.beq x y|_=>false
 |.conv k x,e=>match e with|.conv k' y=>k==k'&&PE.beq x y|_=>false
 |.pick c x y,e=>match e with|.pick c' x' y'=>PE.beq c c'&&(PE.beq x x'&&PE.beq y y')|_=>false
 |.llen x,e=>match e with|.llen y=>PE.beq x y|_=>false
 |.bytes x,e=>match e with|.bytes y=>PE.beq x y|_=>false
 |.slen x,e=>match e with|.slen y=>PE.beq x y|_=>false
 |.mlen x,e=>match e with|.mlen y=>PE.beq x y|_=>false
 |.nth x y,e=>match e with|.nth x' y'=>PE.beq x x'&&PE.beq y y'|_=>false
 |.idx x y,e=>match e with|.idx x' y'=>PE.beq x x'&&PE.beq y y'|_=>false
 |.sidx x y,e=>match e with|.sidx x' y'=>PE.beq x x'&&PE.beq y y'|_=>false
 |.sok x y,e=>match e with|.sok x' y'=>PE.beq x x'&&PE.beq y y'|_=>false
 |.setn x i n y,e=>match e with|.setn x' i' n' y'=>PE.beq x x'&&(PE.beq i i'&&(Nat.beq n n'&&PE.beq y y'))|_=>false
 |.app x y,e=>match e with|.app x' y'=>PE.beq x x'&&PE.beq y y'|_=>false
 |.lst x,e=>match e with|.lst y=>PE.beqs x y|_=>false
 |.rep x y,e=>match e with|.rep x' y'=>PE.beq x x'&&PE.beq y y'|_=>false
 |.slc c x y,e=>match e with|.slc c' x' y'=>PE.beq c c'&&(PE.beq x x'&&PE.beq y y')|_=>false
 |.slok c x y,e=>match e with|.slok c' x' y'=>PE.beq c c'&&(PE.beq x x'&&PE.beq y y')|_=>false
 |.ref x,e=>match e with|.ref y=>PE.beq x y|_=>false
 |.deref x,e=>match e with|.deref y=>PE.beq x y|_=>false
 |.look c x y,e=>match e with|.look c' x' y'=>PE.beq c c'&&(PE.beq x x'&&PE.beq y y')|_=>false
 |.has x y,e=>match e with|.has x' y'=>PE.beq x x'&&PE.beq y y'|_=>false
 |.put c x y,e=>match e with|.put c' x' y'=>PE.beq c c'&&(PE.beq x x'&&PE.beq y y')|_=>false
 |.mn x y,e=>match e with|.mn x' y'=>PE.beq x x'&&PE.beq y y'|_=>false
 |.mx x y,e=>match e with|.mx x' y'=>PE.beq x x'&&PE.beq y y'|_=>false
 |.tup x,e=>match e with|.tup y=>PE.beqs x y|_=>false
 |.tget x i,e=>match e with|.tget y j=>PE.beq x y&&Nat.beq i j|_=>false
 |.clo f x,e=>match e with|.clo g y=>Nat.beq f g&&PE.beqs x y|_=>false
 |.an x y,e=>match e with|.an x' y'=>PE.beq x x'&&PE.beq y y'|_=>false
 |.imp c x,e=>match e with|.imp c' y=>rk c c'&&PE.beq x y|_=>false
def PE.beqs:List PE→List PE→Bool
 |[],e=>match e with|[]=>true|_=>false
 |a::aa,e=>match e with|b::bs=>PE.beq a b&&PE.beqs aa bs|_=>false
end
theorem cM {a b:Nat}(h:Nat.beq a b=true):a=b:=au h
mutual
theorem PE.beq_eq:∀a b:PE,PE.beq a b=true→a=b
 |.r a,e,h=>by cases e<;>first|(rw[cM h])|cases h
 |.o a,e,h=>by cases e<;>first|(rw[cM h])|cases h
 |.con a,e,h=>by cases e<;>first|(rw[D.beq_eq _ _ h])|cases h
 |.cell x i,e,h=>by cases e<;>first|(simp only[PE.beq,aj] at h;rw[PE.beq_eq _ _ h.1,cM h.2])|cases h
 |.sub x i n,e,h=>by cases e<;>first|(simp only[PE.beq,aj] at h;rw[PE.beq_eq _ _ h.1,cM h.2.1,cM h.2.2])|cases h
 |.setc x i z,e,h=>by cases e<;>first|(simp only[PE.beq,aj] at h;rw[PE.beq_eq _ _ h.1,cM h.2.1,PE.beq_eq _ _ h.2.2])|cases h
 |.mk x,e,h=>by cases e<;>first|(simp only[PE.beq] at h;rw[PE.beqs_eq _ _ h])|cases h
 |.ai op k x y,e,h=>by cases e<;>first|(simp only[PE.beq,aj,beq_iff_eq] at h;rw[h.1,h.2.1,PE.beq_eq _ _ h.2.2.1,PE.beq_eq _ _ h.2.2.2])|cases h
 |.ci op x y,e,h=>by cases e<;>first|(simp only[PE.beq,aj,beq_iff_eq] at h;rw[h.1,PE.beq_eq _ _ h.2.1,PE.beq_eq _ _ h.2.2])|cases h
 |.cb op x y,e,h=>by cases e<;>first|(simp only[PE.beq,aj,beq_iff_eq] at h;rw[h.1,PE.beq_eq _ _ h.2.1,PE.beq_eq _ _ h.2.2])|cases h
 |.cs op x y,e,h=>by cases e<;>first|(simp only[PE.beq,aj,beq_iff_eq] at h;rw[h.1,PE.beq_eq _ _ h.2.1,PE.beq_eq _ _ h.2.2])|cases h
 |.sadd x y,e,h=>by cases e<;>first|(simp only[PE.beq,aj] at h;rw[PE.beq_eq _ _ h.1,PE.beq_eq _ _ h.2])|cases h
 |.nt x,e,h=>by cases e<;>first|(simp only[PE.beq] at h;rw[PE.beq_eq _ _ h])|cases h
 |.conv k x,e,h=>by cases e<;>first|(simp only[PE.beq,aj,beq_iff_eq] at h;rw[h.1,PE.beq_eq _ _ h.2])|cases h
 |.pick c x y,e,h=>by cases e<;>first|(simp only[PE.beq,aj] at h;rw[PE.beq_eq _ _ h.1,PE.beq_eq _ _ h.2.1,PE.beq_eq _ _ h.2.2])|cases h
 |.llen x,e,h=>by cases e<;>first|(simp only[PE.beq] at h;rw[PE.beq_eq _ _ h])|cases h
 |.bytes x,e,h=>by cases e<;>first|(simp only[PE.beq] at h;rw[PE.beq_eq _ _ h])|cases h
 |.slen x,e,h=>by cases e<;>first|(simp only[PE.beq] at h;rw[PE.beq_eq _ _ h])|cases h
 |.mlen x,e,h=>by cases e<;>first|(simp only[PE.beq] at h;rw[PE.beq_eq _ _ h])|cases h
 |.nth x y,e,h=>by cases e<;>first|(simp only[PE.beq,aj] at h;rw[PE.beq_eq _ _ h.1,PE.beq_eq _ _ h.2])|cases h
 |.idx x y,e,h=>by cases e<;>first|(simp only[PE.beq,aj] at h;rw[PE.beq_eq _ _ h.1,PE.beq_eq _ _ h.2])|cases h
 |.sidx x y,e,h=>by cases e<;>first|(simp only[PE.beq,aj] at h;rw[PE.beq_eq _ _ h.1,PE.beq_eq _ _ h.2])|cases h
 |.sok x y,e,h=>by cases e<;>first|(simp only[PE.beq,aj] at h;rw[PE.beq_eq _ _ h.1,PE.beq_eq _ _ h.2])|cases h
 |.setn x i n y,e,h=>by cases e<;>first|(simp only[PE.beq,aj] at h;rw[PE.beq_eq _ _ h.1,PE.beq_eq _ _ h.2.1,cM h.2.2.1,PE.beq_eq _ _ h.2.2.2])|cases h
 |.app x y,e,h=>by cases e<;>first|(simp only[PE.beq,aj] at h;rw[PE.beq_eq _ _ h.1,PE.beq_eq _ _ h.2])|cases h
 |.lst x,e,h=>by cases e<;>first|(simp only[PE.beq] at h;rw[PE.beqs_eq _ _ h])|cases h
 |.rep x y,e,h=>by cases e<;>first|(simp only[PE.beq,aj] at h;rw[PE.beq_eq _ _ h.1,PE.beq_eq _ _ h.2])|cases h
 |.slc c x y,e,h=>by cases e<;>first|(simp only[PE.beq,aj] at h;rw[PE.beq_eq _ _ h.1,PE.beq_eq _ _ h.2.1,PE.beq_eq _ _ h.2.2])|cases h
 |.slok c x y,e,h=>by cases e<;>first|(simp only[PE.beq,aj] at h;rw[PE.beq_eq _ _ h.1,PE.beq_eq _ _ h.2.1,PE.beq_eq _ _ h.2.2])|cases h
 |.ref x,e,h=>by cases e<;>first|(simp only[PE.beq] at h;rw[PE.beq_eq _ _ h])|cases h
 |.deref x,e,h=>by cases e<;>first|(simp only[PE.beq] at h;rw[PE.beq_eq _ _ h])|cases h
 |.look c x y,e,h=>by cases e<;>first|(simp only[PE.beq,aj] at h;rw[PE.beq_eq _ _ h.1,PE.beq_eq _ _ h.2.1,PE.beq_eq _ _ h.2.2])|cases h
 |.has x y,e,h=>by cases e<;>first|(simp only[PE.beq,aj] at h;rw[PE.beq_eq _ _ h.1,PE.beq_eq _ _ h.2])|cases h
 |.put c x y,e,h=>by cases e<;>first|(simp only[PE.beq,aj] at h;rw[PE.beq_eq _ _ h.1,PE.beq_eq _ _ h.2.1,PE.beq_eq _ _ h.2.2])|cases h
 |.mn x y,e,h=>by cases e<;>first|(simp only[PE.beq,aj] at h;rw[PE.beq_eq _ _ h.1,PE.beq_eq _ _ h.2])|cases h
 |.mx x y,e,h=>by cases e<;>first|(simp only[PE.beq,aj] at h;rw[PE.beq_eq _ _ h.1,PE.beq_eq _ _ h.2])|cases h
 |.tup x,e,h=>by cases e<;>first|(simp only[PE.beq] at h;rw[PE.beqs_eq _ _ h])|cases h
 |.tget x i,e,h=>by cases e<;>first|(simp only[PE.beq,aj] at h;rw[PE.beq_eq _ _ h.1,cM h.2])|cases h
 |.clo f x,e,h=>by cases e<;>first|(simp only[PE.beq,aj] at h;rw[cM h.1,PE.beqs_eq _ _ h.2])|cases h
 |.an x y,e,h=>by cases e<;>first|(simp only[PE.beq,aj] at h;rw[PE.beq_eq _ _ h.1,PE.beq_eq _ _ h.2])|cases h
 |.imp c x,e,h=>by cases e<;>first|(simp only[PE.beq,aj] at h;rw[BC _ _ h.1,PE.beq_eq _ _ h.2])|cases h
theorem PE.beqs_eq:∀a b:List PE,PE.beqs a b=true→a=b
 |[],e,h=>by cases e<;>first|rfl|cases h
 |a::aa,e,h=>by
  cases e with
  |nil=>cases h
  |cons b bs=>simp only[PE.beqs,aj] at h;rw[PE.beq_eq _ _ h.1,PE.beqs_eq _ _ h.2]
end
def PI.beq:PI→PI→Bool
 |.setR t x,e=>match e with|.setR u y=>Nat.beq t u&&PE.beq x y|_=>false
 |.setO t x,e=>match e with|.setO u y=>Nat.beq t u&&PE.beq x y|_=>false
 |.chk x,e=>match e with|.chk y=>PE.beq x y|_=>false
 |.call gs d f aa,e=>match e with|.call bG d' f' AF=>rk gs bG&&(Nat.beq d d'&&(Nat.beq f f'&&PE.beqs aa AF))|_=>false
 |.callc gs d f aa,e=>match e with|.callc bG d' f' AF=>rk gs bG&&(Nat.beq d d'&&(PE.beq f f'&&PE.beqs aa AF))|_=>false
 |.mcall d f aa,e=>match e with|.mcall d' f' AF=>Nat.beq d d'&&(Nat.beq f f'&&PE.beqs aa AF)|_=>false
theorem PI.beq_eq:∀a b:PI,PI.beq a b=true→a=b:=by
 intro a b h;cases a<;>cases b<;>first
  |(cases h;done)
  |(simp only[PI.beq,aj] at h;first
       |rw[cM h.1,PE.beq_eq _ _ h.2]
       |rw[PE.beq_eq _ _ h]
       |rw[BC _ _ h.1,cM h.2.1,cM h.2.2.1,PE.beqs_eq _ _ h.2.2.2]
       |rw[BC _ _ h.1,cM h.2.1,PE.beq_eq _ _ h.2.2.1,PE.beqs_eq _ _ h.2.2.2]
       |rw[cM h.1,cM h.2.1,PE.beqs_eq _ _ h.2.2])
def PI.beqs:List PI→List PI→Bool
 |[],e=>match e with|[]=>true|_=>false
 |a::aa,e=>match e with|b::bs=>PI.beq a b&&PI.beqs aa bs|_=>false
theorem PI.beqs_eq:∀a b:List PI,PI.beqs a b=true→a=b
 |[],e,h=>by cases e<;>first|rfl|cases h
 |a::aa,e,h=>by
  cases e with
  |nil=>cases h
  |cons b bs=>simp only[PI.beqs,aj] at h;rw[PI.beq_eq _ _ h.1,PI.beqs_eq _ _ h.2]
end Cx
namespace Cx
open Go Go.RowKit
structure Lk where
 r:Nat
 o:List Nat
def Lk.or (a b:Lk):Lk:=⟨Nat.lor a.r b.r,a.o++b.o⟩
def Lk.none:Lk:=⟨0,[]⟩
def lQ:List (Nat×Bool)→Lk
 |[]=>.none
 |g::gs=>⟨Nat.lor (dO g.1) (lQ gs).r,(lQ gs).o⟩
mutual
def PE.lk:PE→Lk
 |.r t=>⟨dO t,[]⟩
 |.o j=>⟨0,[j]⟩
 |.con _=>.none
 |.cell e _|.sub e _ _|.nt e|.conv _ e|.llen e|.bytes e|.slen e|.mlen e|.ref e|.deref e|.tget e _=>PE.lk e
 |.setc x _ y|.ai _ _ x y|.ci _ x y|.cb _ x y|.cs _ x y|.sadd x y|.nth x y|.idx x y|.sidx x y|.sok x y|.app x y|.rep x y|.has x y|.mn x y|.mx x y|.an x y=>(PE.lk x).or (PE.lk y)
 |.mk es|.lst es|.tup es|.clo _ es=>PE.lks es
 |.pick x y z|.slc x y z|.slok x y z|.look x y z|.put x y z|.setn x y _ z=>(PE.lk x).or ((PE.lk y).or (PE.lk z))
 |.imp c x=>(lQ c).or (PE.lk x)
def PE.lks:List PE→Lk
 |[]=>.none
 |e::es=>(PE.lk e).or (PE.lks es)
end
structure Alike (k:Lk) (ρ ρ':Env):Prop where
 r:∀t,aq k.r t=true→ρ'.r t=ρ.r t
 o:∀j,j∈k.o→ρ'.o j=ρ.o j
theorem Alike.left {a b:Lk}{ρ ρ':Env}(h:Alike (a.or b) ρ ρ'):Alike a ρ ρ':=
 ⟨fun t ht=>h.r t (by simp only[Lk.or,fo,ht,w5]),fun j hj=>h.o j (jr _ hj)⟩
theorem Alike.right {a b:Lk}{ρ ρ':Env}(h:Alike (a.or b) ρ ρ'):Alike b ρ ρ':=
 ⟨fun t ht=>h.r t (by simp only[Lk.or,fo,ht,m8]),fun j hj=>h.o j (jN _ hj)⟩
theorem yU {ρ ρ':Env}:∀{c:List (Nat×Bool)},Alike (lQ c) ρ ρ'→holds c ρ'=holds c ρ
 |[],_=>rfl
 |g::gs,h=>by
  have ih:=yU (ρ:=ρ) (ρ':=ρ') (c:=gs) ⟨fun t ht=>h.r t (by simp only[lQ,fo,ht,m8]),fun j hj=>h.o j hj⟩;have h1:=h.r g.1 (by simp only[lQ,fo,pS,w5]);unfold holds at ih ⊢;simp only[pK];rw[ih,h1]
mutual
theorem PE.ev_alike {ρ ρ':Env}:∀(e:PE),Alike e.lk ρ ρ'→e.ev ρ'=e.ev ρ
 |.r t,h=>h.r t (pS t)
 |.o j,h=>h.o j (by simp[PE.lk])
 |.con _,h=>rfl
 |.cell e _,h=>by simp only[PE.ev,PE.ev_alike e h]
 |.sub e _ _,h=>by simp only[PE.ev,PE.ev_alike e h]
 |.nt e,h=>by simp only[PE.ev,PE.ev_alike e h]
 |.conv _ e,h=>by simp only[PE.ev,PE.ev_alike e h]
 |.llen e,h=>by simp only[PE.ev,PE.ev_alike e h]
 |.bytes e,h=>by simp only[PE.ev,PE.ev_alike e h]
 |.slen e,h=>by simp only[PE.ev,PE.ev_alike e h]
 |.mlen e,h=>by simp only[PE.ev,PE.ev_alike e h]
 |.ref e,h=>by simp only[PE.ev,PE.ev_alike e h]
 |.deref e,h=>by simp only[PE.ev,PE.ev_alike e h]
 |.tget e _,h=>by simp only[PE.ev,PE.ev_alike e h]
 |.setc x _ y,h=>by simp only[PE.ev,PE.ev_alike x h.left,PE.ev_alike y h.right]
 |.ai _ _ x y,h=>by simp only[PE.ev,PE.ev_alike x h.left,PE.ev_alike y h.right]
 |.ci _ x y,h=>by simp only[PE.ev,PE.ev_alike x h.left,PE.ev_alike y h.right]
 |.cb _ x y,h=>by simp only[PE.ev,PE.ev_alike x h.left,PE.ev_alike y h.right]
 |.cs _ x y,h=>by simp only[PE.ev,PE.ev_alike x h.left,PE.ev_alike y h.right]
 |.sadd x y,h=>by simp only[PE.ev,PE.ev_alike x h.left,PE.ev_alike y h.right]
 |.nth x y,h=>by simp only[PE.ev,PE.ev_alike x h.left,PE.ev_alike y h.right]
 |.idx x y,h=>by simp only[PE.ev,PE.ev_alike x h.left,PE.ev_alike y h.right]
 |.sidx x y,h=>by simp only[PE.ev,PE.ev_alike x h.left,PE.ev_alike y h.right]
 |.sok x y,h=>by simp only[PE.ev,PE.ev_alike x h.left,PE.ev_alike y h.right]
 |.app x y,h=>by simp only[PE.ev,PE.ev_alike x h.left,PE.ev_alike y h.right]
 |.rep x y,h=>by simp only[PE.ev,PE.ev_alike x h.left,PE.ev_alike y h.right]
 |.has x y,h=>by simp only[PE.ev,PE.ev_alike x h.left,PE.ev_alike y h.right]
 |.mn x y,h=>by simp only[PE.ev,PE.ev_alike x h.left,PE.ev_alike y h.right]
 |.mx x y,h=>by simp only[PE.ev,PE.ev_alike x h.left,PE.ev_alike y h.right]
 |.an x y,h=>by simp only[PE.ev,PE.ev_alike x h.left,PE.ev_alike y h.right]
 |.mk es,h=>by simp only[PE.ev,PE.evc_alike es h]
 |.lst es,h=>by simp only[PE.ev,PE.evs_alike es h]
 |.tup es,h=>by simp only[PE.ev,PE.evs_alike es h]
 |.clo _ es,h=>by simp only[PE.ev,PE.evs_alike es h]
 |.pick x y z,h=>by simp only[PE.ev,PE.ev_alike x h.left,PE.ev_alike y h.right.left,PE.ev_alike z h.right.right]
 |.slc x y z,h=>by simp only[PE.ev,PE.ev_alike x h.left,PE.ev_alike y h.right.left,PE.ev_alike z h.right.right]
 |.slok x y z,h=>by simp only[PE.ev,PE.ev_alike x h.left,PE.ev_alike y h.right.left,PE.ev_alike z h.right.right]
 |.look x y z,h=>by simp only[PE.ev,PE.ev_alike x h.left,PE.ev_alike y h.right.left,PE.ev_alike z h.right.right]
 |.put x y z,h=>by simp only[PE.ev,PE.ev_alike x h.left,PE.ev_alike y h.right.left,PE.ev_alike z h.right.right]
 |.setn x y _ z,h=>by simp only[PE.ev,PE.ev_alike x h.left,PE.ev_alike y h.right.left,PE.ev_alike z h.right.right]
 |.imp c x,h=>by simp only[PE.ev,yU h.left,PE.ev_alike x h.right]
theorem PE.evs_alike {ρ ρ':Env}:∀(es:List PE),Alike (PE.lks es) ρ ρ'→PE.evs ρ' es=PE.evs ρ es
 |[],h=>rfl
 |e::es,h=>by simp only[PE.evs,PE.ev_alike e h.left,PE.evs_alike es h.right]
theorem PE.evc_alike {ρ ρ':Env}:∀(es:List PE),Alike (PE.lks es) ρ ρ'→PE.evc ρ' es=PE.evc ρ es
 |[],h=>rfl
 |e::es,h=>by simp only[PE.evc,PE.ev_alike e h.left,PE.evc_alike es h.right]
end
def PI.lk:PI→Lk
 |.setR _ e|.setO _ e|.chk e=>e.lk
 |.call gs _ _ aa=>(lQ gs).or (PE.lks aa)
 |.callc gs _ e aa=>(lQ gs).or (e.lk.or (PE.lks aa))
 |.mcall _ _ aa=>PE.lks aa
inductive Eff where
 |skip
 |r (t:Nat) (d:D)
 |o (j:Nat) (d:D)
def Eff.app (ρ:Env):Eff→Env
 |.skip=>ρ
 |.r t d=>ρ.setR t d
 |.o j d=>ρ.setO j d
def PI.eff (Φ:aR)(ρ:Env):PI→Option Eff
 |.setR t e=>some (.r t (e.ev ρ))
 |.setO j e=>some (.o j (e.ev ρ))
 |.chk e=>bif (e.ev ρ).b then some .skip else none
 |.call gs dst f args=>bif holds gs ρ then(Φ f (PE.evs ρ args)).map (.r dst) else some .skip
 |.callc gs dst e args=>bif holds gs ρ then(match e.ev ρ with|.clo f caps=>(Φ f (PE.evs ρ args++caps)).map (.r dst)|_=>none) else some .skip
 |.mcall j f args=>(Φ f (PE.evs ρ args)).map (.o j)
theorem PI.run_eff (Φ:aR)(ρ:Env)(p:PI):p.run Φ ρ=(p.eff Φ ρ).map (Eff.app ρ):=by
 cases p with
 |setR t e=>rfl
 |setO t e=>rfl
 |chk e=>simp only[PI.run,PI.eff];cases(e.ev ρ).b<;>rfl
 |call gs d f aa=>
  simp only[PI.run,PI.eff];cases holds gs ρ
  ·rfl
  ·simp only[cond_true,Sn];rfl
 |callc gs d e aa=>
  simp only[PI.run,PI.eff];cases holds gs ρ
  ·rfl
  ·simp only[cond_true];cases e.ev ρ<;>first|rfl|(simp only[Sn];rfl)
 |mcall j f aa=>simp only[PI.run,PI.eff,Sn];rfl
theorem PI.eff_alike {Φ:aR}{ρ ρ':Env}(p:PI)(h:Alike p.lk ρ ρ'):p.eff Φ ρ'=p.eff Φ ρ:=by
 cases p with
 |setR t e=>simp only[PI.eff,PE.ev_alike e h]
 |setO t e=>simp only[PI.eff,PE.ev_alike e h]
 |chk e=>simp only[PI.eff,PE.ev_alike e h]
 |call gs d f aa=>simp only[PI.eff,yU h.left,PE.evs_alike aa h.right]
 |callc gs d e aa=>simp only[PI.eff,yU h.left,PE.ev_alike e h.right.left,PE.evs_alike aa h.right.right]
 |mcall j f aa=>simp only[PI.eff,PE.evs_alike aa h]
def PI.wo:PI→List Nat
 |.setO j _|.mcall j _ _=>[j]
 |_=>[]
def Eff.within (m:Nat)(l:List Nat):Eff→Prop
 |.skip=>True
 |.r t _=>aq m t=true
 |.o j _=>j∈l
theorem PI.eff_within {Φ:aR}{ρ:Env}{p:PI}{x:Eff}(h:p.eff Φ ρ=some x):x.within p.mask p.wo:=by
 cases p with
 |setR t e=>simp only[PI.eff,aO] at h;subst h;exact pS t
 |setO t e=>simp only[PI.eff,aO] at h;subst h;simp[Eff.within,PI.wo]
 |chk e=>simp only[PI.eff] at h;cases hb:(e.ev ρ).b<;>rw[hb] at h<;>cases h;trivial
 |call gs d f aa=>
  simp only[PI.eff] at h;cases hb:holds gs ρ<;>simp only[hb,cond_true,cond_false,aO,av] at h
  ·subst h;trivial
  ·obtain⟨d,_,rfl⟩:=h;exact pS _
 |callc gs d e aa=>
  simp only[PI.eff] at h;cases hb:holds gs ρ<;>simp only[hb,cond_true,cond_false,aO] at h
  ·subst h;trivial
  ·split at h
   ·simp only[av] at h;obtain⟨d,_,rfl⟩:=h;exact pS _
   ·cases h
 |mcall j f aa=>simp only[PI.eff,av] at h;obtain⟨d,_,rfl⟩:=h;simp[Eff.within,PI.wo]
def ER (a b:List Nat):Bool:=a.all fun x=> !fC b x
structure Foot where
 wr:Nat
 wo:List Nat
 k:Lk
def gO:List PI→Foot
 |[]=>⟨0,[],.none⟩
 |p::l=>⟨Nat.lor p.mask (gO l).wr,p.wo++(gO l).wo,p.lk.or (gO l).k⟩
def Foot.comm (a b:Foot):Bool:=
 Nat.beq (Nat.land a.wr b.wr) 0&&(Nat.beq (Nat.land a.wr b.k.r) 0&&(Nat.beq (Nat.land b.wr a.k.r) 0&&
    (ER a.wo b.wo&&(ER a.wo b.k.o&&ER b.wo a.k.o))))
theorem Ni {a b t:Nat}(h:Nat.beq (Nat.land a b) 0=true)(ha:aq a t=true)(hb:aq b t=true):False:=by
 have h1:=cM h;have h2:(a&&& b).testBit t=true:=by rw[Nat.testBit_and,←q6,←q6,ha,hb];rfl
 have h3:(a&&& b)=0:=h1;rw[h3] at h2;simp at h2
theorem J3 {a b:List Nat}(h:ER a b=true){x:Nat}(ha:x∈a)(hb:x∈b):False:=by
 have:=bz.1 h x ha;rw[(oX b x).2 hb] at this;cases this
structure Comm (p q:PI):Prop where
 ww:∀t,aq p.mask t=true→aq q.mask t=true→False
 wr:∀t,aq p.mask t=true→aq q.lk.r t=true→False
 rw:∀t,aq q.mask t=true→aq p.lk.r t=true→False
 oww:∀t,t∈p.wo→t∈q.wo→False
 owr:∀t,t∈p.wo→t∈q.lk.o→False
 orw:∀t,t∈q.wo→t∈p.lk.o→False
theorem Eff.alike {x:Eff}{m:Nat}{l:List Nat}{k:Lk}{ρ:Env}(h:x.within m l)(h1:∀t,aq m t=true→aq k.r t=true→False)(h2:∀t,t∈l→t∈k.o→False):Alike k ρ (x.app ρ):=by
 cases x with
 |skip=>exact⟨fun _ _=>rfl,fun _ _=>rfl⟩
 |r t d=>exact⟨fun u hu=>bf _ _ (fun e=>h1 t h (e▸hu)),fun _ _=>rfl⟩
 |o t d=>exact⟨fun _ _=>rfl,fun u hu=>bf _ _ (fun e=>h2 t h (e▸hu))⟩
theorem aac {α:Type}(f:Nat→α){i j:Nat}(x y:α)(h:i≠j):bO (bO f i x) j y=bO (bO f j y) i x:=by
 funext t;simp only[fj];by_cases h1:t=i
 ·subst h1;simp[h]
 ·simp[h1]
theorem Eff.comm {x y:Eff}{m m':Nat}{l l':List Nat}{ρ:Env}(hx:x.within m l)(hy:y.within m' l')(h1:∀t,aq m t=true→aq m' t=true→False)(h2:∀t,t∈l→t∈l'→False):
 y.app (x.app ρ)=x.app (y.app ρ):=by
 cases x with
 |skip=>rfl
 |r t d=>
  cases y with
  |skip=>rfl
  |r u e=>
   have az:t≠u:=fun e=>h1 t hx (by subst e;exact hy);show Env.setR (Env.setR ρ t d) u e=Env.setR (Env.setR ρ u e) t d;simp only[Env.setR];rw[aac _ _ _ az]
  |o u e=>rfl
 |o t d=>
  cases y with
  |skip=>rfl
  |r u e=>rfl
  |o u e=>
   have az:t≠u:=fun e=>h2 t hx (by subst e;exact hy);show Env.setO (Env.setO ρ t d) u e=Env.setO (Env.setO ρ u e) t d;simp only[Env.setO];rw[aac _ _ _ az]
theorem PI.comm {Φ:aR}{p q:PI}(h:Comm p q)(ρ:Env):(p.run Φ ρ).bind (q.run Φ)=(q.run Φ ρ).bind (p.run Φ):=by
 simp only[PI.run_eff];cases hp:p.eff Φ ρ with
 |none=>
  cases hq:q.eff Φ ρ with
  |none=>rfl
  |some y=>
   have:=PI.eff_alike (Φ:=Φ) p (Eff.alike (ρ:=ρ) (PI.eff_within hq) h.rw h.orw);simp[PI.run_eff,this,hp]
 |some x=>
  have hx:=PI.eff_within hp;have e1:=PI.eff_alike (Φ:=Φ) q (Eff.alike (ρ:=ρ) hx h.wr h.owr);cases hq:q.eff Φ ρ with
  |none=>simp[PI.run_eff,e1,hq]
  |some y=>
   have hy:=PI.eff_within hq;have e2:=PI.eff_alike (Φ:=Φ) p (Eff.alike (ρ:=ρ) hy h.rw h.orw);simp only[kg,jQ,PI.run_eff,e1,e2,hp,hq];rw[Eff.comm hx hy h.ww h.oww]
theorem PI.comm1 {Φ:aR}{p:PI}:∀(l:List PI),(∀q,q∈l→Comm p q)→∀ρ,(p.run Φ ρ).bind (PI.runs Φ l)=(PI.runs Φ l ρ).bind (p.run Φ)
 |[],_,ρ=>by simp only[PI.runs];cases h:p.run Φ ρ<;>simp[h]
 |q::l,h,ρ=>by
  have ih:=PI.comm1 (Φ:=Φ) l fun q hq=>h q (dz _ hq);have hc:=PI.comm (Φ:=Φ) (h q (dG ..)) ρ;simp only[PI.runs];have e1:((p.run Φ ρ).bind fun ρ1=>(q.run Φ ρ1).bind (PI.runs Φ l))=((p.run Φ ρ).bind (q.run Φ)).bind (PI.runs Φ l):=by cases p.run Φ ρ<;>rfl
  show((p.run Φ ρ).bind fun ρ1=>(q.run Φ ρ1).bind (PI.runs Φ l))=_;rw[e1,hc];cases q.run Φ ρ with
  |none=>rfl
  |some ρ1=>simp only[jQ];exact ih ρ1
theorem PI.comms {Φ:aR}:∀(a b:List PI),(∀p q,p∈a→q∈b→Comm p q)→∀ρ,PI.runs Φ (a++b) ρ=PI.runs Φ (b++a) ρ
 |[],b,_,ρ=>by simp
 |p::a,b,h,ρ=>by
  have ih:=PI.comms (Φ:=Φ) a b fun p q hp hq=>h p q (dz _ hp) hq;have h1:=PI.comm1 (Φ:=Φ) b (fun q hq=>h p q (dG ..) hq);simp only[EA,PI.runs,nW];have e1:((p.run Φ ρ).bind (PI.runs Φ (a++b)))=(p.run Φ ρ).bind (PI.runs Φ (b++a)):=by
   cases p.run Φ ρ with
   |none=>rfl
   |some ρ1=>exact ih ρ1
  rw[e1];have e2:PI.runs Φ (b++a)=fun ρ=>(PI.runs Φ b ρ).bind (PI.runs Φ a):=funext fun ρ=>nW;rw[e2];have e3:((p.run Φ ρ).bind fun ρ=>(PI.runs Φ b ρ).bind (PI.runs Φ a))=((p.run Φ ρ).bind (PI.runs Φ b)).bind (PI.runs Φ a):=by cases p.run Φ ρ<;>rfl
  rw[e3,h1 ρ];cases PI.runs Φ b ρ with
  |none=>rfl
  |some ρ1=>rfl
theorem TY {l:List PI}{p:PI}(h:p∈l):(∀t,aq p.mask t=true→aq (gO l).wr t=true)∧(∀t,t∈p.wo→t∈(gO l).wo)∧(∀t,aq p.lk.r t=true→aq (gO l).k.r t=true)∧∀t,t∈p.lk.o→t∈(gO l).k.o:=by
 induction l with
 |nil=>cases h
 |cons q l ih=>
  rcases df.1 h with e|h
  ·subst e;refine⟨fun t ht=>?_,fun t ht=>jr _ ht,fun t ht=>?_,fun t ht=>jr _ ht⟩
   ·simp only[gO,fo,ht,w5]
   ·simp only[gO,Lk.or,fo,ht,w5]
  ·obtain⟨h1,h2,h3,h4⟩:=ih h;refine⟨fun t ht=>?_,fun t ht=>jN _ (h2 t ht),fun t ht=>?_,fun t ht=>jN _ (h4 t ht)⟩
   ·simp only[gO,fo,h1 t ht,m8]
   ·simp only[gO,Lk.or,fo,h3 t ht,m8]
def iN (S:St)(dst:Nat)(S':St):Prop:=∀t,t≠dst→S'.r t=S.r t
section
variable {C:Ctx} {S:St} {gs:List (Nat×Bool)} {dst:Nat} {r:St×List PI}
theorem gF {X:St}{s:Sh}(h:X.r=S.r):iN S dst (X.setR dst s):=fun t ht=>by simp only[St.setR,bf _ _ ht,h]
theorem aet (S:St)(j:Nat):(S.fz j).r=S.r:=(Gi S j).2
theorem acY {T:TypeId}{x:Operand}(h:Bg C S dst T x=some r):iN S dst r.1:=by
 unfold Bg at h;split at h
 ·simp only[av] at h;obtain⟨e,_,rfl⟩:=h;exact gF rfl
 ·cases h
theorem ac4 {T:TypeId}{x:Operand}(h:sS C S dst T x=some r):iN S dst r.1:=by
 unfold sS at h;split at h
 ·rename_i v;simp only[ao] at h;obtain⟨e,_,z,_,h⟩:=h;cases hc:jo e v<;>simp only[hc,cond_true,cond_false] at h<;>cases h;exact gF rfl
 ·cases h
theorem acu {T:TypeId}(h:A6 C S dst T=some r):iN S dst r.1:=by
 unfold A6 at h;split at h
 ·rename_i t inf ag _ _ _;cases hc:(sr inf t&&(t.rowT||t.one))<;>simp only[hc,cond_true,cond_false] at h
  ·cases h
  ·simp only[av] at h;obtain⟨e,_,rfl⟩:=h;exact gF rfl
 ·cases h
theorem acy {T:TypeId}{x:Operand}(h:A8 C S dst T x=some r):iN S dst r.1:=by
 unfold A8 at h;split at h
 ·rename_i t e ag _ _;cases hc:(t.rowT||t.one)<;>simp only[hc,cond_true,cond_false] at h<;>cases h;exact gF rfl
 ·split at h
  ·cases h;exact gF rfl
  ·cases h
 ·cases h
theorem acS {T:TypeId}{x:Option Operand}(h:Bd C S dst T x=some r):iN S dst r.1:=by
 unfold Bd at h;split at h
 ·simp only[ao,av] at h;obtain⟨e,_,z,_,rfl⟩:=h;exact gF rfl
 ·cases h
theorem ac0 {T:TypeId}{x:Operand}(h:Bh C S dst T x=some r):iN S dst r.1:=by
 unfold Bh at h;split at h
 case h_2=>cases h
 rename_i K E j ver hT es;cases hb:(Nat.beq ver (S.ver j)&& !Nat.beq j dst)<;>simp only[hb,cond_true,cond_false] at h
 ·cases h
 split at h
 ·cases h;exact gF rfl
 ·cases h
theorem acC {T U:TypeId}{x:Operand}(h:A9 C S dst T U x=some r):iN S dst r.1:=by
 unfold A9 at h;split at h
 ·split at h
  ·cases h;exact gF rfl
  ·cases h
 ·cases h
theorem acU {T:TypeId}{x y:Operand}(h:Be C S dst T x y=some r):iN S dst r.1:=by
 unfold Be at h;split at h
 ·rename_i E _ n _ m _ _ _;simp only[ao] at h;obtain⟨e,_,h⟩:=h;cases hc:p5 C.P E e<;>simp only[hc,cond_true,cond_false] at h
  ·cases h
  ·simp only[ao] at h;obtain⟨z,_,h⟩:=h;cases tg:Ty.sub z.1 e<;>simp only[tg,cond_true,cond_false] at h<;>cases h;exact gF rfl
 ·cases h
theorem acA {T:TypeId}{n:Nat}{ps:List (Nat×Operand)}(h:vk C S gs dst T n ps=some r):iN S dst r.1:=by
 unfold vk at h;split at h
 ·simp only[ao] at h;obtain⟨e,_,z,_,h⟩:=h
  revert h
  generalize (_&&_:Bool)=b;intro h;cases b<;>simp only[cond_true,cond_false] at h
  ·cases h
  ·simp only[av] at h;obtain⟨es,_,rfl⟩:=h;exact gF rfl
 ·cases h
theorem acQ {T:TypeId}{n:Nat}{ps:List (Nat×Operand)}(h:yk C S gs dst T n ps=some r):iN S dst r.1:=by
 unfold yk at h;split at h
 ·simp only[ao] at h;obtain⟨e,_,h⟩:=h;split at h
  ·cases h;exact gF rfl
  ·cases h
 ·cases h
theorem acw {T:TypeId}{x y:Operand}(h:A7 C S dst T x y=some r):iN S dst r.1:=by
 unfold A7 at h;split at h
 ·rename_i E _;simp only[ao] at h;obtain⟨e,_,h⟩:=h;split at h
  ·rename_i tx ex _;cases hc:(p5 C.P E e&&Jd tx e)<;>simp only[hc,cond_true,cond_false] at h
   ·cases h
   ·split at h
    ·cases h;exact gF rfl
    ·cases h
    ·split at h
     ·rename_i j ver _;cases hc:Nat.beq ver (S.ver j)<;>simp only[hc,cond_true,cond_false] at h
      ·cases h
      ·split at h
       ·rename_i E' e' _;cases hc:(Nat.beq E' E&&Ty.beq e' e)<;>simp only[hc,cond_true,cond_false] at h<;>cases h;exact gF rfl
       ·cases h
     ·cases h
  ·cases h
 ·cases h
theorem acJ {f:Nat}{xs:List Operand}(h:Bb C S dst f xs=some r):iN S dst r.1:=by
 simp only[Bb,ao] at h;obtain⟨s,_,h⟩:=h;split at h
 ·rename_i T e _;simp only[ao] at h;obtain⟨u,_,h⟩:=h;cases hc:Ty.subs u.1 s.args<;>simp only[hc,cond_true,cond_false] at h<;>cases h;refine gF (X:=(bif e.pure then S else S.fzs (bJ S [] xs)).newO dst (.row T e)) ?_;cases e.pure
  ·exact(nu _ S).2
  ·rfl
 ·cases h
theorem acO {f:Nat}{xs:List Operand}{q:St×Sh×List PI}(h:ox C S gs dst f xs=some q):q.1.r=S.r:=by
 simp only[ox,ao] at h;obtain⟨s,_,h⟩:=h;split at h
 ·simp only[ao] at h;obtain⟨u,_,h⟩:=h;cases hc:Ty.subs u.1 s.args<;>simp only[hc,cond_true,cond_false] at h<;>cases h;cases s.res.pure
  ·exact(nu _ S).2
  ·rfl
 ·cases h
theorem acF {x:Operand}{xs:List Operand}{q:St×Sh×List PI}(h:np C S gs dst x xs=some q):q.1.r=S.r:=by
 unfold np at h;split at h
 ·rename_i aa r0 _ _;split at h
  case h_1=>cases h
  simp only[ao] at h;obtain⟨u,_,h⟩:=h;cases hc:Ty.subs u.1 aa<;>simp only[hc,cond_true,cond_false] at h<;>cases h;cases r0.pure
  ·exact(nu _ S).2
  ·rfl
 ·cases h
theorem ac2 {T:TypeId}{x v:Operand}(h:sR C S T x v=some r):r.1.r=S.r:=by
 unfold sR at h;split at h
 case h_2=>cases h
 rename_i inf _;split at h
 ·rename_i j ver off _;cases hc:Nat.beq ver (S.ver j)<;>simp only[hc,cond_true,cond_false] at h
  ·cases h
  split at h
  case h_2=>cases h
  rename_i ag shs _;split at h
  ·revert h
   generalize (_&&_:Bool)=b;intro h;cases b<;>simp only[cond_true,cond_false] at h<;>cases h;rfl
  ·split at h
   ·revert h
    generalize (_&&_:Bool)=b;intro h;cases b<;>simp only[cond_true,cond_false] at h<;>cases h;rfl
   ·revert h
    generalize (_&&_:Bool)=b;intro h;cases b<;>simp only[cond_true,cond_false] at h<;>cases h;rfl
   ·cases h
 ·rename_i j ver size off _;cases hc:Nat.beq ver (S.ver j)<;>simp only[hc,cond_true,cond_false] at h
  ·cases h
  split at h
  ·revert h
   generalize (_&&_:Bool)=b;intro h;cases b<;>simp only[cond_true,cond_false] at h<;>cases h;rfl
  ·revert h
   generalize (_&&_:Bool)=b;intro h;cases b<;>simp only[cond_true,cond_false] at h<;>cases h;rfl
  ·cases h
 ·cases h
theorem Ts {T:TypeId}{m k v:Operand}(h:q7 C S T m k v=some r):r.1.r=S.r:=by
 unfold q7 at h;split at h
 ·rename_i K _ j ver _ _;cases hc:Nat.beq ver (S.ver j)<;>simp only[hc,cond_true,cond_false] at h
  ·cases h
  split at h
  ·revert h
   generalize (_&&_:Bool)=b;intro h;cases b<;>simp only[cond_true,cond_false] at h<;>cases h;rfl
  ·cases h
 ·cases h
theorem acL {f:Nat}{xs:List Operand}(h:Bc C S dst f xs=some r):iN S dst r.1:=by
 simp only[Bc,ao] at h;obtain⟨s,_,h⟩:=h;split at h
 case h_2=>cases h
 simp only[ao] at h;obtain⟨u,_,h⟩:=h
 revert h
 generalize (_&&_:Bool)=b;intro h;cases b<;>simp only[cond_true,cond_false] at h
 ·cases h
 cases h;refine gF (X:=St.newRows _ _ _) ?_;exact(nu _ S).2
theorem acH {f:Nat}{xs:List Operand}(h:Ba C S dst f xs=some r):iN S dst r.1:=by
 simp only[Ba,ao] at h;obtain⟨s,_,h⟩:=h;split at h
 case h_2=>cases h
 split at h
 case h_2=>cases h
 split at h
 case h_2=>cases h
 revert h
 generalize (_&&_:Bool)=b;intro h;cases b<;>simp only[cond_true,cond_false] at h
 ·cases h
 simp only[ao] at h;obtain⟨u,_,h⟩:=h
 revert h
 generalize Ty.subs _ _=b;intro h;cases b<;>simp only[cond_true,cond_false] at h
 ·cases h
 cases h;exact gF rfl
theorem KU {f:Nat}{xs:List Operand}{cs:List (Nat×Nat)}{q:St×Ty×List PI}(h:pZ C S f xs cs=some q):q.1.r=S.r:=by
 simp only[pZ,ao] at h;obtain⟨s,_,h⟩:=h;split at h
 ·rename_i shs obs _;unfold KT KS at h;simp only[ao] at h;obtain⟨u,_,h⟩:=h
  revert h
  generalize (_&&_:Bool)=b;intro h;cases b<;>simp only[cond_true,cond_false] at h<;>cases h;exact(nu _ S).2
 ·cases h
theorem To {t:Nat}{xs:List Operand}{q:St×Ty×List PI}(h:yj C S t xs=some q):q.1.r=S.r:=by
 unfold yj at h;split at h
 ·rename_i f caps _;cases hc:xm S caps<;>simp only[hc,cond_true,cond_false] at h
  ·cases h
  ·exact KU h
 ·cases h
theorem WO {dst:Nat}{q:St×Ty×List PI}(h:q.1.r=S.r):iN S dst (pf S (some dst) q).1:=gF h
theorem acW {fn:Fn}{a b:Array Operand}(h:Bf C S dst fn a b=some r):iN S dst r.1:=by
 unfold Bf at h;split at h
 case h_2=>cases h
 split at h
 case h_2=>cases h
 rename_i s _;cases hb:oV s.mode<;>simp only[hb,cond_true,cond_false] at h
 ·cases h
 simp only[av] at h;obtain⟨c,_,rfl⟩:=h;exact gF rfl
theorem acg {o:Oper}(hr:core C S gs o=some r):∀t,o.dst≠some t→r.1.r t=S.r t:=by
 unfold core at hr;split at hr
 ·rename_i dst hd
  suffices h:iN S dst r.1 by
   intro t ht;exact h t (fun e=>ht (by rw[hd,e]))
  split at hr
  ·rename_i q hq;cases eI:qs q.1<;>simp only[eI,cond_true,cond_false] at hr<;>cases hr;exact gF rfl
  ·split at hr
   ·rename_i x e _
    have mv:∀r,(match pg C S [] dst x with|some r=>some (S.setR dst r.1,r.2)|none=>sS C S dst o.type x)=some r→iN S dst r.1:=by
     intro r hr;split at hr
     ·cases hr;exact gF rfl
     ·exact ac4 hr
    cases cW:C.fr.any (Nat.beq dst)<;>simp only[cW,cond_true,cond_false] at hr
    ·split at hr
     ·rename_i q hq;cases hr;exact acY hq
     ·exact mv r hr
    ·exact mv r hr
   ·exact acu hr
   ·exact acy hr
   ·split at hr
    ·exact acA hr
    ·exact acQ hr
   ·exact acU hr
   ·exact acS hr
   ·exact ac0 hr
   ·exact acC hr
   ·rename_i c e;split at hr
    ·split at hr
     ·rename_i s x T T' _ _;cases hT:Nat.beq T T'<;>simp only[hT,cond_true,cond_false] at hr
      ·cases hr
      ·exact acw hr
     ·cases hr
    ·split at hr
     ·rename_i q hq;cases hr;exact gF (acO hq)
     ·split at hr
      ·split at hr
       ·rename_i q hq;cases hr;exact acJ hq
       ·split at hr
        ·rename_i q hq;cases hr;exact acL hq
        split at hr
        ·rename_i q hq;cases hr;exact acH hq
        ·simp only[av] at hr;obtain⟨q,hq,rfl⟩:=hr;exact WO (KU hq)
      ·cases hr
    ·split at hr
     ·rename_i q hq;cases hr;exact gF (acF hq)
     ·split at hr
      ·simp only[av] at hr;obtain⟨q,hq,rfl⟩:=hr;exact WO (To hq)
      ·cases hr
    ·cases hr
   ·exact acW hr
   ·cases hr
 ·split at hr
  ·intro t _;rw[ac2 hr]
  ·intro t _;rw[Ts hr]
  ·intro t _;rw[Ts hr]
  ·cases hr;intro t _;rfl
  ·intro t _;split at hr
   ·simp only[av] at hr;obtain⟨q,hq,rfl⟩:=hr;simp only[pf,KU hq]
   ·simp only[av] at hr;obtain⟨q,hq,rfl⟩:=hr;simp only[pf,To hq]
   ·cases hr
  ·cases hr
theorem aeB {g:Gh}(hr:g.run C S=some r):∀t,(∀u j,g=.rereg u j→t≠u)→r.1.r t=S.r t:=by
 intro t ht;cases g with
 |fz j=>simp only[Gh.run,aO] at hr;subst hr;rw[aet]
 |fbox b=>
  simp only[Gh.run,BA] at hr;split at hr
  case h_2=>cases hr
  rename_i ag shs _;simp only[ao] at hr;obtain⟨x,_,hr⟩:=hr;cases ag<;>simp only[cond_true,cond_false] at hr
  ·split at hr
   ·cases hr;rfl
   ·cases hr
  ·cases hr;rfl
 |rereg u j=>
  simp only[Gh.run,wM] at hr;split at hr
  ·revert hr
   generalize (_&&_:Bool)=b;intro hr;cases b<;>simp only[cond_true,cond_false] at hr<;>cases hr
   ·rfl
   ·simp only[St.setR,bf _ _ (ht u j rfl)];rfl
  ·cases hr;rfl
 |recell b i j=>
  simp only[Gh.run,D3] at hr;split at hr
  ·split at hr
   ·revert hr
    generalize (_&&_:Bool)=b;intro hr;cases b<;>simp only[cond_true,cond_false] at hr<;>cases hr<;>rfl
   ·cases hr;rfl
  ·cases hr;rfl
 |home b i j T=>
  simp only[Gh.run,Cn] at hr;split at hr
  ·split at hr
   ·revert hr
    generalize (!_:Bool)=b;intro hr;cases b<;>simp only[cond_true,cond_false] at hr<;>cases hr<;>rfl
   ·cases hr;rfl
  ·cases hr;rfl
theorem Lo:∀(l:List Gh) {S:St} {r:St×List PI},jz C l S=some r→∀t,(∀g u j,g∈l→g=.rereg u j→t≠u)→r.1.r t=S.r t
 |[],S,r,hr,t,_=>by simp only[jz,aO] at hr;subst hr;rfl
 |g::l,S,r,hr,t,ht=>by
  simp only[jz,ao,av] at hr;obtain⟨q,hq,q2,iZ,rfl⟩:=hr;have h1:=Lo l iZ t (fun g u j hg=>ht g u j (dz _ hg));have h2:=aeB hq t (fun u j e=>ht g u j (dG ..) e);exact h1.trans h2
theorem akD (S:St)(gs:List (Nat×Bool))(o:Oper):∀g u j,g∈pre C S gs o.op++pj C S gs o→g≠.rereg u j:=by
 intro g u j hg e;subst e;rw[de] at hg;rcases hg with hg|hg
 ·unfold pre at hg;split at hg
  ·rename_i fn _ _ _;cases ho:WN C fn<;>simp only[ho,cond_true,cond_false] at hg
   case true=>cases hg
   obtain⟨b,_,hb⟩:=iL.1 hg;rw[de] at hb;rcases hb with hb|hb
   ·split at hb
    ·obtain⟨_,_,h⟩:=eE.1 hb;cases h
    ·cases hb
   ·simp at hb
  ·split at hg
   ·replace hg:=ai9 hg
    split at hg
    ·obtain⟨_,_,h⟩:=eE.1 hg;cases h
    ·cases hg
   ·cases hg
  ·obtain⟨_,_,h⟩:=eE.1 hg;cases h
  ·obtain⟨_,_,h⟩:=eE.1 hg;cases h
 ·unfold pj at hg;split at hg
  ·rename_i x t _ _;cases hc:C.fr.any (Nat.beq t)<;>simp only[hc,cond_true,cond_false] at hg
   ·cases hg
   ·obtain⟨_,_,h⟩:=eE.1 hg;cases h
  ·cases hg
theorem akA (S:St)(o:Oper):∀g u j,g∈post C S o→g=.rereg u j→o.dst=some u:=by
 intro g u j hg e;subst e;unfold post at hg;split at hg
 ·rename_i t _ hd;simp at hg;rw[hd,hg.1]
 ·unfold Hu homes at hg;have:=(ed.1 hg).1;obtain⟨x,_,hx⟩:=sE.1 this;cases bM:x.1<;>rw[bM] at hx<;>simp at hx
 ·split at hg
  ·rw[de] at hg;rcases hg with hg|hg
   ·unfold Hu homes at hg;have:=(ed.1 hg).1;obtain⟨x,_,hx⟩:=sE.1 this;cases bM:x.1<;>rw[bM] at hx<;>simp at hx
   ·unfold Zk at hg;obtain⟨_,_,h⟩:=eE.1 hg;cases h
  ·cases hg
 ·cases hg
theorem ab8 {ops:Array Oper}{o:Oper}(hr:yf C S ops o=some r):∀t,o.dst≠some t→r.1.r t=S.r t:=by
 intro t ht;unfold yf at hr;split at hr
 ·rename_i q hq;cases hr;simp only[A0,ao] at hq;obtain⟨gs,_,r1,h1,r2,h2,r3,h3,hq⟩:=hq
  revert hq
  generalize iU gs o.dst r2.2=b;intro hq;cases b<;>simp only[cond_true,cond_false] at hq<;>cases hq;have e1:=Lo _ h1 t (fun g u j hg e=>absurd e (akD S gs o g u j hg));have e2:=acg h2 t ht
  have e3:=Lo _ h3 t (fun g u j hg e=>by
   have:=akA r2.1 o g u j hg e;intro e';subst e';exact ht this)
  exact e3.trans (e2.trans e1)
 ·cases hr;split
  ·rename_i d hd;simp only[St.setR];rw[bf];intro e;subst e;exact ht hd
  ·rfl
theorem Th {ops:Array Oper}{o:Oper}(hr:oq C S ops o=some r):∀t,o.dst≠some t→r.1.r t=S.r t:=by
 intro t ht;unfold oq at hr;split at hr
 ·rename_i q hq;cases hr;unfold yg at hq;split at hq
  case h_2=>cases hq
  rename_i dst _ args _ _ _ hd _ _;simp only[ao] at hq;obtain⟨gs,_,hq⟩:=hq;split at hq
  case h_2=>cases hq
  split at hq
  case h_2=>cases hq
  simp only[ao] at hq;obtain⟨u,_,hq⟩:=hq;rw[od] at hq;split at hq<;>cases hq;simp only[St.setR];rw[bf,(nu _ S).2];intro e;subst e;exact ht hd
 ·exact ab8 hr t ht
theorem KM {ops:Array Oper}:∀{l:List Nat} {S:St} {r:St×List PI},nm C ops l S=some r→∀t,(∀i o,i∈l→ops[i]?=some o→o.dst≠some t)→r.1.r t=S.r t
 |[],S,r,h,t,_=>by simp only[nm,aO] at h;subst h;rfl
 |i::l,S,r,h,t,ht=>by
  simp only[nm] at h;split at h
  ·rename_i o ho;simp only[ao,av] at h;obtain⟨q,hq,q2,iZ,rfl⟩:=h;exact(KM iZ t fun j o hj=>ht j o (dz _ hj)).trans (Th hq t (ht i o (dG ..) ho))
  ·cases h
end
end Cx
