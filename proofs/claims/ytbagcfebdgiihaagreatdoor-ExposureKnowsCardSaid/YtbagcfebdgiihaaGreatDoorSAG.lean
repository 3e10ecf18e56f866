/-
  Shared texts of this claim.
-/
import Derived.Test.YtbagcfebdgiihaaGreatDoorSAF
import Derived.OrdersIn
set_option linter.unusedSimpArgs false
set_option linter.unusedVariables false
namespace Cx
open Go Go.RowKit
def Sz:Value→Value→Bool
 |.int k n,.int k' m=>k==k'&&n==m
 |.bool a,.bool b=>a==b
 |.string a,.string b=>decide (a=b)
 |.nilFunc,.nilFunc=>true
 |_,_=>false
theorem ar1:∀a b,Sz a b=true→a=b:=by
 intro a b h;unfold Sz at h;split at h
 ·simp only[aq,beq_iff_eq] at h;rw[h.1,h.2]
 ·simp only[beq_iff_eq] at h;rw[h]
 ·simp only[decide_eq_true_eq] at h;rw[h]
 ·rfl
 ·cases h
mutual
def D.beq:D→D→Bool
 |.v a,e=>match e with|.v b=>Sz a b|_=>false
 |.agg a,e=>match e with|.agg b=>D.beqs a b|_=>false
 |.list a,e=>match e with|.list b=>D.beqs a b|_=>false
 |.tup a,e=>match e with|.tup b=>D.beqs a b|_=>false
 |.map a,e=>match e with|.map b=>a.isEmpty&&b.isEmpty|_=>false
 |.ref a,e=>match e with|.ref b=>D.beq a b|_=>false
 |.clo f a,e=>match e with|.clo g b=>Nat.beq f g&&D.beqs a b|_=>false
 |.none,e=>match e with|.none=>true|_=>false
def D.beqs:List D→List D→Bool
 |[],e=>match e with|[]=>true|_=>false
 |a::aa,e=>match e with|b::bs=>D.beq a b&&D.beqs aa bs|_=>false
end
mutual
theorem D.beq_eq:∀a b:D,D.beq a b=true→a=b
 |.v a,e,h=>by cases e<;>first|(simp only[D.beq] at h;rw[ar1 _ _ h])|cases h
 |.agg a,e,h=>by cases e<;>first|(simp only[D.beq] at h;rw[D.beqs_eq _ _ h])|cases h
 |.list a,e,h=>by cases e<;>first|(simp only[D.beq] at h;rw[D.beqs_eq _ _ h])|cases h
 |.tup a,e,h=>by cases e<;>first|(simp only[D.beq] at h;rw[D.beqs_eq _ _ h])|cases h
 |.map a,e,h=>by
  cases e<;>first|(simp only[D.beq,aq,SY] at h;rw[h.1,h.2])|cases h
 |.ref a,e,h=>by cases e<;>first|(simp only[D.beq] at h;rw[D.beq_eq _ _ h])|cases h
 |.clo f a,e,h=>by cases e<;>first|(simp only[D.beq,aq] at h;rw[aw h.1,D.beqs_eq _ _ h.2])|cases h
 |.none,e,h=>by cases e<;>first|rfl|cases h
theorem D.beqs_eq:∀a b:List D,D.beqs a b=true→a=b
 |[],e,h=>by cases e<;>first|rfl|cases h
 |a::aa,e,h=>by
  cases e with
  |nil=>cases h
  |cons b bs=>simp only[D.beqs,aq] at h;rw[D.beq_eq _ _ h.1,D.beqs_eq _ _ h.2]
end
mutual
def PE.beq:PE→PE→Bool
 |.r a,e=>match e with|.r b=>Nat.beq a b|_=>false
 |.o a,e=>match e with|.o b=>Nat.beq a b|_=>false
 |.con a,e=>match e with|.con b=>D.beq a b|_=>false
 |.cell x i,e=>match e with|.cell y j=>PE.beq x y&&Nat.beq i j|_=>false
 |.sub x i n,e=>match e with|.sub y j m=>PE.beq x y&&(Nat.beq i j&&Nat.beq n m)|_=>false
 |.setc x i z,e=>match e with|.setc y j u=>PE.beq x y&&(Nat.beq i j&&PE.beq z u)|_=>false
 |.mk x,e=>match e with|.mk y=>PE.beqs x y|_=>false
 |.ai op k x y,e=>match e with|.ai vE k' x' y'=>op==vE&&(k==k'&&(PE.beq x x'&&PE.beq y y'))|_=>false
 |.ci op x y,e=>match e with|.ci vE x' y'=>op==vE&&(PE.beq x x'&&PE.beq y y')|_=>false
 |.cb op x y,e=>match e with|.cb vE x' y'=>op==vE&&(PE.beq x x'&&PE.beq y y')|_=>false
 |.cs op x y,e=>match e with|.cs vE x' y'=>op==vE&&(PE.beq x x'&&PE.beq y y')|_=>false
 |.sadd x y,e=>match e with|.sadd x' y'=>PE.beq x x'&&PE.beq y y'|_=>false
 |.nt x,e=>match e with|.nt y=>PE.beq x y|_=>false
 |.conv k x,e=>match e with|.conv k' y=>k==k'&&PE.beq x y|_=>false
 |.pick c x y,e=>match e with|.pick c' x' y'=>PE.beq c c'&&(PE.beq x x'&&PE.beq y y')|_=>false
 |.llen x,e=>match e with|.llen y=>PE.beq x y|_=>false
 |.bytes x,e=>match e with|.bytes y=>PE.beq x y|_=>false
 |.slen x,e=>match e with|.slen y=>PE.beq x y|_=>false
 |.mlen x,e=>match e with|.mlen y=>PE.beq x y|_=>false
 |.nth x y,e=>match e with|.nth x' y'=>PE.beq x x'&&PE.beq y y'|_=>false
 |.idx x y,e=>match e with|.idx x' y'=>PE.beq x x'&&PE.beq y y'|_=>false
 |.sidx x y,e=>match e with|.sidx x' y'=>PE.beq x x'&&PE.beq y y'|_=>false
 |.sok x y,e=>match e with|.sok x' y'=>PE.beq x x'&&PE.beq y y'|_=>false
 |.setn x i n y,e=>match e with|.setn x' i' n' y'=>PE.beq x x'&&(PE.beq i i'&&(Nat.beq n n'&&PE.beq y y'))|_=>false
 |.app x y,e=>match e with|.app x' y'=>PE.beq x x'&&PE.beq y y'|_=>false
 |.lst x,e=>match e with|.lst y=>PE.beqs x y|_=>false
 |.rep x y,e=>match e with|.rep x' y'=>PE.beq x x'&&PE.beq y y'|_=>false
 |.slc c x y,e=>match e with|.slc c' x' y'=>PE.beq c c'&&(PE.beq x x'&&PE.beq y y')|_=>false
 |.slok c x y,e=>match e with|.slok c' x' y'=>PE.beq c c'&&(PE.beq x x'&&PE.beq y y')|_=>false
 |.ref x,e=>match e with|.ref y=>PE.beq x y|_=>false
 |.deref x,e=>match e with|.deref y=>PE.beq x y|_=>false
 |.look c x y,e=>match e with|.look c' x' y'=>PE.beq c c'&&(PE.beq x x'&&PE.beq y y')|_=>false
 |.has x y,e=>match e with|.has x' y'=>PE.beq x x'&&PE.beq y y'|_=>false
 |.put c x y,e=>match e with|.put c' x' y'=>PE.beq c c'&&(PE.beq x x'&&PE.beq y y')|_=>false
 |.mn x y,e=>match e with|.mn x' y'=>PE.beq x x'&&PE.beq y y'|_=>false
 |.mx x y,e=>match e with|.mx x' y'=>PE.beq x x'&&PE.beq y y'|_=>false
 |.tup x,e=>match e with|.tup y=>PE.beqs x y|_=>false
 |.tget x i,e=>match e with|.tget y j=>PE.beq x y&&Nat.beq i j|_=>false
 |.clo f x,e=>match e with|.clo g y=>Nat.beq f g&&PE.beqs x y|_=>false
 |.an x y,e=>match e with|.an x' y'=>PE.beq x x'&&PE.beq y y'|_=>false
 |.imp c x,e=>match e with|.imp c' y=>qM c c'&&PE.beq x y|_=>false
def PE.beqs:List PE→List PE→Bool
 |[],e=>match e with|[]=>true|_=>false
 |a::aa,e=>match e with|b::bs=>PE.beq a b&&PE.beqs aa bs|_=>false
end
theorem cX {a b:Nat}(h:Nat.beq a b=true):a=b:=aw h
mutual
theorem PE.beq_eq:∀a b:PE,PE.beq a b=true→a=b
 |.r a,e,h=>by cases e<;>first|(rw[cX h])|cases h
 |.o a,e,h=>by cases e<;>first|(rw[cX h])|cases h
 |.con a,e,h=>by cases e<;>first|(rw[D.beq_eq _ _ h])|cases h
 |.cell x i,e,h=>by cases e<;>first|(simp only[PE.beq,aq] at h;rw[PE.beq_eq _ _ h.1,cX h.2])|cases h
 |.sub x i n,e,h=>by cases e<;>first|(simp only[PE.beq,aq] at h;rw[PE.beq_eq _ _ h.1,cX h.2.1,cX h.2.2])|cases h
 |.setc x i z,e,h=>by cases e<;>first|(simp only[PE.beq,aq] at h;rw[PE.beq_eq _ _ h.1,cX h.2.1,PE.beq_eq _ _ h.2.2])|cases h
 |.mk x,e,h=>by cases e<;>first|(simp only[PE.beq] at h;rw[PE.beqs_eq _ _ h])|cases h
 |.ai op k x y,e,h=>by cases e<;>first|(simp only[PE.beq,aq,beq_iff_eq] at h;rw[h.1,h.2.1,PE.beq_eq _ _ h.2.2.1,PE.beq_eq _ _ h.2.2.2])|cases h
 |.ci op x y,e,h=>by cases e<;>first|(simp only[PE.beq,aq,beq_iff_eq] at h;rw[h.1,PE.beq_eq _ _ h.2.1,PE.beq_eq _ _ h.2.2])|cases h
 |.cb op x y,e,h=>by cases e<;>first|(simp only[PE.beq,aq,beq_iff_eq] at h;rw[h.1,PE.beq_eq _ _ h.2.1,PE.beq_eq _ _ h.2.2])|cases h
 |.cs op x y,e,h=>by cases e<;>first|(simp only[PE.beq,aq,beq_iff_eq] at h;rw[h.1,PE.beq_eq _ _ h.2.1,PE.beq_eq _ _ h.2.2])|cases h
 |.sadd x y,e,h=>by cases e<;>first|(simp only[PE.beq,aq] at h;rw[PE.beq_eq _ _ h.1,PE.beq_eq _ _ h.2])|cases h
 |.nt x,e,h=>by cases e<;>first|(simp only[PE.beq] at h;rw[PE.beq_eq _ _ h])|cases h
 |.conv k x,e,h=>by cases e<;>first|(simp only[PE.beq,aq,beq_iff_eq] at h;rw[h.1,PE.beq_eq _ _ h.2])|cases h
 |.pick c x y,e,h=>by cases e<;>first|(simp only[PE.beq,aq] at h;rw[PE.beq_eq _ _ h.1,PE.beq_eq _ _ h.2.1,PE.beq_eq _ _ h.2.2])|cases h
 |.llen x,e,h=>by cases e<;>first|(simp only[PE.beq] at h;rw[PE.beq_eq _ _ h])|cases h
 |.bytes x,e,h=>by cases e<;>first|(simp only[PE.beq] at h;rw[PE.beq_eq _ _ h])|cases h
 |.slen x,e,h=>by cases e<;>first|(simp only[PE.beq] at h;rw[PE.beq_eq _ _ h])|cases h
 |.mlen x,e,h=>by cases e<;>first|(simp only[PE.beq] at h;rw[PE.beq_eq _ _ h])|cases h
 |.nth x y,e,h=>by cases e<;>first|(simp only[PE.beq,aq] at h;rw[PE.beq_eq _ _ h.1,PE.beq_eq _ _ h.2])|cases h
 |.idx x y,e,h=>by cases e<;>first|(simp only[PE.beq,aq] at h;rw[PE.beq_eq _ _ h.1,PE.beq_eq _ _ h.2])|cases h
 |.sidx x y,e,h=>by cases e<;>first|(simp only[PE.beq,aq] at h;rw[PE.beq_eq _ _ h.1,PE.beq_eq _ _ h.2])|cases h
 |.sok x y,e,h=>by cases e<;>first|(simp only[PE.beq,aq] at h;rw[PE.beq_eq _ _ h.1,PE.beq_eq _ _ h.2])|cases h
 |.setn x i n y,e,h=>by cases e<;>first|(simp only[PE.beq,aq] at h;rw[PE.beq_eq _ _ h.1,PE.beq_eq _ _ h.2.1,cX h.2.2.1,PE.beq_eq _ _ h.2.2.2])|cases h
 |.app x y,e,h=>by cases e<;>first|(simp only[PE.beq,aq] at h;rw[PE.beq_eq _ _ h.1,PE.beq_eq _ _ h.2])|cases h
 |.lst x,e,h=>by cases e<;>first|(simp only[PE.beq] at h;rw[PE.beqs_eq _ _ h])|cases h
 |.rep x y,e,h=>by cases e<;>first|(simp only[PE.beq,aq] at h;rw[PE.beq_eq _ _ h.1,PE.beq_eq _ _ h.2])|cases h
 |.slc c x y,e,h=>by cases e<;>first|(simp only[PE.beq,aq] at h;rw[PE.beq_eq _ _ h.1,PE.beq_eq _ _ h.2.1,PE.beq_eq _ _ h.2.2])|cases h
 |.slok c x y,e,h=>by cases e<;>first|(simp only[PE.beq,aq] at h;rw[PE.beq_eq _ _ h.1,PE.beq_eq _ _ h.2.1,PE.beq_eq _ _ h.2.2])|cases h
 |.ref x,e,h=>by cases e<;>first|(simp only[PE.beq] at h;rw[PE.beq_eq _ _ h])|cases h
 |.deref x,e,h=>by cases e<;>first|(simp only[PE.beq] at h;rw[PE.beq_eq _ _ h])|cases h
 |.look c x y,e,h=>by cases e<;>first|(simp only[PE.beq,aq] at h;rw[PE.beq_eq _ _ h.1,PE.beq_eq _ _ h.2.1,PE.beq_eq _ _ h.2.2])|cases h
 |.has x y,e,h=>by cases e<;>first|(simp only[PE.beq,aq] at h;rw[PE.beq_eq _ _ h.1,PE.beq_eq _ _ h.2])|cases h
 |.put c x y,e,h=>by cases e<;>first|(simp only[PE.beq,aq] at h;rw[PE.beq_eq _ _ h.1,PE.beq_eq _ _ h.2.1,PE.beq_eq _ _ h.2.2])|cases h
 |.mn x y,e,h=>by cases e<;>first|(simp only[PE.beq,aq] at h;rw[PE.beq_eq _ _ h.1,PE.beq_eq _ _ h.2])|cases h
 |.mx x y,e,h=>by cases e<;>first|(simp only[PE.beq,aq] at h;rw[PE.beq_eq _ _ h.1,PE.beq_eq _ _ h.2])|cases h
 |.tup x,e,h=>by cases e<;>first|(simp only[PE.beq] at h;rw[PE.beqs_eq _ _ h])|cases h
 |.tget x i,e,h=>by cases e<;>first|(simp only[PE.beq,aq] at h;rw[PE.beq_eq _ _ h.1,cX h.2])|cases h
 |.clo f x,e,h=>by cases e<;>first|(simp only[PE.beq,aq] at h;rw[cX h.1,PE.beqs_eq _ _ h.2])|cases h
 |.an x y,e,h=>by cases e<;>first|(simp only[PE.beq,aq] at h;rw[PE.beq_eq _ _ h.1,PE.beq_eq _ _ h.2])|cases h
 |.imp c x,e,h=>by cases e<;>first|(simp only[PE.beq,aq] at h;rw[Bl _ _ h.1,PE.beq_eq _ _ h.2])|cases h
theorem PE.beqs_eq:∀a b:List PE,PE.beqs a b=true→a=b
 |[],e,h=>by cases e<;>first|rfl|cases h
 |a::aa,e,h=>by
  cases e with
  |nil=>cases h
  |cons b bs=>simp only[PE.beqs,aq] at h;rw[PE.beq_eq _ _ h.1,PE.beqs_eq _ _ h.2]
end
def PI.beq:PI→PI→Bool
 |.setR t x,e=>match e with|.setR u y=>Nat.beq t u&&PE.beq x y|_=>false
 |.setO t x,e=>match e with|.setO u y=>Nat.beq t u&&PE.beq x y|_=>false
 |.chk x,e=>match e with|.chk y=>PE.beq x y|_=>false
 |.call gs d f aa,e=>match e with|.call bJ d' f' Aj=>qM gs bJ&&(Nat.beq d d'&&(Nat.beq f f'&&PE.beqs aa Aj))|_=>false
 |.callc gs d f aa,e=>match e with|.callc bJ d' f' Aj=>qM gs bJ&&(Nat.beq d d'&&(PE.beq f f'&&PE.beqs aa Aj))|_=>false
 |.mcall d f aa,e=>match e with|.mcall d' f' Aj=>Nat.beq d d'&&(Nat.beq f f'&&PE.beqs aa Aj)|_=>false
theorem PI.beq_eq:∀a b:PI,PI.beq a b=true→a=b:=by
 intro a b h;cases a<;>cases b<;>first
  |(cases h;done)
  |(simp only[PI.beq,aq] at h;first
       |rw[cX h.1,PE.beq_eq _ _ h.2]
       |rw[PE.beq_eq _ _ h]
       |rw[Bl _ _ h.1,cX h.2.1,cX h.2.2.1,PE.beqs_eq _ _ h.2.2.2]
       |rw[Bl _ _ h.1,cX h.2.1,PE.beq_eq _ _ h.2.2.1,PE.beqs_eq _ _ h.2.2.2]
       |rw[cX h.1,cX h.2.1,PE.beqs_eq _ _ h.2.2])
def PI.beqs:List PI→List PI→Bool
 |[],e=>match e with|[]=>true|_=>false
 |a::aa,e=>match e with|b::bs=>PI.beq a b&&PI.beqs aa bs|_=>false
theorem PI.beqs_eq:∀a b:List PI,PI.beqs a b=true→a=b
 |[],e,h=>by cases e<;>first|rfl|cases h
 |a::aa,e,h=>by
  cases e with
  |nil=>cases h
  |cons b bs=>simp only[PI.beqs,aq] at h;rw[PI.beq_eq _ _ h.1,PI.beqs_eq _ _ h.2]
end Cx
namespace Cx
open Go Go.RowKit
structure Lk where
 r:Nat
 o:List Nat
def Lk.or (a b:Lk):Lk:=⟨Nat.lor a.r b.r,a.o++b.o⟩
def Lk.none:Lk:=⟨0,[]⟩
def kJ:List (Nat×Bool)→Lk
 |[]=>.none
 |g::gs=>⟨Nat.lor (fU g.1) (kJ gs).r,(kJ gs).o⟩
mutual
def PE.lk:PE→Lk
 |.r t=>⟨fU t,[]⟩
 |.o j=>⟨0,[j]⟩
 |.con _=>.none
 |.cell e _|.sub e _ _|.nt e|.conv _ e|.llen e|.bytes e|.slen e|.mlen e|.ref e|.deref e|.tget e _=>PE.lk e
 |.setc x _ y|.ai _ _ x y|.ci _ x y|.cb _ x y|.cs _ x y|.sadd x y|.nth x y|.idx x y|.sidx x y|.sok x y|.app x y|.rep x y|.has x y|.mn x y|.mx x y|.an x y=>(PE.lk x).or (PE.lk y)
 |.mk es|.lst es|.tup es|.clo _ es=>PE.lks es
 |.pick x y z|.slc x y z|.slok x y z|.look x y z|.put x y z|.setn x y _ z=>(PE.lk x).or ((PE.lk y).or (PE.lk z))
 |.imp c x=>(kJ c).or (PE.lk x)
def PE.lks:List PE→Lk
 |[]=>.none
 |e::es=>(PE.lk e).or (PE.lks es)
end
structure Alike (k:Lk) (ρ ρ':Env):Prop where
 r:∀t,aO k.r t=true→ρ'.r t=ρ.r t
 o:∀j,j∈k.o→ρ'.o j=ρ.o j
theorem Alike.left {a b:Lk}{ρ ρ':Env}(h:Alike (a.or b) ρ ρ'):Alike a ρ ρ':=
 ⟨fun t ht=>h.r t (by simp only[Lk.or,fC,ht,zW]),fun j hj=>h.o j (jc _ hj)⟩
theorem Alike.right {a b:Lk}{ρ ρ':Env}(h:Alike (a.or b) ρ ρ'):Alike b ρ ρ':=
 ⟨fun t ht=>h.r t (by simp only[Lk.or,fC,ht,qe]),fun j hj=>h.o j (jA _ hj)⟩
theorem yD {ρ ρ':Env}:∀{c:List (Nat×Bool)},Alike (kJ c) ρ ρ'→holds c ρ'=holds c ρ
 |[],_=>rfl
 |g::gs,h=>by
  have ih:=yD (ρ:=ρ) (ρ':=ρ') (c:=gs) ⟨fun t ht=>h.r t (by simp only[kJ,fC,ht,qe]),fun j hj=>h.o j hj⟩;have h1:=h.r g.1 (by simp only[kJ,fC,oR,zW]);unfold holds at ih ⊢;simp only[oG];rw[ih,h1]
mutual
theorem PE.ev_alike {ρ ρ':Env}:∀(e:PE),Alike e.lk ρ ρ'→e.ev ρ'=e.ev ρ
 |.r t,h=>h.r t (oR t)
 |.o j,h=>h.o j (by simp[PE.lk])
 |.con _,h=>rfl
 |.cell e _,h=>by simp only[PE.ev,PE.ev_alike e h]
 |.sub e _ _,h=>by simp only[PE.ev,PE.ev_alike e h]
 |.nt e,h=>by simp only[PE.ev,PE.ev_alike e h]
 |.conv _ e,h=>by simp only[PE.ev,PE.ev_alike e h]
 |.llen e,h=>by simp only[PE.ev,PE.ev_alike e h]
 |.bytes e,h=>by simp only[PE.ev,PE.ev_alike e h]
 |.slen e,h=>by simp only[PE.ev,PE.ev_alike e h]
 |.mlen e,h=>by simp only[PE.ev,PE.ev_alike e h]
 |.ref e,h=>by simp only[PE.ev,PE.ev_alike e h]
 |.deref e,h=>by simp only[PE.ev,PE.ev_alike e h]
 |.tget e _,h=>by simp only[PE.ev,PE.ev_alike e h]
 |.setc x _ y,h=>by simp only[PE.ev,PE.ev_alike x h.left,PE.ev_alike y h.right]
 |.ai _ _ x y,h=>by simp only[PE.ev,PE.ev_alike x h.left,PE.ev_alike y h.right]
 |.ci _ x y,h=>by simp only[PE.ev,PE.ev_alike x h.left,PE.ev_alike y h.right]
 |.cb _ x y,h=>by simp only[PE.ev,PE.ev_alike x h.left,PE.ev_alike y h.right]
 |.cs _ x y,h=>by simp only[PE.ev,PE.ev_alike x h.left,PE.ev_alike y h.right]
 |.sadd x y,h=>by simp only[PE.ev,PE.ev_alike x h.left,PE.ev_alike y h.right]
 |.nth x y,h=>by simp only[PE.ev,PE.ev_alike x h.left,PE.ev_alike y h.right]
 |.idx x y,h=>by simp only[PE.ev,PE.ev_alike x h.left,PE.ev_alike y h.right]
 |.sidx x y,h=>by simp only[PE.ev,PE.ev_alike x h.left,PE.ev_alike y h.right]
 |.sok x y,h=>by simp only[PE.ev,PE.ev_alike x h.left,PE.ev_alike y h.right]
 |.app x y,h=>by simp only[PE.ev,PE.ev_alike x h.left,PE.ev_alike y h.right]
 |.rep x y,h=>by simp only[PE.ev,PE.ev_alike x h.left,PE.ev_alike y h.right]
 |.has x y,h=>by simp only[PE.ev,PE.ev_alike x h.left,PE.ev_alike y h.right]
 |.mn x y,h=>by simp only[PE.ev,PE.ev_alike x h.left,PE.ev_alike y h.right]
 |.mx x y,h=>by simp only[PE.ev,PE.ev_alike x h.left,PE.ev_alike y h.right]
 |.an x y,h=>by simp only[PE.ev,PE.ev_alike x h.left,PE.ev_alike y h.right]
 |.mk es,h=>by simp only[PE.ev,PE.evc_alike es h]
 |.lst es,h=>by simp only[PE.ev,PE.evs_alike es h]
 |.tup es,h=>by simp only[PE.ev,PE.evs_alike es h]
 |.clo _ es,h=>by simp only[PE.ev,PE.evs_alike es h]
 |.pick x y z,h=>by simp only[PE.ev,PE.ev_alike x h.left,PE.ev_alike y h.right.left,PE.ev_alike z h.right.right]
 |.slc x y z,h=>by simp only[PE.ev,PE.ev_alike x h.left,PE.ev_alike y h.right.left,PE.ev_alike z h.right.right]
 |.slok x y z,h=>by simp only[PE.ev,PE.ev_alike x h.left,PE.ev_alike y h.right.left,PE.ev_alike z h.right.right]
 |.look x y z,h=>by simp only[PE.ev,PE.ev_alike x h.left,PE.ev_alike y h.right.left,PE.ev_alike z h.right.right]
 |.put x y z,h=>by simp only[PE.ev,PE.ev_alike x h.left,PE.ev_alike y h.right.left,PE.ev_alike z h.right.right]
 |.setn x y _ z,h=>by simp only[PE.ev,PE.ev_alike x h.left,PE.ev_alike y h.right.left,PE.ev_alike z h.right.right]
 |.imp c x,h=>by simp only[PE.ev,yD h.left,PE.ev_alike x h.right]
theorem PE.evs_alike {ρ ρ':Env}:∀(es:List PE),Alike (PE.lks es) ρ ρ'→PE.evs ρ' es=PE.evs ρ es
 |[],h=>rfl
 |e::es,h=>by simp only[PE.evs,PE.ev_alike e h.left,PE.evs_alike es h.right]
theorem PE.evc_alike {ρ ρ':Env}:∀(es:List PE),Alike (PE.lks es) ρ ρ'→PE.evc ρ' es=PE.evc ρ es
 |[],h=>rfl
 |e::es,h=>by simp only[PE.evc,PE.ev_alike e h.left,PE.evc_alike es h.right]
end
def PI.lk:PI→Lk
 |.setR _ e|.setO _ e|.chk e=>e.lk
 |.call gs _ _ aa=>(kJ gs).or (PE.lks aa)
 |.callc gs _ e aa=>(kJ gs).or (e.lk.or (PE.lks aa))
 |.mcall _ _ aa=>PE.lks aa
inductive Eff where
 |skip
 |r (t:Nat) (d:D)
 |o (j:Nat) (d:D)
def Eff.app (ρ:Env):Eff→Env
 |.skip=>ρ
 |.r t d=>ρ.setR t d
 |.o j d=>ρ.setO j d
def PI.eff (Φ:aJ)(ρ:Env):PI→Option Eff
 |.setR t e=>some (.r t (e.ev ρ))
 |.setO j e=>some (.o j (e.ev ρ))
 |.chk e=>bif (e.ev ρ).b then some .skip else none
 |.call gs dst f args=>bif holds gs ρ then(Φ f (PE.evs ρ args)).map (.r dst) else some .skip
 |.callc gs dst e args=>bif holds gs ρ then(match e.ev ρ with|.clo f caps=>(Φ f (PE.evs ρ args++caps)).map (.r dst)|_=>none) else some .skip
 |.mcall j f args=>(Φ f (PE.evs ρ args)).map (.o j)
theorem PI.run_eff (Φ:aJ)(ρ:Env)(p:PI):p.run Φ ρ=(p.eff Φ ρ).map (Eff.app ρ):=by
 cases p with
 |setR t e=>rfl
 |setO t e=>rfl
 |chk e=>simp only[PI.run,PI.eff];cases(e.ev ρ).b<;>rfl
 |call gs d f aa=>
  simp only[PI.run,PI.eff];cases holds gs ρ
  ·rfl
  ·simp only[cond_true,Tc];rfl
 |callc gs d e aa=>
  simp only[PI.run,PI.eff];cases holds gs ρ
  ·rfl
  ·simp only[cond_true];cases e.ev ρ<;>first|rfl|(simp only[Tc];rfl)
 |mcall j f aa=>simp only[PI.run,PI.eff,Tc];rfl
theorem PI.eff_alike {Φ:aJ}{ρ ρ':Env}(p:PI)(h:Alike p.lk ρ ρ'):p.eff Φ ρ'=p.eff Φ ρ:=by
 cases p with
 |setR t e=>simp only[PI.eff,PE.ev_alike e h]
 |setO t e=>simp only[PI.eff,PE.ev_alike e h]
 |chk e=>simp only[PI.eff,PE.ev_alike e h]
 |call gs d f aa=>simp only[PI.eff,yD h.left,PE.evs_alike aa h.right]
 |callc gs d e aa=>simp only[PI.eff,yD h.left,PE.ev_alike e h.right.left,PE.evs_alike aa h.right.right]
 |mcall j f aa=>simp only[PI.eff,PE.evs_alike aa h]
def PI.wo:PI→List Nat
 |.setO j _|.mcall j _ _=>[j]
 |_=>[]
def Eff.within (m:Nat)(l:List Nat):Eff→Prop
 |.skip=>True
 |.r t _=>aO m t=true
 |.o j _=>j∈l
theorem PI.eff_within {Φ:aJ}{ρ:Env}{p:PI}{x:Eff}(h:p.eff Φ ρ=some x):x.within p.mask p.wo:=by
 cases p with
 |setR t e=>simp only[PI.eff,aT] at h;subst h;exact oR t
 |setO t e=>simp only[PI.eff,aT] at h;subst h;simp[Eff.within,PI.wo]
 |chk e=>simp only[PI.eff] at h;cases hb:(e.ev ρ).b<;>rw[hb] at h<;>cases h;trivial
 |call gs d f aa=>
  simp only[PI.eff] at h;cases hb:holds gs ρ<;>simp only[hb,cond_true,cond_false,aT,ax] at h
  ·subst h;trivial
  ·obtain⟨d,_,rfl⟩:=h;exact oR _
 |callc gs d e aa=>
  simp only[PI.eff] at h;cases hb:holds gs ρ<;>simp only[hb,cond_true,cond_false,aT] at h
  ·subst h;trivial
  ·split at h
   ·simp only[ax] at h;obtain⟨d,_,rfl⟩:=h;exact oR _
   ·cases h
 |mcall j f aa=>simp only[PI.eff,ax] at h;obtain⟨d,_,rfl⟩:=h;simp[Eff.within,PI.wo]
def Es (a b:List Nat):Bool:=a.all fun x=> !eJ b x
structure Foot where
 wr:Nat
 wo:List Nat
 k:Lk
def gi:List PI→Foot
 |[]=>⟨0,[],.none⟩
 |p::l=>⟨Nat.lor p.mask (gi l).wr,p.wo++(gi l).wo,p.lk.or (gi l).k⟩
def Foot.comm (a b:Foot):Bool:=
 Nat.beq (Nat.land a.wr b.wr) 0&&(Nat.beq (Nat.land a.wr b.k.r) 0&&(Nat.beq (Nat.land b.wr a.k.r) 0&&
    (Es a.wo b.wo&&(Es a.wo b.k.o&&Es b.wo a.k.o))))
theorem M5 {a b t:Nat}(h:Nat.beq (Nat.land a b) 0=true)(ha:aO a t=true)(hb:aO b t=true):False:=by
 have h1:=cX h;have h2:(a&&& b).testBit t=true:=by rw[Nat.testBit_and,←uc,←uc,ha,hb];rfl
 have h3:(a&&& b)=0:=h1;rw[h3] at h2;simp at h2
theorem JW {a b:List Nat}(h:Es a b=true){x:Nat}(ha:x∈a)(hb:x∈b):False:=by
 have:=df.1 h x ha;rw[(nX b x).2 hb] at this;cases this
structure Comm (p q:PI):Prop where
 ww:∀t,aO p.mask t=true→aO q.mask t=true→False
 wr:∀t,aO p.mask t=true→aO q.lk.r t=true→False
 rw:∀t,aO q.mask t=true→aO p.lk.r t=true→False
 oww:∀t,t∈p.wo→t∈q.wo→False
 owr:∀t,t∈p.wo→t∈q.lk.o→False
 orw:∀t,t∈q.wo→t∈p.lk.o→False
theorem Eff.alike {x:Eff}{m:Nat}{l:List Nat}{k:Lk}{ρ:Env}(h:x.within m l)(h1:∀t,aO m t=true→aO k.r t=true→False)(h2:∀t,t∈l→t∈k.o→False):Alike k ρ (x.app ρ):=by
 cases x with
 |skip=>exact⟨fun _ _=>rfl,fun _ _=>rfl⟩
 |r t d=>exact⟨fun u hu=>bq _ _ (fun e=>h1 t h (e▸hu)),fun _ _=>rfl⟩
 |o t d=>exact⟨fun _ _=>rfl,fun u hu=>bq _ _ (fun e=>h2 t h (e▸hu))⟩
theorem abi {α:Type}(f:Nat→α){i j:Nat}(x y:α)(h:i≠j):bV (bV f i x) j y=bV (bV f j y) i x:=by
 funext t;simp only[fg];by_cases h1:t=i
 ·subst h1;simp[h]
 ·simp[h1]
theorem Eff.comm {x y:Eff}{m m':Nat}{l l':List Nat}{ρ:Env}(hx:x.within m l)(hy:y.within m' l')(h1:∀t,aO m t=true→aO m' t=true→False)(h2:∀t,t∈l→t∈l'→False):
 y.app (x.app ρ)=x.app (y.app ρ):=by
 cases x with
 |skip=>rfl
 |r t d=>
  cases y with
  |skip=>rfl
  |r u e=>
   have az:t≠u:=fun e=>h1 t hx (by subst e;exact hy);show Env.setR (Env.setR ρ t d) u e=Env.setR (Env.setR ρ u e) t d;simp only[Env.setR];rw[abi _ _ _ az]
  |o u e=>rfl
 |o t d=>
  cases y with
  |skip=>rfl
  |r u e=>rfl
  |o u e=>
   have az:t≠u:=fun e=>h2 t hx (by subst e;exact hy);show Env.setO (Env.setO ρ t d) u e=Env.setO (Env.setO ρ u e) t d;simp only[Env.setO];rw[abi _ _ _ az]
theorem PI.comm {Φ:aJ}{p q:PI}(h:Comm p q)(ρ:Env):(p.run Φ ρ).bind (q.run Φ)=(q.run Φ ρ).bind (p.run Φ):=by
 simp only[PI.run_eff];cases hp:p.eff Φ ρ with
 |none=>
  cases hq:q.eff Φ ρ with
  |none=>rfl
  |some y=>
   have:=PI.eff_alike (Φ:=Φ) p (Eff.alike (ρ:=ρ) (PI.eff_within hq) h.rw h.orw);simp[PI.run_eff,this,hp]
 |some x=>
  have hx:=PI.eff_within hp;have e1:=PI.eff_alike (Φ:=Φ) q (Eff.alike (ρ:=ρ) hx h.wr h.owr);cases hq:q.eff Φ ρ with
  |none=>simp[PI.run_eff,e1,hq]
  |some y=>
   have hy:=PI.eff_within hq;have e2:=PI.eff_alike (Φ:=Φ) p (Eff.alike (ρ:=ρ) hy h.rw h.orw);simp only[jE,oL,PI.run_eff,e1,e2,hp,hq];rw[Eff.comm hx hy h.ww h.oww]
theorem PI.comm1 {Φ:aJ}{p:PI}:∀(l:List PI),(∀q,q∈l→Comm p q)→∀ρ,(p.run Φ ρ).bind (PI.runs Φ l)=(PI.runs Φ l ρ).bind (p.run Φ)
 |[],_,ρ=>by simp only[PI.runs];cases h:p.run Φ ρ<;>simp[h]
 |q::l,h,ρ=>by
  have ih:=PI.comm1 (Φ:=Φ) l fun q hq=>h q (ef _ hq);have hc:=PI.comm (Φ:=Φ) (h q (eC ..)) ρ;simp only[PI.runs];have e1:((p.run Φ ρ).bind fun ρ1=>(q.run Φ ρ1).bind (PI.runs Φ l))=((p.run Φ ρ).bind (q.run Φ)).bind (PI.runs Φ l):=by cases p.run Φ ρ<;>rfl
  show((p.run Φ ρ).bind fun ρ1=>(q.run Φ ρ1).bind (PI.runs Φ l))=_;rw[e1,hc];cases q.run Φ ρ with
  |none=>rfl
  |some ρ1=>simp only[oL];exact ih ρ1
theorem PI.comms {Φ:aJ}:∀(a b:List PI),(∀p q,p∈a→q∈b→Comm p q)→∀ρ,PI.runs Φ (a++b) ρ=PI.runs Φ (b++a) ρ
 |[],b,_,ρ=>by simp
 |p::a,b,h,ρ=>by
  have ih:=PI.comms (Φ:=Φ) a b fun p q hp hq=>h p q (ef _ hp) hq;have h1:=PI.comm1 (Φ:=Φ) b (fun q hq=>h p q (eC ..) hq);simp only[Eb,PI.runs,p5];have e1:((p.run Φ ρ).bind (PI.runs Φ (a++b)))=(p.run Φ ρ).bind (PI.runs Φ (b++a)):=by
   cases p.run Φ ρ with
   |none=>rfl
   |some ρ1=>exact ih ρ1
  rw[e1];have e2:PI.runs Φ (b++a)=fun ρ=>(PI.runs Φ b ρ).bind (PI.runs Φ a):=funext fun ρ=>p5;rw[e2];have e3:((p.run Φ ρ).bind fun ρ=>(PI.runs Φ b ρ).bind (PI.runs Φ a))=((p.run Φ ρ).bind (PI.runs Φ b)).bind (PI.runs Φ a):=by cases p.run Φ ρ<;>rfl
  rw[e3,h1 ρ];cases PI.runs Φ b ρ with
  |none=>rfl
  |some ρ1=>rfl
theorem UQ {l:List PI}{p:PI}(h:p∈l):(∀t,aO p.mask t=true→aO (gi l).wr t=true)∧(∀t,t∈p.wo→t∈(gi l).wo)∧(∀t,aO p.lk.r t=true→aO (gi l).k.r t=true)∧∀t,t∈p.lk.o→t∈(gi l).k.o:=by
 induction l with
 |nil=>cases h
 |cons q l ih=>
  rcases cG.1 h with e|h
  ·subst e;refine⟨fun t ht=>?_,fun t ht=>jc _ ht,fun t ht=>?_,fun t ht=>jc _ ht⟩
   ·simp only[gi,fC,ht,zW]
   ·simp only[gi,Lk.or,fC,ht,zW]
  ·obtain⟨h1,h2,h3,h4⟩:=ih h;refine⟨fun t ht=>?_,fun t ht=>jA _ (h2 t ht),fun t ht=>?_,fun t ht=>jA _ (h4 t ht)⟩
   ·simp only[gi,fC,h1 t ht,qe]
   ·simp only[gi,Lk.or,fC,h3 t ht,qe]
def iv (S:St)(dst:Nat)(S':St):Prop:=∀t,t≠dst→S'.r t=S.r t
section
variable {C:Ctx} {S:St} {gs:List (Nat×Bool)} {dst:Nat} {r:St×List PI}
theorem gI {X:St}{s:Sh}(h:X.r=S.r):iv S dst (X.setR dst s):=fun t ht=>by simp only[St.setR,bq _ _ ht,h]
theorem agu (S:St)(j:Nat):(S.fz j).r=S.r:=(F7 S j).2
theorem aeu {T:TypeId}{x:Operand}(h:A1 C S dst T x=some r):iv S dst r.1:=by
 unfold A1 at h;split at h
 ·simp only[ax] at h;obtain⟨e,_,rfl⟩:=h;exact gI rfl
 ·cases h
theorem aeA {T:TypeId}{x:Operand}(h:rY C S dst T x=some r):iv S dst r.1:=by
 unfold rY at h;split at h
 ·rename_i v;simp only[ar] at h;obtain⟨e,_,z,_,h⟩:=h;cases hc:iu e v<;>simp only[hc,cond_true,cond_false] at h<;>cases h;exact gI rfl
 ·cases h
theorem ad4 {T:TypeId}(h:AS C S dst T=some r):iv S dst r.1:=by
 unfold AS at h;split at h
 ·rename_i t inf ag _ _ _;cases hc:(rJ inf t&&(t.rowT||t.one))<;>simp only[hc,cond_true,cond_false] at h
  ·cases h
  ·simp only[ax] at h;obtain⟨e,_,rfl⟩:=h;exact gI rfl
 ·cases h
theorem ad8 {T:TypeId}{x:Operand}(h:AU C S dst T x=some r):iv S dst r.1:=by
 unfold AU at h;split at h
 ·rename_i t e ag _ _;cases hc:(t.rowT||t.one)<;>simp only[hc,cond_true,cond_false] at h<;>cases h;exact gI rfl
 ·cases h
theorem aeo {T:TypeId}{x:Option Operand}(h:AY C S dst T x=some r):iv S dst r.1:=by
 unfold AY at h;split at h
 ·simp only[ar,ax] at h;obtain⟨e,_,z,_,rfl⟩:=h;exact gI rfl
 ·cases h
theorem aew {T:TypeId}{x:Operand}(h:A2 C S dst T x=some r):iv S dst r.1:=by
 unfold A2 at h;split at h
 case h_2=>cases h
 rename_i K E j ver hT es;cases hb:(Nat.beq ver (S.ver j)&& !Nat.beq j dst)<;>simp only[hb,cond_true,cond_false] at h
 ·cases h
 split at h
 ·cases h;exact gI rfl
 ·cases h
theorem aec {T U:TypeId}{x:Operand}(h:AV C S dst T U x=some r):iv S dst r.1:=by
 unfold AV at h;split at h
 ·split at h
  ·cases h;exact gI rfl
  ·cases h
 ·cases h
theorem aeq {T:TypeId}{x y:Operand}(h:AZ C S dst T x y=some r):iv S dst r.1:=by
 unfold AZ at h;split at h
 ·rename_i E _ n _ m _ _ _;simp only[ar] at h;obtain⟨e,_,h⟩:=h;cases hc:oX C.P E e<;>simp only[hc,cond_true,cond_false] at h
  ·cases h
  ·simp only[ar] at h;obtain⟨z,_,h⟩:=h;cases LF:Ty.sub z.1 e<;>simp only[LF,cond_true,cond_false] at h<;>cases h;exact gI rfl
 ·cases h
theorem aea {T:TypeId}{n:Nat}{ps:List (Nat×Operand)}(h:uy C S gs dst T n ps=some r):iv S dst r.1:=by
 unfold uy at h;split at h
 ·simp only[ar] at h;obtain⟨e,_,z,_,h⟩:=h
  revert h
  generalize (_&&_:Bool)=b;intro h;cases b<;>simp only[cond_true,cond_false] at h
  ·cases h
  ·simp only[ax] at h;obtain⟨es,_,rfl⟩:=h;exact gI rfl
 ·cases h
theorem aem {T:TypeId}{n:Nat}{ps:List (Nat×Operand)}(h:xS C S gs dst T n ps=some r):iv S dst r.1:=by
 unfold xS at h;split at h
 ·simp only[ar] at h;obtain⟨e,_,h⟩:=h;split at h
  ·cases h;exact gI rfl
  ·cases h
 ·cases h
theorem ad6 {T:TypeId}{x y:Operand}(h:AT C S dst T x y=some r):iv S dst r.1:=by
 unfold AT at h;split at h
 ·rename_i E _;simp only[ar] at h;obtain⟨e,_,h⟩:=h;split at h
  ·rename_i tx ex _;cases hc:(oX C.P E e&&I9 tx e)<;>simp only[hc,cond_true,cond_false] at h
   ·cases h
   ·split at h
    ·cases h;exact gI rfl
    ·cases h
    ·split at h
     ·rename_i j ver _;cases hc:Nat.beq ver (S.ver j)<;>simp only[hc,cond_true,cond_false] at h
      ·cases h
      ·split at h
       ·rename_i E' e' _;cases hc:(Nat.beq E' E&&Ty.beq e' e)<;>simp only[hc,cond_true,cond_false] at h<;>cases h;exact gI rfl
       ·cases h
     ·cases h
  ·cases h
 ·cases h
theorem aei {f:Nat}{xs:List Operand}(h:AX C S dst f xs=some r):iv S dst r.1:=by
 simp only[AX,ar] at h;obtain⟨s,_,h⟩:=h;split at h
 ·rename_i T e _;simp only[ar] at h;obtain⟨u,_,h⟩:=h;cases hc:Ty.subs u.1 s.args<;>simp only[hc,cond_true,cond_false] at h<;>cases h;refine gI (X:=(bif e.pure then S else S.fzs (dA S [] xs)).newO dst (.row T e)) ?_;cases e.pure
  ·exact(pj _ S).2
  ·rfl
 ·cases h
theorem aek {f:Nat}{xs:List Operand}{q:St×Sh×List PI}(h:xQ C S gs dst f xs=some q):q.1.r=S.r:=by
 simp only[xQ,ar] at h;obtain⟨s,_,h⟩:=h;split at h
 ·simp only[ar] at h;obtain⟨u,_,h⟩:=h;cases hc:Ty.subs u.1 s.args<;>simp only[hc,cond_true,cond_false] at h<;>cases h;cases s.res.pure
  ·exact(pj _ S).2
  ·rfl
 ·cases h
theorem aee {x:Operand}{xs:List Operand}{q:St×Sh×List PI}(h:uz C S gs dst x xs=some q):q.1.r=S.r:=by
 unfold uz at h;split at h
 ·rename_i aa r0 _ _;split at h
  case h_1=>cases h
  simp only[ar] at h;obtain⟨u,_,h⟩:=h;cases hc:Ty.subs u.1 aa<;>simp only[hc,cond_true,cond_false] at h<;>cases h;cases r0.pure
  ·exact(pj _ S).2
  ·rfl
 ·cases h
theorem aey {T:TypeId}{x v:Operand}(h:A3 C S T x v=some r):r.1.r=S.r:=by
 unfold A3 at h;split at h
 case h_2=>cases h
 rename_i inf _;split at h
 ·rename_i j ver off _;cases hc:Nat.beq ver (S.ver j)<;>simp only[hc,cond_true,cond_false] at h
  ·cases h
  split at h
  case h_2=>cases h
  rename_i ag shs _;split at h
  ·revert h
   generalize (_&&_:Bool)=b;intro h;cases b<;>simp only[cond_true,cond_false] at h<;>cases h;rfl
  ·split at h
   ·revert h
    generalize (_&&_:Bool)=b;intro h;cases b<;>simp only[cond_true,cond_false] at h<;>cases h;rfl
   ·cases h
 ·rename_i j ver size off _;cases hc:Nat.beq ver (S.ver j)<;>simp only[hc,cond_true,cond_false] at h
  ·cases h
  split at h
  ·revert h
   generalize (_&&_:Bool)=b;intro h;cases b<;>simp only[cond_true,cond_false] at h<;>cases h;rfl
  ·revert h
   generalize (_&&_:Bool)=b;intro h;cases b<;>simp only[cond_true,cond_false] at h<;>cases h;rfl
  ·cases h
 ·cases h
theorem Ul {T:TypeId}{m k v:Operand}(h:xT C S T m k v=some r):r.1.r=S.r:=by
 unfold xT at h;split at h
 ·rename_i K _ j ver _ _;cases hc:Nat.beq ver (S.ver j)<;>simp only[hc,cond_true,cond_false] at h
  ·cases h
  split at h
  ·revert h
   generalize (_&&_:Bool)=b;intro h;cases b<;>simp only[cond_true,cond_false] at h<;>cases h;rfl
  ·cases h
 ·cases h
theorem aeg {f:Nat}{xs:List Operand}(h:AW C S dst f xs=some r):iv S dst r.1:=by
 simp only[AW,ar] at h;obtain⟨s,_,h⟩:=h;split at h
 case h_2=>cases h
 split at h
 case h_2=>cases h
 split at h
 case h_2=>cases h
 revert h
 generalize (_&&_:Bool)=b;intro h;cases b<;>simp only[cond_true,cond_false] at h
 ·cases h
 simp only[ar] at h;obtain⟨u,_,h⟩:=h
 revert h
 generalize Ty.subs _ _=b;intro h;cases b<;>simp only[cond_true,cond_false] at h
 ·cases h
 cases h;exact gI rfl
theorem KU {f:Nat}{xs:List Operand}{cs:List (Nat×Nat)}{q:St×Ty×List PI}(h:oV C S f xs cs=some q):q.1.r=S.r:=by
 simp only[oV,ar] at h;obtain⟨s,_,h⟩:=h;split at h
 ·rename_i shs obs _;unfold KT KS at h;simp only[ar] at h;obtain⟨u,_,h⟩:=h
  revert h
  generalize (_&&_:Bool)=b;intro h;cases b<;>simp only[cond_true,cond_false] at h<;>cases h;exact(pj _ S).2
 ·cases h
theorem Uh {t:Nat}{xs:List Operand}{q:St×Ty×List PI}(h:xR C S t xs=some q):q.1.r=S.r:=by
 unfold xR at h;split at h
 ·rename_i f caps _;cases hc:wT S caps<;>simp only[hc,cond_true,cond_false] at h
  ·cases h
  ·exact KU h
 ·cases h
theorem XM {dst:Nat}{q:St×Ty×List PI}(h:q.1.r=S.r):iv S dst (oc S (some dst) q).1:=gI h
theorem aes {fn:Fn}{a b:Array Operand}(h:A0 C S dst fn a b=some r):iv S dst r.1:=by
 unfold A0 at h;split at h
 case h_2=>cases h
 split at h
 case h_2=>cases h
 rename_i s _;cases hb:pE s.mode<;>simp only[hb,cond_true,cond_false] at h
 ·cases h
 simp only[ax] at h;obtain⟨c,_,rfl⟩:=h;exact gI rfl
theorem adK {o:Oper}(hr:core C S gs o=some r):∀t,o.dst≠some t→r.1.r t=S.r t:=by
 unfold core at hr;split at hr
 ·rename_i dst hd
  suffices h:iv S dst r.1 by
   intro t ht;exact h t (fun e=>ht (by rw[hd,e]))
  split at hr
  ·rename_i q hq;cases eG:Hx q.1<;>simp only[eG,cond_true,cond_false] at hr<;>cases hr;exact gI rfl
  ·split at hr
   ·rename_i x e _
    have mv:∀r,(match vF C S [] dst x with|some r=>some (S.setR dst r.1,r.2)|none=>rY C S dst o.type x)=some r→iv S dst r.1:=by
     intro r hr;split at hr
     ·cases hr;exact gI rfl
     ·exact aeA hr
    cases dB:C.fr.any (Nat.beq dst)<;>simp only[dB,cond_true,cond_false] at hr
    ·split at hr
     ·rename_i q hq;cases hr;exact aeu hq
     ·exact mv r hr
    ·exact mv r hr
   ·exact ad4 hr
   ·exact ad8 hr
   ·split at hr
    ·exact aea hr
    ·exact aem hr
   ·exact aeq hr
   ·exact aeo hr
   ·exact aew hr
   ·exact aec hr
   ·rename_i c e;split at hr
    ·split at hr
     ·rename_i s x T T' _ _;cases hT:Nat.beq T T'<;>simp only[hT,cond_true,cond_false] at hr
      ·cases hr
      ·exact ad6 hr
     ·cases hr
    ·split at hr
     ·rename_i q hq;cases hr;exact gI (aek hq)
     ·split at hr
      ·split at hr
       ·rename_i q hq;cases hr;exact aei hq
       ·split at hr
        ·rename_i q hq;cases hr;exact aeg hq
        ·simp only[ax] at hr;obtain⟨q,hq,rfl⟩:=hr;exact XM (KU hq)
      ·cases hr
    ·split at hr
     ·rename_i q hq;cases hr;exact gI (aee hq)
     ·split at hr
      ·simp only[ax] at hr;obtain⟨q,hq,rfl⟩:=hr;exact XM (Uh hq)
      ·cases hr
    ·cases hr
   ·exact aes hr
   ·cases hr
 ·split at hr
  ·intro t _;rw[aey hr]
  ·intro t _;rw[Ul hr]
  ·intro t _;rw[Ul hr]
  ·cases hr;intro t _;rfl
  ·intro t _;split at hr
   ·simp only[ax] at hr;obtain⟨q,hq,rfl⟩:=hr;simp only[oc,KU hq]
   ·simp only[ax] at hr;obtain⟨q,hq,rfl⟩:=hr;simp only[oc,Uh hq]
   ·cases hr
  ·cases hr
theorem agw {g:Gh}(hr:g.run C S=some r):∀t,(∀u j,g=.rereg u j→t≠u)→r.1.r t=S.r t:=by
 intro t ht;cases g with
 |fz j=>simp only[Gh.run,aT] at hr;subst hr;rw[agu]
 |fbox b=>
  simp only[Gh.run,Bh] at hr;split at hr
  case h_2=>cases hr
  rename_i ag shs _;simp only[ar] at hr;obtain⟨x,_,hr⟩:=hr;cases ag<;>simp only[cond_true,cond_false] at hr
  ·split at hr
   ·cases hr;rfl
   ·cases hr
  ·cases hr;rfl
 |rereg u j=>
  simp only[Gh.run,DH] at hr;split at hr
  ·revert hr
   generalize (_&&_:Bool)=b;intro hr;cases b<;>simp only[cond_true,cond_false] at hr<;>cases hr
   ·rfl
   ·simp only[St.setR,bq _ _ (ht u j rfl)];rfl
  ·cases hr;rfl
 |recell b i j=>
  simp only[Gh.run,DG] at hr;split at hr
  ·split at hr
   ·revert hr
    generalize (_&&_:Bool)=b;intro hr;cases b<;>simp only[cond_true,cond_false] at hr<;>cases hr<;>rfl
   ·cases hr;rfl
  ·cases hr;rfl
 |home b i j T=>
  simp only[Gh.run,B1] at hr;split at hr
  ·split at hr
   ·revert hr
    generalize (!_:Bool)=b;intro hr;cases b<;>simp only[cond_true,cond_false] at hr<;>cases hr<;>rfl
   ·cases hr;rfl
  ·cases hr;rfl
theorem Li:∀(l:List Gh) {S:St} {r:St×List PI},lG C l S=some r→∀t,(∀g u j,g∈l→g=.rereg u j→t≠u)→r.1.r t=S.r t
 |[],S,r,hr,t,_=>by simp only[lG,aT] at hr;subst hr;rfl
 |g::l,S,r,hr,t,ht=>by
  simp only[lG,ar,ax] at hr;obtain⟨q,hq,q2,gV,rfl⟩:=hr;have h1:=Li l gV t (fun g u j hg=>ht g u j (ef _ hg));have h2:=agw hq t (fun u j e=>ht g u j (eC ..) e);exact h1.trans h2
theorem anA (S:St)(gs:List (Nat×Bool))(o:Oper):∀g u j,g∈pre C S gs o.op++OI C S gs o→g≠.rereg u j:=by
 intro g u j hg e;subst e;rw[dg] at hg;rcases hg with hg|hg
 ·unfold pre at hg;split at hg
  ·rename_i fn _ _ _;cases ho:XL C fn<;>simp only[ho,cond_true,cond_false] at hg
   case true=>cases hg
   obtain⟨b,_,hb⟩:=Eg.1 hg;rw[dg] at hb;rcases hb with hb|hb
   ·split at hb
    ·obtain⟨_,_,h⟩:=cZ.1 hb;cases h
    ·cases hb
   ·simp at hb
  ·split at hg
   ·replace hg:=amk hg
    split at hg
    ·obtain⟨_,_,h⟩:=cZ.1 hg;cases h
    ·cases hg
   ·cases hg
  ·obtain⟨_,_,h⟩:=cZ.1 hg;cases h
 ·unfold OI at hg;split at hg
  ·rename_i x t _ _;cases hc:C.fr.any (Nat.beq t)<;>simp only[hc,cond_true,cond_false] at hg
   ·cases hg
   ·obtain⟨_,_,h⟩:=cZ.1 hg;cases h
  ·cases hg
theorem anx (S:St)(o:Oper):∀g u j,g∈post C S o→g=.rereg u j→o.dst=some u:=by
 intro g u j hg e;subst e;unfold post at hg;split at hg
 ·rename_i t _ hd;simp at hg;rw[hd,hg.1]
 ·unfold Hd homes at hg;have:=(eO.1 hg).1;obtain⟨x,_,hx⟩:=wO.1 this;cases mJ:x.1<;>rw[mJ] at hx<;>simp at hx
 ·split at hg
  ·rw[dg] at hg;rcases hg with hg|hg
   ·unfold Hd homes at hg;have:=(eO.1 hg).1;obtain⟨x,_,hx⟩:=wO.1 this;cases mJ:x.1<;>rw[mJ] at hx<;>simp at hx
   ·unfold aaz at hg;obtain⟨_,_,h⟩:=cZ.1 hg;cases h
  ·cases hg
 ·cases hg
theorem adA {ops:Array Oper}{o:Oper}(hr:AO C S ops o=some r):∀t,o.dst≠some t→r.1.r t=S.r t:=by
 intro t ht;unfold AO at hr;split at hr
 ·rename_i q hq;cases hr;simp only[FQ,ar] at hq;obtain⟨gs,_,r1,h1,r2,h2,r3,h3,hq⟩:=hq
  revert hq
  generalize Gc gs o.dst r2.2=b;intro hq;cases b<;>simp only[cond_true,cond_false] at hq<;>cases hq;have e1:=Li _ h1 t (fun g u j hg e=>absurd e (anA S gs o g u j hg));have e2:=adK h2 t ht
  have e3:=Li _ h3 t (fun g u j hg e=>by
   have:=anx r2.1 o g u j hg e;intro e';subst e';exact ht this)
  exact e3.trans (e2.trans e1)
 ·cases hr;split
  ·rename_i d hd;simp only[St.setR];rw[bq];intro e;subst e;exact ht hd
  ·rfl
theorem T7 {ops:Array Oper}{o:Oper}(hr:uw C S ops o=some r):∀t,o.dst≠some t→r.1.r t=S.r t:=by
 intro t ht;unfold uw at hr;split at hr
 ·rename_i q hq;cases hr;unfold FU at hq;split at hq
  case h_2=>cases hq
  rename_i dst _ args _ _ _ hd _ _;simp only[ar] at hq;obtain⟨gs,_,hq⟩:=hq;split at hq
  case h_2=>cases hq
  split at hq
  case h_2=>cases hq
  simp only[ar] at hq;obtain⟨u,_,hq⟩:=hq;rw[ng] at hq;split at hq<;>cases hq;simp only[St.setR];rw[bq,(pj _ S).2];intro e;subst e;exact ht hd
 ·exact adA hr t ht
theorem T9 {ops:Array Oper}:∀{l:List Nat} {S:St} {r:St×List PI},rV C ops l S=some r→∀t,(∀i o,i∈l→ops[i]?=some o→o.dst≠some t)→r.1.r t=S.r t
 |[],S,r,h,t,_=>by simp only[rV,aT] at h;subst h;rfl
 |i::l,S,r,h,t,ht=>by
  simp only[rV] at h;split at h
  ·rename_i o ho;simp only[ar,ax] at h;obtain⟨q,hq,q2,gV,rfl⟩:=h;exact(T9 gV t fun j o hj=>ht j o (ef _ hj)).trans (T7 hq t (ht i o (eC ..) ho))
  ·cases h
end
end Cx
namespace Cx
open Go Go.RowKit
def jS (S:St):Sh→Sh
 |.opt gs s=>.opt gs (fX S s)
 |s=>fX S s
def St.snapO (n:Nat)(ids:List Nat)(S:St):Snap:=⟨(List.range n).map fun t=>jS S (S.r t),ids.map fun j=>hZ S (S.o j)⟩
def Snap.stO (ids:List Nat)(s:Snap):St:=⟨fun t=>s.rs.getD t .none,fun j=>cW ids s.os j,fun _=>0⟩
theorem pK (S:St)(s:Sh):∀gs s',fX S s≠.opt gs s':=by
 intro gs s' e;cases s<;>simp only[fX] at e<;>first|cases e|(revert e;cases Nat.beq _ _<;>intro e<;>cases e)|(revert e;cases List.all _ _<;>intro e<;>cases e)
section
variable {C:Ctx} {S:St} {ρ:Env} {σ:Im} {own:Nat→Option Nat} {hv:Nat→Value} {w0:World} {σ0:Base} {A:Nat→Prop} {a:Act} {w:World} {n:Nat} {ids:List Nat} {Φ:aJ}
theorem amz {s:Sh}{v:Value}{d:D}(h:aF C S ρ σ hv s v d){T:St}(hT:T.ver=fun _=>0):aF C T ρ σ hv (jS S s) v d:=by
 have hc:Compat S.norm hv T hv:=⟨fun j=>by rw[hT];exact np _,fun _ _=>rfl⟩
 have key:∀s,aF C S ρ σ hv s v d→aF C T ρ σ hv (fX S s) v d:=fun s hs=>aF.mono' (.refl σ) hc (pK S s) (Hw hs).1;cases s with
 |opt gs s=>exact⟨fun hh=>key s (h.1 hh),h.2⟩
 |_=>exact key _ h
theorem Good.snapO (h:Good C w0 σ0 S ρ A a w)(n:Nat)(ids:List Nat):Good C w0 σ0 ((S.snapO n ids).stO ids) ρ A a w:=by
 obtain⟨σ,own,hv,h⟩:=h;have h1:=h.norm;have hc:Compat S.norm hv ((S.snapO n ids).stO ids) hv:=⟨fun _=>aU _,fun _ _=>rfl⟩
 refine⟨σ,own,hv,h.defers,h.ok,h.le,h.old,h.newc,h.newm,h.below,h.bw,h.owns,fun t=>?_,fun j=>?_,fun t gs s e=>?_,?_⟩
 rotate_right
 ·obtain⟨t,fx,cx,f1,f5⟩:=h.frame;refine⟨t,fx,cx,f1,fun j hj=>f5 j ?_⟩;exact vt (fun j=>hZ S (S.o j)) (fun ob=>ob=.tr→S.o j=.tr) (fun e=>by cases e) j XI ids hj
 ·show aF C _ ρ σ hv (((List.range n).map fun t=>jS S (S.r t)).getD t .none) _ _;rw[aI,cl];by_cases ht:t<n
  ·rw[oI ht];exact amz (h.regs t) rfl
  ·rw[ls (by simpa using ht)];trivial
 ·have ho:=(h1.objs j).mono (.refl σ) hc (w:=w) (w':=w) rfl rfl (fun k hk=>⟨hk,rfl⟩);exact vt (fun j=>hZ S (S.o j)) (fun ob=>bW C _ ρ σ own hv w w0.heap.size j ob) trivial j ho ids
 ·change ((List.range n).map fun t=>jS S (S.r t)).getD t .none=.opt gs s at e;rw[aI,cl] at e;by_cases ht:t<n
  ·rw[oI ht] at e;simp only[jE,ly] at e;cases hs:S.r t with
   |opt bJ s'=>
    rw[hs] at e;simp only[jS,Sh.opt.injEq] at e;obtain⟨rfl,rfl⟩:=e;exact⟨(h.opts t bJ s' hs).1,pK S s'⟩
   |none=>rw[hs] at e;exact absurd e (pK S .none gs s)
   |yv=>rw[hs] at e;exact absurd e (pK S .yv gs s)
   |fclo f c=>rw[hs] at e;exact absurd e (pK S (.fclo f c) gs s)
   |agg l=>rw[hs] at e;exact absurd e (pK S (.agg l) gs s)
   |dat t=>rw[hs] at e;exact absurd e (pK S (.dat t) gs s)
   |obj t u=>rw[hs] at e;exact absurd e (pK S (.obj t u) gs s)
   |ptr t u v=>rw[hs] at e;exact absurd e (pK S (.ptr t u v) gs s)
   |eptr t u v x=>rw[hs] at e;exact absurd e (pK S (.eptr t u v x) gs s)
  ·rw[ls (by simpa using ht)] at e;cases e
theorem Good.snapF (h:Good C w0 σ0 S ρ A a w)(n:Nat)(ids:List Nat):Good C w0 σ0 ((S.snap n ids).st ids) ρ (fun _=>False) a w:=by
 obtain⟨σ,own,hv,h⟩:=h;exact⟨σ,own,hv,h.snap n ids⟩
theorem Good.drew (h:Good C w0 σ0 S ρ A a w):Good C w0 σ0 S ρ A a {w with drawn:=w.drawn+1}:=by
 obtain⟨σ,own,hv,h⟩:=h;refine⟨σ,own,hv,h.defers,⟨fun k o v e=>h.ok.c k o v e,fun k es e=>h.ok.m k es e⟩,h.le,h.old,h.newc,h.newm,h.below.drew,h.bw,h.owns,h.regs,fun j=>?_,h.opts,?_⟩
 rotate_right
 ·obtain⟨t,fx,cx,f1,f2⟩:=h.frame;exact⟨t,fx,cx,⟨σ0.keep _ _ _ _ _ f1.F (Below.drew (.refl _ _)) (fun _ _=>rfl),f1.own,f1.c,f1.m,f1.d⟩,f2⟩
 exact(h.objs j).mono (.refl σ) (.refl S hv) rfl rfl (fun k hk=>⟨hk,rfl⟩)
end
def zG (g:Sh→Sh)(S:St)(rs:List Sh)(ds:List Nat):List Sh:=(ds.foldl (fun l d=>l.set d (S.r d)) rs).map g
theorem UP (S:St):∀(ds:List Nat) (rs:List Sh),(ds.foldl (fun l d=>l.set d (S.r d)) rs).length=rs.length∧∀t,t<rs.length→(ds.foldl (fun l d=>l.set d (S.r d)) rs).getD t .none=if t∈ds then S.r t else rs.getD t .none
 |[],rs=>⟨rfl,fun t _=>by simp⟩
 |d::ds,rs=>by
  obtain⟨h1,h2⟩:=UP S ds (rs.set d (S.r d));simp only[List.length_set] at h1 h2;refine⟨h1,fun t ht=>?_⟩;rw[Ee,h2 t ht];simp only[cG,aI,Ab];by_cases hm:t∈ds
  ·simp[hm]
  ·by_cases e:d=t
   ·subst e;simp[hm,ht]
   ·have e':¬t=d:=fun h=>e h.symm;simp[hm,e,e']
theorem I8 {g:Sh→Sh}{S:St}{rs:List Sh}{ds:List Nat}(h:∀t,t∉ds→g (rs.getD t .none)=g (S.r t)):zG g S rs ds=(List.range rs.length).map fun t=>g (S.r t):=by
 obtain⟨h1,h2⟩:=UP S ds rs;unfold zG;apply Ec;intro t;simp only[cl];by_cases ht:t<rs.length
 ·have:=h2 t ht;rw[aI,be (by omega)] at this;rw[be (by omega),oI ht];simp only[ly,jE] at this ⊢;rw[this];by_cases hm:t∈ds
  ·simp[hm]
  ·simp only[hm,if_false];rw[h t hm]
 ·rw[ls (by omega),ls (by simpa using ht)];rfl
def Sh.hd {α:Type}(s:Sh)(k:Sh→α):α:=
 match s with
 |.none=>k .none
 |.dat t=>k (.dat t)
 |.obj j v=>k (.obj j v)
 |.ptr j v o=>k (.ptr j v o)
 |.eptr j v z o=>k (.eptr j v z o)
 |.opt gs s=>k (.opt gs s)
 |.yv=>k .yv
 |.fclo f c=>k (.fclo f c)
 |.agg l=>k (.agg l)
theorem Sh.hd_eq {α:Type}(s:Sh)(k:Sh→α):s.hd k=k s:=by cases s<;>rfl
def yk {α:Type}:List Sh→(List Sh→α)→α
 |[],k=>k []
 |s::l,k=>s.hd fun s=>yk l fun l=>k (s::l)
theorem Lx {α:Type}:∀(l:List Sh) (k:List Sh→α),yk l k=k l
 |[],_=>rfl
 |s::l,k=>by rw[yk,Sh.hd_eq,Lx l]
def Ob.hd {α:Type}(s:Ob)(k:Ob→α):α:=
 match s with
 |.dead=>k .dead
 |.fz t=>k (.fz t)
 |.fbox t=>k (.fbox t)
 |.box true l=>yk l fun l=>k (.box true l)
 |.box false l=>yk l fun l=>k (.box false l)
 |.row T e=>k (.row T e)
 |.mp a b=>k (.mp a b)
 |.it a b=>k (.it a b)
 |.tr=>k .tr
theorem Ob.hd_eq {α:Type}(s:Ob)(k:Ob→α):s.hd k=k s:=by
 cases s with
 |box ag l=>cases ag<;>simp only[Ob.hd,Lx]
 |_=>rfl
def Gp {α:Type}:List Ob→(List Ob→α)→α
 |[],k=>k []
 |s::l,k=>s.hd fun s=>Gp l fun l=>k (s::l)
theorem Vf {α:Type}:∀(l:List Ob) (k:List Ob→α),Gp l k=k l
 |[],_=>rfl
 |s::l,k=>by rw[Gp,Ob.hd_eq,Vf l]
def Snap.hard {α:Type}(s:Snap)(k:Snap→α):α:=yk s.rs fun a=>Gp s.os fun b=>k ⟨a,b⟩
theorem Snap.hard_eq {α:Type}(s:Snap)(k:Snap→α):s.hard k=k s:=by rw[Snap.hard,Lx,Vf]
def Gq {α β:Type}:List β→(List β→α)→α
 |[],k=>k []
 |s::l,k=>Gq l fun l=>k (s::l)
theorem Vh {α β:Type}:∀(l:List β) (k:List β→α),Gq l k=k l
 |[],_=>rfl
 |s::l,k=>by rw[Gq,Vh l]
def Bt {α β:Type}:List (List β)→(List (List β)→α)→α
 |[],k=>k []
 |s::l,k=>Gq s fun s=>Bt l fun l=>k (s::l)
theorem Vg {α β:Type}:∀(l:List (List β)) (k:List (List β)→α),Bt l k=k l
 |[],_=>rfl
 |s::l,k=>by rw[Bt,Vh,Vg l]
def ay (P:Program){α:Type}(s:Sem α):Prop:=(∃a,∀w,s.run P w=.ok a w)∨∀w,∃h w',s.run P w=.halt h w'
section
variable {P:Program}
theorem ay.pure {α:Type}(a:α):ay P (Sem.pure a):=.inl ⟨a,fun w=>rfl⟩
theorem ay.pure' {α:Type}(a:α):ay P (Pure.pure a:Sem α):=.inl ⟨a,fun w=>rfl⟩
theorem ay.halt {α:Type}(h:Halt):ay P (Sem.halt h:Sem α):=.inr fun w=>⟨h,w,rfl⟩
theorem ay.bind' {α β:Type}{s:Sem α}{f:α→Sem β}(h:ay P s)(hf:∀a,(∀w,s.run P w=.ok a w)→ay P (f a)):ay P (s>>=f):=by
 rcases h with⟨a,ha⟩|hd
 ·rcases hf a ha with⟨b,hb⟩|hd
  ·exact .inl ⟨b,fun w=>by rw[Sem.run_bind,ha w];exact hb w⟩
  ·refine .inr fun w=>?_;obtain⟨x,w',e⟩:=hd w;exact⟨x,w',by rw[Sem.run_bind,ha w];exact e⟩
 ·refine .inr fun w=>?_;obtain⟨x,w',e⟩:=hd w;exact⟨x,w',by rw[Sem.run_bind,e];rfl⟩
theorem ay.bind {α β:Type}{s:Sem α}{f:α→Sem β}(h:ay P s)(hf:∀a,ay P (f a)):ay P (s>>=f):=h.bind' fun a _=>hf a
def cd {α:Type}(s:Sem α):Prop:=∀P w,∃h w',s.run P w=.halt h w'
theorem cd.noW {α:Type}{s:Sem α}(h:cd s):ay P s:=.inr (h P)
theorem cd.halt {α:Type}(h:Halt):cd (Sem.halt h:Sem α):=fun P w=>⟨h,w,rfl⟩
theorem cd.of_bind {α β:Type}{s:Sem α}{f:α→Sem β}(hf:∀a,cd (f a)):cd (s>>=f):=by
 intro P w;rw[Sem.run_bind];cases e:s.run P w with
 |ok a w'=>exact hf a P w'
 |halt h w'=>exact⟨h,w',rfl⟩
theorem ay.asBool (v:Value):ay P (Go.asBool v):=by
 cases v<;>first|exact .pure _|exact .halt _
theorem ay.asIntOf (v:Value):ay P (Go.asIntOf v):=by
 unfold Go.asIntOf;split<;>first|exact .pure _|exact .halt _
theorem ay.sureAddr (v:Value):ay P (Instr.sureAddr v):=by
 unfold Instr.sureAddr;split<;>first|exact .pure _|exact .halt _
theorem ay.prog:ay P Go.program:=.inl ⟨P,fun w=>rfl⟩
theorem ay.underlying (t:TypeId):ay P (Go.underlying t):=by
 unfold Go.underlying;refine .bind .prog fun p=>?_;split<;>first|exact .pure _|exact .halt _
theorem ay.sizeOf (t:TypeId):ay P (Go.sizeOf t):=by
 unfold Go.sizeOf Go.typeInfo;refine .bind (.bind .prog fun p=>?_) fun _=>.pure _;split<;>first|exact .pure _|exact .halt _
theorem cd.runtimePanic {α:Type}(e:RuntimeError):cd (Go.runtimePanic e:Sem α):=by
 unfold Go.runtimePanic;refine .of_bind fun p=>?_;cases e<;>first|exact .halt _|exact .of_bind fun _=>.halt _|exact .of_bind fun _=>.of_bind fun _=>.halt _
theorem cd.boundsPanic {α:Type}(k:IntKind)(x y:Int)(c:BoundsCode):cd (Go.boundsPanic k x y c:Sem α):=by
 unfold Go.boundsPanic;dsimp only;split<;>exact .of_bind fun _=>.runtimePanic _
theorem ay.indexAt (t:TypeId)(x i:Value):ay P (Instr.indexAt t x i):=by
 unfold Instr.indexAt
 repeat' (first|(first|exact ay.pure _|exact ay.pure' _|exact ay.halt _|exact cd.noW (cd.boundsPanic _ _ _ _)|exact cd.noW (cd.runtimePanic _)|exact ay.prog|exact ay.underlying _|exact ay.sizeOf _|exact ay.asIntOf _|exact ay.sureAddr _|exact ay.asBool _)|(refine ay.bind ?_ fun _=>?_)|dsimp only|split)
theorem ay.sliceBound (x:Value)(y:Nat)(c:BoundsCode):ay P (Instr.sliceBound x y c):=by
 unfold Instr.sliceBound
 repeat' (first|(first|exact ay.pure _|exact ay.pure' _|exact ay.halt _|exact cd.noW (cd.boundsPanic _ _ _ _)|exact cd.noW (cd.runtimePanic _)|exact ay.prog|exact ay.underlying _|exact ay.sizeOf _|exact ay.asIntOf _|exact ay.sureAddr _|exact ay.asBool _)|(refine ay.bind ?_ fun _=>?_)|dsimp only|split)
theorem ay.sliceBounds (b:Bool)(n m:Nat)(lo hi mx:Option Value):ay P (Instr.sliceBounds b n m lo hi mx):=by
 unfold Instr.sliceBounds
 repeat' (first|exact ay.sliceBound _ _ _|(first|exact ay.pure _|exact ay.pure' _|exact ay.halt _|exact cd.noW (cd.boundsPanic _ _ _ _)|exact cd.noW (cd.runtimePanic _)|exact ay.prog|exact ay.underlying _|exact ay.sizeOf _|exact ay.asIntOf _|exact ay.sureAddr _|exact ay.asBool _)|(refine ay.bind ?_ fun _=>?_)|dsimp only|split)
theorem ay.asAddr (v:Value):ay P (Go.asAddr v):=by
 unfold Go.asAddr
 repeat' (first|(first|exact ay.pure _|exact ay.pure' _|exact ay.halt _|exact cd.noW (cd.boundsPanic _ _ _ _)|exact cd.noW (cd.runtimePanic _)|exact ay.prog|exact ay.underlying _|exact ay.sizeOf _|exact ay.asIntOf _|exact ay.sureAddr _|exact ay.asBool _)|(refine ay.bind ?_ fun _=>?_)|dsimp only|split)
theorem ay.slice (t:TypeId)(x:Value)(lo hi mx:Option Value):ay P (Instr.slice t x lo hi mx):=by
 unfold Instr.slice
 repeat' (first|exact ay.sliceBounds _ _ _ _ _ _|exact ay.asAddr _|(first|exact ay.pure _|exact ay.pure' _|exact ay.halt _|exact cd.noW (cd.boundsPanic _ _ _ _)|exact cd.noW (cd.runtimePanic _)|exact ay.prog|exact ay.underlying _|exact ay.sizeOf _|exact ay.asIntOf _|exact ay.sureAddr _|exact ay.asBool _)|(refine ay.bind ?_ fun _=>?_)|dsimp only|split)
theorem ay.sliceAt (t:TypeId)(x:Value)(lo hi mx:Option Value):ay P (Instr.sliceAt t x lo hi mx):=by
 unfold Instr.sliceAt
 repeat' (first|exact ay.sliceBounds _ _ _ _ _ _|exact ay.slice _ _ _ _ _|(first|exact ay.pure _|exact ay.pure' _|exact ay.halt _|exact cd.noW (cd.boundsPanic _ _ _ _)|exact cd.noW (cd.runtimePanic _)|exact ay.prog|exact ay.underlying _|exact ay.sizeOf _|exact ay.asIntOf _|exact ay.sureAddr _|exact ay.asBool _)|(refine ay.bind ?_ fun _=>?_)|dsimp only|split)
def Qh (P:Program)(s:TypeId)(i:Nat):Bool:=
 match P.underlying s with
 |some (.struct fs)=>(match fs[i]? with
  |some f=>(match P.info? f.type with|some d=> !Nat.beq d.size 0|none=>false)
  |none=>false)
 |_=>false
theorem ay.fieldAt {s:TypeId}{i:Nat}(h:Qh P s i=true)(a:Value):ay P (Instr.fieldAt s a i):=by
 unfold Instr.fieldAt;refine .bind' (.underlying _) fun d hd=>?_;have hu:P.underlying s=some d:=by
  have:=hd default;unfold Go.underlying at this;rw[Sem.run_bind] at this;change Result.andThen (.ok P default) _=_ at this;simp only[Result.andThen_ok] at this;cases hp:P.underlying s with
  |none=>rw[hp] at this;cases this
  |some d'=>
   rw[hp] at this;change Result.ok d' default=_ at this;cases this;rfl
 unfold Qh at h;rw[hu] at h;cases d<;>dsimp only at h ⊢<;>try (first|exact ay.pure _|exact ay.pure' _|exact ay.halt _|exact cd.noW (cd.boundsPanic _ _ _ _)|exact cd.noW (cd.runtimePanic _)|exact ay.prog|exact ay.underlying _|exact ay.sizeOf _|exact ay.asIntOf _|exact ay.sureAddr _|exact ay.asBool _)
 rename_i fs;cases hf:fs[i]? with
 |none=>dsimp only;(first|exact ay.pure _|exact ay.pure' _|exact ay.halt _|exact cd.noW (cd.boundsPanic _ _ _ _)|exact cd.noW (cd.runtimePanic _)|exact ay.prog|exact ay.underlying _|exact ay.sizeOf _|exact ay.asIntOf _|exact ay.sureAddr _|exact ay.asBool _)
 |some f=>
  rw[hf] at h;dsimp only at h ⊢;refine .bind (.sureAddr _) fun a=>.bind ?_ fun _=>.pure _;unfold Go.fieldPlace;refine .bind' (.sizeOf _) fun n hn=>?_;have hz:n≠0:=by
   intro e;have:=hn default;unfold Go.sizeOf Go.typeInfo at this;cases hi:P.info? f.type with
   |none=>rw[hi] at h;cases h
   |some inf=>
    rw[hi] at h;rw[Sem.run_bind,Sem.run_bind] at this;change Result.andThen (Result.andThen (.ok P default) _) _=_ at this;simp only[Result.andThen_ok,hi] at this;change Result.ok inf.size default=_ at this;cases this;dsimp only at h;rw[e] at h;cases h
  rw[if_neg hz]
  (first|exact ay.pure _|exact ay.pure' _|exact ay.halt _|exact cd.noW (cd.boundsPanic _ _ _ _)|exact cd.noW (cd.runtimePanic _)|exact ay.prog|exact ay.underlying _|exact ay.sizeOf _|exact ay.asIntOf _|exact ay.sureAddr _|exact ay.asBool _)
def CP (P:Program):Op→Bool
 |.move _=>true
 |.assign _=>true
 |.pick ..=>true
 |.fieldAddr s _ i=>Qh P s i
 |.indexAddr ..=>true
 |.slice ..=>true
 |_=>false
theorem anE {o:Oper}(hp:CP P o.op=true)(ρ:Operand→Value):(∃v,∀w,(execOp ρ o).run P w=.ok (.value v) w)∨∀w,∃h w',(execOp ρ o).run P w=.halt h w':=by
 have key:∀s:Sem Value,ay P s→(∃v,∀w,(do Pure.pure (Next.value (←s)):Sem Next).run P w=.ok (.value v) w)∨∀w,∃h w',(do Pure.pure (Next.value (←s)):Sem Next).run P w=.halt h w':=by
  intro s hs;rcases hs with⟨a,ha⟩|hd
  ·exact .inl ⟨a,fun w=>by rw[Sem.run_bind,ha w];rfl⟩
  ·refine .inr fun w=>?_;obtain⟨x,w',e⟩:=hd w;exact⟨x,w',by rw[Sem.run_bind,e];rfl⟩
 obtain⟨dst,op,type,pos,after,guard⟩:=o;cases op<;>first|(cases hp;done)|skip
 case move x=>exact .inl ⟨_,fun w=>rfl⟩
 case assign x=>exact .inl ⟨_,fun w=>rfl⟩
 case pick c a b=>
  have:=key (do Pure.pure (if←Go.asBool (ρ c) then ρ a else ρ b)) (.bind (.asBool _) fun _=>.pure _);simp only[execOp];rcases ay.asBool (P:=P) (ρ c) with⟨t,ht⟩|hd
  ·exact .inl ⟨_,fun w=>by rw[Sem.run_bind,ht w];rfl⟩
  ·refine .inr fun w=>?_;obtain⟨x,w',e⟩:=hd w;exact⟨x,w',by rw[Sem.run_bind,e];rfl⟩
 case fieldAddr s x i=>exact key _ (.fieldAt hp _)
 case indexAddr t x i=>exact key _ (.indexAt _ _ _)
 case slice t x lo hi mx=>exact key _ (.sliceAt _ _ _ _ _)
theorem anF {rd:Option Nat}{ops:Array Oper}{i:Nat}{o:Oper}{a:Act}{w:World}{K:Act→World→Prop}(hi:ops[i]?=some o)(hp:CP P o.op=true)
 (h:wpOpIn (FR rd) 0 P ops (fun _ _ _=>False) i K a w):∃v,YieldsFenced P ops o v a∧K (a.put o.dst v) w:=by
 have bm:∀c,o.op≠.defer c:=fun c e=>by rw[e] at hp;cases hp
 have yi:∀w,o.about P w a.eval=none:=fun w=>by
  unfold Oper.about;cases ho:o.op<;>first|rfl|(rw[ho] at hp;cases hp)
 unfold wpOpIn at h;rw[hi] at h;dsimp only at h;cases hw:Region.wanted o (yielded ops a.tmps) with
 |false=>
  rw[hw] at h;exact⟨undef,⟨.inr ⟨hw,rfl⟩,yi⟩,h.2⟩
 |true=>
  rw[hw,if_pos rfl] at h;have h2:=h.2;rw[Oper.semAt_eq _ _ _ bm] at h2;rcases anE hp a.eval with⟨v,hv⟩|hd
  ·rw[hv w] at h2;exact⟨v,⟨.inl ⟨hw,hv⟩,yi⟩,h2⟩
  ·obtain⟨x,w',e⟩:=hd w;rw[e] at h2;cases x<;>exact h2.elim
section
variable {F:Fence} {n:Nat} {ops:Array Oper} {Q:Exit→Act→World→Prop} {md:Region.Mode}
theorem YF.wpOpIn {i:Nat}{o:Oper}{v:Value}{a:Act}(bm:pM o.op=true)(hi:ops[i]?=some o)(hy:YieldsFenced P ops o v a)
 {K:Act→World→Prop} {w:World} (h:K (a.put o.dst v) w):wpOpIn F n P ops Q i K a w:=by
 have kP:∀c,o.op≠.defer c:=fun c e=>by rw[e] at bm;cases bm
 unfold Go.wpOpIn;simp only[hi];have yi:∀f,o.about P w a.eval=some f→F.fn f:=fun f hf=>by rw[hy.2 w] at hf;cases hf
 rcases hy.1 with⟨hw,hv⟩|⟨hw,rfl⟩
 ·simp only[hw,if_true,Oper.wpIn,Oper.semAt_eq _ _ _ kP,hv w,Oper.uponIn];exact⟨yi,h⟩
 ·simp only[hw,wG,if_false];exact⟨yi,h⟩
theorem asd {j:Nat}{oi oj:Oper}{v:Value}(bm:pM oj.op=true)(hj:ops[j]?=some oj)(Lw:oi.apart ops oj=true)
 (hsi:∀cs b,oi.op≠.select cs b) (hsj:∀cs b,oj.op≠.select cs b)
 (hQ:∀c a w,Q (.panic c) (a.put oi.dst v) w→Q (.panic c) a w) {K:Act→World→Prop} {a:Act} {w:World}
 (hy:YieldsFenced P ops oi v a) (h:wpOpIn F n P ops Q j K (a.put oi.dst v) w):
 wpOpIn F n P ops Q j (fun a' w'=>YieldsFenced P ops oi v a'∧K (a'.put oi.dst v) w') a w:=by
 have kP:∀c,oj.op≠.defer c:=fun c e=>by rw[e] at bm;cases bm
 obtain⟨h1,h2,h3⟩:=Oper.apart_spec Lw;have keep:∀(a:Act),YieldsFenced P ops oi v a→∀u,YieldsFenced P ops oi v (a.put oj.dst u):=fun a hy u=>
  hy.of_same (execOp_put oi hsi a oj.dst u h3) (wanted_put oi a oj.dst u h3) (fun w=>about_put oi w a oj.dst u h3)
 have ajY:∀d,YieldsFenced P ops oi v {a with defers:=d::a.defers}:=fun d=>hy.of_same rfl rfl (fun _=>rfl);unfold Go.wpOpIn at*;simp only[hj] at*;rw[wanted_put oj a oi.dst v h1,about_put oj w a oi.dst v h1] at h;split
 ·rename_i hw;simp only[hw,if_true] at h;unfold Oper.wpIn at*;rw[about_put oj w a oi.dst v h1] at h;refine⟨h.1,?_⟩;have h:=h.2;rw[Oper.semAt_eq _ _ _ kP,execOp_put oj hsj a oi.dst v h1] at h;rw[Oper.semAt_eq _ _ _ kP];generalize (execOp a.eval oj).run P w=r at*;cases r with
  |ok x w'=>
   cases x<;>simp only[Oper.uponIn] at h ⊢
   case value u=>exact⟨keep a hy u,by rw[←Act.put_comm a v u h2];exact h⟩
   case skip=>exact⟨keep a hy _,by rw[←Act.put_comm a v undef h2];exact h⟩
   case defer d=>
        refine⟨keep _ (ajY d) _,?_⟩;rw[←Act.put_comm _ v undef h2,←Act.put_defers];exact h
   case enter f args=>
        refine⟨h.1,CallsIn.mono h.2 fun e jw he=>?_⟩;cases e with
        |returned u=>exact⟨keep a hy u,by rw[←Act.put_comm a v u h2];exact he⟩
        |panicked c=>exact hQ _ _ _ he
        |outgrown=>exact he
   case row row args=>exact⟨h.1,RowsIn.mono h.2 fun u jw he=>⟨keep a hy u,by rw[←Act.put_comm a v u h2];exact he⟩⟩
   case round l f tmps assign body=>
        refine⟨h.1,RoundIn.mono h.2 fun e jw he=>?_⟩;cases e with
        |returned u=>exact⟨keep a hy u,by rw[←Act.put_comm a v u h2];exact he⟩
        |panicked c=>exact hQ _ _ _ he
        |outgrown=>exact he
  |halt x w'=>
   cases x<;>simp only[Oper.uponIn] at h ⊢
   case panic u=>exact hQ _ _ _ h
 ·rename_i hw;simp only[hw] at h;exact⟨h.1,keep a hy _,by rw[←Act.put_comm a v undef h2];exact h.2⟩
theorem asc {i:Nat}{oi:Oper}{v:Value}(bm:∀(j:Nat) (o:Oper),ops[j]?=some o→pM o.op=true)(hi:ops[i]?=some oi)(yG:∀(j:Nat) (o:Oper) cs b,ops[j]?=some o→o.op≠.select cs b)
 (hQ:∀c a w,Q (.panic c) (a.put oi.dst v) w→Q (.panic c) a w):
 ∀(fuel:Nat) (listed:Array Bool) (a:Act) (w:World),
  (∀j oj,ops[j]?=some oj→j≠i→listed.getD j true=false→(∀e∈oj.after,Region.binds md e=true→e.on≠i)→oi.apart ops oj=true)→
  i∈Region.ready md ops listed→YieldsFenced P ops oi v a→
  wpAnyIn F n P md ops Q fuel (listed.setIfInBounds i true) (a.put oi.dst v) w→wpAnyIn F n P md ops Q (fuel+1) listed a w:=by
 intro fuel
 induction fuel with
 |zero=>
  intro listed a w _ hr hy H;refine⟨fun h=>(by rw[h] at hr;cases hr),fun j hj=>?_⟩;by_cases iM:j=i
  ·subst iM;exact YF.wpOpIn (bm _ _ hi) hi hy H
  ·have:=ready_mono hj iM;rw[H.1] at this;cases this
 |succ fuel ih=>
  intro listed a w lM hr hy H;refine⟨fun h=>(by rw[h] at hr;cases hr),fun j hj=>?_⟩;by_cases iM:j=i
  ·subst iM;exact YF.wpOpIn (bm _ _ hi) hi hy H
  ·have h1:=H.2 j (ready_mono hj iM);obtain⟨VG,oj,GZ,aR⟩:=mem_ready.1 hj
   have Ma:∀e∈oj.after,Region.binds md e=true→e.on≠i:=fun e he hb heq=>by
        have h1:=aR e he hb;have h0:=(mem_ready.1 hr).1;rw[heq] at h1;rcases JL i listed.size with h'|h'
        ·simp[h'] at h0 h1;rw[h0] at h1;cases h1
        ·simp[Array.getElem?_eq_none h'] at h1
   have h2:=asd (bm _ _ GZ) GZ (lM j oj GZ iM VG Ma) (fun cs b=>yG i oi cs b hi) (fun cs b=>yG j oj cs b GZ) hQ hy h1;have ahI:∀k ok,ops[k]?=some ok→k≠i→(listed.setIfInBounds j true).getD k true=false→
    (∀e∈ok.after,Region.binds md e=true→e.on≠i)→oi.apart ops ok=true:=fun k ok hk hki lU eG=>by
        refine lM k ok hk hki ?_ eG;by_cases nP:j=k
        ·subst nP;exact VG
        ·rw[getD_set_ne true nP] at lU;exact lU
   refine wpOpIn_mono (fun a' w' h3=>ih (listed.setIfInBounds j true) a' w' ahI (ready_mono hr (rN iM)) h3.1 ?_) h2;rw[Array.setIfInBounds_comm _ _ iM];exact h3.2
end
end
def qv (P:Program)(ops:Array Oper):List (Option (List Nat)):=(List.range ops.size).map fun i=>match ops[i]? with
 |some oi=>bif CP P oi.op then some ((List.range ops.size).filter fun j=> !(Nat.beq j i||(match ops[j]? with|some oj=>(oj.after.toList.any fun e=>Region.binds .any e&&Nat.beq e.on i)||oi.apart ops oj|none=>true))) else none
 |none=>none
def zI (bad:List (Option (List Nat)))(E:Nat):List Nat→Option Nat
 |[]=>none
 |i::l=>match bad.getD i none with
  |some b=>bif b.all (aO E) then some i else zI bad E l
  |none=>zI bad E l
def NC (ops:Array Oper):Bool:=ops.toList.all fun o=>match o.op with|.select ..=>false|_=>true
theorem Jc {bad:List (Option (List Nat))}{E:Nat}:∀{l:List Nat} {i:Nat},zI bad E l=some i→i∈l∧∃b,bad.getD i none=some b∧b.all (aO E)=true
 |[],_,h=>by cases h
 |i::l,j,h=>by
  unfold zI at h;split at h
  ·rename_i b hb;cases hc:b.all (aO E) with
   |true=>
    rw[hc] at h;cases h;exact⟨eC ..,b,hb,hc⟩
   |false=>
    rw[hc] at h;obtain⟨h1,h2⟩:=Jc h;exact⟨ef _ h1,h2⟩
  ·obtain⟨h1,h2⟩:=Jc h;exact⟨ef _ h1,h2⟩
theorem acM {P:Program}{ops:Array Oper}{i:Nat}{b:List Nat}(h:(qv P ops).getD i none=some b):∃oi,ops[i]?=some oi∧CP P oi.op=true∧
 ∀j oj,ops[j]?=some oj→j≠i→j∉b→(∀e∈oj.after,Region.binds .any e=true→e.on≠i)→oi.apart ops oj=true:=by
 unfold qv at h;rw[aI,cl] at h;by_cases hi:i<ops.size
 ·rw[oI hi] at h;simp only[jE,ly] at h;rw[iY hi] at h;dsimp only at h;cases hp:CP P ops[i].op<;>rw[hp] at h<;>simp only[cond_true,cond_false] at h
  ·cases h
  injection h with h
  refine⟨ops[i],iY hi,hp,fun j oj hj iM GL eG=>?_⟩;have af:j<ops.size:=(eA.1 hj).1;rw[←h] at GL;have h2:¬(!(Nat.beq j i||(match ops[j]? with|some oj=>(oj.after.toList.any fun e=>Region.binds .any e&&Nat.beq e.on i)||ops[i].apart ops oj|none=>true)))=true:=fun hc=>GL (eO.2 ⟨gf.2 af,hc⟩);rw[hj,eQ iM] at h2;simp only[Bool.false_or,jx,Bool.not_eq_false,jy] at h2;rcases h2 with h2|h2
  ·obtain⟨e,he,hb⟩:=zZ.1 h2;rw[aq] at hb;exact absurd (cX hb.2) (eG e (by simpa using he) hb.1)
  ·exact h2
 ·rw[ls (by simpa using hi)] at h;cases h
def Cp (E:Nat)(T:Snap):List (Nat×Snap)→Option (List (Nat×Snap))
 |[]=>some [(E,T)]
 |x::l=>bif Nat.beq x.1 E then(bif x.2.beq T then some (x::l) else none) else(Cp E T l).map (x::·)
def mX (ops:Array Oper)(E:Nat):List Nat:=
 (List.range ops.size).filter fun i=> !aO E i&&(match ops[i]? with|some o=>o.after.toList.all fun e=> !Region.binds .any e||aO E e.on|none=>false)
def Of (C:Ctx)(ops:Array Oper)(n:Nat)(ids:List Nat)(X:List (List PI))(nc:List (List Nat))(E:Nat)(T:Snap)(i:Nat):Option (Nat×Snap):=
 match ops[i]? with
 |some o=>(uw C (T.stO ids) ops o).bind fun r=>
  bif PI.beqs r.2 (X.getD i [])&&(nc.getD i []).all (aO E) then some (Nat.lor E (fU i),⟨zG (jS r.1) r.1 T.rs o.dst.toList,ids.map fun j=>hZ r.1 (r.1.o j)⟩) else none
 |none=>none
def DU (one:Nat→Option (Nat×Snap)):List Nat→List (Nat×Snap)→Option (List (Nat×Snap))
 |[],acc=>some acc
 |i::l,acc=>(one i).bind fun x=>x.2.hard fun T=>(Cp x.1 T acc).bind fun acc=>DU one l acc
def nB (ops:Array Oper)(bad:List (Option (List Nat)))(E:Nat):List Nat:=
 match zI bad E (mX ops E) with
 |some i=>[i]
 |none=>mX ops E
def Cv (ops:Array Oper)(bad:List (Option (List Nat)))(one:Nat→Snap→Nat→Option (Nat×Snap)):List (Nat×Snap)→List (Nat×Snap)→Option (List (Nat×Snap))
 |[],acc=>some acc
 |x::l,acc=>
  match nB ops bad x.1 with
  |[]=>none
  |rs=>(DU (one x.1 x.2) rs acc).bind fun acc=>Cv ops bad one l acc
def DO (ops:Array Oper)(bad:List (Option (List Nat)))(one:Nat→Snap→Nat→Option (Nat×Snap)):Nat→List (Nat×Snap)→Option Snap
 |0,L=>
  match L with
  |[x]=>bif (List.range ops.size).all (aO x.1) then some x.2 else none
  |_=>none
 |k+1,L=>(Cv ops bad one L []).bind fun L=>DO ops bad one k L
theorem Wv {E:Nat}{T:Snap}:∀{l l':List (Nat×Snap)},Cp E T l=some l'→(E,T)∈l'∧∀x,x∈l→x∈l'
 |[],l',h=>by simp only[Cp,aT] at h;subst h;simp
 |x::l,l',h=>by
  simp only[Cp] at h;cases hb:Nat.beq x.1 E<;>simp only[hb,cond_true,cond_false] at h
  ·simp only[ax] at h;obtain⟨l2,h2,rfl⟩:=h;obtain⟨h3,h4⟩:=Wv h2;exact⟨ef _ h3,fun y hy=>(cG.1 hy).elim (fun e=>e▸eC ..) fun hm=>ef _ (h4 y hm)⟩
  ·cases hs:x.2.beq T<;>simp only[hs,cond_true,cond_false] at h
   ·cases h
   ·cases h;refine⟨?_,fun y hy=>hy⟩;have e1:=cX hb;have e2:=Snap.beq_eq _ _ hs;subst e1;subst e2;simp
theorem aa2 {one:Nat→Option (Nat×Snap)}:∀{rs:List Nat} {acc Ag:List (Nat×Snap)},DU one rs acc=some Ag→(∀x,x∈acc→x∈Ag)∧∀i,i∈rs→∃x,one i=some x∧x∈Ag
 |[],acc,Ag,h=>by simp only[DU,aT] at h;subst h;simp
 |i::rs,acc,Ag,h=>by
  simp only[DU,Snap.hard_eq,ar] at h;obtain⟨x,hx,abX,h1,h2⟩:=h;obtain⟨h3,h4⟩:=Wv h1;obtain⟨h5,h6⟩:=aa2 h2;refine⟨fun y hy=>h5 y (h4 y hy),fun j hj=>?_⟩;rcases cG.1 hj with e|hm
  ·subst e;exact⟨x,hx,h5 _ h3⟩
  ·exact h6 j hm
theorem WU {ops:Array Oper}{bad:List (Option (List Nat))}{one:Nat→Snap→Nat→Option (Nat×Snap)}:∀{L acc L':List (Nat×Snap)},Cv ops bad one L acc=some L'→
 (∀x,x∈acc→x∈L')∧∀x,x∈L→nB ops bad x.1≠[]∧∀i,i∈nB ops bad x.1→∃y,one x.1 x.2 i=some y∧y∈L'
 |[],acc,L',h=>by simp only[Cv,aT] at h;subst h;simp
 |x::L,acc,L',h=>by
  simp only[Cv] at h;split at h
  ·cases h
  ·rename_i az;simp only[ar] at h;obtain⟨abX,h1,h2⟩:=h;obtain⟨h3,h4⟩:=aa2 h1;obtain⟨h5,h6⟩:=WU h2;refine⟨fun y hy=>h5 y (h3 y hy),fun y hy=>?_⟩;rcases cG.1 hy with e|hm
   ·subst e;refine⟨fun e=>az e,fun i hi=>?_⟩;obtain⟨z,hz,hm⟩:=h4 i hi;exact⟨z,hz,h5 z hm⟩
   ·exact h6 y hm
def ff (X:List (List PI))(l:List Nat)(E:Nat):List PI:=l.flatMap fun i=>bif aO E i then[] else X.getD i []
theorem P3 {X:List (List PI)}{E E':Nat}:∀(l:List Nat),(∀i,i∈l→aO E i=aO E' i)→ff X l E=ff X l E'
 |[],_=>rfl
 |i::l,h=>by
  have ih:=P3 (X:=X) l fun j hj=>h j (ef _ hj);unfold ff at ih ⊢;simp only[z8];rw[ih,h i (eC ..)]
theorem Foot.comm_each {a b:List PI}(h:(gi a).comm (gi b)=true):∀p q,p∈a→q∈b→Comm p q:=by
 simp only[Foot.comm,aq] at h;obtain⟨h1,h2,h3,h4,h5,h6⟩:=h;intro p q hp hq;obtain⟨p1,p2,p3,p4⟩:=UQ hp;obtain⟨q1,q2,q3,q4⟩:=UQ hq;exact⟨fun t x y=>M5 h1 (p1 t x) (q1 t y),fun t x y=>M5 h2 (p1 t x) (q3 t y),fun t x y=>M5 h3 (q1 t x) (p3 t y),fun t x y=>JW h4 (p2 t x) (q2 t y),fun t x y=>JW h5 (p2 t x) (q4 t y),fun t x y=>JW h6 (q2 t x) (p4 t y)⟩
def y0 (X:List (List PI))(N:Nat):List (List Nat):=
 (List.range N).map fun i=>(List.range i).filter fun j=> !(gi (X.getD j [])).comm (gi (X.getD i []))
theorem ud (E i j:Nat):aO (Nat.lor E (fU i)) j=(aO E j||Nat.beq i j):=by
 rw[fC]
 congr 1
 rw[uc];show(1<<<i).testBit j=_;rw[Nat.testBit_shiftLeft];by_cases h:i=j
 ·subst h;simp
 ·have h1:Nat.beq i j=false:=eQ h;rw[h1];by_cases h2:i≤j
  ·have:j-i≠0:=by omega
   cases hk:j-i with
   |zero=>omega
   |succ k=>
    have:(1:Nat).testBit (k+1)=false:=by simp[Nat.testBit_succ]
    simp[this]
  ·simp[h2]
theorem aoB {X:List (List PI)}{N E i:Nat}(hi:i<N)(hb:aO E i=false)(dz:((y0 X N).getD i []).all (aO E)=true)(Φ:aJ)(ρ:Env):
 PI.runs Φ (ff X (List.range N) E) ρ=(PI.runs Φ (X.getD i []) ρ).bind (PI.runs Φ (ff X (List.range N) (Nat.lor E (fU i)))):=by
 obtain⟨l1,l2,hl⟩:=List.append_of_mem (gf.2 hi);have hp:=List.pairwise_lt_range (n:=N);rw[hl,S7] at hp;obtain⟨_,eH,hp3⟩:=hp;rw[Ei] at eH;have Xh:∀j,j∈l1→j<i:=fun j hj=>hp3 j hj i (eC ..);have lt2:∀j,j∈l2→i<j:=fun j hj=>eH.1 j hj;have e0:∀E,ff X (l1++i::l2) E=ff X l1 E++((bif aO E i then[] else X.getD i [])++ff X l2 E):=fun E=>by simp[ff]
 have e1:ff X l1 (Nat.lor E (fU i))=ff X l1 E:=P3 l1 fun j hj=>by
  rw[ud,eQ (by have:=Xh j hj;omega),Jz]
 have e2:ff X l2 (Nat.lor E (fU i))=ff X l2 E:=P3 l2 fun j hj=>by
  rw[ud,eQ (by have:=lt2 j hj;omega),Jz]
 have e3:aO (Nat.lor E (fU i)) i=true:=by rw[ud,jC,qe]
 rw[hl,e0,e0,e1,e2,e3,hb];simp only[cond_true,cond_false,tV]
 have ahq:PI.runs Φ (ff X l1 E++X.getD i [])=PI.runs Φ (X.getD i []++ff X l1 E):=funext fun ρ=>PI.comms _ _ (fun p q hp hq=>by
  unfold ff at hp;obtain⟨j,hj,hp⟩:=Eg.1 hp;cases Vn:aO E j<;>simp only[Vn,cond_true,cond_false] at hp
  case true=>cases hp
  have hc:(gi (X.getD j [])).comm (gi (X.getD i []))=true:=by
   cases gC:(gi (X.getD j [])).comm (gi (X.getD i [])) with
   |true=>rfl
   |false=>
    have sv:(y0 X N).getD i []=(List.range i).filter fun j=> !(gi (X.getD j [])).comm (gi (X.getD i [])):=by
     unfold y0;rw[aI,cl,oI hi];rfl
    rw[sv] at dz;have:=df.1 dz j (eO.2 ⟨gf.2 (Xh j hj),by rw[gC];rfl⟩);rw[Vn] at this;cases this
  exact Foot.comm_each hc p q hp hq) ρ
 rw[←oH,p5,ahq];have:=p5 (Φ:=Φ) (a:=X.getD i []) (b:=ff X l1 E) (ρ:=ρ);rw[this,Option.bind_assoc]
 congr 1
 funext ρ1;rw[p5]
def ma (C:Ctx)(ops:Array Oper):List Nat→St→Option (List (List PI))
 |[],_=>some []
 |i::l,S=>
  match ops[i]? with
  |some o=>(uw C S ops o).bind fun r=>(ma C ops l r.1).map fun q=>r.2::q
  |none=>none
def U0 (ops:Array Oper):Bool:=(List.range ops.size).all fun i=>match ops[i]? with
 |some o=>(match o.guard with|some (j,_)=>Nat.blt j i|none=>true)
 |none=>true
def Gd (ops:Array Oper):Bool:=ops.toList.all fun o=>match o.guard with
 |some (j,_)=>o.after.toList.any fun e=>Region.binds .any e&&Nat.beq e.on j
 |none=>true
section
variable {C:Ctx} {S:St} {f:Nat→Sh} {gs:List (Nat×Bool)} {dst:Nat}
end
section
variable {C:Ctx} {S:St} {f:Nat→Sh} {gs:List (Nat×Bool)} {dst:Nat}
end
section
variable {C:Ctx} {S:St} {ρ:Env} {σ:Im} {own:Nat→Option Nat} {hv:Nat→Value} {w0:World} {σ0:Base} {A:Nat→Prop} {a:Act} {w:World} {n:Nat} {ids:List Nat} {Φ:aJ}
theorem ayv {ops:Array Oper}{listed:Array Bool}{E:Nat}(aN:listed.size=ops.size)(hl:∀i,listed.getD i false=aO E i)(i:Nat):i∈Region.ready .any ops listed↔i∈mX ops E:=by
 unfold Region.ready mX;simp only[eO,gf];refine and_congr_right fun hi=>?_;have h1:listed.getD i true=aO E i:=by
  rw[←hl i];simp only[fi];rw[iY (by omega)];rfl
 have h2:ops[i]?=some ops[i]:=iY hi;rw[h1,h2];simp only[jE,ly,←Array.all_toList,hl]
end
def IU (C:Ctx)(n:Nat)(ids:List Nat)(ops:Array Oper)(draw:Bool)(S:Snap):Option (Snap×List PI):=
 bif zy n ops then
    bif draw then
     bif Gd ops&&NC ops&&C.P.follows .mixedOrders then
        (ma C ops (List.range ops.size) (S.st ids)).bind fun X=>Bt X fun X=>Bt (y0 X ops.size) fun nc=>
         (Snap.hard ⟨S.rs.map fun s=>jS (S.st ids) (ct s),ids.map fun j=>hZ (S.st ids) ((S.st ids).o j)⟩ fun T0=>DO ops (qv C.P ops) (Of C ops n ids X nc) ops.size [(0,T0)]).map fun T=>(⟨T.rs.map (fX (T.stO ids)),ids.map fun j=>hZ (T.stO ids) ((T.stO ids).o j)⟩,X.flatten)
     else none
    else bif U0 ops then(rV C ops (List.range ops.size) (S.st ids)).map fun r=>(⟨zG (fX r.1) r.1 S.rs (ops.toList.filterMap (·.dst)),ids.map fun j=>hZ r.1 (r.1.o j)⟩,r.2) else none
 else none
def IT (C:Ctx)(n:Nat)(ids:List Nat)(ops:Array Oper)(draw:Bool)(S:Snap):Option (Snap×List PI):=
 (IU C n ids ops draw S).bind fun r=>r.1.hard fun T=>some (T,r.2)
theorem aov (C:Ctx)(n:Nat)(ids:List Nat)(ops:Array Oper)(draw:Bool)(S:Snap):IT C n ids ops draw S=IU C n ids ops draw S:=by
 unfold IT;cases IU C n ids ops draw S with
 |none=>rfl
 |some r=>rw[oL,Snap.hard_eq]
def wk (ops:Array Oper)(E:Nat):Nat→Prop:=fun t=>∃i o,aO E i=true∧ops[i]?=some o∧o.dst=some t
section
variable {C:Ctx} {S:St} {ρ:Env} {σ:Im} {own:Nat→Option Nat} {hv:Nat→Value} {w0:World} {σ0:Base} {A:Nat→Prop} {a:Act} {w:World} {n:Nat} {ids:List Nat} {Φ:aJ}
theorem IQ {ops:Array Oper}{listed:Array Bool}{E:Nat}(aN:listed.size=ops.size)(hl:∀i,listed.getD i false=aO E i)(i:Nat):i∈Region.ready .any ops listed↔i∈mX ops E:=by
 unfold Region.ready mX;simp only[eO,gf];refine and_congr_right fun hi=>?_;have h1:listed.getD i true=aO E i:=by
  rw[←hl i];simp only[fi];rw[iY (by omega)];rfl
 have h2:ops[i]?=some ops[i]:=iY hi;rw[h1,h2];simp only[jE,ly,←Array.all_toList,hl]
theorem aoX {rd:Option Nat}(hC:CtxOK C σ0)(aW:dy C)(hΦ:cY C Φ)(hY:qn C Φ w0 σ0){a0:Act}(hn0:a0.tmps.size=n){ops:Array Oper}(au:zy n ops=true)(gk:Gd ops=true){X:List (List PI)}{Q:Exit→Act→World→Prop}{ρ':Env}(yG:NC ops=true)(hQp:∀c a w,¬Q (.panic c) a w):
 ∀(k:Nat) {L:List (Nat×Snap)} {T:Snap},DO ops (qv C.P ops) (Of C ops n ids X (y0 X ops.size)) k L=some T→
  (∀a' w',SameBut (xO ops) a0 a'→Good C w0 σ0 (T.stO ids) ρ' (fun t=>∃E,wk ops E t) a' w'→Q .normal a' w')→
  ∀(E:Nat) (U:Snap),(E,U)∈L→∀(listed:Array Bool) (ρ:Env) (a:Act) (w:World),listed.size=ops.size→(∀i,listed.getD i false=aO E i)→SameBut (xO ops) a0 a→
   Good C w0 σ0 (U.stO ids) ρ (wk ops E) a w→PI.runs Φ (ff X (List.range ops.size) E) ρ=some ρ'→wpAnyIn (FR rd) 0 C.P .any ops Q k listed a w:=by
 simp only[zy,aq] at au;have bm:=oa au.1;intro k
 induction k with
 |zero=>
  intro L T hs hQ E U hm listed ρ a w aN hl hn hg aj;simp only[DO] at hs;split at hs
  case h_2=>cases hs
  rename_i x;cases aR:(List.range ops.size).all (aO x.1)<;>simp only[aR,cond_true,cond_false] at hs
  ·cases hs
  cases hs;simp only[tU] at hm;subst hm;simp only at aR hg hQ aj hl;have yj:=df.1 aR;have ahG:ff X (List.range ops.size) E=[]:=by
   unfold ff;rw[List.flatMap_eq_nil_iff];intro i hi;rw[yj i hi];rfl
  rw[ahG] at aj;simp only[PI.runs,aT] at aj;subst aj;refine⟨?_,hQ a w hn ?_⟩
  ·rw[abI];intro i hi;rw[IQ aN hl] at hi;unfold mX at hi;simp only[eO,aq,jx] at hi;rw[yj i hi.1] at hi;cases hi.2.1
  ·obtain⟨σ,own,hv,h⟩:=hg;exact⟨σ,own,hv,h.defers,h.ok,h.le,h.old,h.newc,h.newm,h.below,h.bw,h.owns,h.regs,h.objs,fun t gs s e=>⟨fun g hm=>⟨E,(h.opts t gs s e).1 g hm⟩,(h.opts t gs s e).2⟩,h.frame⟩
 |succ k ih=>
  intro L T hs hQ E U hm listed ρ a w aN hl hn hg aj;simp only[DO,ar] at hs;obtain⟨L',hL,hs⟩:=hs;obtain⟨_,cQ⟩:=WU hL;obtain⟨az,My⟩:=cQ _ hm;have aip:mX ops E≠[]:=fun e=>az (by unfold nB;rw[e];rfl)
  have bT:∀i,i∈nB ops (qv C.P ops) E→i∈mX ops E:=fun i hi=>by
   unfold nB at hi;split at hi
   ·rename_i i' hp;rw[tU.1 hi];exact(Jc hp).1
   ·exact hi
  have step:∀i,i∈nB ops (qv C.P ops) E→∀Q':Exit→Act→World→Prop,wpOpIn (FR rd) 0 C.P ops Q' i (wpAnyIn (FR rd) 0 C.P .any ops Q k (listed.setIfInBounds i true)) a w:=by
   intro i hi Q';obtain⟨y,hy,hyL⟩:=My i hi;have hi:=bT i hi;unfold mX at hi;simp only[eO,gf,aq,jx] at hi;obtain⟨cv,dP,LK⟩:=hi;simp only[Of] at hy;split at hy
   case h_2=>cases hy
   rename_i o ho;simp only[ar] at hy;obtain⟨r,hr,hy⟩:=hy;cases hc:(PI.beqs r.2 (X.getD i [])&&((y0 X ops.size).getD i []).all (aO E))<;>simp only[hc,cond_true,cond_false] at hy
   ·cases hy
   cases hy;simp only[aq] at hc;have hX:=PI.beqs_eq _ _ hc.1;rw[aoB cv dP hc.2,ar] at aj;obtain⟨ρ1,hρ1,hρ2⟩:=aj;rw[←hX] at hρ1;rw[ho] at LK;simp only at LK;have LJ:∀d,o.dst=some d→¬wk ops E d∧d<a.tmps.size:=by
        intro d hd;refine⟨fun⟨i',o',dO,gT,fH⟩=>?_,?_⟩
        ·have az:i'≠i:=fun e=>by subst e;rw[dP] at dO;cases dO
         exact FT.dst_once bm gT ho fH hd az
        ·have:=df.1 au.2 o (by simpa using nf ho);simp only[hd,aq] at this;rw[hn.size,hn0];simpa [oK] using this.2
   have kP:pM o.op=true:=by
        have:=df.1 au.2 o (by simpa using nf ho);simp only[aq] at this;exact this.1
   have hj:∀j want t,o.guard=some (j,want)→(ops[j]?).bind (·.dst)=some t→wk ops E t:=by
        intro j want t lN ht;rw[ar] at ht;obtain⟨oj,h1,h2⟩:=ht;have yw:=df.1 gk o (by simpa using nf ho);simp only[lN] at yw;obtain⟨e,lK,BC⟩:=zZ.1 yw;simp only[aq] at BC;have h3:=df.1 LK e lK;rw[BC.1] at h3;simp only[Bool.not_true,Bool.false_or] at h3;exact⟨j,oj,by rw[←cX BC.2];exact h3,h1,h2⟩
   have main:=T8 (rd:=rd) (K:=wpAnyIn (FR rd) 0 C.P .any ops Q k (listed.setIfInBounds i true)) (Q:=Q') hg hC aW hΦ hY kP LJ hj hr hρ1 (fun a' w' jK sI=>by
        have hA:(fun u=>wk ops E u∨o.dst=some u)=wk ops (Nat.lor E (fU i)):=by
         funext u;apply propext;constructor
         ·rintro(⟨i',o',h1,h2,h3⟩|h1)
          ·exact⟨i',o',by rw[ud,h1,zW],h2,h3⟩
          ·exact⟨i,o,by rw[ud,jC,qe],ho,h1⟩
         ·rintro⟨i',o',h1,h2,h3⟩;rw[ud,jy] at h1;rcases h1 with h1|h1
          ·exact .inl ⟨i',o',h1,h2,h3⟩
          ·rw[←cX h1,ho] at h2;cases h2;exact .inr h3
        rw[hA] at jK
        refine ih hs hQ _ _ hyL _ ρ1 a' w' (by simpa using aN) (fun j=>?_) (hn.trans (sI.mono fun t e=>⟨o,by simpa using nf ho,e⟩)) (by
         have:=jK.snapO U.rs.length ids
         rw[show r.1.snapO U.rs.length ids=⟨zG (jS r.1) r.1 U.rs o.dst.toList,ids.map fun j=>hZ r.1 (r.1.o j)⟩ from by
          unfold St.snapO;rw[I8 fun t ht=>?_];rw[T7 hr t (fun e=>ht (by rw[e];simp))];rfl] at this
         exact this) hρ2
        rw[ud];simp only[fi,zT];by_cases db:i=j
        ·subst db;simp[aN,cv]
        ·rw[if_neg db,eQ db,Jz,←hl j];simp only[fi])
   simp only[wpOpIn,ho];split
   ·rename_i hw;rw[if_pos hw] at main;exact main
   ·rename_i hw;rw[if_neg hw] at main;exact⟨fun _ _=>trivial,main⟩
  cases Ml:zI (qv C.P ops) E (mX ops E) with
  |none=>
   have kK:nB ops (qv C.P ops) E=mX ops E:=by unfold nB;rw[Ml]
   refine⟨fun he=>?_,fun i hi=>step i (by rw[kK];exact(IQ aN hl i).1 hi) Q⟩;exfalso;refine aip ?_;rw[abI];intro i hi;rw[←IQ aN hl,he] at hi;cases hi
  |some i=>
   have kK:nB ops (qv C.P ops) E=[i]:=by unfold nB;rw[Ml]
   obtain⟨hir,b,hb,ahi⟩:=Jc Ml;obtain⟨oi,VW,Mn,Lw⟩:=acM hb;obtain⟨v,hv,hK⟩:=anF VW Mn (step i (by rw[kK];simp) _);refine asc (fun j o ho=>?_) VW (fun j o cs b' ho e=>?_) (fun c a' w' h=>(hQp _ _ _ h).elim) k listed a w (fun j oj hj iM lU eG=>Lw j oj hj iM (fun GL=>?_) eG) ((IQ aN hl i).2 hir) hv hK
   ·have:=df.1 au.2 o (by simpa using nf ho);simp only[aq] at this;exact this.1
   ·have:=df.1 yG o (by simpa using nf ho);rw[e] at this;cases this
   ·have h1:=df.1 ahi j GL;have h2:=hl j;rw[h1] at h2;simp only[fi] at h2 lU;cases yu:listed[j]? with
    |none=>rw[yu] at h2;cases h2
    |some x=>
     rw[yu] at h2 lU;simp only[ly] at h2 lU;rw[h2] at lU;cases lU
theorem aaQ {ops:Array Oper}:∀{l:List Nat} {S:St} {X:List (List PI)},ma C ops l S=some X→X.length=l.length
 |[],S,X,h=>by simp only[ma,aT] at h;subst h;rfl
 |i::l,S,X,h=>by
  simp only[ma] at h;split at h
  case h_2=>cases h
  simp only[ar,ax] at h;obtain⟨r,_,q,hq,rfl⟩:=h;simp[aaQ hq]
theorem aoC (X:List (List PI)):ff X (List.range X.length) 0=X.flatten:=by
 have h0:∀i,aO 0 i=false:=fun i=>by rw[uc];simp
 have key:∀(Y Z:List (List PI)),ff (Y++Z) (List.range' Y.length Z.length) 0=Z.flatten:=by
  intro Y Z
  induction Z generalizing Y with
  |nil=>rfl
  |cons z Z ih=>
   have:=ih (Y++[z]);simp only[oH,List.singleton_append,lu,oJ,wN,jD] at this;rw[oJ,JG];have e:ff (Y++z::Z) (Y.length::List.range' (Y.length+1) Z.length) 0=(Y++z::Z).getD Y.length []++ff (Y++z::Z) (List.range' (Y.length+1) Z.length) 0:=by
        unfold ff;rw[z8,h0];rfl
   rw[e,this,SV]
   congr 1
   simp[aI]
 have:=key [] X;simp only[tV,wN] at this;rw[JH];exact this
theorem aow (aW:dy C)(hΦ:cY C Φ):JN C n ids Φ (IT C n ids):=by
 intro id ops draw S r hr rd w0 σ0 ρ ρ' a w Q hC hY hn hg aj hQ;rw[aov] at hr;unfold IU at hr;cases au:zy n ops<;>simp only[au,cond_true,cond_false] at hr
 ·cases hr
 cases draw with
 |false=>
  simp only[cond_false] at hr;cases VA:U0 ops<;>simp only[VA,cond_true,cond_false] at hr
  ·cases hr
  simp only[ax] at hr;obtain⟨q,hq,rfl⟩:=hr;refine wpIn_region ?_
  have Ce:wj ops []=fun _=>False:=by
   funext t;apply propext;constructor
   ·rintro⟨i,o,h,_⟩;cases h
   ·intro h;exact h.elim
  refine FT hC aW hΦ hY au (List.range ops.size) [] (by simpa using S6) (fun p i q o j want hl ho lN=>?_) hn (by rw[Ce];exact hg) hq aj (fun a' w' ke jK=>hQ a' w' ke (by
   have:=jK.snapF S.rs.length ids
   rw[show q.1.snap S.rs.length ids=⟨zG (fX q.1) q.1 S.rs (ops.toList.filterMap (·.dst)),ids.map fun j=>hZ q.1 (q.1.o j)⟩ from by
        unfold St.snap;rw[I8 fun t ht=>?_];rw[T9 hq t (fun i o hi ho e=>ht (wO.2 ⟨o,by simpa using nf ho,e⟩))];show _=fX q.1 (ct (S.rs.getD t .none));cases S.rs.getD t .none<;>rfl] at this
   exact this))
  have hi:i<ops.size:=by
   have:i∈List.range ops.size:=by rw[hl];simp
   exact gf.1 this
  have hb:=df.1 VA i (gf.2 hi);rw[ho] at hb;simp only[lN,oK] at hb;have hp:=List.pairwise_lt_range (n:=ops.size);have sy:j∈List.range ops.size:=gf.2 (by omega);rw[hl,S7] at hp;obtain⟨_,eH,_⟩:=hp;rw[Ei] at eH;rw[hl,dg] at sy;simp only[tV];rcases sy with hm|hm
  ·exact hm
  ·rcases cG.1 hm with e|hm
   ·omega
   ·have:=eH.1 j hm;omega
 |true=>
  simp only[cond_true] at hr;cases gk:(Gd ops&&NC ops&&C.P.follows .mixedOrders)<;>simp only[gk,cond_true,cond_false] at hr
  ·cases hr
  simp only[aq] at gk;have yG:=gk.1.2
  replace gk:Gd ops=true∧C.P.follows .mixedOrders=true:=⟨gk.1.1,gk.2⟩
  have h0:∀i,aO 0 i=false:=fun i=>by rw[uc];simp
  simp only[Vg,Snap.hard_eq,ar,ax] at hr;obtain⟨X,hX,T,hT,rfl⟩:=hr;refine wpIn_mono (Q:=fun e a w=>(∀c,e≠.panic c)∧Q e a w) ?_ fun e a w h=>h.2;refine wpIn_region_any gk.2 ?_
  have Ce:wk ops 0=fun _=>False:=by
   funext t;apply propext;constructor
   ·rintro⟨i,o,h,_⟩;rw[h0] at h;cases h
   ·intro h;exact h.elim
  have hlen:=aaQ hX;rw[S4] at hlen
  refine aoX (w0:=w0) hC aW hΦ hY hn au gk.1 (ρ':=ρ') yG (fun c a w h=>h.1 c rfl) ops.size hT (fun a' w' ke jK=>⟨fun c e=>(by cases e),hQ a' w' ke (by
   have:=jK.snapF T.rs.length ids
   rw[show(T.stO ids).snap T.rs.length ids=⟨T.rs.map (fX (T.stO ids)),ids.map fun j=>hZ (T.stO ids) ((T.stO ids).o j)⟩ from by
        unfold St.snap;have:=I8 (g:=fX (T.stO ids)) (S:=T.stO ids) (rs:=T.rs) (ds:=[]) (fun t _=>rfl);rw[←this];rfl] at this
   exact this)⟩) 0 _ (tU.2 rfl) _ ρ a _ (by simp) (fun i=>?_) (.refl _ _) ?_ ?_
  ·rw[h0];simp only[fi,Array.getElem?_replicate];split<;>rfl
  ·rw[Ce];have:=(hg.drew).snapO S.rs.length ids
   rw[show(S.st ids).snapO S.rs.length ids=⟨S.rs.map fun s=>jS (S.st ids) (ct s),ids.map fun j=>hZ (S.st ids) ((S.st ids).o j)⟩ from by
        unfold St.snapO
        have:=I8 (g:=fun s=>jS (S.st ids) (ct s)) (S:=S.st ids) (rs:=S.rs) (ds:=[]) (fun t _=>by
         show jS _ (ct (S.rs.getD t .none))=jS _ (ct (ct (S.rs.getD t .none)));cases S.rs.getD t .none<;>rfl)
        have h2:(fun t=>jS (S.st ids) (ct ((S.st ids).r t)))=fun t=>jS (S.st ids) ((S.st ids).r t):=by
         funext t;show jS _ (ct (ct (S.rs.getD t .none)))=jS _ (ct (S.rs.getD t .none));cases S.rs.getD t .none<;>rfl
        rw[h2] at this;rw[←this];rfl] at this
   exact this
  ·rw[←hlen,aoC];exact aj
end
end Cx
