/-
  Shared texts of this claim.
-/
import Derived.Test.YtbagcfebdgiihaaGreatDoorTAF
import Derived.OrdersIn
set_option linter.unusedSimpArgs false
set_option linter.unusedVariables false
namespace Cx
open Go Go.RowKit
def Ss:Value→Value→Bool
 |.int k n,.int k' m=>k==k'&&n==m
 |.bool a,.bool b=>a==b
 |.string a,.string b=>decide (a=b)
 |.nilFunc,.nilFunc=>true
 |_,_=>false
theorem arF:∀a b,Ss a b=true→a=b:=by
 intro a b h;unfold Ss at h;split at h
 ·simp only[aq,beq_iff_eq] at h;rw[h.1,h.2]
 ·simp only[beq_iff_eq] at h;rw[h]
 ·simp only[decide_eq_true_eq] at h;rw[h]
 ·rfl
 ·cases h
mutual
def D.beq:D→D→Bool
 |.v a,e=>match e with|.v b=>Ss a b|_=>false
 |.agg a,e=>match e with|.agg b=>D.beqs a b|_=>false
 |.list a,e=>match e with|.list b=>D.beqs a b|_=>false
 |.tup a,e=>match e with|.tup b=>D.beqs a b|_=>false
 |.map a,e=>match e with|.map b=>a.isEmpty&&b.isEmpty|_=>false
 |.ref a,e=>match e with|.ref b=>D.beq a b|_=>false
 |.clo f a,e=>match e with|.clo g b=>Nat.beq f g&&D.beqs a b|_=>false
 |.none,e=>match e with|.none=>true|_=>false
def D.beqs:List D→List D→Bool
 |[],e=>match e with|[]=>true|_=>false
 |a::aa,e=>match e with|b::bs=>D.beq a b&&D.beqs aa bs|_=>false
end
mutual
theorem D.beq_eq:∀a b:D,D.beq a b=true→a=b
 |.v a,e,h=>by cases e<;>first|(simp only[D.beq] at h;rw[arF _ _ h])|cases h
 |.agg a,e,h=>by cases e<;>first|(simp only[D.beq] at h;rw[D.beqs_eq _ _ h])|cases h
 |.list a,e,h=>by cases e<;>first|(simp only[D.beq] at h;rw[D.beqs_eq _ _ h])|cases h
 |.tup a,e,h=>by cases e<;>first|(simp only[D.beq] at h;rw[D.beqs_eq _ _ h])|cases h
 |.map a,e,h=>by
  cases e<;>first|(simp only[D.beq,aq,SU] at h;rw[h.1,h.2])|cases h
 |.ref a,e,h=>by cases e<;>first|(simp only[D.beq] at h;rw[D.beq_eq _ _ h])|cases h
 |.clo f a,e,h=>by cases e<;>first|(simp only[D.beq,aq] at h;rw[aw h.1,D.beqs_eq _ _ h.2])|cases h
 |.none,e,h=>by cases e<;>first|rfl|cases h
theorem D.beqs_eq:∀a b:List D,D.beqs a b=true→a=b
 |[],e,h=>by cases e<;>first|rfl|cases h
 |a::aa,e,h=>by
  cases e with
  |nil=>cases h
  |cons b bs=>simp only[D.beqs,aq] at h;rw[D.beq_eq _ _ h.1,D.beqs_eq _ _ h.2]
end
mutual
def PE.beq:PE→PE→Bool
 |.r a,e=>match e with|.r b=>Nat.beq a b|_=>false
 |.o a,e=>match e with|.o b=>Nat.beq a b|_=>false
 |.con a,e=>match e with|.con b=>D.beq a b|_=>false
 |.cell x i,e=>match e with|.cell y j=>PE.beq x y&&Nat.beq i j|_=>false
 |.sub x i n,e=>match e with|.sub y j m=>PE.beq x y&&(Nat.beq i j&&Nat.beq n m)|_=>false
 |.setc x i z,e=>match e with|.setc y j u=>PE.beq x y&&(Nat.beq i j&&PE.beq z u)|_=>false
 |.mk x,e=>match e with|.mk y=>PE.beqs x y|_=>false
 |.ai op k x y,e=>match e with|.ai vb k' x' y'=>op==vb&&(k==k'&&(PE.beq x x'&&PE.beq y y'))|_=>false
 |.ci op x y,e=>match e with|.ci vb x' y'=>op==vb&&(PE.beq x x'&&PE.beq y y')|_=>false
 |.cb op x y,e=>match e with|.cb vb x' y'=>op==vb&&(PE.beq x x'&&PE.beq y y')|_=>false
 |.cs op x y,e=>match e with|.cs vb x' y'=>op==vb&&(PE.beq x x'&&PE.beq y y')|_=>false
 |.sadd x y,e=>match e with|.sadd x' y'=>PE.beq x x'&&PE.beq y y'|_=>false
 |.nt x,e=>match e with|.nt y=>PE.beq x y|_=>false
 |.conv k x,e=>match e with|.conv k' y=>k==k'&&PE.beq x y|_=>false
 |.pick c x y,e=>match e with|.pick c' x' y'=>PE.beq c c'&&(PE.beq x x'&&PE.beq y y')|_=>false
 |.llen x,e=>match e with|.llen y=>PE.beq x y|_=>false
 |.bytes x,e=>match e with|.bytes y=>PE.beq x y|_=>false
 |.slen x,e=>match e with|.slen y=>PE.beq x y|_=>false
 |.mlen x,e=>match e with|.mlen y=>PE.beq x y|_=>false
 |.nth x y,e=>match e with|.nth x' y'=>PE.beq x x'&&PE.beq y y'|_=>false
 |.idx x y,e=>match e with|.idx x' y'=>PE.beq x x'&&PE.beq y y'|_=>false
 |.sidx x y,e=>match e with|.sidx x' y'=>PE.beq x x'&&PE.beq y y'|_=>false
 |.sok x y,e=>match e with|.sok x' y'=>PE.beq x x'&&PE.beq y y'|_=>false
 |.setn x i n y,e=>match e with|.setn x' i' n' y'=>PE.beq x x'&&(PE.beq i i'&&(Nat.beq n n'&&PE.beq y y'))|_=>false
 |.app x y,e=>match e with|.app x' y'=>PE.beq x x'&&PE.beq y y'|_=>false
 |.lst x,e=>match e with|.lst y=>PE.beqs x y|_=>false
 |.rep x y,e=>match e with|.rep x' y'=>PE.beq x x'&&PE.beq y y'|_=>false
 |.slc c x y,e=>match e with|.slc c' x' y'=>PE.beq c c'&&(PE.beq x x'&&PE.beq y y')|_=>false
 |.slok c x y,e=>match e with|.slok c' x' y'=>PE.beq c c'&&(PE.beq x x'&&PE.beq y y')|_=>false
 |.ref x,e=>match e with|.ref y=>PE.beq x y|_=>false
 |.deref x,e=>match e with|.deref y=>PE.beq x y|_=>false
 |.look c x y,e=>match e with|.look c' x' y'=>PE.beq c c'&&(PE.beq x x'&&PE.beq y y')|_=>false
 |.has x y,e=>match e with|.has x' y'=>PE.beq x x'&&PE.beq y y'|_=>false
 |.put c x y,e=>match e with|.put c' x' y'=>PE.beq c c'&&(PE.beq x x'&&PE.beq y y')|_=>false
 |.mn x y,e=>match e with|.mn x' y'=>PE.beq x x'&&PE.beq y y'|_=>false
 |.mx x y,e=>match e with|.mx x' y'=>PE.beq x x'&&PE.beq y y'|_=>false
 |.tup x,e=>match e with|.tup y=>PE.beqs x y|_=>false
 |.tget x i,e=>match e with|.tget y j=>PE.beq x y&&Nat.beq i j|_=>false
 |.clo f x,e=>match e with|.clo g y=>Nat.beq f g&&PE.beqs x y|_=>false
 |.an x y,e=>match e with|.an x' y'=>PE.beq x x'&&PE.beq y y'|_=>false
 |.imp c x,e=>match e with|.imp c' y=>qo c c'&&PE.beq x y|_=>false
def PE.beqs:List PE→List PE→Bool
 |[],e=>match e with|[]=>true|_=>false
 |a::aa,e=>match e with|b::bs=>PE.beq a b&&PE.beqs aa bs|_=>false
end
theorem cV {a b:Nat}(h:Nat.beq a b=true):a=b:=aw h
mutual
theorem PE.beq_eq:∀a b:PE,PE.beq a b=true→a=b
 |.r a,e,h=>by cases e<;>first|(rw[cV h])|cases h
 |.o a,e,h=>by cases e<;>first|(rw[cV h])|cases h
 |.con a,e,h=>by cases e<;>first|(rw[D.beq_eq _ _ h])|cases h
 |.cell x i,e,h=>by cases e<;>first|(simp only[PE.beq,aq] at h;rw[PE.beq_eq _ _ h.1,cV h.2])|cases h
 |.sub x i n,e,h=>by cases e<;>first|(simp only[PE.beq,aq] at h;rw[PE.beq_eq _ _ h.1,cV h.2.1,cV h.2.2])|cases h
 |.setc x i z,e,h=>by cases e<;>first|(simp only[PE.beq,aq] at h;rw[PE.beq_eq _ _ h.1,cV h.2.1,PE.beq_eq _ _ h.2.2])|cases h
 |.mk x,e,h=>by cases e<;>first|(simp only[PE.beq] at h;rw[PE.beqs_eq _ _ h])|cases h
 |.ai op k x y,e,h=>by cases e<;>first|(simp only[PE.beq,aq,beq_iff_eq] at h;rw[h.1,h.2.1,PE.beq_eq _ _ h.2.2.1,PE.beq_eq _ _ h.2.2.2])|cases h
 |.ci op x y,e,h=>by cases e<;>first|(simp only[PE.beq,aq,beq_iff_eq] at h;rw[h.1,PE.beq_eq _ _ h.2.1,PE.beq_eq _ _ h.2.2])|cases h
 |.cb op x y,e,h=>by cases e<;>first|(simp only[PE.beq,aq,beq_iff_eq] at h;rw[h.1,PE.beq_eq _ _ h.2.1,PE.beq_eq _ _ h.2.2])|cases h
 |.cs op x y,e,h=>by cases e<;>first|(simp only[PE.beq,aq,beq_iff_eq] at h;rw[h.1,PE.beq_eq _ _ h.2.1,PE.beq_eq _ _ h.2.2])|cases h
 |.sadd x y,e,h=>by cases e<;>first|(simp only[PE.beq,aq] at h;rw[PE.beq_eq _ _ h.1,PE.beq_eq _ _ h.2])|cases h
 |.nt x,e,h=>by cases e<;>first|(simp only[PE.beq] at h;rw[PE.beq_eq _ _ h])|cases h
 |.conv k x,e,h=>by cases e<;>first|(simp only[PE.beq,aq,beq_iff_eq] at h;rw[h.1,PE.beq_eq _ _ h.2])|cases h
 |.pick c x y,e,h=>by cases e<;>first|(simp only[PE.beq,aq] at h;rw[PE.beq_eq _ _ h.1,PE.beq_eq _ _ h.2.1,PE.beq_eq _ _ h.2.2])|cases h
 |.llen x,e,h=>by cases e<;>first|(simp only[PE.beq] at h;rw[PE.beq_eq _ _ h])|cases h
 |.bytes x,e,h=>by cases e<;>first|(simp only[PE.beq] at h;rw[PE.beq_eq _ _ h])|cases h
 |.slen x,e,h=>by cases e<;>first|(simp only[PE.beq] at h;rw[PE.beq_eq _ _ h])|cases h
 |.mlen x,e,h=>by cases e<;>first|(simp only[PE.beq] at h;rw[PE.beq_eq _ _ h])|cases h
 |.nth x y,e,h=>by cases e<;>first|(simp only[PE.beq,aq] at h;rw[PE.beq_eq _ _ h.1,PE.beq_eq _ _ h.2])|cases h
 |.idx x y,e,h=>by cases e<;>first|(simp only[PE.beq,aq] at h;rw[PE.beq_eq _ _ h.1,PE.beq_eq _ _ h.2])|cases h
 |.sidx x y,e,h=>by cases e<;>first|(simp only[PE.beq,aq] at h;rw[PE.beq_eq _ _ h.1,PE.beq_eq _ _ h.2])|cases h
 |.sok x y,e,h=>by cases e<;>first|(simp only[PE.beq,aq] at h;rw[PE.beq_eq _ _ h.1,PE.beq_eq _ _ h.2])|cases h
 |.setn x i n y,e,h=>by cases e<;>first|(simp only[PE.beq,aq] at h;rw[PE.beq_eq _ _ h.1,PE.beq_eq _ _ h.2.1,cV h.2.2.1,PE.beq_eq _ _ h.2.2.2])|cases h
 |.app x y,e,h=>by cases e<;>first|(simp only[PE.beq,aq] at h;rw[PE.beq_eq _ _ h.1,PE.beq_eq _ _ h.2])|cases h
 |.lst x,e,h=>by cases e<;>first|(simp only[PE.beq] at h;rw[PE.beqs_eq _ _ h])|cases h
 |.rep x y,e,h=>by cases e<;>first|(simp only[PE.beq,aq] at h;rw[PE.beq_eq _ _ h.1,PE.beq_eq _ _ h.2])|cases h
 |.slc c x y,e,h=>by cases e<;>first|(simp only[PE.beq,aq] at h;rw[PE.beq_eq _ _ h.1,PE.beq_eq _ _ h.2.1,PE.beq_eq _ _ h.2.2])|cases h
 |.slok c x y,e,h=>by cases e<;>first|(simp only[PE.beq,aq] at h;rw[PE.beq_eq _ _ h.1,PE.beq_eq _ _ h.2.1,PE.beq_eq _ _ h.2.2])|cases h
 |.ref x,e,h=>by cases e<;>first|(simp only[PE.beq] at h;rw[PE.beq_eq _ _ h])|cases h
 |.deref x,e,h=>by cases e<;>first|(simp only[PE.beq] at h;rw[PE.beq_eq _ _ h])|cases h
 |.look c x y,e,h=>by cases e<;>first|(simp only[PE.beq,aq] at h;rw[PE.beq_eq _ _ h.1,PE.beq_eq _ _ h.2.1,PE.beq_eq _ _ h.2.2])|cases h
 |.has x y,e,h=>by cases e<;>first|(simp only[PE.beq,aq] at h;rw[PE.beq_eq _ _ h.1,PE.beq_eq _ _ h.2])|cases h
 |.put c x y,e,h=>by cases e<;>first|(simp only[PE.beq,aq] at h;rw[PE.beq_eq _ _ h.1,PE.beq_eq _ _ h.2.1,PE.beq_eq _ _ h.2.2])|cases h
 |.mn x y,e,h=>by cases e<;>first|(simp only[PE.beq,aq] at h;rw[PE.beq_eq _ _ h.1,PE.beq_eq _ _ h.2])|cases h
 |.mx x y,e,h=>by cases e<;>first|(simp only[PE.beq,aq] at h;rw[PE.beq_eq _ _ h.1,PE.beq_eq _ _ h.2])|cases h
 |.tup x,e,h=>by cases e<;>first|(simp only[PE.beq] at h;rw[PE.beqs_eq _ _ h])|cases h
 |.tget x i,e,h=>by cases e<;>first|(simp only[PE.beq,aq] at h;rw[PE.beq_eq _ _ h.1,cV h.2])|cases h
 |.clo f x,e,h=>by cases e<;>first|(simp only[PE.beq,aq] at h;rw[cV h.1,PE.beqs_eq _ _ h.2])|cases h
 |.an x y,e,h=>by cases e<;>first|(simp only[PE.beq,aq] at h;rw[PE.beq_eq _ _ h.1,PE.beq_eq _ _ h.2])|cases h
 |.imp c x,e,h=>by cases e<;>first|(simp only[PE.beq,aq] at h;rw[A0 _ _ h.1,PE.beq_eq _ _ h.2])|cases h
theorem PE.beqs_eq:∀a b:List PE,PE.beqs a b=true→a=b
 |[],e,h=>by cases e<;>first|rfl|cases h
 |a::aa,e,h=>by
  cases e with
  |nil=>cases h
  |cons b bs=>simp only[PE.beqs,aq] at h;rw[PE.beq_eq _ _ h.1,PE.beqs_eq _ _ h.2]
end
def PI.beq:PI→PI→Bool
 |.setR t x,e=>match e with|.setR u y=>Nat.beq t u&&PE.beq x y|_=>false
 |.setO t x,e=>match e with|.setO u y=>Nat.beq t u&&PE.beq x y|_=>false
 |.chk x,e=>match e with|.chk y=>PE.beq x y|_=>false
 |.call gs d f aa,e=>match e with|.call bI d' f' zO=>qo gs bI&&(Nat.beq d d'&&(Nat.beq f f'&&PE.beqs aa zO))|_=>false
 |.callc gs d f aa,e=>match e with|.callc bI d' f' zO=>qo gs bI&&(Nat.beq d d'&&(PE.beq f f'&&PE.beqs aa zO))|_=>false
 |.mcall d f aa,e=>match e with|.mcall d' f' zO=>Nat.beq d d'&&(Nat.beq f f'&&PE.beqs aa zO)|_=>false
theorem PI.beq_eq:∀a b:PI,PI.beq a b=true→a=b:=by
 intro a b h;cases a<;>cases b<;>first
  |(cases h;done)
  |(simp only[PI.beq,aq] at h;first
       |rw[cV h.1,PE.beq_eq _ _ h.2]
       |rw[PE.beq_eq _ _ h]
       |rw[A0 _ _ h.1,cV h.2.1,cV h.2.2.1,PE.beqs_eq _ _ h.2.2.2]
       |rw[A0 _ _ h.1,cV h.2.1,PE.beq_eq _ _ h.2.2.1,PE.beqs_eq _ _ h.2.2.2]
       |rw[cV h.1,cV h.2.1,PE.beqs_eq _ _ h.2.2])
def PI.beqs:List PI→List PI→Bool
 |[],e=>match e with|[]=>true|_=>false
 |a::aa,e=>match e with|b::bs=>PI.beq a b&&PI.beqs aa bs|_=>false
theorem PI.beqs_eq:∀a b:List PI,PI.beqs a b=true→a=b
 |[],e,h=>by cases e<;>first|rfl|cases h
 |a::aa,e,h=>by
  cases e with
  |nil=>cases h
  |cons b bs=>simp only[PI.beqs,aq] at h;rw[PI.beq_eq _ _ h.1,PI.beqs_eq _ _ h.2]
end Cx
namespace Cx
open Go Go.RowKit
structure Lk where
 r:Nat
 o:List Nat
def Lk.or (a b:Lk):Lk:=⟨Nat.lor a.r b.r,a.o++b.o⟩
def Lk.none:Lk:=⟨0,[]⟩
def ko:List (Nat×Bool)→Lk
 |[]=>.none
 |g::gs=>⟨Nat.lor (fO g.1) (ko gs).r,(ko gs).o⟩
mutual
def PE.lk:PE→Lk
 |.r t=>⟨fO t,[]⟩
 |.o j=>⟨0,[j]⟩
 |.con _=>.none
 |.cell e _|.sub e _ _|.nt e|.conv _ e|.llen e|.bytes e|.slen e|.mlen e|.ref e|.deref e|.tget e _=>PE.lk e
 |.setc x _ y|.ai _ _ x y|.ci _ x y|.cb _ x y|.cs _ x y|.sadd x y|.nth x y|.idx x y|.sidx x y|.sok x y|.app x y|.rep x y|.has x y|.mn x y|.mx x y|.an x y=>(PE.lk x).or (PE.lk y)
 |.mk es|.lst es|.tup es|.clo _ es=>PE.lks es
 |.pick x y z|.slc x y z|.slok x y z|.look x y z|.put x y z|.setn x y _ z=>(PE.lk x).or ((PE.lk y).or (PE.lk z))
 |.imp c x=>(ko c).or (PE.lk x)
def PE.lks:List PE→Lk
 |[]=>.none
 |e::es=>(PE.lk e).or (PE.lks es)
end
structure Alike (k:Lk) (ρ ρ':Env):Prop where
 r:∀t,aN k.r t=true→ρ'.r t=ρ.r t
 o:∀j,j∈k.o→ρ'.o j=ρ.o j
theorem Alike.left {a b:Lk}{ρ ρ':Env}(h:Alike (a.or b) ρ ρ'):Alike a ρ ρ':=
 ⟨fun t ht=>h.r t (by simp only[Lk.or,fq,ht,zA]),fun j hj=>h.o j (iN _ hj)⟩
theorem Alike.right {a b:Lk}{ρ ρ':Env}(h:Alike (a.or b) ρ ρ'):Alike b ρ ρ':=
 ⟨fun t ht=>h.r t (by simp only[Lk.or,fq,ht,pE]),fun j hj=>h.o j (jk _ hj)⟩
theorem ye {ρ ρ':Env}:∀{c:List (Nat×Bool)},Alike (ko c) ρ ρ'→holds c ρ'=holds c ρ
 |[],_=>rfl
 |g::gs,h=>by
  have ih:=ye (ρ:=ρ) (ρ':=ρ') (c:=gs) ⟨fun t ht=>h.r t (by simp only[ko,fq,ht,pE]),fun j hj=>h.o j hj⟩;have h1:=h.r g.1 (by simp only[ko,fq,og,zA]);unfold holds at ih ⊢;simp only[nS];rw[ih,h1]
mutual
theorem PE.ev_alike {ρ ρ':Env}:∀(e:PE),Alike e.lk ρ ρ'→e.ev ρ'=e.ev ρ
 |.r t,h=>h.r t (og t)
 |.o j,h=>h.o j (by simp[PE.lk])
 |.con _,h=>rfl
 |.cell e _,h=>by simp only[PE.ev,PE.ev_alike e h]
 |.sub e _ _,h=>by simp only[PE.ev,PE.ev_alike e h]
 |.nt e,h=>by simp only[PE.ev,PE.ev_alike e h]
 |.conv _ e,h=>by simp only[PE.ev,PE.ev_alike e h]
 |.llen e,h=>by simp only[PE.ev,PE.ev_alike e h]
 |.bytes e,h=>by simp only[PE.ev,PE.ev_alike e h]
 |.slen e,h=>by simp only[PE.ev,PE.ev_alike e h]
 |.mlen e,h=>by simp only[PE.ev,PE.ev_alike e h]
 |.ref e,h=>by simp only[PE.ev,PE.ev_alike e h]
 |.deref e,h=>by simp only[PE.ev,PE.ev_alike e h]
 |.tget e _,h=>by simp only[PE.ev,PE.ev_alike e h]
 |.setc x _ y,h=>by simp only[PE.ev,PE.ev_alike x h.left,PE.ev_alike y h.right]
 |.ai _ _ x y,h=>by simp only[PE.ev,PE.ev_alike x h.left,PE.ev_alike y h.right]
 |.ci _ x y,h=>by simp only[PE.ev,PE.ev_alike x h.left,PE.ev_alike y h.right]
 |.cb _ x y,h=>by simp only[PE.ev,PE.ev_alike x h.left,PE.ev_alike y h.right]
 |.cs _ x y,h=>by simp only[PE.ev,PE.ev_alike x h.left,PE.ev_alike y h.right]
 |.sadd x y,h=>by simp only[PE.ev,PE.ev_alike x h.left,PE.ev_alike y h.right]
 |.nth x y,h=>by simp only[PE.ev,PE.ev_alike x h.left,PE.ev_alike y h.right]
 |.idx x y,h=>by simp only[PE.ev,PE.ev_alike x h.left,PE.ev_alike y h.right]
 |.sidx x y,h=>by simp only[PE.ev,PE.ev_alike x h.left,PE.ev_alike y h.right]
 |.sok x y,h=>by simp only[PE.ev,PE.ev_alike x h.left,PE.ev_alike y h.right]
 |.app x y,h=>by simp only[PE.ev,PE.ev_alike x h.left,PE.ev_alike y h.right]
 |.rep x y,h=>by simp only[PE.ev,PE.ev_alike x h.left,PE.ev_alike y h.right]
 |.has x y,h=>by simp only[PE.ev,PE.ev_alike x h.left,PE.ev_alike y h.right]
 |.mn x y,h=>by simp only[PE.ev,PE.ev_alike x h.left,PE.ev_alike y h.right]
 |.mx x y,h=>by simp only[PE.ev,PE.ev_alike x h.left,PE.ev_alike y h.right]
 |.an x y,h=>by simp only[PE.ev,PE.ev_alike x h.left,PE.ev_alike y h.right]
 |.mk es,h=>by simp only[PE.ev,PE.evc_alike es h]
 |.lst es,h=>by simp only[PE.ev,PE.evs_alike es h]
 |.tup es,h=>by simp only[PE.ev,PE.evs_alike es h]
 |.clo _ es,h=>by simp only[PE.ev,PE.evs_alike es h]
 |.pick x y z,h=>by simp only[PE.ev,PE.ev_alike x h.left,PE.ev_alike y h.right.left,PE.ev_alike z h.right.right]
 |.slc x y z,h=>by simp only[PE.ev,PE.ev_alike x h.left,PE.ev_alike y h.right.left,PE.ev_alike z h.right.right]
 |.slok x y z,h=>by simp only[PE.ev,PE.ev_alike x h.left,PE.ev_alike y h.right.left,PE.ev_alike z h.right.right]
 |.look x y z,h=>by simp only[PE.ev,PE.ev_alike x h.left,PE.ev_alike y h.right.left,PE.ev_alike z h.right.right]
 |.put x y z,h=>by simp only[PE.ev,PE.ev_alike x h.left,PE.ev_alike y h.right.left,PE.ev_alike z h.right.right]
 |.setn x y _ z,h=>by simp only[PE.ev,PE.ev_alike x h.left,PE.ev_alike y h.right.left,PE.ev_alike z h.right.right]
 |.imp c x,h=>by simp only[PE.ev,ye h.left,PE.ev_alike x h.right]
theorem PE.evs_alike {ρ ρ':Env}:∀(es:List PE),Alike (PE.lks es) ρ ρ'→PE.evs ρ' es=PE.evs ρ es
 |[],h=>rfl
 |e::es,h=>by simp only[PE.evs,PE.ev_alike e h.left,PE.evs_alike es h.right]
theorem PE.evc_alike {ρ ρ':Env}:∀(es:List PE),Alike (PE.lks es) ρ ρ'→PE.evc ρ' es=PE.evc ρ es
 |[],h=>rfl
 |e::es,h=>by simp only[PE.evc,PE.ev_alike e h.left,PE.evc_alike es h.right]
end
def PI.lk:PI→Lk
 |.setR _ e|.setO _ e|.chk e=>e.lk
 |.call gs _ _ aa=>(ko gs).or (PE.lks aa)
 |.callc gs _ e aa=>(ko gs).or (e.lk.or (PE.lks aa))
 |.mcall _ _ aa=>PE.lks aa
inductive Eff where
 |skip
 |r (t:Nat) (d:D)
 |o (j:Nat) (d:D)
def Eff.app (ρ:Env):Eff→Env
 |.skip=>ρ
 |.r t d=>ρ.setR t d
 |.o j d=>ρ.setO j d
def PI.eff (Φ:aJ)(ρ:Env):PI→Option Eff
 |.setR t e=>some (.r t (e.ev ρ))
 |.setO j e=>some (.o j (e.ev ρ))
 |.chk e=>bif (e.ev ρ).b then some .skip else none
 |.call gs dst f args=>bif holds gs ρ then(Φ f (PE.evs ρ args)).map (.r dst) else some .skip
 |.callc gs dst e args=>bif holds gs ρ then(match e.ev ρ with|.clo f caps=>(Φ f (PE.evs ρ args++caps)).map (.r dst)|_=>none) else some .skip
 |.mcall j f args=>(Φ f (PE.evs ρ args)).map (.o j)
theorem PI.run_eff (Φ:aJ)(ρ:Env)(p:PI):p.run Φ ρ=(p.eff Φ ρ).map (Eff.app ρ):=by
 cases p with
 |setR t e=>rfl
 |setO t e=>rfl
 |chk e=>simp only[PI.run,PI.eff];cases(e.ev ρ).b<;>rfl
 |call gs d f aa=>
  simp only[PI.run,PI.eff];cases holds gs ρ
  ·rfl
  ·simp only[cond_true,S8];rfl
 |callc gs d e aa=>
  simp only[PI.run,PI.eff];cases holds gs ρ
  ·rfl
  ·simp only[cond_true];cases e.ev ρ<;>first|rfl|(simp only[S8];rfl)
 |mcall j f aa=>simp only[PI.run,PI.eff,S8];rfl
theorem PI.eff_alike {Φ:aJ}{ρ ρ':Env}(p:PI)(h:Alike p.lk ρ ρ'):p.eff Φ ρ'=p.eff Φ ρ:=by
 cases p with
 |setR t e=>simp only[PI.eff,PE.ev_alike e h]
 |setO t e=>simp only[PI.eff,PE.ev_alike e h]
 |chk e=>simp only[PI.eff,PE.ev_alike e h]
 |call gs d f aa=>simp only[PI.eff,ye h.left,PE.evs_alike aa h.right]
 |callc gs d e aa=>simp only[PI.eff,ye h.left,PE.ev_alike e h.right.left,PE.evs_alike aa h.right.right]
 |mcall j f aa=>simp only[PI.eff,PE.evs_alike aa h]
def PI.wo:PI→List Nat
 |.setO j _|.mcall j _ _=>[j]
 |_=>[]
def Eff.within (m:Nat)(l:List Nat):Eff→Prop
 |.skip=>True
 |.r t _=>aN m t=true
 |.o j _=>j∈l
theorem PI.eff_within {Φ:aJ}{ρ:Env}{p:PI}{x:Eff}(h:p.eff Φ ρ=some x):x.within p.mask p.wo:=by
 cases p with
 |setR t e=>simp only[PI.eff,aS] at h;subst h;exact og t
 |setO t e=>simp only[PI.eff,aS] at h;subst h;simp[Eff.within,PI.wo]
 |chk e=>simp only[PI.eff] at h;cases hb:(e.ev ρ).b<;>rw[hb] at h<;>cases h;trivial
 |call gs d f aa=>
  simp only[PI.eff] at h;cases hb:holds gs ρ<;>simp only[hb,cond_true,cond_false,aS,ax] at h
  ·subst h;trivial
  ·obtain⟨d,_,rfl⟩:=h;exact og _
 |callc gs d e aa=>
  simp only[PI.eff] at h;cases hb:holds gs ρ<;>simp only[hb,cond_true,cond_false,aS] at h
  ·subst h;trivial
  ·split at h
   ·simp only[ax] at h;obtain⟨d,_,rfl⟩:=h;exact og _
   ·cases h
 |mcall j f aa=>simp only[PI.eff,ax] at h;obtain⟨d,_,rfl⟩:=h;simp[Eff.within,PI.wo]
def Ea (a b:List Nat):Bool:=a.all fun x=> !eE b x
structure Foot where
 wr:Nat
 wo:List Nat
 k:Lk
def ga:List PI→Foot
 |[]=>⟨0,[],.none⟩
 |p::l=>⟨Nat.lor p.mask (ga l).wr,p.wo++(ga l).wo,p.lk.or (ga l).k⟩
def Foot.comm (a b:Foot):Bool:=
 Nat.beq (Nat.land a.wr b.wr) 0&&(Nat.beq (Nat.land a.wr b.k.r) 0&&(Nat.beq (Nat.land b.wr a.k.r) 0&&
    (Ea a.wo b.wo&&(Ea a.wo b.k.o&&Ea b.wo a.k.o))))
theorem MV {a b t:Nat}(h:Nat.beq (Nat.land a b) 0=true)(ha:aN a t=true)(hb:aN b t=true):False:=by
 have h1:=cV h;have h2:(a&&& b).testBit t=true:=by rw[Nat.testBit_and,←tC,←tC,ha,hb];rfl
 have h3:(a&&& b)=0:=h1;rw[h3] at h2;simp at h2
theorem JJ {a b:List Nat}(h:Ea a b=true){x:Nat}(ha:x∈a)(hb:x∈b):False:=by
 have:=db.1 h x ha;rw[(nv b x).2 hb] at this;cases this
structure Comm (p q:PI):Prop where
 ww:∀t,aN p.mask t=true→aN q.mask t=true→False
 wr:∀t,aN p.mask t=true→aN q.lk.r t=true→False
 rw:∀t,aN q.mask t=true→aN p.lk.r t=true→False
 oww:∀t,t∈p.wo→t∈q.wo→False
 owr:∀t,t∈p.wo→t∈q.lk.o→False
 orw:∀t,t∈q.wo→t∈p.lk.o→False
theorem Eff.alike {x:Eff}{m:Nat}{l:List Nat}{k:Lk}{ρ:Env}(h:x.within m l)(h1:∀t,aN m t=true→aN k.r t=true→False)(h2:∀t,t∈l→t∈k.o→False):Alike k ρ (x.app ρ):=by
 cases x with
 |skip=>exact⟨fun _ _=>rfl,fun _ _=>rfl⟩
 |r t d=>exact⟨fun u hu=>bp _ _ (fun e=>h1 t h (e▸hu)),fun _ _=>rfl⟩
 |o t d=>exact⟨fun _ _=>rfl,fun u hu=>bp _ _ (fun e=>h2 t h (e▸hu))⟩
theorem abj {α:Type}(f:Nat→α){i j:Nat}(x y:α)(h:i≠j):bT (bT f i x) j y=bT (bT f j y) i x:=by
 funext t;simp only[eX];by_cases h1:t=i
 ·subst h1;simp[h]
 ·simp[h1]
theorem Eff.comm {x y:Eff}{m m':Nat}{l l':List Nat}{ρ:Env}(hx:x.within m l)(hy:y.within m' l')(h1:∀t,aN m t=true→aN m' t=true→False)(h2:∀t,t∈l→t∈l'→False):
 y.app (x.app ρ)=x.app (y.app ρ):=by
 cases x with
 |skip=>rfl
 |r t d=>
  cases y with
  |skip=>rfl
  |r u e=>
   have az:t≠u:=fun e=>h1 t hx (by subst e;exact hy);show Env.setR (Env.setR ρ t d) u e=Env.setR (Env.setR ρ u e) t d;simp only[Env.setR];rw[abj _ _ _ az]
  |o u e=>rfl
 |o t d=>
  cases y with
  |skip=>rfl
  |r u e=>rfl
  |o u e=>
   have az:t≠u:=fun e=>h2 t hx (by subst e;exact hy);show Env.setO (Env.setO ρ t d) u e=Env.setO (Env.setO ρ u e) t d;simp only[Env.setO];rw[abj _ _ _ az]
theorem PI.comm {Φ:aJ}{p q:PI}(h:Comm p q)(ρ:Env):(p.run Φ ρ).bind (q.run Φ)=(q.run Φ ρ).bind (p.run Φ):=by
 simp only[PI.run_eff];cases hp:p.eff Φ ρ with
 |none=>
  cases hq:q.eff Φ ρ with
  |none=>rfl
  |some y=>
   have:=PI.eff_alike (Φ:=Φ) p (Eff.alike (ρ:=ρ) (PI.eff_within hq) h.rw h.orw);simp[PI.run_eff,this,hp]
 |some x=>
  have hx:=PI.eff_within hp;have e1:=PI.eff_alike (Φ:=Φ) q (Eff.alike (ρ:=ρ) hx h.wr h.owr);cases hq:q.eff Φ ρ with
  |none=>simp[PI.run_eff,e1,hq]
  |some y=>
   have hy:=PI.eff_within hq;have e2:=PI.eff_alike (Φ:=Φ) p (Eff.alike (ρ:=ρ) hy h.rw h.orw);simp only[jq,nY,PI.run_eff,e1,e2,hp,hq];rw[Eff.comm hx hy h.ww h.oww]
theorem PI.comm1 {Φ:aJ}{p:PI}:∀(l:List PI),(∀q,q∈l→Comm p q)→∀ρ,(p.run Φ ρ).bind (PI.runs Φ l)=(PI.runs Φ l ρ).bind (p.run Φ)
 |[],_,ρ=>by simp only[PI.runs];cases h:p.run Φ ρ<;>simp[h]
 |q::l,h,ρ=>by
  have ih:=PI.comm1 (Φ:=Φ) l fun q hq=>h q (dY _ hq);have hc:=PI.comm (Φ:=Φ) (h q (ej ..)) ρ;simp only[PI.runs];have e1:((p.run Φ ρ).bind fun ρ1=>(q.run Φ ρ1).bind (PI.runs Φ l))=((p.run Φ ρ).bind (q.run Φ)).bind (PI.runs Φ l):=by cases p.run Φ ρ<;>rfl
  show((p.run Φ ρ).bind fun ρ1=>(q.run Φ ρ1).bind (PI.runs Φ l))=_;rw[e1,hc];cases q.run Φ ρ with
  |none=>rfl
  |some ρ1=>simp only[nY];exact ih ρ1
theorem PI.comms {Φ:aJ}:∀(a b:List PI),(∀p q,p∈a→q∈b→Comm p q)→∀ρ,PI.runs Φ (a++b) ρ=PI.runs Φ (b++a) ρ
 |[],b,_,ρ=>by simp
 |p::a,b,h,ρ=>by
  have ih:=PI.comms (Φ:=Φ) a b fun p q hp hq=>h p q (dY _ hp) hq;have h1:=PI.comm1 (Φ:=Φ) b (fun q hq=>h p q (ej ..) hq);simp only[DS,PI.runs,px];have e1:((p.run Φ ρ).bind (PI.runs Φ (a++b)))=(p.run Φ ρ).bind (PI.runs Φ (b++a)):=by
   cases p.run Φ ρ with
   |none=>rfl
   |some ρ1=>exact ih ρ1
  rw[e1];have e2:PI.runs Φ (b++a)=fun ρ=>(PI.runs Φ b ρ).bind (PI.runs Φ a):=funext fun ρ=>px;rw[e2];have e3:((p.run Φ ρ).bind fun ρ=>(PI.runs Φ b ρ).bind (PI.runs Φ a))=((p.run Φ ρ).bind (PI.runs Φ b)).bind (PI.runs Φ a):=by cases p.run Φ ρ<;>rfl
  rw[e3,h1 ρ];cases PI.runs Φ b ρ with
  |none=>rfl
  |some ρ1=>rfl
theorem UI {l:List PI}{p:PI}(h:p∈l):(∀t,aN p.mask t=true→aN (ga l).wr t=true)∧(∀t,t∈p.wo→t∈(ga l).wo)∧(∀t,aN p.lk.r t=true→aN (ga l).k.r t=true)∧∀t,t∈p.lk.o→t∈(ga l).k.o:=by
 induction l with
 |nil=>cases h
 |cons q l ih=>
  rcases cG.1 h with e|h
  ·subst e;refine⟨fun t ht=>?_,fun t ht=>iN _ ht,fun t ht=>?_,fun t ht=>iN _ ht⟩
   ·simp only[ga,fq,ht,zA]
   ·simp only[ga,Lk.or,fq,ht,zA]
  ·obtain⟨h1,h2,h3,h4⟩:=ih h;refine⟨fun t ht=>?_,fun t ht=>jk _ (h2 t ht),fun t ht=>?_,fun t ht=>jk _ (h4 t ht)⟩
   ·simp only[ga,fq,h1 t ht,pE]
   ·simp only[ga,Lk.or,fq,h3 t ht,pE]
def gY (S:St)(dst:Nat)(S':St):Prop:=∀t,t≠dst→S'.r t=S.r t
section
variable {C:Ctx} {S:St} {gs:List (Nat×Bool)} {dst:Nat} {r:St×List PI}
theorem gB {X:St}{s:Sh}(h:X.r=S.r):gY S dst (X.setR dst s):=fun t ht=>by simp only[St.setR,bp _ _ ht,h]
theorem agq (S:St)(j:Nat):(S.fz j).r=S.r:=(FO S j).2
theorem aeu {T:TypeId}{x:Operand}(h:AG C S dst T x=some r):gY S dst r.1:=by
 unfold AG at h;split at h
 ·simp only[ax] at h;obtain⟨e,_,rfl⟩:=h;exact gB rfl
 ·cases h
theorem aeA {T:TypeId}{x:Operand}(h:rB C S dst T x=some r):gY S dst r.1:=by
 unfold rB at h;split at h
 ·rename_i v;simp only[au] at h;obtain⟨e,_,z,_,h⟩:=h;cases hc:gX e v<;>simp only[hc,cond_true,cond_false] at h<;>cases h;exact gB rfl
 ·cases h
theorem ad4 {T:TypeId}(h:Aw C S dst T=some r):gY S dst r.1:=by
 unfold Aw at h;split at h
 ·rename_i t inf ag _ _ _;cases hc:(q9 inf t&&(t.rowT||t.one))<;>simp only[hc,cond_true,cond_false] at h
  ·cases h
  ·simp only[ax] at h;obtain⟨e,_,rfl⟩:=h;exact gB rfl
 ·cases h
theorem ad8 {T:TypeId}{x:Operand}(h:Ay C S dst T x=some r):gY S dst r.1:=by
 unfold Ay at h;split at h
 ·rename_i t e ag _ _;cases hc:(t.rowT||t.one)<;>simp only[hc,cond_true,cond_false] at h<;>cases h;exact gB rfl
 ·cases h
theorem aeo {T:TypeId}{x:Option Operand}(h:AD C S dst T x=some r):gY S dst r.1:=by
 unfold AD at h;split at h
 ·simp only[au,ax] at h;obtain⟨e,_,z,_,rfl⟩:=h;exact gB rfl
 ·cases h
theorem aew {T:TypeId}{x:Operand}(h:AH C S dst T x=some r):gY S dst r.1:=by
 unfold AH at h;split at h
 case h_2=>cases h
 rename_i K E j ver hT es;cases hb:(Nat.beq ver (S.ver j)&& !Nat.beq j dst)<;>simp only[hb,cond_true,cond_false] at h
 ·cases h
 split at h
 ·cases h;exact gB rfl
 ·cases h
theorem aec {T U:TypeId}{x:Operand}(h:Az C S dst T U x=some r):gY S dst r.1:=by
 unfold Az at h;split at h
 ·split at h
  ·cases h;exact gB rfl
  ·cases h
 ·cases h
theorem aeq {T:TypeId}{x y:Operand}(h:AE C S dst T x y=some r):gY S dst r.1:=by
 unfold AE at h;split at h
 ·rename_i E _ n _ m _ _ _;simp only[au] at h;obtain⟨e,_,h⟩:=h;cases hc:ot C.P E e<;>simp only[hc,cond_true,cond_false] at h
  ·cases h
  ·simp only[au] at h;obtain⟨z,_,h⟩:=h;cases hc2:Ty.sub z.1 e<;>simp only[hc2,cond_true,cond_false] at h<;>cases h;exact gB rfl
 ·cases h
theorem aea {T:TypeId}{n:Nat}{ps:List (Nat×Operand)}(h:tS C S gs dst T n ps=some r):gY S dst r.1:=by
 unfold tS at h;split at h
 ·simp only[au] at h;obtain⟨e,_,z,_,h⟩:=h
  revert h
  generalize (_&&_:Bool)=b;intro h;cases b<;>simp only[cond_true,cond_false] at h
  ·cases h
  ·simp only[ax] at h;obtain⟨es,_,rfl⟩:=h;exact gB rfl
 ·cases h
theorem aem {T:TypeId}{n:Nat}{ps:List (Nat×Operand)}(h:xA C S gs dst T n ps=some r):gY S dst r.1:=by
 unfold xA at h;split at h
 ·simp only[au] at h;obtain⟨e,_,h⟩:=h;split at h
  ·cases h;exact gB rfl
  ·cases h
 ·cases h
theorem ad6 {T:TypeId}{x y:Operand}(h:Ax C S dst T x y=some r):gY S dst r.1:=by
 unfold Ax at h;split at h
 ·rename_i E _;simp only[au] at h;obtain⟨e,_,h⟩:=h;split at h
  ·rename_i tx ex _;cases hc:(ot C.P E e&&IX tx e)<;>simp only[hc,cond_true,cond_false] at h
   ·cases h
   ·split at h
    ·cases h;exact gB rfl
    ·cases h
    ·split at h
     ·rename_i j ver _;cases hc:Nat.beq ver (S.ver j)<;>simp only[hc,cond_true,cond_false] at h
      ·cases h
      ·split at h
       ·rename_i E' e' _;cases hc:(Nat.beq E' E&&Ty.beq e' e)<;>simp only[hc,cond_true,cond_false] at h<;>cases h;exact gB rfl
       ·cases h
     ·cases h
  ·cases h
 ·cases h
theorem aei {f:Nat}{xs:List Operand}(h:AB C S dst f xs=some r):gY S dst r.1:=by
 simp only[AB,au] at h;obtain⟨s,_,h⟩:=h;split at h
 ·rename_i T e _;simp only[au] at h;obtain⟨u,_,h⟩:=h;cases hc:Ty.subs u.1 s.args<;>simp only[hc,cond_true,cond_false] at h<;>cases h;refine gB (X:=(bif e.pure then S else S.fzs (dw S [] xs)).newO dst (.row T e)) ?_;cases e.pure
  ·exact(oA _ S).2
  ·rfl
 ·cases h
theorem aek {f:Nat}{xs:List Operand}{q:St×Sh×List PI}(h:xy C S gs dst f xs=some q):q.1.r=S.r:=by
 simp only[xy,au] at h;obtain⟨s,_,h⟩:=h;split at h
 ·simp only[au] at h;obtain⟨u,_,h⟩:=h;cases hc:Ty.subs u.1 s.args<;>simp only[hc,cond_true,cond_false] at h<;>cases h;cases s.res.pure
  ·exact(oA _ S).2
  ·rfl
 ·cases h
theorem aee {x:Operand}{xs:List Operand}{q:St×Sh×List PI}(h:tT C S gs dst x xs=some q):q.1.r=S.r:=by
 unfold tT at h;split at h
 ·rename_i aa r0 _ _;split at h
  case h_1=>cases h
  simp only[au] at h;obtain⟨u,_,h⟩:=h;cases hc:Ty.subs u.1 aa<;>simp only[hc,cond_true,cond_false] at h<;>cases h;cases r0.pure
  ·exact(oA _ S).2
  ·rfl
 ·cases h
theorem aey {T:TypeId}{x v:Operand}(h:AI C S T x v=some r):r.1.r=S.r:=by
 unfold AI at h;split at h
 case h_2=>cases h
 rename_i inf _;split at h
 ·rename_i j ver off _;cases hc:Nat.beq ver (S.ver j)<;>simp only[hc,cond_true,cond_false] at h
  ·cases h
  split at h
  case h_2=>cases h
  rename_i ag shs _;split at h
  ·revert h
   generalize (_&&_:Bool)=b;intro h;cases b<;>simp only[cond_true,cond_false] at h<;>cases h;rfl
  ·split at h
   ·revert h
    generalize (_&&_:Bool)=b;intro h;cases b<;>simp only[cond_true,cond_false] at h<;>cases h;rfl
   ·cases h
 ·rename_i j ver size off _;cases hc:Nat.beq ver (S.ver j)<;>simp only[hc,cond_true,cond_false] at h
  ·cases h
  split at h
  ·revert h
   generalize (_&&_:Bool)=b;intro h;cases b<;>simp only[cond_true,cond_false] at h<;>cases h;rfl
  ·revert h
   generalize (_&&_:Bool)=b;intro h;cases b<;>simp only[cond_true,cond_false] at h<;>cases h;rfl
  ·cases h
 ·cases h
theorem Ud {T:TypeId}{m k v:Operand}(h:xB C S T m k v=some r):r.1.r=S.r:=by
 unfold xB at h;split at h
 ·rename_i K _ j ver _ _;cases hc:Nat.beq ver (S.ver j)<;>simp only[hc,cond_true,cond_false] at h
  ·cases h
  split at h
  ·revert h
   generalize (_&&_:Bool)=b;intro h;cases b<;>simp only[cond_true,cond_false] at h<;>cases h;rfl
  ·cases h
 ·cases h
theorem aeg {f:Nat}{xs:List Operand}(h:AA C S dst f xs=some r):gY S dst r.1:=by
 simp only[AA,au] at h;obtain⟨s,_,h⟩:=h;split at h
 case h_2=>cases h
 split at h
 case h_2=>cases h
 split at h
 case h_2=>cases h
 revert h
 generalize (_&&_:Bool)=b;intro h;cases b<;>simp only[cond_true,cond_false] at h
 ·cases h
 simp only[au] at h;obtain⟨u,_,h⟩:=h
 revert h
 generalize Ty.subs _ _=b;intro h;cases b<;>simp only[cond_true,cond_false] at h
 ·cases h
 cases h;exact gB rfl
theorem KL {f:Nat}{xs:List Operand}{cs:List (Nat×Nat)}{q:St×Ty×List PI}(h:oq C S f xs cs=some q):q.1.r=S.r:=by
 simp only[oq,au] at h;obtain⟨s,_,h⟩:=h;split at h
 ·rename_i shs obs _;unfold KK KJ at h;simp only[au] at h;obtain⟨u,_,h⟩:=h
  revert h
  generalize (_&&_:Bool)=b;intro h;cases b<;>simp only[cond_true,cond_false] at h<;>cases h;exact(oA _ S).2
 ·cases h
theorem T9 {t:Nat}{xs:List Operand}{q:St×Ty×List PI}(h:xz C S t xs=some q):q.1.r=S.r:=by
 unfold xz at h;split at h
 ·rename_i f caps _;cases hc:wA S caps<;>simp only[hc,cond_true,cond_false] at h
  ·cases h
  ·exact KL h
 ·cases h
theorem XD {dst:Nat}{q:St×Ty×List PI}(h:q.1.r=S.r):gY S dst (nA S (some dst) q).1:=gB h
theorem aes {fn:Fn}{a b:Array Operand}(h:AF C S dst fn a b=some r):gY S dst r.1:=by
 unfold AF at h;split at h
 case h_2=>cases h
 split at h
 case h_2=>cases h
 rename_i s _;cases hb:oR s.mode<;>simp only[hb,cond_true,cond_false] at h
 ·cases h
 simp only[ax] at h;obtain⟨c,_,rfl⟩:=h;exact gB rfl
theorem adJ {o:Oper}(hr:core C S gs o=some r):∀t,o.dst≠some t→r.1.r t=S.r t:=by
 unfold core at hr;split at hr
 ·rename_i dst hd
  suffices h:gY S dst r.1 by
   intro t ht;exact h t (fun e=>ht (by rw[hd,e]))
  split at hr
  ·rename_i q hq;cases eB:Hh q.1<;>simp only[eB,cond_true,cond_false] at hr<;>cases hr;exact gB rfl
  ·split at hr
   ·rename_i x e _
    have mv:∀r,(match vc C S [] dst x with|some r=>some (S.setR dst r.1,r.2)|none=>rB C S dst o.type x)=some r→gY S dst r.1:=by
     intro r hr;split at hr
     ·cases hr;exact gB rfl
     ·exact aeA hr
    cases dx:C.fr.any (Nat.beq dst)<;>simp only[dx,cond_true,cond_false] at hr
    ·split at hr
     ·rename_i q hq;cases hr;exact aeu hq
     ·exact mv r hr
    ·exact mv r hr
   ·exact ad4 hr
   ·exact ad8 hr
   ·split at hr
    ·exact aea hr
    ·exact aem hr
   ·exact aeq hr
   ·exact aeo hr
   ·exact aew hr
   ·exact aec hr
   ·rename_i c e;split at hr
    ·split at hr
     ·rename_i s x T T' _ _;cases hT:Nat.beq T T'<;>simp only[hT,cond_true,cond_false] at hr
      ·cases hr
      ·exact ad6 hr
     ·cases hr
    ·split at hr
     ·rename_i q hq;cases hr;exact gB (aek hq)
     ·split at hr
      ·split at hr
       ·rename_i q hq;cases hr;exact aei hq
       ·split at hr
        ·rename_i q hq;cases hr;exact aeg hq
        ·simp only[ax] at hr;obtain⟨q,hq,rfl⟩:=hr;exact XD (KL hq)
      ·cases hr
    ·split at hr
     ·rename_i q hq;cases hr;exact gB (aee hq)
     ·split at hr
      ·simp only[ax] at hr;obtain⟨q,hq,rfl⟩:=hr;exact XD (T9 hq)
      ·cases hr
    ·cases hr
   ·exact aes hr
   ·cases hr
 ·split at hr
  ·intro t _;rw[aey hr]
  ·intro t _;rw[Ud hr]
  ·intro t _;rw[Ud hr]
  ·cases hr;intro t _;rfl
  ·intro t _;split at hr
   ·simp only[ax] at hr;obtain⟨q,hq,rfl⟩:=hr;simp only[nA,KL hq]
   ·simp only[ax] at hr;obtain⟨q,hq,rfl⟩:=hr;simp only[nA,T9 hq]
   ·cases hr
  ·cases hr
theorem ags {g:Gh}(hr:g.run C S=some r):∀t,(∀u j,g=.rereg u j→t≠u)→r.1.r t=S.r t:=by
 intro t ht;cases g with
 |fz j=>simp only[Gh.run,aS] at hr;subst hr;rw[agq]
 |fbox b=>
  simp only[Gh.run,AW] at hr;split at hr
  case h_2=>cases hr
  rename_i ag shs _;simp only[au] at hr;obtain⟨x,_,hr⟩:=hr;cases ag<;>simp only[cond_true,cond_false] at hr
  ·split at hr
   ·cases hr;rfl
   ·cases hr
  ·cases hr;rfl
 |rereg u j=>
  simp only[Gh.run,Dq] at hr;split at hr
  ·revert hr
   generalize (_&&_:Bool)=b;intro hr;cases b<;>simp only[cond_true,cond_false] at hr<;>cases hr
   ·rfl
   ·simp only[St.setR,bp _ _ (ht u j rfl)];rfl
  ·cases hr;rfl
 |recell b i j=>
  simp only[Gh.run,Dp] at hr;split at hr
  ·split at hr
   ·revert hr
    generalize (_&&_:Bool)=b;intro hr;cases b<;>simp only[cond_true,cond_false] at hr<;>cases hr<;>rfl
   ·cases hr;rfl
  ·cases hr;rfl
 |home b i j T=>
  simp only[Gh.run,BH] at hr;split at hr
  ·split at hr
   ·revert hr
    generalize (!_:Bool)=b;intro hr;cases b<;>simp only[cond_true,cond_false] at hr<;>cases hr<;>rfl
   ·cases hr;rfl
  ·cases hr;rfl
theorem K9:∀(l:List Gh) {S:St} {r:St×List PI},lb C l S=some r→∀t,(∀g u j,g∈l→g=.rereg u j→t≠u)→r.1.r t=S.r t
 |[],S,r,hr,t,_=>by simp only[lb,aS] at hr;subst hr;rfl
 |g::l,S,r,hr,t,ht=>by
  simp only[lb,au,ax] at hr;obtain⟨q,hq,q2,gM,rfl⟩:=hr;have h1:=K9 l gM t (fun g u j hg=>ht g u j (dY _ hg));have h2:=ags hq t (fun u j e=>ht g u j (ej ..) e);exact h1.trans h2
theorem ant (S:St)(gs:List (Nat×Bool))(o:Oper):∀g u j,g∈pre C S gs o.op++OB C S gs o→g≠.rereg u j:=by
 intro g u j hg e;subst e;rw[cS] at hg;rcases hg with hg|hg
 ·unfold pre at hg;split at hg
  ·rename_i fn _ _ _;cases ho:XC C fn<;>simp only[ho,cond_true,cond_false] at hg
   case true=>cases hg
   obtain⟨b,_,hb⟩:=DY.1 hg;rw[cS] at hb;rcases hb with hb|hb
   ·split at hb
    ·obtain⟨_,_,h⟩:=cX.1 hb;cases h
    ·cases hb
   ·simp at hb
  ·split at hg
   ·replace hg:=amf hg
    split at hg
    ·obtain⟨_,_,h⟩:=cX.1 hg;cases h
    ·cases hg
   ·cases hg
  ·obtain⟨_,_,h⟩:=cX.1 hg;cases h
 ·unfold OB at hg;split at hg
  ·rename_i x t _ _;cases hc:C.fr.any (Nat.beq t)<;>simp only[hc,cond_true,cond_false] at hg
   ·cases hg
   ·obtain⟨_,_,h⟩:=cX.1 hg;cases h
  ·cases hg
theorem anr (S:St)(o:Oper):∀g u j,g∈post C S o→g=.rereg u j→o.dst=some u:=by
 intro g u j hg e;subst e;unfold post at hg;split at hg
 ·rename_i t _ hd;simp at hg;rw[hd,hg.1]
 ·unfold GX homes at hg;have:=(fa.1 hg).1;obtain⟨x,_,hx⟩:=wk.1 this;cases mc:x.1<;>rw[mc] at hx<;>simp at hx
 ·split at hg
  ·rw[cS] at hg;rcases hg with hg|hg
   ·unfold GX homes at hg;have:=(fa.1 hg).1;obtain⟨x,_,hx⟩:=wk.1 this;cases mc:x.1<;>rw[mc] at hx<;>simp at hx
   ·unfold aax at hg;obtain⟨_,_,h⟩:=cX.1 hg;cases h
  ·cases hg
 ·cases hg
theorem adz {ops:Array Oper}{o:Oper}(hr:Ar C S ops o=some r):∀t,o.dst≠some t→r.1.r t=S.r t:=by
 intro t ht;unfold Ar at hr;split at hr
 ·rename_i q hq;cases hr;simp only[Fw,au] at hq;obtain⟨gs,_,r1,h1,r2,h2,r3,h3,hq⟩:=hq
  revert hq
  generalize FV gs o.dst r2.2=b;intro hq;cases b<;>simp only[cond_true,cond_false] at hq<;>cases hq;have e1:=K9 _ h1 t (fun g u j hg e=>absurd e (ant S gs o g u j hg));have e2:=adJ h2 t ht
  have e3:=K9 _ h3 t (fun g u j hg e=>by
   have:=anr r2.1 o g u j hg e;intro e';subst e';exact ht this)
  exact e3.trans (e2.trans e1)
 ·cases hr;split
  ·rename_i d hd;simp only[St.setR];rw[bp];intro e;subst e;exact ht hd
  ·rfl
theorem TX {ops:Array Oper}{o:Oper}(hr:tQ C S ops o=some r):∀t,o.dst≠some t→r.1.r t=S.r t:=by
 intro t ht;unfold tQ at hr;split at hr
 ·rename_i q hq;cases hr;unfold Fy at hq;split at hq
  case h_2=>cases hq
  rename_i dst _ args _ _ _ hd _ _;simp only[au] at hq;obtain⟨gs,_,hq⟩:=hq;split at hq
  case h_2=>cases hq
  split at hq
  case h_2=>cases hq
  simp only[au] at hq;obtain⟨u,_,hq⟩:=hq;rw[mJ] at hq;split at hq<;>cases hq;simp only[St.setR];rw[bp,(oA _ S).2];intro e;subst e;exact ht hd
 ·exact adz hr t ht
theorem TZ {ops:Array Oper}:∀{l:List Nat} {S:St} {r:St×List PI},ry C ops l S=some r→∀t,(∀i o,i∈l→ops[i]?=some o→o.dst≠some t)→r.1.r t=S.r t
 |[],S,r,h,t,_=>by simp only[ry,aS] at h;subst h;rfl
 |i::l,S,r,h,t,ht=>by
  simp only[ry] at h;split at h
  ·rename_i o ho;simp only[au,ax] at h;obtain⟨q,hq,q2,gM,rfl⟩:=h;exact(TZ gM t fun j o hj=>ht j o (dY _ hj)).trans (TX hq t (ht i o (ej ..) ho))
  ·cases h
end
end Cx
namespace Cx
open Go Go.RowKit
def jF (S:St):Sh→Sh
 |.opt gs s=>.opt gs (fR S s)
 |s=>fR S s
def St.snapO (n:Nat)(ids:List Nat)(S:St):Snap:=⟨(List.range n).map fun t=>jF S (S.r t),ids.map fun j=>gR S (S.o j)⟩
def Snap.stO (ids:List Nat)(s:Snap):St:=⟨fun t=>s.rs.getD t .none,fun j=>cU ids s.os j,fun _=>0⟩
theorem oW (S:St)(s:Sh):∀gs s',fR S s≠.opt gs s':=by
 intro gs s' e;cases s<;>simp only[fR] at e<;>first|cases e|(revert e;cases Nat.beq _ _<;>intro e<;>cases e)|(revert e;cases List.all _ _<;>intro e<;>cases e)
section
variable {C:Ctx} {S:St} {ρ:Env} {σ:Im} {own:Nat→Option Nat} {hv:Nat→Value} {w0:World} {σ0:Base} {A:Nat→Prop} {a:Act} {w:World} {n:Nat} {ids:List Nat} {Φ:aJ}
theorem amw {s:Sh}{v:Value}{d:D}(h:aF C S ρ σ hv s v d){T:St}(hT:T.ver=fun _=>0):aF C T ρ σ hv (jF S s) v d:=by
 have hc:Compat S.norm hv T hv:=⟨fun j=>by rw[hT];exact mQ _,fun _ _=>rfl⟩
 have key:∀s,aF C S ρ σ hv s v d→aF C T ρ σ hv (fR S s) v d:=fun s hs=>aF.mono' (.refl σ) hc (oW S s) (Hg hs).1;cases s with
 |opt gs s=>exact⟨fun hh=>key s (h.1 hh),h.2⟩
 |_=>exact key _ h
theorem Good.snapO (h:Good C w0 σ0 S ρ A a w)(n:Nat)(ids:List Nat):Good C w0 σ0 ((S.snapO n ids).stO ids) ρ A a w:=by
 obtain⟨σ,own,hv,h⟩:=h;have h1:=h.norm;have hc:Compat S.norm hv ((S.snapO n ids).stO ids) hv:=⟨fun _=>aU _,fun _ _=>rfl⟩
 refine⟨σ,own,hv,h.defers,h.ok,h.le,h.old,h.newc,h.newm,h.below,h.bw,h.owns,fun t=>?_,fun j=>?_,fun t gs s e=>?_,?_⟩
 rotate_right
 ·obtain⟨t,fx,cx,f1,f5⟩:=h.frame;refine⟨t,fx,cx,f1,fun j hj=>f5 j ?_⟩;exact uU (fun j=>gR S (S.o j)) (fun ob=>ob=.tr→S.o j=.tr) (fun e=>by cases e) j Xz ids hj
 ·show aF C _ ρ σ hv (((List.range n).map fun t=>jF S (S.r t)).getD t .none) _ _;rw[aI,cf];by_cases ht:t<n
  ·rw[nU ht];exact amw (h.regs t) rfl
  ·rw[kU (by simpa using ht)];trivial
 ·have ho:=(h1.objs j).mono (.refl σ) hc (w:=w) (w':=w) rfl rfl (fun k hk=>⟨hk,rfl⟩);exact uU (fun j=>gR S (S.o j)) (fun ob=>bU C _ ρ σ own hv w w0.heap.size j ob) trivial j ho ids
 ·change ((List.range n).map fun t=>jF S (S.r t)).getD t .none=.opt gs s at e;rw[aI,cf] at e;by_cases ht:t<n
  ·rw[nU ht] at e;simp only[jq,kW] at e;cases hs:S.r t with
   |opt bI s'=>
    rw[hs] at e;simp only[jF,Sh.opt.injEq] at e;obtain⟨rfl,rfl⟩:=e;exact⟨(h.opts t bI s' hs).1,oW S s'⟩
   |none=>rw[hs] at e;exact absurd e (oW S .none gs s)
   |yv=>rw[hs] at e;exact absurd e (oW S .yv gs s)
   |fclo f c=>rw[hs] at e;exact absurd e (oW S (.fclo f c) gs s)
   |agg l=>rw[hs] at e;exact absurd e (oW S (.agg l) gs s)
   |dat t=>rw[hs] at e;exact absurd e (oW S (.dat t) gs s)
   |obj t u=>rw[hs] at e;exact absurd e (oW S (.obj t u) gs s)
   |ptr t u v=>rw[hs] at e;exact absurd e (oW S (.ptr t u v) gs s)
   |eptr t u v x=>rw[hs] at e;exact absurd e (oW S (.eptr t u v x) gs s)
  ·rw[kU (by simpa using ht)] at e;cases e
theorem Good.snapF (h:Good C w0 σ0 S ρ A a w)(n:Nat)(ids:List Nat):Good C w0 σ0 ((S.snap n ids).st ids) ρ (fun _=>False) a w:=by
 obtain⟨σ,own,hv,h⟩:=h;exact⟨σ,own,hv,h.snap n ids⟩
theorem Good.drew (h:Good C w0 σ0 S ρ A a w):Good C w0 σ0 S ρ A a {w with drawn:=w.drawn+1}:=by
 obtain⟨σ,own,hv,h⟩:=h;refine⟨σ,own,hv,h.defers,⟨fun k o v e=>h.ok.c k o v e,fun k es e=>h.ok.m k es e⟩,h.le,h.old,h.newc,h.newm,h.below.drew,h.bw,h.owns,h.regs,fun j=>?_,h.opts,?_⟩
 rotate_right
 ·obtain⟨t,fx,cx,f1,f2⟩:=h.frame;exact⟨t,fx,cx,⟨σ0.keep _ _ _ _ _ f1.F (Below.drew (.refl _ _)) (fun _ _=>rfl),f1.own,f1.c,f1.m,f1.d⟩,f2⟩
 exact(h.objs j).mono (.refl σ) (.refl S hv) rfl rfl (fun k hk=>⟨hk,rfl⟩)
end
def zi (g:Sh→Sh)(S:St)(rs:List Sh)(ds:List Nat):List Sh:=(ds.foldl (fun l d=>l.set d (S.r d)) rs).map g
theorem UH (S:St):∀(ds:List Nat) (rs:List Sh),(ds.foldl (fun l d=>l.set d (S.r d)) rs).length=rs.length∧∀t,t<rs.length→(ds.foldl (fun l d=>l.set d (S.r d)) rs).getD t .none=if t∈ds then S.r t else rs.getD t .none
 |[],rs=>⟨rfl,fun t _=>by simp⟩
 |d::ds,rs=>by
  obtain⟨h1,h2⟩:=UH S ds (rs.set d (S.r d));simp only[List.length_set] at h1 h2;refine⟨h1,fun t ht=>?_⟩;rw[DV,h2 t ht];simp only[cG,aI,zF];by_cases hm:t∈ds
  ·simp[hm]
  ·by_cases e:d=t
   ·subst e;simp[hm,ht]
   ·have e':¬t=d:=fun h=>e h.symm;simp[hm,e,e']
theorem IW {g:Sh→Sh}{S:St}{rs:List Sh}{ds:List Nat}(h:∀t,t∉ds→g (rs.getD t .none)=g (S.r t)):zi g S rs ds=(List.range rs.length).map fun t=>g (S.r t):=by
 obtain⟨h1,h2⟩:=UH S ds rs;unfold zi;apply DT;intro t;simp only[cf];by_cases ht:t<rs.length
 ·have:=h2 t ht;rw[aI,aZ (by omega)] at this;rw[aZ (by omega),nU ht];simp only[kW,jq] at this ⊢;rw[this];by_cases hm:t∈ds
  ·simp[hm]
  ·simp only[hm,if_false];rw[h t hm]
 ·rw[kU (by omega),kU (by simpa using ht)];rfl
def Sh.hd {α:Type}(s:Sh)(k:Sh→α):α:=
 match s with
 |.none=>k .none
 |.dat t=>k (.dat t)
 |.obj j v=>k (.obj j v)
 |.ptr j v o=>k (.ptr j v o)
 |.eptr j v z o=>k (.eptr j v z o)
 |.opt gs s=>k (.opt gs s)
 |.yv=>k .yv
 |.fclo f c=>k (.fclo f c)
 |.agg l=>k (.agg l)
theorem Sh.hd_eq {α:Type}(s:Sh)(k:Sh→α):s.hd k=k s:=by cases s<;>rfl
def xP {α:Type}:List Sh→(List Sh→α)→α
 |[],k=>k []
 |s::l,k=>s.hd fun s=>xP l fun l=>k (s::l)
theorem Lo {α:Type}:∀(l:List Sh) (k:List Sh→α),xP l k=k l
 |[],_=>rfl
 |s::l,k=>by rw[xP,Sh.hd_eq,Lo l]
def Ob.hd {α:Type}(s:Ob)(k:Ob→α):α:=
 match s with
 |.dead=>k .dead
 |.fz t=>k (.fz t)
 |.fbox t=>k (.fbox t)
 |.box true l=>xP l fun l=>k (.box true l)
 |.box false l=>xP l fun l=>k (.box false l)
 |.row T e=>k (.row T e)
 |.mp a b=>k (.mp a b)
 |.it a b=>k (.it a b)
 |.tr=>k .tr
theorem Ob.hd_eq {α:Type}(s:Ob)(k:Ob→α):s.hd k=k s:=by
 cases s with
 |box ag l=>cases ag<;>simp only[Ob.hd,Lo]
 |_=>rfl
def Gb {α:Type}:List Ob→(List Ob→α)→α
 |[],k=>k []
 |s::l,k=>s.hd fun s=>Gb l fun l=>k (s::l)
theorem Va {α:Type}:∀(l:List Ob) (k:List Ob→α),Gb l k=k l
 |[],_=>rfl
 |s::l,k=>by rw[Gb,Ob.hd_eq,Va l]
def Snap.hard {α:Type}(s:Snap)(k:Snap→α):α:=xP s.rs fun a=>Gb s.os fun b=>k ⟨a,b⟩
theorem Snap.hard_eq {α:Type}(s:Snap)(k:Snap→α):s.hard k=k s:=by rw[Snap.hard,Lo,Va]
def Gc {α β:Type}:List β→(List β→α)→α
 |[],k=>k []
 |s::l,k=>Gc l fun l=>k (s::l)
theorem Vc {α β:Type}:∀(l:List β) (k:List β→α),Gc l k=k l
 |[],_=>rfl
 |s::l,k=>by rw[Gc,Vc l]
def A9 {α β:Type}:List (List β)→(List (List β)→α)→α
 |[],k=>k []
 |s::l,k=>Gc s fun s=>A9 l fun l=>k (s::l)
theorem Vb {α β:Type}:∀(l:List (List β)) (k:List (List β)→α),A9 l k=k l
 |[],_=>rfl
 |s::l,k=>by rw[A9,Vc,Vb l]
def ay (P:Program){α:Type}(s:Sem α):Prop:=(∃a,∀w,s.run P w=.ok a w)∨∀w,∃h w',s.run P w=.halt h w'
section
variable {P:Program}
theorem ay.pure {α:Type}(a:α):ay P (Sem.pure a):=.inl ⟨a,fun w=>rfl⟩
theorem ay.pure' {α:Type}(a:α):ay P (Pure.pure a:Sem α):=.inl ⟨a,fun w=>rfl⟩
theorem ay.halt {α:Type}(h:Halt):ay P (Sem.halt h:Sem α):=.inr fun w=>⟨h,w,rfl⟩
theorem ay.bind' {α β:Type}{s:Sem α}{f:α→Sem β}(h:ay P s)(hf:∀a,(∀w,s.run P w=.ok a w)→ay P (f a)):ay P (s>>=f):=by
 rcases h with⟨a,ha⟩|hd
 ·rcases hf a ha with⟨b,hb⟩|hd
  ·exact .inl ⟨b,fun w=>by rw[Sem.run_bind,ha w];exact hb w⟩
  ·refine .inr fun w=>?_;obtain⟨x,w',e⟩:=hd w;exact⟨x,w',by rw[Sem.run_bind,ha w];exact e⟩
 ·refine .inr fun w=>?_;obtain⟨x,w',e⟩:=hd w;exact⟨x,w',by rw[Sem.run_bind,e];rfl⟩
theorem ay.bind {α β:Type}{s:Sem α}{f:α→Sem β}(h:ay P s)(hf:∀a,ay P (f a)):ay P (s>>=f):=h.bind' fun a _=>hf a
def bX {α:Type}(s:Sem α):Prop:=∀P w,∃h w',s.run P w=.halt h w'
theorem bX.noW {α:Type}{s:Sem α}(h:bX s):ay P s:=.inr (h P)
theorem bX.halt {α:Type}(h:Halt):bX (Sem.halt h:Sem α):=fun P w=>⟨h,w,rfl⟩
theorem bX.of_bind {α β:Type}{s:Sem α}{f:α→Sem β}(hf:∀a,bX (f a)):bX (s>>=f):=by
 intro P w;rw[Sem.run_bind];cases e:s.run P w with
 |ok a w'=>exact hf a P w'
 |halt h w'=>exact⟨h,w',rfl⟩
theorem ay.asBool (v:Value):ay P (Go.asBool v):=by
 cases v<;>first|exact .pure _|exact .halt _
theorem ay.asIntOf (v:Value):ay P (Go.asIntOf v):=by
 unfold Go.asIntOf;split<;>first|exact .pure _|exact .halt _
theorem ay.sureAddr (v:Value):ay P (Instr.sureAddr v):=by
 unfold Instr.sureAddr;split<;>first|exact .pure _|exact .halt _
theorem ay.prog:ay P Go.program:=.inl ⟨P,fun w=>rfl⟩
theorem ay.underlying (t:TypeId):ay P (Go.underlying t):=by
 unfold Go.underlying;refine .bind .prog fun p=>?_;split<;>first|exact .pure _|exact .halt _
theorem ay.sizeOf (t:TypeId):ay P (Go.sizeOf t):=by
 unfold Go.sizeOf Go.typeInfo;refine .bind (.bind .prog fun p=>?_) fun _=>.pure _;split<;>first|exact .pure _|exact .halt _
theorem bX.runtimePanic {α:Type}(e:RuntimeError):bX (Go.runtimePanic e:Sem α):=by
 unfold Go.runtimePanic;refine .of_bind fun p=>?_;cases e<;>first|exact .halt _|exact .of_bind fun _=>.halt _|exact .of_bind fun _=>.of_bind fun _=>.halt _
theorem bX.boundsPanic {α:Type}(k:IntKind)(x y:Int)(c:BoundsCode):bX (Go.boundsPanic k x y c:Sem α):=by
 unfold Go.boundsPanic;dsimp only;split<;>exact .of_bind fun _=>.runtimePanic _
theorem ay.indexAt (t:TypeId)(x i:Value):ay P (Instr.indexAt t x i):=by
 unfold Instr.indexAt
 repeat' (first|(first|exact ay.pure _|exact ay.pure' _|exact ay.halt _|exact bX.noW (bX.boundsPanic _ _ _ _)|exact bX.noW (bX.runtimePanic _)|exact ay.prog|exact ay.underlying _|exact ay.sizeOf _|exact ay.asIntOf _|exact ay.sureAddr _|exact ay.asBool _)|(refine ay.bind ?_ fun _=>?_)|dsimp only|split)
theorem ay.sliceBound (x:Value)(y:Nat)(c:BoundsCode):ay P (Instr.sliceBound x y c):=by
 unfold Instr.sliceBound
 repeat' (first|(first|exact ay.pure _|exact ay.pure' _|exact ay.halt _|exact bX.noW (bX.boundsPanic _ _ _ _)|exact bX.noW (bX.runtimePanic _)|exact ay.prog|exact ay.underlying _|exact ay.sizeOf _|exact ay.asIntOf _|exact ay.sureAddr _|exact ay.asBool _)|(refine ay.bind ?_ fun _=>?_)|dsimp only|split)
theorem ay.sliceBounds (b:Bool)(n m:Nat)(lo hi mx:Option Value):ay P (Instr.sliceBounds b n m lo hi mx):=by
 unfold Instr.sliceBounds
 repeat' (first|exact ay.sliceBound _ _ _|(first|exact ay.pure _|exact ay.pure' _|exact ay.halt _|exact bX.noW (bX.boundsPanic _ _ _ _)|exact bX.noW (bX.runtimePanic _)|exact ay.prog|exact ay.underlying _|exact ay.sizeOf _|exact ay.asIntOf _|exact ay.sureAddr _|exact ay.asBool _)|(refine ay.bind ?_ fun _=>?_)|dsimp only|split)
theorem ay.asAddr (v:Value):ay P (Go.asAddr v):=by
 unfold Go.asAddr
 repeat' (first|(first|exact ay.pure _|exact ay.pure' _|exact ay.halt _|exact bX.noW (bX.boundsPanic _ _ _ _)|exact bX.noW (bX.runtimePanic _)|exact ay.prog|exact ay.underlying _|exact ay.sizeOf _|exact ay.asIntOf _|exact ay.sureAddr _|exact ay.asBool _)|(refine ay.bind ?_ fun _=>?_)|dsimp only|split)
theorem ay.slice (t:TypeId)(x:Value)(lo hi mx:Option Value):ay P (Instr.slice t x lo hi mx):=by
 unfold Instr.slice
 repeat' (first|exact ay.sliceBounds _ _ _ _ _ _|exact ay.asAddr _|(first|exact ay.pure _|exact ay.pure' _|exact ay.halt _|exact bX.noW (bX.boundsPanic _ _ _ _)|exact bX.noW (bX.runtimePanic _)|exact ay.prog|exact ay.underlying _|exact ay.sizeOf _|exact ay.asIntOf _|exact ay.sureAddr _|exact ay.asBool _)|(refine ay.bind ?_ fun _=>?_)|dsimp only|split)
theorem ay.sliceAt (t:TypeId)(x:Value)(lo hi mx:Option Value):ay P (Instr.sliceAt t x lo hi mx):=by
 unfold Instr.sliceAt
 repeat' (first|exact ay.sliceBounds _ _ _ _ _ _|exact ay.slice _ _ _ _ _|(first|exact ay.pure _|exact ay.pure' _|exact ay.halt _|exact bX.noW (bX.boundsPanic _ _ _ _)|exact bX.noW (bX.runtimePanic _)|exact ay.prog|exact ay.underlying _|exact ay.sizeOf _|exact ay.asIntOf _|exact ay.sureAddr _|exact ay.asBool _)|(refine ay.bind ?_ fun _=>?_)|dsimp only|split)
def Qb (P:Program)(s:TypeId)(i:Nat):Bool:=
 match P.underlying s with
 |some (.struct fs)=>(match fs[i]? with
  |some f=>(match P.info? f.type with|some d=> !Nat.beq d.size 0|none=>false)
  |none=>false)
 |_=>false
theorem ay.fieldAt {s:TypeId}{i:Nat}(h:Qb P s i=true)(a:Value):ay P (Instr.fieldAt s a i):=by
 unfold Instr.fieldAt;refine .bind' (.underlying _) fun d hd=>?_;have hu:P.underlying s=some d:=by
  have:=hd default;unfold Go.underlying at this;rw[Sem.run_bind] at this;change Result.andThen (.ok P default) _=_ at this;simp only[Result.andThen_ok] at this;cases hp:P.underlying s with
  |none=>rw[hp] at this;cases this
  |some d'=>
   rw[hp] at this;change Result.ok d' default=_ at this;cases this;rfl
 unfold Qb at h;rw[hu] at h;cases d<;>dsimp only at h ⊢<;>try (first|exact ay.pure _|exact ay.pure' _|exact ay.halt _|exact bX.noW (bX.boundsPanic _ _ _ _)|exact bX.noW (bX.runtimePanic _)|exact ay.prog|exact ay.underlying _|exact ay.sizeOf _|exact ay.asIntOf _|exact ay.sureAddr _|exact ay.asBool _)
 rename_i fs;cases hf:fs[i]? with
 |none=>dsimp only;(first|exact ay.pure _|exact ay.pure' _|exact ay.halt _|exact bX.noW (bX.boundsPanic _ _ _ _)|exact bX.noW (bX.runtimePanic _)|exact ay.prog|exact ay.underlying _|exact ay.sizeOf _|exact ay.asIntOf _|exact ay.sureAddr _|exact ay.asBool _)
 |some f=>
  rw[hf] at h;dsimp only at h ⊢;refine .bind (.sureAddr _) fun a=>.bind ?_ fun _=>.pure _;unfold Go.fieldPlace;refine .bind' (.sizeOf _) fun n hn=>?_;have hz:n≠0:=by
   intro e;have:=hn default;unfold Go.sizeOf Go.typeInfo at this;cases hi:P.info? f.type with
   |none=>rw[hi] at h;cases h
   |some inf=>
    rw[hi] at h;rw[Sem.run_bind,Sem.run_bind] at this;change Result.andThen (Result.andThen (.ok P default) _) _=_ at this;simp only[Result.andThen_ok,hi] at this;change Result.ok inf.size default=_ at this;cases this;dsimp only at h;rw[e] at h;cases h
  rw[if_neg hz]
  (first|exact ay.pure _|exact ay.pure' _|exact ay.halt _|exact bX.noW (bX.boundsPanic _ _ _ _)|exact bX.noW (bX.runtimePanic _)|exact ay.prog|exact ay.underlying _|exact ay.sizeOf _|exact ay.asIntOf _|exact ay.sureAddr _|exact ay.asBool _)
def Cw (P:Program):Op→Bool
 |.move _=>true
 |.assign _=>true
 |.pick ..=>true
 |.fieldAddr s _ i=>Qb P s i
 |.indexAddr ..=>true
 |.slice ..=>true
 |_=>false
theorem anx {o:Oper}(hp:Cw P o.op=true)(ρ:Operand→Value):(∃v,∀w,(execOp ρ o).run P w=.ok (.value v) w)∨∀w,∃h w',(execOp ρ o).run P w=.halt h w':=by
 have key:∀s:Sem Value,ay P s→(∃v,∀w,(do Pure.pure (Next.value (←s)):Sem Next).run P w=.ok (.value v) w)∨∀w,∃h w',(do Pure.pure (Next.value (←s)):Sem Next).run P w=.halt h w':=by
  intro s hs;rcases hs with⟨a,ha⟩|hd
  ·exact .inl ⟨a,fun w=>by rw[Sem.run_bind,ha w];rfl⟩
  ·refine .inr fun w=>?_;obtain⟨x,w',e⟩:=hd w;exact⟨x,w',by rw[Sem.run_bind,e];rfl⟩
 obtain⟨dst,op,type,pos,after,guard⟩:=o;cases op<;>first|(cases hp;done)|skip
 case move x=>exact .inl ⟨_,fun w=>rfl⟩
 case assign x=>exact .inl ⟨_,fun w=>rfl⟩
 case pick c a b=>
  have:=key (do Pure.pure (if←Go.asBool (ρ c) then ρ a else ρ b)) (.bind (.asBool _) fun _=>.pure _);simp only[execOp];rcases ay.asBool (P:=P) (ρ c) with⟨t,ht⟩|hd
  ·exact .inl ⟨_,fun w=>by rw[Sem.run_bind,ht w];rfl⟩
  ·refine .inr fun w=>?_;obtain⟨x,w',e⟩:=hd w;exact⟨x,w',by rw[Sem.run_bind,e];rfl⟩
 case fieldAddr s x i=>exact key _ (.fieldAt hp _)
 case indexAddr t x i=>exact key _ (.indexAt _ _ _)
 case slice t x lo hi mx=>exact key _ (.sliceAt _ _ _ _ _)
theorem anz {rd:Option Nat}{ops:Array Oper}{i:Nat}{o:Oper}{a:Act}{w:World}{K:Act→World→Prop}(hi:ops[i]?=some o)(hp:Cw P o.op=true)
 (h:wpOpIn (FR rd) 0 P ops (fun _ _ _=>False) i K a w):∃v,YieldsFenced P ops o v a∧K (a.put o.dst v) w:=by
 have bm:∀c,o.op≠.defer c:=fun c e=>by rw[e] at hp;cases hp
 have xO:∀w,o.about P w a.eval=none:=fun w=>by
  unfold Oper.about;cases ho:o.op<;>first|rfl|(rw[ho] at hp;cases hp)
 unfold wpOpIn at h;rw[hi] at h;dsimp only at h;cases hw:Region.wanted o (yielded ops a.tmps) with
 |false=>
  rw[hw] at h;exact⟨undef,⟨.inr ⟨hw,rfl⟩,xO⟩,h.2⟩
 |true=>
  rw[hw,if_pos rfl] at h;have h2:=h.2;rw[Oper.semAt_eq _ _ _ bm] at h2;rcases anx hp a.eval with⟨v,hv⟩|hd
  ·rw[hv w] at h2;exact⟨v,⟨.inl ⟨hw,hv⟩,xO⟩,h2⟩
  ·obtain⟨x,w',e⟩:=hd w;rw[e] at h2;cases x<;>exact h2.elim
section
variable {F:Fence} {n:Nat} {ops:Array Oper} {Q:Exit→Act→World→Prop} {md:Region.Mode}
theorem YF.wpOpIn {i:Nat}{o:Oper}{v:Value}{a:Act}(bm:oX o.op=true)(hi:ops[i]?=some o)(hy:YieldsFenced P ops o v a)
 {K:Act→World→Prop} {w:World} (h:K (a.put o.dst v) w):wpOpIn F n P ops Q i K a w:=by
 have kz:∀c,o.op≠.defer c:=fun c e=>by rw[e] at bm;cases bm
 unfold Go.wpOpIn;simp only[hi];have xO:∀f,o.about P w a.eval=some f→F.fn f:=fun f hf=>by rw[hy.2 w] at hf;cases hf
 rcases hy.1 with⟨hw,hv⟩|⟨hw,rfl⟩
 ·simp only[hw,if_true,Oper.wpIn,Oper.semAt_eq _ _ _ kz,hv w,Oper.uponIn];exact⟨xO,h⟩
 ·simp only[hw,vX,if_false];exact⟨xO,h⟩
theorem arQ {j:Nat}{oi oj:Oper}{v:Value}(bm:oX oj.op=true)(hj:ops[j]?=some oj)(Ln:oi.apart ops oj=true)
 (hsi:∀cs b,oi.op≠.select cs b) (hsj:∀cs b,oj.op≠.select cs b)
 (hQ:∀c a w,Q (.panic c) (a.put oi.dst v) w→Q (.panic c) a w) {K:Act→World→Prop} {a:Act} {w:World}
 (hy:YieldsFenced P ops oi v a) (h:wpOpIn F n P ops Q j K (a.put oi.dst v) w):
 wpOpIn F n P ops Q j (fun a' w'=>YieldsFenced P ops oi v a'∧K (a'.put oi.dst v) w') a w:=by
 have kz:∀c,oj.op≠.defer c:=fun c e=>by rw[e] at bm;cases bm
 obtain⟨h1,h2,h3⟩:=Oper.apart_spec Ln;have keep:∀(a:Act),YieldsFenced P ops oi v a→∀u,YieldsFenced P ops oi v (a.put oj.dst u):=fun a hy u=>
  hy.of_same (execOp_put oi hsi a oj.dst u h3) (wanted_put oi a oj.dst u h3) (fun w=>about_put oi w a oj.dst u h3)
 have ajS:∀d,YieldsFenced P ops oi v {a with defers:=d::a.defers}:=fun d=>hy.of_same rfl rfl (fun _=>rfl);unfold Go.wpOpIn at*;simp only[hj] at*;rw[wanted_put oj a oi.dst v h1,about_put oj w a oi.dst v h1] at h;split
 ·rename_i hw;simp only[hw,if_true] at h;unfold Oper.wpIn at*;rw[about_put oj w a oi.dst v h1] at h;refine⟨h.1,?_⟩;have h:=h.2;rw[Oper.semAt_eq _ _ _ kz,execOp_put oj hsj a oi.dst v h1] at h;rw[Oper.semAt_eq _ _ _ kz];generalize (execOp a.eval oj).run P w=r at*;cases r with
  |ok x w'=>
   cases x<;>simp only[Oper.uponIn] at h ⊢
   case value u=>exact⟨keep a hy u,by rw[←Act.put_comm a v u h2];exact h⟩
   case skip=>exact⟨keep a hy _,by rw[←Act.put_comm a v undef h2];exact h⟩
   case defer d=>
        refine⟨keep _ (ajS d) _,?_⟩;rw[←Act.put_comm _ v undef h2,←Act.put_defers];exact h
   case enter f args=>
        refine⟨h.1,CallsIn.mono h.2 fun e je he=>?_⟩;cases e with
        |returned u=>exact⟨keep a hy u,by rw[←Act.put_comm a v u h2];exact he⟩
        |panicked c=>exact hQ _ _ _ he
        |outgrown=>exact he
   case row row args=>exact⟨h.1,RowsIn.mono h.2 fun u je he=>⟨keep a hy u,by rw[←Act.put_comm a v u h2];exact he⟩⟩
   case round l f tmps assign body=>
        refine⟨h.1,RoundIn.mono h.2 fun e je he=>?_⟩;cases e with
        |returned u=>exact⟨keep a hy u,by rw[←Act.put_comm a v u h2];exact he⟩
        |panicked c=>exact hQ _ _ _ he
        |outgrown=>exact he
  |halt x w'=>
   cases x<;>simp only[Oper.uponIn] at h ⊢
   case panic u=>exact hQ _ _ _ h
 ·rename_i hw;simp only[hw] at h;exact⟨h.1,keep a hy _,by rw[←Act.put_comm a v undef h2];exact h.2⟩
theorem arP {i:Nat}{oi:Oper}{v:Value}(bm:∀(j:Nat) (o:Oper),ops[j]?=some o→oX o.op=true)(hi:ops[i]?=some oi)(yh:∀(j:Nat) (o:Oper) cs b,ops[j]?=some o→o.op≠.select cs b)
 (hQ:∀c a w,Q (.panic c) (a.put oi.dst v) w→Q (.panic c) a w):
 ∀(fuel:Nat) (listed:Array Bool) (a:Act) (w:World),
  (∀j oj,ops[j]?=some oj→j≠i→listed.getD j true=false→(∀e∈oj.after,Region.binds md e=true→e.on≠i)→oi.apart ops oj=true)→
  i∈Region.ready md ops listed→YieldsFenced P ops oi v a→
  wpAnyIn F n P md ops Q fuel (listed.setIfInBounds i true) (a.put oi.dst v) w→wpAnyIn F n P md ops Q (fuel+1) listed a w:=by
 intro fuel
 induction fuel with
 |zero=>
  intro listed a w _ hr hy H;refine⟨fun h=>(by rw[h] at hr;cases hr),fun j hj=>?_⟩;by_cases iu:j=i
  ·subst iu;exact YF.wpOpIn (bm _ _ hi) hi hy H
  ·have:=ready_mono hj iu;rw[H.1] at this;cases this
 |succ fuel ih=>
  intro listed a w ll hr hy H;refine⟨fun h=>(by rw[h] at hr;cases hr),fun j hj=>?_⟩;by_cases iu:j=i
  ·subst iu;exact YF.wpOpIn (bm _ _ hi) hi hy H
  ·have h1:=H.2 j (ready_mono hj iu);obtain⟨VC,oj,GI,aP⟩:=mem_ready.1 hj
   have L2:∀e∈oj.after,Region.binds md e=true→e.on≠i:=fun e he hb heq=>by
        have h1:=aP e he hb;have h0:=(mem_ready.1 hr).1;rw[heq] at h1;rcases Jz i listed.size with h'|h'
        ·simp[h'] at h0 h1;rw[h0] at h1;cases h1
        ·simp[Array.getElem?_eq_none h'] at h1
   have h2:=arQ (bm _ _ GI) GI (ll j oj GI iu VC L2) (fun cs b=>yh i oi cs b hi) (fun cs b=>yh j oj cs b GI) hQ hy h1;have ahE:∀k ok,ops[k]?=some ok→k≠i→(listed.setIfInBounds j true).getD k true=false→
    (∀e∈ok.after,Region.binds md e=true→e.on≠i)→oi.apart ops ok=true:=fun k ok hk hki lC eB=>by
        refine ll k ok hk hki ?_ eB;by_cases nj:j=k
        ·subst nj;exact VC
        ·rw[getD_set_ne true nj] at lC;exact lC
   refine wpOpIn_mono (fun a' w' h3=>ih (listed.setIfInBounds j true) a' w' ahE (ready_mono hr (rl iu)) h3.1 ?_) h2;rw[Array.setIfInBounds_comm _ _ iu];exact h3.2
end
end
def pW (P:Program)(ops:Array Oper):List (Option (List Nat)):=(List.range ops.size).map fun i=>match ops[i]? with
 |some oi=>bif Cw P oi.op then some ((List.range ops.size).filter fun j=> !(Nat.beq j i||(match ops[j]? with|some oj=>(oj.after.toList.any fun e=>Region.binds .any e&&Nat.beq e.on i)||oi.apart ops oj|none=>true))) else none
 |none=>none
def zk (bad:List (Option (List Nat)))(E:Nat):List Nat→Option Nat
 |[]=>none
 |i::l=>match bad.getD i none with
  |some b=>bif b.all (aN E) then some i else zk bad E l
  |none=>zk bad E l
def Nu (ops:Array Oper):Bool:=ops.toList.all fun o=>match o.op with|.select ..=>false|_=>true
theorem I1 {bad:List (Option (List Nat))}{E:Nat}:∀{l:List Nat} {i:Nat},zk bad E l=some i→i∈l∧∃b,bad.getD i none=some b∧b.all (aN E)=true
 |[],_,h=>by cases h
 |i::l,j,h=>by
  unfold zk at h;split at h
  ·rename_i b hb;cases hc:b.all (aN E) with
   |true=>
    rw[hc] at h;cases h;exact⟨ej ..,b,hb,hc⟩
   |false=>
    rw[hc] at h;obtain⟨h1,h2⟩:=I1 h;exact⟨dY _ h1,h2⟩
  ·obtain⟨h1,h2⟩:=I1 h;exact⟨dY _ h1,h2⟩
theorem acK {P:Program}{ops:Array Oper}{i:Nat}{b:List Nat}(h:(pW P ops).getD i none=some b):∃oi,ops[i]?=some oi∧Cw P oi.op=true∧
 ∀j oj,ops[j]?=some oj→j≠i→j∉b→(∀e∈oj.after,Region.binds .any e=true→e.on≠i)→oi.apart ops oj=true:=by
 unfold pW at h;rw[aI,cf] at h;by_cases hi:i<ops.size
 ·rw[nU hi] at h;simp only[jq,kW] at h;rw[iM hi] at h;dsimp only at h;cases hp:Cw P ops[i].op<;>rw[hp] at h<;>simp only[cond_true,cond_false] at h
  ·cases h
  injection h with h
  refine⟨ops[i],iM hi,hp,fun j oj hj iu Gu eB=>?_⟩;have af:j<ops.size:=(ei.1 hj).1;rw[←h] at Gu;have h2:¬(!(Nat.beq j i||(match ops[j]? with|some oj=>(oj.after.toList.any fun e=>Region.binds .any e&&Nat.beq e.on i)||ops[i].apart ops oj|none=>true)))=true:=fun hc=>Gu (fa.2 ⟨fp.2 af,hc⟩);rw[hj,eJ iu] at h2;simp only[Bool.false_or,jf,Bool.not_eq_false,jh] at h2;rcases h2 with h2|h2
  ·obtain⟨e,he,hb⟩:=zD.1 h2;rw[aq] at hb;exact absurd (cV hb.2) (eB e (by simpa using he) hb.1)
  ·exact h2
 ·rw[kU (by simpa using hi)] at h;cases h
def B8 (E:Nat)(T:Snap):List (Nat×Snap)→Option (List (Nat×Snap))
 |[]=>some [(E,T)]
 |x::l=>bif Nat.beq x.1 E then(bif x.2.beq T then some (x::l) else none) else(B8 E T l).map (x::·)
def mA (ops:Array Oper)(E:Nat):List Nat:=
 (List.range ops.size).filter fun i=> !aN E i&&(match ops[i]? with|some o=>o.after.toList.all fun e=> !Region.binds .any e||aN E e.on|none=>false)
def N7 (C:Ctx)(ops:Array Oper)(n:Nat)(ids:List Nat)(X:List (List PI))(nc:List (List Nat))(E:Nat)(T:Snap)(i:Nat):Option (Nat×Snap):=
 match ops[i]? with
 |some o=>(tQ C (T.stO ids) ops o).bind fun r=>
  bif PI.beqs r.2 (X.getD i [])&&(nc.getD i []).all (aN E) then some (Nat.lor E (fO i),⟨zi (jF r.1) r.1 T.rs o.dst.toList,ids.map fun j=>gR r.1 (r.1.o j)⟩) else none
 |none=>none
def DD (one:Nat→Option (Nat×Snap)):List Nat→List (Nat×Snap)→Option (List (Nat×Snap))
 |[],acc=>some acc
 |i::l,acc=>(one i).bind fun x=>x.2.hard fun T=>(B8 x.1 T acc).bind fun acc=>DD one l acc
def mY (ops:Array Oper)(bad:List (Option (List Nat)))(E:Nat):List Nat:=
 match zk bad E (mA ops E) with
 |some i=>[i]
 |none=>mA ops E
def Ce (ops:Array Oper)(bad:List (Option (List Nat)))(one:Nat→Snap→Nat→Option (Nat×Snap)):List (Nat×Snap)→List (Nat×Snap)→Option (List (Nat×Snap))
 |[],acc=>some acc
 |x::l,acc=>
  match mY ops bad x.1 with
  |[]=>none
  |rs=>(DD (one x.1 x.2) rs acc).bind fun acc=>Ce ops bad one l acc
def Dx (ops:Array Oper)(bad:List (Option (List Nat)))(one:Nat→Snap→Nat→Option (Nat×Snap)):Nat→List (Nat×Snap)→Option Snap
 |0,L=>
  match L with
  |[x]=>bif (List.range ops.size).all (aN x.1) then some x.2 else none
  |_=>none
 |k+1,L=>(Ce ops bad one L []).bind fun L=>Dx ops bad one k L
theorem Wp {E:Nat}{T:Snap}:∀{l l':List (Nat×Snap)},B8 E T l=some l'→(E,T)∈l'∧∀x,x∈l→x∈l'
 |[],l',h=>by simp only[B8,aS] at h;subst h;simp
 |x::l,l',h=>by
  simp only[B8] at h;cases hb:Nat.beq x.1 E<;>simp only[hb,cond_true,cond_false] at h
  ·simp only[ax] at h;obtain⟨l2,h2,rfl⟩:=h;obtain⟨h3,h4⟩:=Wp h2;exact⟨dY _ h3,fun y hy=>(cG.1 hy).elim (fun e=>e▸ej ..) fun hm=>dY _ (h4 y hm)⟩
  ·cases hs:x.2.beq T<;>simp only[hs,cond_true,cond_false] at h
   ·cases h
   ·cases h;refine⟨?_,fun y hy=>hy⟩;have e1:=cV hb;have e2:=Snap.beq_eq _ _ hs;subst e1;subst e2;simp
theorem aa0 {one:Nat→Option (Nat×Snap)}:∀{rs:List Nat} {acc zK:List (Nat×Snap)},DD one rs acc=some zK→(∀x,x∈acc→x∈zK)∧∀i,i∈rs→∃x,one i=some x∧x∈zK
 |[],acc,zK,h=>by simp only[DD,aS] at h;subst h;simp
 |i::rs,acc,zK,h=>by
  simp only[DD,Snap.hard_eq,au] at h;obtain⟨x,hx,abZ,h1,h2⟩:=h;obtain⟨h3,h4⟩:=Wp h1;obtain⟨h5,h6⟩:=aa0 h2;refine⟨fun y hy=>h5 y (h4 y hy),fun j hj=>?_⟩;rcases cG.1 hj with e|hm
  ·subst e;exact⟨x,hx,h5 _ h3⟩
  ·exact h6 j hm
theorem WL {ops:Array Oper}{bad:List (Option (List Nat))}{one:Nat→Snap→Nat→Option (Nat×Snap)}:∀{L acc L':List (Nat×Snap)},Ce ops bad one L acc=some L'→
 (∀x,x∈acc→x∈L')∧∀x,x∈L→mY ops bad x.1≠[]∧∀i,i∈mY ops bad x.1→∃y,one x.1 x.2 i=some y∧y∈L'
 |[],acc,L',h=>by simp only[Ce,aS] at h;subst h;simp
 |x::L,acc,L',h=>by
  simp only[Ce] at h;split at h
  ·cases h
  ·rename_i az;simp only[au] at h;obtain⟨abZ,h1,h2⟩:=h;obtain⟨h3,h4⟩:=aa0 h1;obtain⟨h5,h6⟩:=WL h2;refine⟨fun y hy=>h5 y (h3 y hy),fun y hy=>?_⟩;rcases cG.1 hy with e|hm
   ·subst e;refine⟨fun e=>az e,fun i hi=>?_⟩;obtain⟨z,hz,hm⟩:=h4 i hi;exact⟨z,hz,h5 z hm⟩
   ·exact h6 y hm
def eW (X:List (List PI))(l:List Nat)(E:Nat):List PI:=l.flatMap fun i=>bif aN E i then[] else X.getD i []
theorem PX {X:List (List PI)}{E E':Nat}:∀(l:List Nat),(∀i,i∈l→aN E i=aN E' i)→eW X l E=eW X l E'
 |[],_=>rfl
 |i::l,h=>by
  have ih:=PX (X:=X) l fun j hj=>h j (dY _ hj);unfold eW at ih ⊢;simp only[zE];rw[ih,h i (ej ..)]
theorem Foot.comm_each {a b:List PI}(h:(ga a).comm (ga b)=true):∀p q,p∈a→q∈b→Comm p q:=by
 simp only[Foot.comm,aq] at h;obtain⟨h1,h2,h3,h4,h5,h6⟩:=h;intro p q hp hq;obtain⟨p1,p2,p3,p4⟩:=UI hp;obtain⟨q1,q2,q3,q4⟩:=UI hq;exact⟨fun t x y=>MV h1 (p1 t x) (q1 t y),fun t x y=>MV h2 (p1 t x) (q3 t y),fun t x y=>MV h3 (q1 t x) (p3 t y),fun t x y=>JJ h4 (p2 t x) (q2 t y),fun t x y=>JJ h5 (p2 t x) (q4 t y),fun t x y=>JJ h6 (q2 t x) (p4 t y)⟩
def yE (X:List (List PI))(N:Nat):List (List Nat):=
 (List.range N).map fun i=>(List.range i).filter fun j=> !(ga (X.getD j [])).comm (ga (X.getD i []))
theorem tD (E i j:Nat):aN (Nat.lor E (fO i)) j=(aN E j||Nat.beq i j):=by
 rw[fq]
 congr 1
 rw[tC];show(1<<<i).testBit j=_;rw[Nat.testBit_shiftLeft];by_cases h:i=j
 ·subst h;simp
 ·have h1:Nat.beq i j=false:=eJ h;rw[h1];by_cases h2:i≤j
  ·have:j-i≠0:=by omega
   cases hk:j-i with
   |zero=>omega
   |succ k=>
    have:(1:Nat).testBit (k+1)=false:=by simp[Nat.testBit_succ]
    simp[this]
  ·simp[h2]
theorem aoo {X:List (List PI)}{N E i:Nat}(hi:i<N)(hb:aN E i=false)(dv:((yE X N).getD i []).all (aN E)=true)(Φ:aJ)(ρ:Env):
 PI.runs Φ (eW X (List.range N) E) ρ=(PI.runs Φ (X.getD i []) ρ).bind (PI.runs Φ (eW X (List.range N) (Nat.lor E (fO i)))):=by
 obtain⟨l1,l2,hl⟩:=List.append_of_mem (fp.2 hi);have hp:=List.pairwise_lt_range (n:=N);rw[hl,SZ] at hp;obtain⟨_,eC,hp3⟩:=hp;rw[D0] at eC;have W7:∀j,j∈l1→j<i:=fun j hj=>hp3 j hj i (ej ..);have lt2:∀j,j∈l2→i<j:=fun j hj=>eC.1 j hj;have e0:∀E,eW X (l1++i::l2) E=eW X l1 E++((bif aN E i then[] else X.getD i [])++eW X l2 E):=fun E=>by simp[eW]
 have e1:eW X l1 (Nat.lor E (fO i))=eW X l1 E:=PX l1 fun j hj=>by
  rw[tD,eJ (by have:=W7 j hj;omega),Jq]
 have e2:eW X l2 (Nat.lor E (fO i))=eW X l2 E:=PX l2 fun j hj=>by
  rw[tD,eJ (by have:=lt2 j hj;omega),Jq]
 have e3:aN (Nat.lor E (fO i)) i=true:=by rw[tD,jn,pE]
 rw[hl,e0,e0,e1,e2,e3,hb];simp only[cond_true,cond_false,tn]
 have ahk:PI.runs Φ (eW X l1 E++X.getD i [])=PI.runs Φ (X.getD i []++eW X l1 E):=funext fun ρ=>PI.comms _ _ (fun p q hp hq=>by
  unfold eW at hp;obtain⟨j,hj,hp⟩:=DY.1 hp;cases Vi:aN E j<;>simp only[Vi,cond_true,cond_false] at hp
  case true=>cases hp
  have hc:(ga (X.getD j [])).comm (ga (X.getD i []))=true:=by
   cases gw:(ga (X.getD j [])).comm (ga (X.getD i [])) with
   |true=>rfl
   |false=>
    have rM:(yE X N).getD i []=(List.range i).filter fun j=> !(ga (X.getD j [])).comm (ga (X.getD i [])):=by
     unfold yE;rw[aI,cf,nU hi];rfl
    rw[rM] at dv;have:=db.1 dv j (fa.2 ⟨fp.2 (W7 j hj),by rw[gw];rfl⟩);rw[Vi] at this;cases this
  exact Foot.comm_each hc p q hp hq) ρ
 rw[←nT,px,ahk];have:=px (Φ:=Φ) (a:=X.getD i []) (b:=eW X l1 E) (ρ:=ρ);rw[this,Option.bind_assoc]
 congr 1
 funext ρ1;rw[px]
def lN (C:Ctx)(ops:Array Oper):List Nat→St→Option (List (List PI))
 |[],_=>some []
 |i::l,S=>
  match ops[i]? with
  |some o=>(tQ C S ops o).bind fun r=>(lN C ops l r.1).map fun q=>r.2::q
  |none=>none
def US (ops:Array Oper):Bool:=(List.range ops.size).all fun i=>match ops[i]? with
 |some o=>(match o.guard with|some (j,_)=>Nat.blt j i|none=>true)
 |none=>true
def FW (ops:Array Oper):Bool:=ops.toList.all fun o=>match o.guard with
 |some (j,_)=>o.after.toList.any fun e=>Region.binds .any e&&Nat.beq e.on j
 |none=>true
section
variable {C:Ctx} {S:St} {f:Nat→Sh} {gs:List (Nat×Bool)} {dst:Nat}
end
section
variable {C:Ctx} {S:St} {f:Nat→Sh} {gs:List (Nat×Bool)} {dst:Nat}
end
section
variable {C:Ctx} {S:St} {ρ:Env} {σ:Im} {own:Nat→Option Nat} {hv:Nat→Value} {w0:World} {σ0:Base} {A:Nat→Prop} {a:Act} {w:World} {n:Nat} {ids:List Nat} {Φ:aJ}
theorem ax8 {ops:Array Oper}{listed:Array Bool}{E:Nat}(aL:listed.size=ops.size)(hl:∀i,listed.getD i false=aN E i)(i:Nat):i∈Region.ready .any ops listed↔i∈mA ops E:=by
 unfold Region.ready mA;simp only[fa,fp];refine and_congr_right fun hi=>?_;have h1:listed.getD i true=aN E i:=by
  rw[←hl i];simp only[eY];rw[iM (by omega)];rfl
 have h2:ops[i]?=some ops[i]:=iM hi;rw[h1,h2];simp only[jq,kW,←Array.all_toList,hl]
end
def IF (C:Ctx)(n:Nat)(ids:List Nat)(ops:Array Oper)(draw:Bool)(S:Snap):Option (Snap×List PI):=
 bif zb n ops then
    bif draw then
     bif FW ops&&Nu ops&&C.P.follows .mixedOrders then
        (lN C ops (List.range ops.size) (S.st ids)).bind fun X=>A9 X fun X=>A9 (yE X ops.size) fun nc=>
         (Snap.hard ⟨S.rs.map fun s=>jF (S.st ids) (cq s),ids.map fun j=>gR (S.st ids) ((S.st ids).o j)⟩ fun T0=>Dx ops (pW C.P ops) (N7 C ops n ids X nc) ops.size [(0,T0)]).map fun T=>(⟨T.rs.map (fR (T.stO ids)),ids.map fun j=>gR (T.stO ids) ((T.stO ids).o j)⟩,X.flatten)
     else none
    else bif US ops then(ry C ops (List.range ops.size) (S.st ids)).map fun r=>(⟨zi (fR r.1) r.1 S.rs (ops.toList.filterMap (·.dst)),ids.map fun j=>gR r.1 (r.1.o j)⟩,r.2) else none
 else none
def IE (C:Ctx)(n:Nat)(ids:List Nat)(ops:Array Oper)(draw:Bool)(S:Snap):Option (Snap×List PI):=
 (IF C n ids ops draw S).bind fun r=>r.1.hard fun T=>some (T,r.2)
theorem aoi (C:Ctx)(n:Nat)(ids:List Nat)(ops:Array Oper)(draw:Bool)(S:Snap):IE C n ids ops draw S=IF C n ids ops draw S:=by
 unfold IE;cases IF C n ids ops draw S with
 |none=>rfl
 |some r=>rw[nY,Snap.hard_eq]
def vJ (ops:Array Oper)(E:Nat):Nat→Prop:=fun t=>∃i o,aN E i=true∧ops[i]?=some o∧o.dst=some t
section
variable {C:Ctx} {S:St} {ρ:Env} {σ:Im} {own:Nat→Option Nat} {hv:Nat→Value} {w0:World} {σ0:Base} {A:Nat→Prop} {a:Act} {w:World} {n:Nat} {ids:List Nat} {Φ:aJ}
theorem IC {ops:Array Oper}{listed:Array Bool}{E:Nat}(aL:listed.size=ops.size)(hl:∀i,listed.getD i false=aN E i)(i:Nat):i∈Region.ready .any ops listed↔i∈mA ops E:=by
 unfold Region.ready mA;simp only[fa,fp];refine and_congr_right fun hi=>?_;have h1:listed.getD i true=aN E i:=by
  rw[←hl i];simp only[eY];rw[iM (by omega)];rfl
 have h2:ops[i]?=some ops[i]:=iM hi;rw[h1,h2];simp only[jq,kW,←Array.all_toList,hl]
theorem aoH {rd:Option Nat}(hC:CtxOK C σ0)(aV:du C)(hΦ:cW C Φ)(hY:pM C Φ w0 σ0){a0:Act}(hn0:a0.tmps.size=n){ops:Array Oper}(ar:zb n ops=true)(gf:FW ops=true){X:List (List PI)}{Q:Exit→Act→World→Prop}{ρ':Env}(yh:Nu ops=true)(hQp:∀c a w,¬Q (.panic c) a w):
 ∀(k:Nat) {L:List (Nat×Snap)} {T:Snap},Dx ops (pW C.P ops) (N7 C ops n ids X (yE X ops.size)) k L=some T→
  (∀a' w',SameBut (xw ops) a0 a'→Good C w0 σ0 (T.stO ids) ρ' (fun t=>∃E,vJ ops E t) a' w'→Q .normal a' w')→
  ∀(E:Nat) (U:Snap),(E,U)∈L→∀(listed:Array Bool) (ρ:Env) (a:Act) (w:World),listed.size=ops.size→(∀i,listed.getD i false=aN E i)→SameBut (xw ops) a0 a→
   Good C w0 σ0 (U.stO ids) ρ (vJ ops E) a w→PI.runs Φ (eW X (List.range ops.size) E) ρ=some ρ'→wpAnyIn (FR rd) 0 C.P .any ops Q k listed a w:=by
 simp only[zb,aq] at ar;have bm:=nz ar.1;intro k
 induction k with
 |zero=>
  intro L T hs hQ E U hm listed ρ a w aL hl hn hg aj;simp only[Dx] at hs;split at hs
  case h_2=>cases hs
  rename_i x;cases aP:(List.range ops.size).all (aN x.1)<;>simp only[aP,cond_true,cond_false] at hs
  ·cases hs
  cases hs;simp only[rk] at hm;subst hm;simp only at aP hg hQ aj hl;have rH:=db.1 aP;have ahA:eW X (List.range ops.size) E=[]:=by
   unfold eW;rw[List.flatMap_eq_nil_iff];intro i hi;rw[rH i hi];rfl
  rw[ahA] at aj;simp only[PI.runs,aS] at aj;subst aj;refine⟨?_,hQ a w hn ?_⟩
  ·rw[abJ];intro i hi;rw[IC aL hl] at hi;unfold mA at hi;simp only[fa,aq,jf] at hi;rw[rH i hi.1] at hi;cases hi.2.1
  ·obtain⟨σ,own,hv,h⟩:=hg;exact⟨σ,own,hv,h.defers,h.ok,h.le,h.old,h.newc,h.newm,h.below,h.bw,h.owns,h.regs,h.objs,fun t gs s e=>⟨fun g hm=>⟨E,(h.opts t gs s e).1 g hm⟩,(h.opts t gs s e).2⟩,h.frame⟩
 |succ k ih=>
  intro L T hs hQ E U hm listed ρ a w aL hl hn hg aj;simp only[Dx,au] at hs;obtain⟨L',hL,hs⟩:=hs;obtain⟨_,cO⟩:=WL hL;obtain⟨az,Mr⟩:=cO _ hm;have aik:mA ops E≠[]:=fun e=>az (by unfold mY;rw[e];rfl)
  have cj:∀i,i∈mY ops (pW C.P ops) E→i∈mA ops E:=fun i hi=>by
   unfold mY at hi;split at hi
   ·rename_i i' hp;rw[rk.1 hi];exact(I1 hp).1
   ·exact hi
  have step:∀i,i∈mY ops (pW C.P ops) E→∀Q':Exit→Act→World→Prop,wpOpIn (FR rd) 0 C.P ops Q' i (wpAnyIn (FR rd) 0 C.P .any ops Q k (listed.setIfInBounds i true)) a w:=by
   intro i hi Q';obtain⟨y,hy,hyL⟩:=Mr i hi;have hi:=cj i hi;unfold mA at hi;simp only[fa,fp,aq,jf] at hi;obtain⟨cu,dI,Ly⟩:=hi;simp only[N7] at hy;split at hy
   case h_2=>cases hy
   rename_i o ho;simp only[au] at hy;obtain⟨r,hr,hy⟩:=hy;cases hc:(PI.beqs r.2 (X.getD i [])&&((yE X ops.size).getD i []).all (aN E))<;>simp only[hc,cond_true,cond_false] at hy
   ·cases hy
   cases hy;simp only[aq] at hc;have hX:=PI.beqs_eq _ _ hc.1;rw[aoo cu dI hc.2,au] at aj;obtain⟨ρ1,hρ1,hρ2⟩:=aj;rw[←hX] at hρ1;rw[ho] at Ly;simp only at Ly;have Lx:∀d,o.dst=some d→¬vJ ops E d∧d<a.tmps.size:=by
        intro d hd;refine⟨fun⟨i',o',dH,gK,fB⟩=>?_,?_⟩
        ·have az:i'≠i:=fun e=>by subst e;rw[dI] at dH;cases dH
         exact Fx.dst_once bm gK ho fB hd az
        ·have:=db.1 ar.2 o (by simpa using mI ho);simp only[hd,aq] at this;rw[hn.size,hn0];simpa [nX] using this.2
   have kz:oX o.op=true:=by
        have:=db.1 ar.2 o (by simpa using mI ho);simp only[aq] at this;exact this.1
   have hj:∀j want t,o.guard=some (j,want)→(ops[j]?).bind (·.dst)=some t→vJ ops E t:=by
        intro j want t ln ht;rw[au] at ht;obtain⟨oj,h1,h2⟩:=ht;have xY:=db.1 gf o (by simpa using mI ho);simp only[ln] at xY;obtain⟨e,lh,Bi⟩:=zD.1 xY;simp only[aq] at Bi;have h3:=db.1 Ly e lh;rw[Bi.1] at h3;simp only[Bool.not_true,Bool.false_or] at h3;exact⟨j,oj,by rw[←cV Bi.2];exact h3,h1,h2⟩
   have main:=TY (rd:=rd) (K:=wpAnyIn (FR rd) 0 C.P .any ops Q k (listed.setIfInBounds i true)) (Q:=Q') hg hC aV hΦ hY kz Lx hj hr hρ1 (fun a' w' jx rY=>by
        have hA:(fun u=>vJ ops E u∨o.dst=some u)=vJ ops (Nat.lor E (fO i)):=by
         funext u;apply propext;constructor
         ·rintro(⟨i',o',h1,h2,h3⟩|h1)
          ·exact⟨i',o',by rw[tD,h1,zA],h2,h3⟩
          ·exact⟨i,o,by rw[tD,jn,pE],ho,h1⟩
         ·rintro⟨i',o',h1,h2,h3⟩;rw[tD,jh] at h1;rcases h1 with h1|h1
          ·exact .inl ⟨i',o',h1,h2,h3⟩
          ·rw[←cV h1,ho] at h2;cases h2;exact .inr h3
        rw[hA] at jx
        refine ih hs hQ _ _ hyL _ ρ1 a' w' (by simpa using aL) (fun j=>?_) (hn.trans (rY.mono fun t e=>⟨o,by simpa using mI ho,e⟩)) (by
         have:=jx.snapO U.rs.length ids
         rw[show r.1.snapO U.rs.length ids=⟨zi (jF r.1) r.1 U.rs o.dst.toList,ids.map fun j=>gR r.1 (r.1.o j)⟩ from by
          unfold St.snapO;rw[IW fun t ht=>?_];rw[TX hr t (fun e=>ht (by rw[e];simp))];rfl] at this
         exact this) hρ2
        rw[tD];simp only[eY,zx];by_cases dz:i=j
        ·subst dz;simp[aL,cu]
        ·rw[if_neg dz,eJ dz,Jq,←hl j];simp only[eY])
   simp only[wpOpIn,ho];split
   ·rename_i hw;rw[if_pos hw] at main;exact main
   ·rename_i hw;rw[if_neg hw] at main;exact⟨fun _ _=>trivial,main⟩
  cases Me:zk (pW C.P ops) E (mA ops E) with
  |none=>
   have kp:mY ops (pW C.P ops) E=mA ops E:=by unfold mY;rw[Me]
   refine⟨fun he=>?_,fun i hi=>step i (by rw[kp];exact(IC aL hl i).1 hi) Q⟩;exfalso;refine aik ?_;rw[abJ];intro i hi;rw[←IC aL hl,he] at hi;cases hi
  |some i=>
   have kp:mY ops (pW C.P ops) E=[i]:=by unfold mY;rw[Me]
   obtain⟨hir,b,hb,ahb⟩:=I1 Me;obtain⟨oi,VR,Mg,Ln⟩:=acK hb;obtain⟨v,hv,hK⟩:=anz VR Mg (step i (by rw[kp];simp) _);refine arP (fun j o ho=>?_) VR (fun j o cs b' ho e=>?_) (fun c a' w' h=>(hQp _ _ _ h).elim) k listed a w (fun j oj hj iu lC eB=>Ln j oj hj iu (fun Gu=>?_) eB) ((IC aL hl i).2 hir) hv hK
   ·have:=db.1 ar.2 o (by simpa using mI ho);simp only[aq] at this;exact this.1
   ·have:=db.1 yh o (by simpa using mI ho);rw[e] at this;cases this
   ·have h1:=db.1 ahb j Gu;have h2:=hl j;rw[h1] at h2;simp only[eY] at h2 lC;cases xX:listed[j]? with
    |none=>rw[xX] at h2;cases h2
    |some x=>
     rw[xX] at h2 lC;simp only[kW] at h2 lC;rw[h2] at lC;cases lC
theorem aaO {ops:Array Oper}:∀{l:List Nat} {S:St} {X:List (List PI)},lN C ops l S=some X→X.length=l.length
 |[],S,X,h=>by simp only[lN,aS] at h;subst h;rfl
 |i::l,S,X,h=>by
  simp only[lN] at h;split at h
  case h_2=>cases h
  simp only[au,ax] at h;obtain⟨r,_,q,hq,rfl⟩:=h;simp[aaO hq]
theorem aop (X:List (List PI)):eW X (List.range X.length) 0=X.flatten:=by
 have h0:∀i,aN 0 i=false:=fun i=>by rw[tC];simp
 have key:∀(Y Z:List (List PI)),eW (Y++Z) (List.range' Y.length Z.length) 0=Z.flatten:=by
  intro Y Z
  induction Z generalizing Y with
  |nil=>rfl
  |cons z Z ih=>
   have:=ih (Y++[z]);simp only[nT,List.singleton_append,kV,nV,wh,jo] at this;rw[nV,Jw];have e:eW (Y++z::Z) (Y.length::List.range' (Y.length+1) Z.length) 0=(Y++z::Z).getD Y.length []++eW (Y++z::Z) (List.range' (Y.length+1) Z.length) 0:=by
        unfold eW;rw[zE,h0];rfl
   rw[e,this,SQ]
   congr 1
   simp[aI]
 have:=key [] X;simp only[tn,wh] at this;rw[Jx];exact this
theorem aoj (aV:du C)(hΦ:cW C Φ):JB C n ids Φ (IE C n ids):=by
 intro id ops draw S r hr rd w0 σ0 ρ ρ' a w Q hC hY hn hg aj hQ;rw[aoi] at hr;unfold IF at hr;cases ar:zb n ops<;>simp only[ar,cond_true,cond_false] at hr
 ·cases hr
 cases draw with
 |false=>
  simp only[cond_false] at hr;cases Vx:US ops<;>simp only[Vx,cond_true,cond_false] at hr
  ·cases hr
  simp only[ax] at hr;obtain⟨q,hq,rfl⟩:=hr;refine wpIn_region ?_
  have BU:vI ops []=fun _=>False:=by
   funext t;apply propext;constructor
   ·rintro⟨i,o,h,_⟩;cases h
   ·intro h;exact h.elim
  refine Fx hC aV hΦ hY ar (List.range ops.size) [] (by simpa using SY) (fun p i q o j want hl ho ln=>?_) hn (by rw[BU];exact hg) hq aj (fun a' w' jZ jx=>hQ a' w' jZ (by
   have:=jx.snapF S.rs.length ids
   rw[show q.1.snap S.rs.length ids=⟨zi (fR q.1) q.1 S.rs (ops.toList.filterMap (·.dst)),ids.map fun j=>gR q.1 (q.1.o j)⟩ from by
        unfold St.snap;rw[IW fun t ht=>?_];rw[TZ hq t (fun i o hi ho e=>ht (wk.2 ⟨o,by simpa using mI ho,e⟩))];show _=fR q.1 (cq (S.rs.getD t .none));cases S.rs.getD t .none<;>rfl] at this
   exact this))
  have hi:i<ops.size:=by
   have:i∈List.range ops.size:=by rw[hl];simp
   exact fp.1 this
  have hb:=db.1 Vx i (fp.2 hi);rw[ho] at hb;simp only[ln,nX] at hb;have hp:=List.pairwise_lt_range (n:=ops.size);have rP:j∈List.range ops.size:=fp.2 (by omega);rw[hl,SZ] at hp;obtain⟨_,eC,_⟩:=hp;rw[D0] at eC;rw[hl,cS] at rP;simp only[tn];rcases rP with hm|hm
  ·exact hm
  ·rcases cG.1 hm with e|hm
   ·omega
   ·have:=eC.1 j hm;omega
 |true=>
  simp only[cond_true] at hr;cases gf:(FW ops&&Nu ops&&C.P.follows .mixedOrders)<;>simp only[gf,cond_true,cond_false] at hr
  ·cases hr
  simp only[aq] at gf;have yh:=gf.1.2
  replace gf:FW ops=true∧C.P.follows .mixedOrders=true:=⟨gf.1.1,gf.2⟩
  have h0:∀i,aN 0 i=false:=fun i=>by rw[tC];simp
  simp only[Vb,Snap.hard_eq,au,ax] at hr;obtain⟨X,hX,T,hT,rfl⟩:=hr;refine wpIn_mono (Q:=fun e a w=>(∀c,e≠.panic c)∧Q e a w) ?_ fun e a w h=>h.2;refine wpIn_region_any gf.2 ?_
  have BU:vJ ops 0=fun _=>False:=by
   funext t;apply propext;constructor
   ·rintro⟨i,o,h,_⟩;rw[h0] at h;cases h
   ·intro h;exact h.elim
  have hlen:=aaO hX;rw[SW] at hlen
  refine aoH (w0:=w0) hC aV hΦ hY hn ar gf.1 (ρ':=ρ') yh (fun c a w h=>h.1 c rfl) ops.size hT (fun a' w' jZ jx=>⟨fun c e=>(by cases e),hQ a' w' jZ (by
   have:=jx.snapF T.rs.length ids
   rw[show(T.stO ids).snap T.rs.length ids=⟨T.rs.map (fR (T.stO ids)),ids.map fun j=>gR (T.stO ids) ((T.stO ids).o j)⟩ from by
        unfold St.snap;have:=IW (g:=fR (T.stO ids)) (S:=T.stO ids) (rs:=T.rs) (ds:=[]) (fun t _=>rfl);rw[←this];rfl] at this
   exact this)⟩) 0 _ (rk.2 rfl) _ ρ a _ (by simp) (fun i=>?_) (.refl _ _) ?_ ?_
  ·rw[h0];simp only[eY,Array.getElem?_replicate];split<;>rfl
  ·rw[BU];have:=(hg.drew).snapO S.rs.length ids
   rw[show(S.st ids).snapO S.rs.length ids=⟨S.rs.map fun s=>jF (S.st ids) (cq s),ids.map fun j=>gR (S.st ids) ((S.st ids).o j)⟩ from by
        unfold St.snapO
        have:=IW (g:=fun s=>jF (S.st ids) (cq s)) (S:=S.st ids) (rs:=S.rs) (ds:=[]) (fun t _=>by
         show jF _ (cq (S.rs.getD t .none))=jF _ (cq (cq (S.rs.getD t .none)));cases S.rs.getD t .none<;>rfl)
        have h2:(fun t=>jF (S.st ids) (cq ((S.st ids).r t)))=fun t=>jF (S.st ids) ((S.st ids).r t):=by
         funext t;show jF _ (cq (cq (S.rs.getD t .none)))=jF _ (cq (S.rs.getD t .none));cases S.rs.getD t .none<;>rfl
        rw[h2] at this;rw[←this];rfl] at this
   exact this
  ·rw[←hlen,aop];exact aj
end
end Cx
