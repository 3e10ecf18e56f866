/-
  Shared texts of this claim.
-/
import Derived.Test.YtefchokhgdmamaaGreatDoorMAF
set_option linter.defProp false
set_option linter.unusedSimpArgs false
set_option linter.unusedVariables false
namespace Cx
open Go Go.RowKit
def Xm:Value->Value->Bool
 |.int k n,.int k' m=>k==k'&&n==m
 |.bool a,.bool b=>a==b
 |.string a,.string b=>decide (a=b)
 |.nilFunc,.nilFunc=>true
 |_,_=>false
def axt:∀a b,Xm a b=true->a=b:=by
 intro a b h;unfold Xm at h;split at h
 .simp only[aq,beq_iff_eq] at h;rw[h.1,h.2]
 .simp only[beq_iff_eq] at h;rw[h]
 .simp only[decide_eq_true_eq] at h;rw[h]
 .rfl
 .cases h
mutual
def D.beq:D->D->Bool
 |.v a,e=>match e with|.v b=>Xm a b|_=>false
 |.agg a,e=>match e with|.agg b=>D.beqs a b|_=>false
 |.list a,e=>match e with|.list b=>D.beqs a b|_=>false
 |.tup a,e=>match e with|.tup b=>D.beqs a b|_=>false
 |.map a,e=>match e with|.map b=>a.isEmpty&&b.isEmpty|_=>false
 |.ref a,e=>match e with|.ref b=>D.beq a b|_=>false
 |.clo f a,e=>match e with|.clo g b=>Nat.beq f g&&D.beqs a b|_=>false
 |.none,e=>match e with|.none=>true|_=>false
def D.beqs:List D->List D->Bool
 |[],e=>match e with|[]=>true|_=>false
 |a::aa,e=>match e with|b::bs=>D.beq a b&&D.beqs aa bs|_=>false
end
mutual
def D.beq_eq:∀a b:D,D.beq a b=true->a=b
 |.v a,e,h=>by cases e<;>first|(simp only[D.beq] at h;rw[axt _ _ h])|cases h
 |.agg a,e,h=>by cases e<;>first|(simp only[D.beq] at h;rw[D.beqs_eq _ _ h])|cases h
 |.list a,e,h=>by cases e<;>first|(simp only[D.beq] at h;rw[D.beqs_eq _ _ h])|cases h
 |.tup a,e,h=>by cases e<;>first|(simp only[D.beq] at h;rw[D.beqs_eq _ _ h])|cases h
 |.map a,e,h=>by
  cases e<;>first|(simp only[D.beq,aq,tC] at h;rw[h.1,h.2])|cases h
 |.ref a,e,h=>by cases e<;>first|(simp only[D.beq] at h;rw[D.beq_eq _ _ h])|cases h
 |.clo f a,e,h=>by cases e<;>first|(simp only[D.beq,aq] at h;rw[aA h.1,D.beqs_eq _ _ h.2])|cases h
 |.none,e,h=>by cases e<;>first|rfl|cases h
def D.beqs_eq:∀a b:List D,D.beqs a b=true->a=b
 |[],e,h=>by cases e<;>first|rfl|cases h
 |a::aa,e,h=>by
  cases e with
  |nil=>cases h
  |cons b bs=>simp only[D.beqs,aq] at h;rw[D.beq_eq _ _ h.1,D.beqs_eq _ _ h.2]
end
mutual
def PE.beq:PE->PE->Bool
 |.r a,e=>match e with|.r b=>Nat.beq a b|_=>false
 |.o a,e=>match e with|.o b=>Nat.beq a b|_=>false
 |.con a,e=>match e with|.con b=>D.beq a b|_=>false
 |.cell x i,e=>match e with|.cell y j=>PE.beq x y&&Nat.beq i j|_=>false
 |.sub x i n,e=>match e with|.sub y j m=>PE.beq x y&&(Nat.beq i j&&Nat.beq n m)|_=>false
 |.setc x i z,e=>match e with|.setc y j u=>PE.beq x y&&(Nat.beq i j&&PE.beq z u)|_=>false
 |.mk x,e=>match e with|.mk y=>PE.beqs x y|_=>false
 |.ai op k x y,e=>match e with|.ai y6 k' x' y'=>op==y6&&(k==k'&&(PE.beq x x'&&PE.beq y y'))|_=>false
 |.ci op x y,e=>match e with|.ci y6 x' y'=>op==y6&&(PE.beq x x'&&PE.beq y y')|_=>false
 |.cb op x y,e=>match e with|.cb y6 x' y'=>op==y6&&(PE.beq x x'&&PE.beq y y')|_=>false
 |.cs op x y,e=>match e with|.cs y6 x' y'=>op==y6&&(PE.beq x x'&&PE.beq y y')|_=>false
 |.sadd x y,e=>match e with|.sadd x' y'=>PE.beq x x'&&PE.beq y y'|_=>false
 |.nt x,e=>match e with|.nt y=>PE.beq x y|_=>false
 |.conv k x,e=>match e with|.conv k' y=>k==k'&&PE.beq x y|_=>false
 |.pick c x y,e=>match e with|.pick c' x' y'=>PE.beq c c'&&(PE.beq x x'&&PE.beq y y')|_=>false
 |.llen x,e=>match e with|.llen y=>PE.beq x y|_=>false
 |.bytes x,e=>match e with|.bytes y=>PE.beq x y|_=>false
 |.slen x,e=>match e with|.slen y=>PE.beq x y|_=>false
 |.mlen x,e=>match e with|.mlen y=>PE.beq x y|_=>false
 |.nth x y,e=>match e with|.nth x' y'=>PE.beq x x'&&PE.beq y y'|_=>false
 |.idx x y,e=>match e with|.idx x' y'=>PE.beq x x'&&PE.beq y y'|_=>false
 |.sidx x y,e=>match e with|.sidx x' y'=>PE.beq x x'&&PE.beq y y'|_=>false
 |.sok x y,e=>match e with|.sok x' y'=>PE.beq x x'&&PE.beq y y'|_=>false
 |.setn x i n y,e=>match e with|.setn x' i' n' y'=>PE.beq x x'&&(PE.beq i i'&&(Nat.beq n n'&&PE.beq y y'))|_=>false
 |.app x y,e=>match e with|.app x' y'=>PE.beq x x'&&PE.beq y y'|_=>false
 |.lst x,e=>match e with|.lst y=>PE.beqs x y|_=>false
 |.rep x y,e=>match e with|.rep x' y'=>PE.beq x x'&&PE.beq y y'|_=>false
 |.slc c x y,e=>match e with|.slc c' x' y'=>PE.beq c c'&&(PE.beq x x'&&PE.beq y y')|_=>false
 |.slok c x y,e=>match e with|.slok c' x' y'=>PE.beq c c'&&(PE.beq x x'&&PE.beq y y')|_=>false
 |.ref x,e=>match e with|.ref y=>PE.beq x y|_=>false
 |.deref x,e=>match e with|.deref y=>PE.beq x y|_=>false
 |.look c x y,e=>match e with|.look c' x' y'=>PE.beq c c'&&(PE.beq x x'&&PE.beq y y')|_=>false
 |.has x y,e=>match e with|.has x' y'=>PE.beq x x'&&PE.beq y y'|_=>false
 |.put c x y,e=>match e with|.put c' x' y'=>PE.beq c c'&&(PE.beq x x'&&PE.beq y y')|_=>false
 |.mn x y,e=>match e with|.mn x' y'=>PE.beq x x'&&PE.beq y y'|_=>false
 |.mx x y,e=>match e with|.mx x' y'=>PE.beq x x'&&PE.beq y y'|_=>false
 |.tup x,e=>match e with|.tup y=>PE.beqs x y|_=>false
 |.tget x i,e=>match e with|.tget y j=>PE.beq x y&&Nat.beq i j|_=>false
 |.clo f x,e=>match e with|.clo g y=>Nat.beq f g&&PE.beqs x y|_=>false
 |.an x y,e=>match e with|.an x' y'=>PE.beq x x'&&PE.beq y y'|_=>false
 |.imp c x,e=>match e with|.imp c' y=>tZ c c'&&PE.beq x y|_=>false
def PE.beqs:List PE->List PE->Bool
 |[],e=>match e with|[]=>true|_=>false
 |a::aa,e=>match e with|b::bs=>PE.beq a b&&PE.beqs aa bs|_=>false
end
def dq {a b:Nat}(h:Nat.beq a b=true):a=b:=aA h
mutual
def PE.beq_eq:∀a b:PE,PE.beq a b=true->a=b
 |.r a,e,h=>by cases e<;>first|(rw[dq h])|cases h
 |.o a,e,h=>by cases e<;>first|(rw[dq h])|cases h
 |.con a,e,h=>by cases e<;>first|(rw[D.beq_eq _ _ h])|cases h
 |.cell x i,e,h=>by cases e<;>first|(simp only[PE.beq,aq] at h;rw[PE.beq_eq _ _ h.1,dq h.2])|cases h
 |.sub x i n,e,h=>by cases e<;>first|(simp only[PE.beq,aq] at h;rw[PE.beq_eq _ _ h.1,dq h.2.1,dq h.2.2])|cases h
 |.setc x i z,e,h=>by cases e<;>first|(simp only[PE.beq,aq] at h;rw[PE.beq_eq _ _ h.1,dq h.2.1,PE.beq_eq _ _ h.2.2])|cases h
 |.mk x,e,h=>by cases e<;>first|(simp only[PE.beq] at h;rw[PE.beqs_eq _ _ h])|cases h
 |.ai op k x y,e,h=>by cases e<;>first|(simp only[PE.beq,aq,beq_iff_eq] at h;rw[h.1,h.2.1,PE.beq_eq _ _ h.2.2.1,PE.beq_eq _ _ h.2.2.2])|cases h
 |.ci op x y,e,h=>by cases e<;>first|(simp only[PE.beq,aq,beq_iff_eq] at h;rw[h.1,PE.beq_eq _ _ h.2.1,PE.beq_eq _ _ h.2.2])|cases h
 |.cb op x y,e,h=>by cases e<;>first|(simp only[PE.beq,aq,beq_iff_eq] at h;rw[h.1,PE.beq_eq _ _ h.2.1,PE.beq_eq _ _ h.2.2])|cases h
 |.cs op x y,e,h=>by cases e<;>first|(simp only[PE.beq,aq,beq_iff_eq] at h;rw[h.1,PE.beq_eq _ _ h.2.1,PE.beq_eq _ _ h.2.2])|cases h
 |.sadd x y,e,h=>by cases e<;>first|(simp only[PE.beq,aq] at h;rw[PE.beq_eq _ _ h.1,PE.beq_eq _ _ h.2])|cases h
 |.nt x,e,h=>by cases e<;>first|(simp only[PE.beq] at h;rw[PE.beq_eq _ _ h])|cases h
 |.conv k x,e,h=>by cases e<;>first|(simp only[PE.beq,aq,beq_iff_eq] at h;rw[h.1,PE.beq_eq _ _ h.2])|cases h
 |.pick c x y,e,h=>by cases e<;>first|(simp only[PE.beq,aq] at h;rw[PE.beq_eq _ _ h.1,PE.beq_eq _ _ h.2.1,PE.beq_eq _ _ h.2.2])|cases h
 |.llen x,e,h=>by cases e<;>first|(simp only[PE.beq] at h;rw[PE.beq_eq _ _ h])|cases h
 |.bytes x,e,h=>by cases e<;>first|(simp only[PE.beq] at h;rw[PE.beq_eq _ _ h])|cases h
 |.slen x,e,h=>by cases e<;>first|(simp only[PE.beq] at h;rw[PE.beq_eq _ _ h])|cases h
 |.mlen x,e,h=>by cases e<;>first|(simp only[PE.beq] at h;rw[PE.beq_eq _ _ h])|cases h
 |.nth x y,e,h=>by cases e<;>first|(simp only[PE.beq,aq] at h;rw[PE.beq_eq _ _ h.1,PE.beq_eq _ _ h.2])|cases h
 |.idx x y,e,h=>by cases e<;>first|(simp only[PE.beq,aq] at h;rw[PE.beq_eq _ _ h.1,PE.beq_eq _ _ h.2])|cases h
 |.sidx x y,e,h=>by cases e<;>first|(simp only[PE.beq,aq] at h;rw[PE.beq_eq _ _ h.1,PE.beq_eq _ _ h.2])|cases h
 |.sok x y,e,h=>by cases e<;>first|(simp only[PE.beq,aq] at h;rw[PE.beq_eq _ _ h.1,PE.beq_eq _ _ h.2])|cases h
 |.setn x i n y,e,h=>by cases e<;>first|(simp only[PE.beq,aq] at h;rw[PE.beq_eq _ _ h.1,PE.beq_eq _ _ h.2.1,dq h.2.2.1,PE.beq_eq _ _ h.2.2.2])|cases h
 |.app x y,e,h=>by cases e<;>first|(simp only[PE.beq,aq] at h;rw[PE.beq_eq _ _ h.1,PE.beq_eq _ _ h.2])|cases h
 |.lst x,e,h=>by cases e<;>first|(simp only[PE.beq] at h;rw[PE.beqs_eq _ _ h])|cases h
 |.rep x y,e,h=>by cases e<;>first|(simp only[PE.beq,aq] at h;rw[PE.beq_eq _ _ h.1,PE.beq_eq _ _ h.2])|cases h
 |.slc c x y,e,h=>by cases e<;>first|(simp only[PE.beq,aq] at h;rw[PE.beq_eq _ _ h.1,PE.beq_eq _ _ h.2.1,PE.beq_eq _ _ h.2.2])|cases h
 |.slok c x y,e,h=>by cases e<;>first|(simp only[PE.beq,aq] at h;rw[PE.beq_eq _ _ h.1,PE.beq_eq _ _ h.2.1,PE.beq_eq _ _ h.2.2])|cases h
 |.ref x,e,h=>by cases e<;>first|(simp only[PE.beq] at h;rw[PE.beq_eq _ _ h])|cases h
 |.deref x,e,h=>by cases e<;>first|(simp only[PE.beq] at h;rw[PE.beq_eq _ _ h])|cases h
 |.look c x y,e,h=>by cases e<;>first|(simp only[PE.beq,aq] at h;rw[PE.beq_eq _ _ h.1,PE.beq_eq _ _ h.2.1,PE.beq_eq _ _ h.2.2])|cases h
 |.has x y,e,h=>by cases e<;>first|(simp only[PE.beq,aq] at h;rw[PE.beq_eq _ _ h.1,PE.beq_eq _ _ h.2])|cases h
 |.put c x y,e,h=>by cases e<;>first|(simp only[PE.beq,aq] at h;rw[PE.beq_eq _ _ h.1,PE.beq_eq _ _ h.2.1,PE.beq_eq _ _ h.2.2])|cases h
 |.mn x y,e,h=>by cases e<;>first|(simp only[PE.beq,aq] at h;rw[PE.beq_eq _ _ h.1,PE.beq_eq _ _ h.2])|cases h
 |.mx x y,e,h=>by cases e<;>first|(simp only[PE.beq,aq] at h;rw[PE.beq_eq _ _ h.1,PE.beq_eq _ _ h.2])|cases h
 |.tup x,e,h=>by cases e<;>first|(simp only[PE.beq] at h;rw[PE.beqs_eq _ _ h])|cases h
 |.tget x i,e,h=>by cases e<;>first|(simp only[PE.beq,aq] at h;rw[PE.beq_eq _ _ h.1,dq h.2])|cases h
 |.clo f x,e,h=>by cases e<;>first|(simp only[PE.beq,aq] at h;rw[dq h.1,PE.beqs_eq _ _ h.2])|cases h
 |.an x y,e,h=>by cases e<;>first|(simp only[PE.beq,aq] at h;rw[PE.beq_eq _ _ h.1,PE.beq_eq _ _ h.2])|cases h
 |.imp c x,e,h=>by cases e<;>first|(simp only[PE.beq,aq] at h;rw[Em _ _ h.1,PE.beq_eq _ _ h.2])|cases h
def PE.beqs_eq:∀a b:List PE,PE.beqs a b=true->a=b
 |[],e,h=>by cases e<;>first|rfl|cases h
 |a::aa,e,h=>by
  cases e with
  |nil=>cases h
  |cons b bs=>simp only[PE.beqs,aq] at h;rw[PE.beq_eq _ _ h.1,PE.beqs_eq _ _ h.2]
end
def PI.beq:PI->PI->Bool
 |.setR t x,e=>match e with|.setR u y=>Nat.beq t u&&PE.beq x y|_=>false
 |.setO t x,e=>match e with|.setO u y=>Nat.beq t u&&PE.beq x y|_=>false
 |.chk x,e=>match e with|.chk y=>PE.beq x y|_=>false
 |.call gs d f aa,e=>match e with|.call cd d' f' Dp=>tZ gs cd&&(Nat.beq d d'&&(Nat.beq f f'&&PE.beqs aa Dp))|_=>false
 |.callc gs d f aa,e=>match e with|.callc cd d' f' Dp=>tZ gs cd&&(Nat.beq d d'&&(PE.beq f f'&&PE.beqs aa Dp))|_=>false
 |.mcall d f aa,e=>match e with|.mcall d' f' Dp=>Nat.beq d d'&&(Nat.beq f f'&&PE.beqs aa Dp)|_=>false
def PI.beq_eq:∀a b:PI,PI.beq a b=true->a=b:=by
 intro a b h;cases a<;>cases b<;>first
  |(cases h;done)
  |(simp only[PI.beq,aq] at h;first
       |rw[dq h.1,PE.beq_eq _ _ h.2]
       |rw[PE.beq_eq _ _ h]
       |rw[Em _ _ h.1,dq h.2.1,dq h.2.2.1,PE.beqs_eq _ _ h.2.2.2]
       |rw[Em _ _ h.1,dq h.2.1,PE.beq_eq _ _ h.2.2.1,PE.beqs_eq _ _ h.2.2.2]
       |rw[dq h.1,dq h.2.1,PE.beqs_eq _ _ h.2.2])
def PI.beqs:List PI->List PI->Bool
 |[],e=>match e with|[]=>true|_=>false
 |a::aa,e=>match e with|b::bs=>PI.beq a b&&PI.beqs aa bs|_=>false
def PI.beqs_eq:∀a b:List PI,PI.beqs a b=true->a=b
 |[],e,h=>by cases e<;>first|rfl|cases h
 |a::aa,e,h=>by
  cases e with
  |nil=>cases h
  |cons b bs=>simp only[PI.beqs,aq] at h;rw[PI.beq_eq _ _ h.1,PI.beqs_eq _ _ h.2]
structure Lk where
 r:Nat
 o:List Nat
def Lk.or (a b:Lk):Lk:=⟨Nat.lor a.r b.r,a.o++b.o⟩
def Lk.none:Lk:=⟨0,[]⟩
def nw:List (Nat×Bool)->Lk
 |[]=>.none
 |g::gs=>⟨Nat.lor (eI g.1) (nw gs).r,(nw gs).o⟩
mutual
def PE.lk:PE->Lk
 |.r t=>⟨eI t,[]⟩
 |.o j=>⟨0,[j]⟩
 |.con _=>.none
 |.cell e _|.sub e _ _|.nt e|.conv _ e|.llen e|.bytes e|.slen e|.mlen e|.ref e|.deref e|.tget e _=>PE.lk e
 |.setc x _ y|.ai _ _ x y|.ci _ x y|.cb _ x y|.cs _ x y|.sadd x y|.nth x y|.idx x y|.sidx x y|.sok x y|.app x y|.rep x y|.has x y|.mn x y|.mx x y|.an x y=>(PE.lk x).or (PE.lk y)
 |.mk es|.lst es|.tup es|.clo _ es=>PE.lks es
 |.pick x y z|.slc x y z|.slok x y z|.look x y z|.put x y z|.setn x y _ z=>(PE.lk x).or ((PE.lk y).or (PE.lk z))
 |.imp c x=>(nw c).or (PE.lk x)
def PE.lks:List PE->Lk
 |[]=>.none
 |e::es=>(PE.lk e).or (PE.lks es)
end
structure Alike (k:Lk) (O O':Env):Prop where
 r:∀t,ay k.r t=true->O'.r t=O.r t
 o:∀j,j∈k.o->O'.o j=O.o j
def Alike.left {a b:Lk}{O O':Env}(h:Alike (a.or b) O O'):Alike a O O':=
 ⟨λt ht=>h.r t (by simp only[Lk.or,gu,ht,zI]),λj hj=>h.o j (kE _ hj)⟩
def Alike.right {a b:Lk}{O O':Env}(h:Alike (a.or b) O O'):Alike b O O':=
 ⟨λt ht=>h.r t (by simp only[Lk.or,gu,ht,oY]),λj hj=>h.o j (ld _ hj)⟩
def BJ {O O':Env}:∀{c:List (Nat×Bool)},Alike (nw c) O O'->holds c O'=holds c O
 |[],_=>rfl
 |g::gs,h=>by
  have ih:=BJ (O:=O) (O':=O') (c:=gs) ⟨λt ht=>h.r t (by simp only[nw,gu,ht,oY]),λj hj=>h.o j hj⟩;have h1:=h.r g.1 (by simp only[nw,gu,rQ,zI]);unfold holds at ih ⊢;simp only[rG];rw[ih,h1]
mutual
def PE.ev_alike {O O':Env}:∀(e:PE),Alike e.lk O O'->e.ev O'=e.ev O
 |.r t,h=>h.r t (rQ t)
 |.o j,h=>h.o j (by simp[PE.lk])
 |.con _,h=>rfl
 |.cell e _,h=>by simp only[PE.ev,PE.ev_alike e h]
 |.sub e _ _,h=>by simp only[PE.ev,PE.ev_alike e h]
 |.nt e,h=>by simp only[PE.ev,PE.ev_alike e h]
 |.conv _ e,h=>by simp only[PE.ev,PE.ev_alike e h]
 |.llen e,h=>by simp only[PE.ev,PE.ev_alike e h]
 |.bytes e,h=>by simp only[PE.ev,PE.ev_alike e h]
 |.slen e,h=>by simp only[PE.ev,PE.ev_alike e h]
 |.mlen e,h=>by simp only[PE.ev,PE.ev_alike e h]
 |.ref e,h=>by simp only[PE.ev,PE.ev_alike e h]
 |.deref e,h=>by simp only[PE.ev,PE.ev_alike e h]
 |.tget e _,h=>by simp only[PE.ev,PE.ev_alike e h]
 |.setc x _ y,h=>by simp only[PE.ev,PE.ev_alike x h.left,PE.ev_alike y h.right]
 |.ai _ _ x y,h=>by simp only[PE.ev,PE.ev_alike x h.left,PE.ev_alike y h.right]
 |.ci _ x y,h=>by simp only[PE.ev,PE.ev_alike x h.left,PE.ev_alike y h.right]
 |.cb _ x y,h=>by simp only[PE.ev,PE.ev_alike x h.left,PE.ev_alike y h.right]
 |.cs _ x y,h=>by simp only[PE.ev,PE.ev_alike x h.left,PE.ev_alike y h.right]
 |.sadd x y,h=>by simp only[PE.ev,PE.ev_alike x h.left,PE.ev_alike y h.right]
 |.nth x y,h=>by simp only[PE.ev,PE.ev_alike x h.left,PE.ev_alike y h.right]
 |.idx x y,h=>by simp only[PE.ev,PE.ev_alike x h.left,PE.ev_alike y h.right]
 |.sidx x y,h=>by simp only[PE.ev,PE.ev_alike x h.left,PE.ev_alike y h.right]
 |.sok x y,h=>by simp only[PE.ev,PE.ev_alike x h.left,PE.ev_alike y h.right]
 |.app x y,h=>by simp only[PE.ev,PE.ev_alike x h.left,PE.ev_alike y h.right]
 |.rep x y,h=>by simp only[PE.ev,PE.ev_alike x h.left,PE.ev_alike y h.right]
 |.has x y,h=>by simp only[PE.ev,PE.ev_alike x h.left,PE.ev_alike y h.right]
 |.mn x y,h=>by simp only[PE.ev,PE.ev_alike x h.left,PE.ev_alike y h.right]
 |.mx x y,h=>by simp only[PE.ev,PE.ev_alike x h.left,PE.ev_alike y h.right]
 |.an x y,h=>by simp only[PE.ev,PE.ev_alike x h.left,PE.ev_alike y h.right]
 |.mk es,h=>by simp only[PE.ev,PE.evc_alike es h]
 |.lst es,h=>by simp only[PE.ev,PE.evs_alike es h]
 |.tup es,h=>by simp only[PE.ev,PE.evs_alike es h]
 |.clo _ es,h=>by simp only[PE.ev,PE.evs_alike es h]
 |.pick x y z,h=>by simp only[PE.ev,PE.ev_alike x h.left,PE.ev_alike y h.right.left,PE.ev_alike z h.right.right]
 |.slc x y z,h=>by simp only[PE.ev,PE.ev_alike x h.left,PE.ev_alike y h.right.left,PE.ev_alike z h.right.right]
 |.slok x y z,h=>by simp only[PE.ev,PE.ev_alike x h.left,PE.ev_alike y h.right.left,PE.ev_alike z h.right.right]
 |.look x y z,h=>by simp only[PE.ev,PE.ev_alike x h.left,PE.ev_alike y h.right.left,PE.ev_alike z h.right.right]
 |.put x y z,h=>by simp only[PE.ev,PE.ev_alike x h.left,PE.ev_alike y h.right.left,PE.ev_alike z h.right.right]
 |.setn x y _ z,h=>by simp only[PE.ev,PE.ev_alike x h.left,PE.ev_alike y h.right.left,PE.ev_alike z h.right.right]
 |.imp c x,h=>by simp only[PE.ev,BJ h.left,PE.ev_alike x h.right]
def PE.evs_alike {O O':Env}:∀(es:List PE),Alike (PE.lks es) O O'->PE.evs O' es=PE.evs O es
 |[],h=>rfl
 |e::es,h=>by simp only[PE.evs,PE.ev_alike e h.left,PE.evs_alike es h.right]
def PE.evc_alike {O O':Env}:∀(es:List PE),Alike (PE.lks es) O O'->PE.evc O' es=PE.evc O es
 |[],h=>rfl
 |e::es,h=>by simp only[PE.evc,PE.ev_alike e h.left,PE.evc_alike es h.right]
end
def PI.lk:PI->Lk
 |.setR _ e|.setO _ e|.chk e=>e.lk
 |.call gs _ _ aa=>(nw gs).or (PE.lks aa)
 |.callc gs _ e aa=>(nw gs).or (e.lk.or (PE.lks aa))
 |.mcall _ _ aa=>PE.lks aa
inductive Eff where
 |skip
 |r (t:Nat) (d:D)
 |o (j:Nat) (d:D)
def Eff.app (O:Env):Eff->Env
 |.skip=>O
 |.r t d=>O.setR t d
 |.o j d=>O.setO j d
def PI.eff (Z:aV)(O:Env):PI->Option Eff
 |.setR t e=>some (.r t (e.ev O))
 |.setO j e=>some (.o j (e.ev O))
 |.chk e=>bif (e.ev O).b then some .skip else none
 |.call gs dst f args=>bif holds gs O then(Z f (PE.evs O args)).map (.r dst) else some .skip
 |.callc gs dst e args=>bif holds gs O then(match e.ev O with|.clo f caps=>(Z f (PE.evs O args++caps)).map (.r dst)|_=>none) else some .skip
 |.mcall j f args=>(Z f (PE.evs O args)).map (.o j)
def PI.run_eff (Z:aV)(O:Env)(p:PI):p.run Z O=(p.eff Z O).map (Eff.app O):=by
 cases p with
 |setR t e=>rfl
 |setO t e=>rfl
 |chk e=>simp only[PI.run,PI.eff];cases(e.ev O).b<;>rfl
 |call gs d f aa=>
  simp only[PI.run,PI.eff];cases holds gs O
  .rfl
  .simp only[zyx,XU];rfl
 |callc gs d e aa=>
  simp only[PI.run,PI.eff];cases holds gs O
  .rfl
  .simp only[zyx];cases e.ev O<;>first|rfl|(simp only[XU];rfl)
 |mcall j f aa=>simp only[PI.run,PI.eff,XU];rfl
def PI.eff_alike {Z:aV}{O O':Env}(p:PI)(h:Alike p.lk O O'):p.eff Z O'=p.eff Z O:=by
 cases p with
 |setR t e=>simp only[PI.eff,PE.ev_alike e h]
 |setO t e=>simp only[PI.eff,PE.ev_alike e h]
 |chk e=>simp only[PI.eff,PE.ev_alike e h]
 |call gs d f aa=>simp only[PI.eff,BJ h.left,PE.evs_alike aa h.right]
 |callc gs d e aa=>simp only[PI.eff,BJ h.left,PE.ev_alike e h.right.left,PE.evs_alike aa h.right.right]
 |mcall j f aa=>simp only[PI.eff,PE.evs_alike aa h]
def PI.wo:PI->List Nat
 |.setO j _|.mcall j _ _=>[j]
 |_=>[]
def Eff.within (m:Nat)(l:List Nat):Eff->Prop
 |.skip=>True
 |.r t _=>ay m t=true
 |.o j _=>j∈l
def PI.eff_within {Z:aV}{O:Env}{p:PI}{x:Eff}(h:p.eff Z O=some x):x.within p.mask p.wo:=by
 cases p with
 |setR t e=>simp only[PI.eff,aS] at h;subst h;exact rQ t
 |setO t e=>simp only[PI.eff,aS] at h;subst h;simp[Eff.within,PI.wo]
 |chk e=>simp only[PI.eff] at h;cases hb:(e.ev O).b<;>rw[hb] at h<;>cases h;trivial
 |call gs d f aa=>
  simp only[PI.eff] at h;cases hb:holds gs O<;>simp only[hb,zyx,zyw,aS,aC] at h
  .subst h;trivial
  .obtain⟨d,_,rfl⟩:=h;exact rQ _
 |callc gs d e aa=>
  simp only[PI.eff] at h;cases hb:holds gs O<;>simp only[hb,zyx,zyw,aS] at h
  .subst h;trivial
  .split at h
   .simp only[aC] at h;obtain⟨d,_,rfl⟩:=h;exact rQ _
   .cases h
 |mcall j f aa=>simp only[PI.eff,aC] at h;obtain⟨d,_,rfl⟩:=h;simp[Eff.within,PI.wo]
def H9 (a b:List Nat):Bool:=a.all λx=> !gB b x
structure Foot where
 wr:Nat
 wo:List Nat
 k:Lk
def jd:List PI->Foot
 |[]=>⟨0,[],.none⟩
 |p::l=>⟨Nat.lor p.mask (jd l).wr,p.wo++(jd l).wo,p.lk.or (jd l).k⟩
def Foot.comm (a b:Foot):Bool:=
 Nat.beq (Nat.land a.wr b.wr) 0&&(Nat.beq (Nat.land a.wr b.k.r) 0&&(Nat.beq (Nat.land b.wr a.k.r) 0&&
    (H9 a.wo b.wo&&(H9 a.wo b.k.o&&H9 b.wo a.k.o))))
def RL {a b t:Nat}(h:Nat.beq (Nat.land a b) 0=true)(ha:ay a t=true)(hb:ay b t=true):False:=by
 have h1:=dq h;have h2:(a&&& b).testBit t=true:=by rw[Nat.testBit_and,<-tP,<-tP,ha,hb];rfl
 have h3:(a&&& b)=0:=h1;rw[h3] at h2;simp at h2
def Ok {a b:List Nat}(h:H9 a b=true){x:Nat}(ha:x∈a)(hb:x∈b):False:=by
 have:=bJ.1 h x ha;rw[(qY b x).2 hb] at this;cases this
structure Comm (p q:PI):Prop where
 ww:∀t,ay p.mask t=true->ay q.mask t=true->False
 wr:∀t,ay p.mask t=true->ay q.lk.r t=true->False
 rw:∀t,ay q.mask t=true->ay p.lk.r t=true->False
 oww:∀t,t∈p.wo->t∈q.wo->False
 owr:∀t,t∈p.wo->t∈q.lk.o->False
 orw:∀t,t∈q.wo->t∈p.lk.o->False
def Eff.alike {x:Eff}{m:Nat}{l:List Nat}{k:Lk}{O:Env}(h:x.within m l)(h1:∀t,ay m t=true->ay k.r t=true->False)(h2:∀t,t∈l->t∈k.o->False):Alike k O (x.app O):=by
 cases x with
 |skip=>exact⟨λ_ _=>rfl,λ_ _=>rfl⟩
 |r t d=>exact⟨λu hu=>bt _ _ (λe=>h1 t h (e▸hu)),λ_ _=>rfl⟩
 |o t d=>exact⟨λ_ _=>rfl,λu hu=>bt _ _ (λe=>h2 t h (e▸hu))⟩
def ahg {α:Type}(f:Nat->α){i j:Nat}(x y:α)(h:i≠j):cv (cv f i x) j y=cv (cv f j y) i x:=by
 funext t;simp only[gm];by_cases h1:t=i
 .subst h1;simp[h]
 .simp[h1]
def Eff.comm {x y:Eff}{m m':Nat}{l l':List Nat}{O:Env}(hx:x.within m l)(hy:y.within m' l')(h1:∀t,ay m t=true->ay m' t=true->False)(h2:∀t,t∈l->t∈l'->False):
 y.app (x.app O)=x.app (y.app O):=by
 cases x with
 |skip=>rfl
 |r t d=>
  cases y with
  |skip=>rfl
  |r u e=>
   have aB:t≠u:=λe=>h1 t hx (by subst e;exact hy);show Env.setR (Env.setR O t d) u e=Env.setR (Env.setR O u e) t d;simp only[Env.setR];rw[ahg _ _ _ aB]
  |o u e=>rfl
 |o t d=>
  cases y with
  |skip=>rfl
  |r u e=>rfl
  |o u e=>
   have aB:t≠u:=λe=>h2 t hx (by subst e;exact hy);show Env.setO (Env.setO O t d) u e=Env.setO (Env.setO O u e) t d;simp only[Env.setO];rw[ahg _ _ _ aB]
def PI.comm {Z:aV}{p q:PI}(h:Comm p q)(O:Env):(p.run Z O).bind (q.run Z)=(q.run Z O).bind (p.run Z):=by
 simp only[PI.run_eff];cases hp:p.eff Z O with
 |none=>
  cases hq:q.eff Z O with
  |none=>rfl
  |some y=>
   have:=PI.eff_alike (Z:=Z) p (Eff.alike (O:=O) (PI.eff_within hq) h.rw h.orw);simp[PI.run_eff,this,hp]
 |some x=>
  have hx:=PI.eff_within hp;have e1:=PI.eff_alike (Z:=Z) q (Eff.alike (O:=O) hx h.wr h.owr);cases hq:q.eff Z O with
  |none=>simp[PI.run_eff,e1,hq]
  |some y=>
   have hy:=PI.eff_within hq;have e2:=PI.eff_alike (Z:=Z) p (Eff.alike (O:=O) hy h.rw h.orw);simp only[lU,lh,PI.run_eff,e1,e2,hp,hq];rw[Eff.comm hx hy h.ww h.oww]
def PI.comm1 {Z:aV}{p:PI}:∀(l:List PI),(∀q,q∈l->Comm p q)->∀O,(p.run Z O).bind (PI.runs Z l)=(PI.runs Z l O).bind (p.run Z)
 |[],_,O=>by simp only[PI.runs];cases h:p.run Z O<;>simp[h]
 |q::l,h,O=>by
  have ih:=PI.comm1 (Z:=Z) l λq hq=>h q (dW _ hq);have hc:=PI.comm (Z:=Z) (h q (er ..)) O;simp only[PI.runs];have e1:((p.run Z O).bind λρ1=>(q.run Z ρ1).bind (PI.runs Z l))=((p.run Z O).bind (q.run Z)).bind (PI.runs Z l):=by cases p.run Z O<;>rfl
  show((p.run Z O).bind λρ1=>(q.run Z ρ1).bind (PI.runs Z l))=_;rw[e1,hc];cases q.run Z O with
  |none=>rfl
  |some ρ1=>simp only[lh];exact ih ρ1
def PI.comms {Z:aV}:∀(a b:List PI),(∀p q,p∈a->q∈b->Comm p q)->∀O,PI.runs Z (a++b) O=PI.runs Z (b++a) O
 |[],b,_,O=>by simp
 |p::a,b,h,O=>by
  have ih:=PI.comms (Z:=Z) a b λp q hp hq=>h p q (dW _ hp) hq;have h1:=PI.comm1 (Z:=Z) b (λq hq=>h p q (er ..) hq);simp only[HM,PI.runs,p9];have e1:((p.run Z O).bind (PI.runs Z (a++b)))=(p.run Z O).bind (PI.runs Z (b++a)):=by
   cases p.run Z O with
   |none=>rfl
   |some ρ1=>exact ih ρ1
  rw[e1];have e2:PI.runs Z (b++a)=λO=>(PI.runs Z b O).bind (PI.runs Z a):=funext λO=>p9;rw[e2];have e3:((p.run Z O).bind λO=>(PI.runs Z b O).bind (PI.runs Z a))=((p.run Z O).bind (PI.runs Z b)).bind (PI.runs Z a):=by cases p.run Z O<;>rfl
  rw[e3,h1 O];cases PI.runs Z b O with
  |none=>rfl
  |some ρ1=>rfl
def Zy {l:List PI}{p:PI}(h:p∈l):(∀t,ay p.mask t=true->ay (jd l).wr t=true)/\(∀t,t∈p.wo->t∈(jd l).wo)/\(∀t,ay p.lk.r t=true->ay (jd l).k.r t=true)/\∀t,t∈p.lk.o->t∈(jd l).k.o:=by
 induction l with
 |nil=>cases h
 |cons q l ih=>
  rcases cZ.1 h with e|h
  .subst e;refine⟨λt ht=>?_,λt ht=>kE _ ht,λt ht=>?_,λt ht=>kE _ ht⟩
   .simp only[jd,gu,ht,zI]
   .simp only[jd,Lk.or,gu,ht,zI]
  .obtain⟨h1,h2,h3,h4⟩:=ih h;refine⟨λt ht=>?_,λt ht=>ld _ (h2 t ht),λt ht=>?_,λt ht=>ld _ (h4 t ht)⟩
   .simp only[jd,gu,h1 t ht,oY]
   .simp only[jd,Lk.or,gu,h3 t ht,oY]
def j1 (S:St)(dst:Nat)(S':St):Prop:=∀t,t≠dst->S'.r t=S.r t
section
variable {C:Ctx} {S:St} {gs:List (Nat×Bool)} {dst:Nat} {r:St×List PI}
def iU {X:St}{s:Sh}(h:X.r=S.r):j1 S dst (X.setR dst s):=λt ht=>by simp only[St.setR,bt _ _ ht,h]
def alO (S:St)(j:Nat):(S.fz j).r=S.r:=(J5 S j).2
def aj3 {T:TypeId}{x:Operand}(h:D1 C S dst T x=some r):j1 S dst r.1:=by
 unfold D1 at h;split at h
 .simp only[aC] at h;obtain⟨e,_,rfl⟩:=h;exact iU rfl
 .cases h
def aj9 {T:TypeId}{x:Operand}(h:vH C S dst T x=some r):j1 S dst r.1:=by
 unfold vH at h;split at h
 .rename_i v;simp only[aw] at h;obtain⟨e,_,z,_,h⟩:=h;cases hc:kC e v<;>simp only[hc,zyx,zyw] at h<;>cases h;exact iU rfl
 .cases h
def ajz {T:TypeId}(h:DR C S dst T=some r):j1 S dst r.1:=by
 unfold DR at h;split at h
 .rename_i t inf ag _ _ _;cases hc:(vg inf t&&(t.rowT||t.one))<;>simp only[hc,zyx,zyw] at h
  .cases h
  .simp only[aC] at h;obtain⟨e,_,rfl⟩:=h;exact iU rfl
 .cases h
def ajD {T:TypeId}{x:Operand}(h:DT C S dst T x=some r):j1 S dst r.1:=by
 unfold DT at h;split at h
 .rename_i t e ag _ _;cases hc:(t.rowT||t.one)<;>simp only[hc,zyx,zyw] at h<;>cases h;exact iU rfl
 .split at h
  .cases h;exact iU rfl
  .cases h
 .cases h
def ajX {T:TypeId}{x:Option Operand}(h:DY C S dst T x=some r):j1 S dst r.1:=by
 unfold DY at h;split at h
 .simp only[aw,aC] at h;obtain⟨e,_,z,_,rfl⟩:=h;exact iU rfl
 .cases h
def aj5 {T:TypeId}{x:Operand}(h:D2 C S dst T x=some r):j1 S dst r.1:=by
 unfold D2 at h;split at h
 case h_2=>cases h
 rename_i K E j ver hT es;cases hb:(Nat.beq ver (S.ver j)&& !Nat.beq j dst)<;>simp only[hb,zyx,zyw] at h
 .cases h
 split at h
 .cases h;exact iU rfl
 .cases h
def ajH {T U:TypeId}{x:Operand}(h:DU C S dst T U x=some r):j1 S dst r.1:=by
 unfold DU at h;split at h
 .split at h
  .cases h;exact iU rfl
  .cases h
 .cases h
def ajZ {T:TypeId}{x y:Operand}(h:DZ C S dst T x y=some r):j1 S dst r.1:=by
 unfold DZ at h;split at h
 .rename_i E _ n _ m _ _ _;simp only[aw] at h;obtain⟨e,_,h⟩:=h;cases hc:rW C.P E e<;>simp only[hc,zyx,zyw] at h
  .cases h
  .simp only[aw] at h;obtain⟨z,_,h⟩:=h;cases vQ:Ty.sub z.1 e<;>simp only[vQ,zyx,zyw] at h<;>cases h;exact iU rfl
 .cases h
def ajF {T:TypeId}{n:Nat}{ps:List (Nat×Operand)}(h:xU C S gs dst T n ps=some r):j1 S dst r.1:=by
 unfold xU at h;split at h
 .simp only[aw] at h;obtain⟨e,_,z,_,h⟩:=h
  revert h
  generalize (_&&_:Bool)=b;intro h;cases b<;>simp only[zyx,zyw] at h
  .cases h
  .simp only[aC] at h;obtain⟨es,_,rfl⟩:=h;exact iU rfl
 .cases h
def ajV {T:TypeId}{n:Nat}{ps:List (Nat×Operand)}(h:Bb C S gs dst T n ps=some r):j1 S dst r.1:=by
 unfold Bb at h;split at h
 .simp only[aw] at h;obtain⟨e,_,h⟩:=h;split at h
  .cases h;exact iU rfl
  .cases h
 .cases h
def ajB {T:TypeId}{x y:Operand}(h:DS C S dst T x y=some r):j1 S dst r.1:=by
 unfold DS at h;split at h
 .rename_i E _;simp only[aw] at h;obtain⟨e,_,h⟩:=h;split at h
  .rename_i tx ex _;cases hc:(rW C.P E e&&Nk tx e)<;>simp only[hc,zyx,zyw] at h
   .cases h
   .split at h
    .cases h;exact iU rfl
    .cases h
    .split at h
     .rename_i j ver _;cases hc:Nat.beq ver (S.ver j)<;>simp only[hc,zyx,zyw] at h
      .cases h
      .split at h
       .rename_i E' e' _;cases hc:(Nat.beq E' E&&Ty.beq e' e)<;>simp only[hc,zyx,zyw] at h<;>cases h;exact iU rfl
       .cases h
     .cases h
  .cases h
 .cases h
def ajO {f:Nat}{xs:List Operand}(h:DW C S dst f xs=some r):j1 S dst r.1:=by
 simp only[DW,aw] at h;obtain⟨s,_,h⟩:=h;split at h
 .rename_i T e _;simp only[aw] at h;obtain⟨u,_,h⟩:=h;cases hc:Ty.subs u.1 s.args<;>simp only[hc,zyx,zyw] at h<;>cases h;refine iU (X:=(bif e.pure then S else S.fzs (cj S [] xs)).newO dst (.row T e)) ?_;cases e.pure
  .exact(py _ S).2
  .rfl
 .cases h
def ajT {f:Nat}{xs:List Operand}{q:St×Sh×List PI}(h:qu C S gs dst f xs=some q):q.1.r=S.r:=by
 simp only[qu,aw] at h;obtain⟨s,_,h⟩:=h;split at h
 .simp only[aw] at h;obtain⟨u,_,h⟩:=h;cases hc:Ty.subs u.1 s.args<;>simp only[hc,zyx,zyw] at h<;>cases h;cases s.res.pure
  .exact(py _ S).2
  .rfl
 .cases h
def ajK {x:Operand}{xs:List Operand}{q:St×Sh×List PI}(h:pw C S gs dst x xs=some q):q.1.r=S.r:=by
 unfold pw at h;split at h
 .rename_i aa r0 _ _;split at h
  case h_1=>cases h
  simp only[aw] at h;obtain⟨u,_,h⟩:=h;cases hc:Ty.subs u.1 aa<;>simp only[hc,zyx,zyw] at h<;>cases h;cases r0.pure
  .exact(py _ S).2
  .rfl
 .cases h
def aj7 {T:TypeId}{x v:Operand}(h:vG C S T x v=some r):r.1.r=S.r:=by
 unfold vG at h;split at h
 case h_2=>cases h
 rename_i inf _;split at h
 .rename_i j ver off _;cases hc:Nat.beq ver (S.ver j)<;>simp only[hc,zyx,zyw] at h
  .cases h
  split at h
  case h_2=>cases h
  rename_i ag shs _;split at h
  .revert h
   generalize (_&&_:Bool)=b;intro h;cases b<;>simp only[zyx,zyw] at h<;>cases h;rfl
  .split at h
   .revert h
    generalize (_&&_:Bool)=b;intro h;cases b<;>simp only[zyx,zyw] at h<;>cases h;rfl
   .revert h
    generalize (_&&_:Bool)=b;intro h;cases b<;>simp only[zyx,zyw] at h<;>cases h;rfl
   .cases h
 .rename_i j ver size off _;cases hc:Nat.beq ver (S.ver j)<;>simp only[hc,zyx,zyw] at h
  .cases h
  split at h
  .revert h
   generalize (_&&_:Bool)=b;intro h;cases b<;>simp only[zyx,zyw] at h<;>cases h;rfl
  .revert h
   generalize (_&&_:Bool)=b;intro h;cases b<;>simp only[zyx,zyw] at h<;>cases h;rfl
  .cases h
 .cases h
def YS {T:TypeId}{m k v:Operand}(h:tQ C S T m k v=some r):r.1.r=S.r:=by
 unfold tQ at h;split at h
 .rename_i K _ j ver _ _;cases hc:Nat.beq ver (S.ver j)<;>simp only[hc,zyx,zyw] at h
  .cases h
  split at h
  .revert h
   generalize (_&&_:Bool)=b;intro h;cases b<;>simp only[zyx,zyw] at h<;>cases h;rfl
  .cases h
 .cases h
def ajQ {f:Nat}{xs:List Operand}(h:DX C S dst f xs=some r):j1 S dst r.1:=by
 simp only[DX,aw] at h;obtain⟨s,_,h⟩:=h;split at h
 case h_2=>cases h
 simp only[aw] at h;obtain⟨u,_,h⟩:=h
 revert h
 generalize (_&&_:Bool)=b;intro h;cases b<;>simp only[zyx,zyw] at h
 .cases h
 cases h;refine iU (X:=St.newRows _ _ _) ?_;exact(py _ S).2
def ajM {f:Nat}{xs:List Operand}(h:DV C S dst f xs=some r):j1 S dst r.1:=by
 simp only[DV,aw] at h;obtain⟨s,_,h⟩:=h;split at h
 case h_2=>cases h
 split at h
 case h_2=>cases h
 split at h
 case h_2=>cases h
 revert h
 generalize (_&&_:Bool)=b;intro h;cases b<;>simp only[zyx,zyw] at h
 .cases h
 simp only[aw] at h;obtain⟨u,_,h⟩:=h
 revert h
 generalize Ty.subs _ _=b;intro h;cases b<;>simp only[zyx,zyw] at h
 .cases h
 cases h;exact iU rfl
def Pr {f:Nat}{xs:List Operand}{cs:List (Nat×Nat)}{q:St×Ty×List PI}(h:rV C S f xs cs=some q):q.1.r=S.r:=by
 simp only[rV,aw] at h;obtain⟨s,_,h⟩:=h;split at h
 .rename_i shs obs _;unfold Pq Pp at h;simp only[aw] at h;obtain⟨u,_,h⟩:=h
  revert h
  generalize (_&&_:Bool)=b;intro h;cases b<;>simp only[zyx,zyw] at h<;>cases h;exact(py _ S).2
 .cases h
def YO {t:Nat}{xs:List Operand}{q:St×Ty×List PI}(h:Ba C S t xs=some q):q.1.r=S.r:=by
 unfold Ba at h;split at h
 .rename_i f caps _;cases hc:zZ S caps<;>simp only[hc,zyx,zyw] at h
  .cases h
  .exact Pr h
 .cases h
def acF {dst:Nat}{q:St×Ty×List PI}(h:q.1.r=S.r):j1 S dst (q9 S (some dst) q).1:=iU h
def aj1 {fn:Fn}{a b:Array Operand}(h:D0 C S dst fn a b=some r):j1 S dst r.1:=by
 unfold D0 at h;split at h
 case h_2=>cases h
 split at h
 case h_2=>cases h
 rename_i s _;cases hb:qX s.mode<;>simp only[hb,zyx,zyw] at h
 .cases h
 simp only[aC] at h;obtain⟨c,_,rfl⟩:=h;exact iU rfl
def ajp {o:Oper}(hr:core C S gs o=some r):∀t,o.dst≠some t->r.1.r t=S.r t:=by
 unfold core at hr;split at hr
 .rename_i dst hd
  suffices h:j1 S dst r.1 by
   intro t ht;exact h t (λe=>ht (by rw[hd,e]))
  split at hr
  .rename_i q hq;cases eY:sE q.1<;>simp only[eY,zyx,zyw] at hr<;>cases hr;exact iU rfl
  .split at hr
   .rename_i x e _
    have mv:∀r,(match re C S [] dst x with|some r=>some (S.setR dst r.1,r.2)|none=>vH C S dst o.type x)=some r->j1 S dst r.1:=by
     intro r hr;split at hr
     .cases hr;exact iU rfl
     .exact aj9 hr
    cases dC:C.fr.any (Nat.beq dst)<;>simp only[dC,zyx,zyw] at hr
    .split at hr
     .rename_i q hq;cases hr;exact aj3 hq
     .exact mv r hr
    .exact mv r hr
   .exact ajz hr
   .exact ajD hr
   .split at hr
    .exact ajF hr
    .exact ajV hr
   .exact ajZ hr
   .exact ajX hr
   .exact aj5 hr
   .exact ajH hr
   .rename_i c e;split at hr
    .split at hr
     .rename_i s x T T' _ _;cases hT:Nat.beq T T'<;>simp only[hT,zyx,zyw] at hr
      .cases hr
      .exact ajB hr
     .cases hr
    .split at hr
     .rename_i q hq;cases hr;exact iU (ajT hq)
     .split at hr
      .split at hr
       .rename_i q hq;cases hr;exact ajO hq
       .split at hr
        .rename_i q hq;cases hr;exact ajQ hq
        split at hr
        .rename_i q hq;cases hr;exact ajM hq
        .simp only[aC] at hr;obtain⟨q,hq,rfl⟩:=hr;exact acF (Pr hq)
      .cases hr
    .split at hr
     .rename_i q hq;cases hr;exact iU (ajK hq)
     .split at hr
      .simp only[aC] at hr;obtain⟨q,hq,rfl⟩:=hr;exact acF (YO hq)
      .cases hr
    .cases hr
   .exact aj1 hr
   .cases hr
 .split at hr
  .intro t _;rw[aj7 hr]
  .intro t _;rw[YS hr]
  .intro t _;rw[YS hr]
  .cases hr;intro t _;rfl
  .intro t _;split at hr
   .simp only[aC] at hr;obtain⟨q,hq,rfl⟩:=hr;simp only[q9,Pr hq]
   .simp only[aC] at hr;obtain⟨q,hq,rfl⟩:=hr;simp only[q9,YO hq]
   .cases hr
  .cases hr
def alW {g:Gh}(hr:g.run C S=some r):∀t,(∀u j,g=.rereg u j->t≠u)->r.1.r t=S.r t:=by
 intro t ht;cases g with
 |fz j=>simp only[Gh.run,aS] at hr;subst hr;rw[alO]
 |fbox b=>
  simp only[Gh.run,Ek] at hr;split at hr
  case h_2=>cases hr
  rename_i ag shs _;simp only[aw] at hr;obtain⟨x,_,hr⟩:=hr;cases ag<;>simp only[zyx,zyw] at hr
  .split at hr
   .cases hr;rfl
   .cases hr
  .cases hr;rfl
 |rereg u j=>
  simp only[Gh.run,zt] at hr;split at hr
  .revert hr
   generalize (_&&_:Bool)=b;intro hr;cases b<;>simp only[zyx,zyw] at hr<;>cases hr
   .rfl
   .simp only[St.setR,bt _ _ (ht u j rfl)];rfl
  .cases hr;rfl
 |recell b i j=>
  simp only[Gh.run,G8] at hr;split at hr
  .split at hr
   .revert hr
    generalize (_&&_:Bool)=b;intro hr;cases b<;>simp only[zyx,zyw] at hr<;>cases hr<;>rfl
   .cases hr;rfl
  .cases hr;rfl
 |home b i j T=>
  simp only[Gh.run,E5] at hr;split at hr
  .split at hr
   .revert hr
    generalize (!_:Bool)=b;intro hr;cases b<;>simp only[zyx,zyw] at hr<;>cases hr<;>rfl
   .cases hr;rfl
  .cases hr;rfl
def PS:∀(l:List Gh) {S:St} {r:St×List PI},kI C l S=some r->∀t,(∀g u j,g∈l->g=.rereg u j->t≠u)->r.1.r t=S.r t
 |[],S,r,hr,t,_=>by simp only[kI,aS] at hr;subst hr;rfl
 |g::l,S,r,hr,t,ht=>by
  simp only[kI,aw,aC] at hr;obtain⟨q,hq,q2,kg,rfl⟩:=hr;have h1:=PS l kg t (λg u j hg=>ht g u j (dW _ hg));have h2:=alW hq t (λu j e=>ht g u j (er ..) e);exact h1.trans h2
def asB (S:St)(gs:List (Nat×Bool))(o:Oper):∀g u j,g∈pre C S gs o.op++rh C S gs o->g≠.rereg u j:=by
 intro g u j hg e;subst e;rw[dm] at hg;rcases hg with hg|hg
 .unfold pre at hg;split at hg
  .rename_i fn _ _ _;cases ho:acE C fn<;>simp only[ho,zyx,zyw] at hg
   case true=>cases hg
   obtain⟨b,_,hb⟩:=iM.1 hg;rw[dm] at hb;rcases hb with hb|hb
   .split at hb
    .obtain⟨_,_,h⟩:=dX.1 hb;cases h
    .cases hb
   .simp at hb
  .split at hg
   .replace hg:=aqU hg
    split at hg
    .obtain⟨_,_,h⟩:=dX.1 hg;cases h
    .cases hg
   .cases hg
  .obtain⟨_,_,h⟩:=dX.1 hg;cases h
  .obtain⟨_,_,h⟩:=dX.1 hg;cases h
 .unfold rh at hg;split at hg
  .rename_i x t _ _;cases hc:C.fr.any (Nat.beq t)<;>simp only[hc,zyx,zyw] at hg
   .cases hg
   .obtain⟨_,_,h⟩:=dX.1 hg;cases h
  .cases hg
def asy (S:St)(o:Oper):∀g u j,g∈post C S o->g=.rereg u j->o.dst=some u:=by
 intro g u j hg e;subst e;unfold post at hg;split at hg
 .rename_i t _ hd;simp at hg;rw[hd,hg.1]
 .unfold Lh homes at hg;have:=(eW.1 hg).1;obtain⟨x,_,hx⟩:=vp.1 this;cases cg:x.1<;>rw[cg] at hx<;>simp at hx
 .split at hg
  .rw[dm] at hg;rcases hg with hg|hg
   .unfold Lh homes at hg;have:=(eW.1 hg).1;obtain⟨x,_,hx⟩:=vp.1 this;cases cg:x.1<;>rw[cg] at hx<;>simp at hx
   .unfold afO at hg;obtain⟨_,_,h⟩:=dX.1 hg;cases h
  .cases hg
 .cases hg
def aji {ops:Array Oper}{o:Oper}(hr:A7 C S ops o=some r):∀t,o.dst≠some t->r.1.r t=S.r t:=by
 intro t ht;unfold A7 at hr;split at hr
 .rename_i q hq;cases hr;simp only[DM,aw] at hq;obtain⟨gs,_,r1,h1,r2,h2,r3,h3,hq⟩:=hq
  revert hq
  generalize j8 gs o.dst r2.2=b;intro hq;cases b<;>simp only[zyx,zyw] at hq<;>cases hq;have e1:=PS _ h1 t (λg u j hg e=>absurd e (asB S gs o g u j hg));have e2:=ajp h2 t ht
  have e3:=PS _ h3 t (λg u j hg e=>by
   have:=asy r2.1 o g u j hg e;intro e';subst e';exact ht this)
  exact e3.trans (e2.trans e1)
 .cases hr;split
  .rename_i d hd;simp only[St.setR];rw[bt];intro e;subst e;exact ht hd
  .rfl
def YI {ops:Array Oper}{o:Oper}(hr:qs C S ops o=some r):∀t,o.dst≠some t->r.1.r t=S.r t:=by
 intro t ht;unfold qs at hr;split at hr
 .rename_i q hq;cases hr;unfold A8 at hq;split at hq
  case h_2=>cases hq
  rename_i dst _ args _ _ _ hd _ _;simp only[aw] at hq;obtain⟨gs,_,hq⟩:=hq;split at hq
  case h_2=>cases hq
  split at hq
  case h_2=>cases hq
  simp only[aw] at hq;obtain⟨u,_,hq⟩:=hq;rw[qh] at hq;split at hq<;>cases hq;simp only[St.setR];rw[bt,(py _ S).2];intro e;subst e;exact ht hd
 .exact aji hr t ht
def Pj {ops:Array Oper}:∀{l:List Nat} {S:St} {r:St×List PI},pv C ops l S=some r->∀t,(∀i o,i∈l->ops[i]?=some o->o.dst≠some t)->r.1.r t=S.r t
 |[],S,r,h,t,_=>by simp only[pv,aS] at h;subst h;rfl
 |i::l,S,r,h,t,ht=>by
  simp only[pv] at h;split at h
  .rename_i o ho;simp only[aw,aC] at h;obtain⟨q,hq,q2,kg,rfl⟩:=h;exact(Pj kg t λj o hj=>ht j o (dW _ hj)).trans (YI hq t (ht i o (er ..) ho))
  .cases h
end
end Cx
