/-
  Shared texts of this claim.
-/
import Derived.Test.YtopjnikcppafdaaGreatDoorMAF
import Derived.OrdersIn
set_option linter.defProp false
set_option linter.unusedSimpArgs false
set_option linter.unusedVariables false
namespace Cx
open Go Go.RowKit
def ZU:Value->Value->Bool
 |.int k n,.int k' m=>k==k'&&n==m
 |.bool a,.bool b=>a==b
 |.string a,.string b=>decide (a=b)
 |.nilFunc,.nilFunc=>true
 |_,_=>false
def aAv:∀a b,ZU a b=true->a=b:=by
 intro a b h;unfold ZU at h;split at h
 .simp only[ao,beq_iff_eq] at h;rw[h.1,h.2]
 .simp only[beq_iff_eq] at h;rw[h]
 .simp only[decide_eq_true_eq] at h;rw[h]
 .rfl
 .cases h
mutual
def D.beq:D->D->Bool
 |.v a,e=>match e with|.v b=>ZU a b|_=>false
 |.agg a,e=>match e with|.agg b=>D.beqs a b|_=>false
 |.list a,e=>match e with|.list b=>D.beqs a b|_=>false
 |.tup a,e=>match e with|.tup b=>D.beqs a b|_=>false
 |.map a,e=>match e with|.map b=>a.isEmpty&&b.isEmpty|_=>false
 |.ref a,e=>match e with|.ref b=>D.beq a b|_=>false
 |.clo f a,e=>match e with|.clo g b=>Nat.beq f g&&D.beqs a b|_=>false
 |.none,e=>match e with|.none=>true|_=>false
def D.beqs:List D->List D->Bool
 |[],e=>match e with|[]=>true|_=>false
 |a::aa,e=>match e with|b::bs=>D.beq a b&&D.beqs aa bs|_=>false
end
mutual
def D.beq_eq:∀a b:D,D.beq a b=true->a=b
 |.v a,e,h=>by cases e<;>first|(simp only[D.beq] at h;rw[aAv _ _ h])|cases h
 |.agg a,e,h=>by cases e<;>first|(simp only[D.beq] at h;rw[D.beqs_eq _ _ h])|cases h
 |.list a,e,h=>by cases e<;>first|(simp only[D.beq] at h;rw[D.beqs_eq _ _ h])|cases h
 |.tup a,e,h=>by cases e<;>first|(simp only[D.beq] at h;rw[D.beqs_eq _ _ h])|cases h
 |.map a,e,h=>by
  cases e<;>first|(simp only[D.beq,ao,aay] at h;rw[h.1,h.2])|cases h
 |.ref a,e,h=>by cases e<;>first|(simp only[D.beq] at h;rw[D.beq_eq _ _ h])|cases h
 |.clo f a,e,h=>by cases e<;>first|(simp only[D.beq,ao] at h;rw[ay h.1,D.beqs_eq _ _ h.2])|cases h
 |.none,e,h=>by cases e<;>first|rfl|cases h
def D.beqs_eq:∀a b:List D,D.beqs a b=true->a=b
 |[],e,h=>by cases e<;>first|rfl|cases h
 |a::aa,e,h=>by
  cases e with
  |nil=>cases h
  |cons b bs=>simp only[D.beqs,ao] at h;rw[D.beq_eq _ _ h.1,D.beqs_eq _ _ h.2]
end
mutual
def PE.beq:PE->PE->Bool
 |.r a,e=>match e with|.r b=>Nat.beq a b|_=>false
 |.o a,e=>match e with|.o b=>Nat.beq a b|_=>false
 |.con a,e=>match e with|.con b=>D.beq a b|_=>false
 |.cell x i,e=>match e with|.cell y j=>PE.beq x y&&Nat.beq i j|_=>false
 |.sub x i n,e=>match e with|.sub y j m=>PE.beq x y&&(Nat.beq i j&&Nat.beq n m)|_=>false
 |.setc x i z,e=>match e with|.setc y j u=>PE.beq x y&&(Nat.beq i j&&PE.beq z u)|_=>false
 |.mk x,e=>match e with|.mk y=>PE.beqs x y|_=>false
 |.ai op k x y,e=>match e with|.ai zr k' x' y'=>op==zr&&(k==k'&&(PE.beq x x'&&PE.beq y y'))|_=>false
 |.ci op x y,e=>match e with|.ci zr x' y'=>op==zr&&(PE.beq x x'&&PE.beq y y')|_=>false
 |.cb op x y,e=>match e with|.cb zr x' y'=>op==zr&&(PE.beq x x'&&PE.beq y y')|_=>false
 |.cs op x y,e=>match e with|.cs zr x' y'=>op==zr&&(PE.beq x x'&&PE.beq y y')|_=>false
 |.sadd x y,e=>match e with|.sadd x' y'=>PE.beq x x'&&PE.beq y y'|_=>false
 |.nt x,e=>match e with|.nt y=>PE.beq x y|_=>false
 |.conv k x,e=>match e with|.conv k' y=>k==k'&&PE.beq x y|_=>false
 |.pick c x y,e=>match e with|.pick c' x' y'=>PE.beq c c'&&(PE.beq x x'&&PE.beq y y')|_=>false
 |.llen x,e=>match e with|.llen y=>PE.beq x y|_=>false
 |.bytes x,e=>match e with|.bytes y=>PE.beq x y|_=>false
 |.slen x,e=>match e with|.slen y=>PE.beq x y|_=>false
 |.mlen x,e=>match e with|.mlen y=>PE.beq x y|_=>false
 |.nth x y,e=>match e with|.nth x' y'=>PE.beq x x'&&PE.beq y y'|_=>false
 |.idx x y,e=>match e with|.idx x' y'=>PE.beq x x'&&PE.beq y y'|_=>false
 |.sidx x y,e=>match e with|.sidx x' y'=>PE.beq x x'&&PE.beq y y'|_=>false
 |.sok x y,e=>match e with|.sok x' y'=>PE.beq x x'&&PE.beq y y'|_=>false
 |.setn x i n y,e=>match e with|.setn x' i' n' y'=>PE.beq x x'&&(PE.beq i i'&&(Nat.beq n n'&&PE.beq y y'))|_=>false
 |.app x y,e=>match e with|.app x' y'=>PE.beq x x'&&PE.beq y y'|_=>false
 |.lst x,e=>match e with|.lst y=>PE.beqs x y|_=>false
 |.rep x y,e=>match e with|.rep x' y'=>PE.beq x x'&&PE.beq y y'|_=>false
 |.slc c x y,e=>match e with|.slc c' x' y'=>PE.beq c c'&&(PE.beq x x'&&PE.beq y y')|_=>false
 |.slok c x y,e=>match e with|.slok c' x' y'=>PE.beq c c'&&(PE.beq x x'&&PE.beq y y')|_=>false
 |.ref x,e=>match e with|.ref y=>PE.beq x y|_=>false
 |.deref x,e=>match e with|.deref y=>PE.beq x y|_=>false
 |.look c x y,e=>match e with|.look c' x' y'=>PE.beq c c'&&(PE.beq x x'&&PE.beq y y')|_=>false
 |.has x y,e=>match e with|.has x' y'=>PE.beq x x'&&PE.beq y y'|_=>false
 |.put c x y,e=>match e with|.put c' x' y'=>PE.beq c c'&&(PE.beq x x'&&PE.beq y y')|_=>false
 |.mn x y,e=>match e with|.mn x' y'=>PE.beq x x'&&PE.beq y y'|_=>false
 |.mx x y,e=>match e with|.mx x' y'=>PE.beq x x'&&PE.beq y y'|_=>false
 |.tup x,e=>match e with|.tup y=>PE.beqs x y|_=>false
 |.tget x i,e=>match e with|.tget y j=>PE.beq x y&&Nat.beq i j|_=>false
 |.clo f x,e=>match e with|.clo g y=>Nat.beq f g&&PE.beqs x y|_=>false
 |.an x y,e=>match e with|.an x' y'=>PE.beq x x'&&PE.beq y y'|_=>false
 |.imp c x,e=>match e with|.imp c' y=>uJ c c'&&PE.beq x y|_=>false
def PE.beqs:List PE->List PE->Bool
 |[],e=>match e with|[]=>true|_=>false
 |a::aa,e=>match e with|b::bs=>PE.beq a b&&PE.beqs aa bs|_=>false
end
def dH {a b:Nat}(h:Nat.beq a b=true):a=b:=ay h
mutual
def PE.beq_eq:∀a b:PE,PE.beq a b=true->a=b
 |.r a,e,h=>by cases e<;>first|(rw[dH h])|cases h
 |.o a,e,h=>by cases e<;>first|(rw[dH h])|cases h
 |.con a,e,h=>by cases e<;>first|(rw[D.beq_eq _ _ h])|cases h
 |.cell x i,e,h=>by cases e<;>first|(simp only[PE.beq,ao] at h;rw[PE.beq_eq _ _ h.1,dH h.2])|cases h
 |.sub x i n,e,h=>by cases e<;>first|(simp only[PE.beq,ao] at h;rw[PE.beq_eq _ _ h.1,dH h.2.1,dH h.2.2])|cases h
 |.setc x i z,e,h=>by cases e<;>first|(simp only[PE.beq,ao] at h;rw[PE.beq_eq _ _ h.1,dH h.2.1,PE.beq_eq _ _ h.2.2])|cases h
 |.mk x,e,h=>by cases e<;>first|(simp only[PE.beq] at h;rw[PE.beqs_eq _ _ h])|cases h
 |.ai op k x y,e,h=>by cases e<;>first|(simp only[PE.beq,ao,beq_iff_eq] at h;rw[h.1,h.2.1,PE.beq_eq _ _ h.2.2.1,PE.beq_eq _ _ h.2.2.2])|cases h
 |.ci op x y,e,h=>by cases e<;>first|(simp only[PE.beq,ao,beq_iff_eq] at h;rw[h.1,PE.beq_eq _ _ h.2.1,PE.beq_eq _ _ h.2.2])|cases h
 |.cb op x y,e,h=>by cases e<;>first|(simp only[PE.beq,ao,beq_iff_eq] at h;rw[h.1,PE.beq_eq _ _ h.2.1,PE.beq_eq _ _ h.2.2])|cases h
 |.cs op x y,e,h=>by cases e<;>first|(simp only[PE.beq,ao,beq_iff_eq] at h;rw[h.1,PE.beq_eq _ _ h.2.1,PE.beq_eq _ _ h.2.2])|cases h
 |.sadd x y,e,h=>by cases e<;>first|(simp only[PE.beq,ao] at h;rw[PE.beq_eq _ _ h.1,PE.beq_eq _ _ h.2])|cases h
 |.nt x,e,h=>by cases e<;>first|(simp only[PE.beq] at h;rw[PE.beq_eq _ _ h])|cases h
 |.conv k x,e,h=>by cases e<;>first|(simp only[PE.beq,ao,beq_iff_eq] at h;rw[h.1,PE.beq_eq _ _ h.2])|cases h
 |.pick c x y,e,h=>by cases e<;>first|(simp only[PE.beq,ao] at h;rw[PE.beq_eq _ _ h.1,PE.beq_eq _ _ h.2.1,PE.beq_eq _ _ h.2.2])|cases h
 |.llen x,e,h=>by cases e<;>first|(simp only[PE.beq] at h;rw[PE.beq_eq _ _ h])|cases h
 |.bytes x,e,h=>by cases e<;>first|(simp only[PE.beq] at h;rw[PE.beq_eq _ _ h])|cases h
 |.slen x,e,h=>by cases e<;>first|(simp only[PE.beq] at h;rw[PE.beq_eq _ _ h])|cases h
 |.mlen x,e,h=>by cases e<;>first|(simp only[PE.beq] at h;rw[PE.beq_eq _ _ h])|cases h
 |.nth x y,e,h=>by cases e<;>first|(simp only[PE.beq,ao] at h;rw[PE.beq_eq _ _ h.1,PE.beq_eq _ _ h.2])|cases h
 |.idx x y,e,h=>by cases e<;>first|(simp only[PE.beq,ao] at h;rw[PE.beq_eq _ _ h.1,PE.beq_eq _ _ h.2])|cases h
 |.sidx x y,e,h=>by cases e<;>first|(simp only[PE.beq,ao] at h;rw[PE.beq_eq _ _ h.1,PE.beq_eq _ _ h.2])|cases h
 |.sok x y,e,h=>by cases e<;>first|(simp only[PE.beq,ao] at h;rw[PE.beq_eq _ _ h.1,PE.beq_eq _ _ h.2])|cases h
 |.setn x i n y,e,h=>by cases e<;>first|(simp only[PE.beq,ao] at h;rw[PE.beq_eq _ _ h.1,PE.beq_eq _ _ h.2.1,dH h.2.2.1,PE.beq_eq _ _ h.2.2.2])|cases h
 |.app x y,e,h=>by cases e<;>first|(simp only[PE.beq,ao] at h;rw[PE.beq_eq _ _ h.1,PE.beq_eq _ _ h.2])|cases h
 |.lst x,e,h=>by cases e<;>first|(simp only[PE.beq] at h;rw[PE.beqs_eq _ _ h])|cases h
 |.rep x y,e,h=>by cases e<;>first|(simp only[PE.beq,ao] at h;rw[PE.beq_eq _ _ h.1,PE.beq_eq _ _ h.2])|cases h
 |.slc c x y,e,h=>by cases e<;>first|(simp only[PE.beq,ao] at h;rw[PE.beq_eq _ _ h.1,PE.beq_eq _ _ h.2.1,PE.beq_eq _ _ h.2.2])|cases h
 |.slok c x y,e,h=>by cases e<;>first|(simp only[PE.beq,ao] at h;rw[PE.beq_eq _ _ h.1,PE.beq_eq _ _ h.2.1,PE.beq_eq _ _ h.2.2])|cases h
 |.ref x,e,h=>by cases e<;>first|(simp only[PE.beq] at h;rw[PE.beq_eq _ _ h])|cases h
 |.deref x,e,h=>by cases e<;>first|(simp only[PE.beq] at h;rw[PE.beq_eq _ _ h])|cases h
 |.look c x y,e,h=>by cases e<;>first|(simp only[PE.beq,ao] at h;rw[PE.beq_eq _ _ h.1,PE.beq_eq _ _ h.2.1,PE.beq_eq _ _ h.2.2])|cases h
 |.has x y,e,h=>by cases e<;>first|(simp only[PE.beq,ao] at h;rw[PE.beq_eq _ _ h.1,PE.beq_eq _ _ h.2])|cases h
 |.put c x y,e,h=>by cases e<;>first|(simp only[PE.beq,ao] at h;rw[PE.beq_eq _ _ h.1,PE.beq_eq _ _ h.2.1,PE.beq_eq _ _ h.2.2])|cases h
 |.mn x y,e,h=>by cases e<;>first|(simp only[PE.beq,ao] at h;rw[PE.beq_eq _ _ h.1,PE.beq_eq _ _ h.2])|cases h
 |.mx x y,e,h=>by cases e<;>first|(simp only[PE.beq,ao] at h;rw[PE.beq_eq _ _ h.1,PE.beq_eq _ _ h.2])|cases h
 |.tup x,e,h=>by cases e<;>first|(simp only[PE.beq] at h;rw[PE.beqs_eq _ _ h])|cases h
 |.tget x i,e,h=>by cases e<;>first|(simp only[PE.beq,ao] at h;rw[PE.beq_eq _ _ h.1,dH h.2])|cases h
 |.clo f x,e,h=>by cases e<;>first|(simp only[PE.beq,ao] at h;rw[dH h.1,PE.beqs_eq _ _ h.2])|cases h
 |.an x y,e,h=>by cases e<;>first|(simp only[PE.beq,ao] at h;rw[PE.beq_eq _ _ h.1,PE.beq_eq _ _ h.2])|cases h
 |.imp c x,e,h=>by cases e<;>first|(simp only[PE.beq,ao] at h;rw[Fh _ _ h.1,PE.beq_eq _ _ h.2])|cases h
def PE.beqs_eq:∀a b:List PE,PE.beqs a b=true->a=b
 |[],e,h=>by cases e<;>first|rfl|cases h
 |a::aa,e,h=>by
  cases e with
  |nil=>cases h
  |cons b bs=>simp only[PE.beqs,ao] at h;rw[PE.beq_eq _ _ h.1,PE.beqs_eq _ _ h.2]
end
def PI.beq:PI->PI->Bool
 |.setR t x,e=>match e with|.setR u y=>Nat.beq t u&&PE.beq x y|_=>false
 |.setO t x,e=>match e with|.setO u y=>Nat.beq t u&&PE.beq x y|_=>false
 |.chk x,e=>match e with|.chk y=>PE.beq x y|_=>false
 |.call gs d f aa,e=>match e with|.call bM d' f' D6=>uJ gs bM&&(Nat.beq d d'&&(Nat.beq f f'&&PE.beqs aa D6))|_=>false
 |.callc gs d f aa,e=>match e with|.callc bM d' f' D6=>uJ gs bM&&(Nat.beq d d'&&(PE.beq f f'&&PE.beqs aa D6))|_=>false
 |.mcall d f aa,e=>match e with|.mcall d' f' D6=>Nat.beq d d'&&(Nat.beq f f'&&PE.beqs aa D6)|_=>false
def PI.beq_eq:∀a b:PI,PI.beq a b=true->a=b:=by
 intro a b h;cases a<;>cases b<;>first
  |(cases h;done)
  |(simp only[PI.beq,ao] at h;first
       |rw[dH h.1,PE.beq_eq _ _ h.2]
       |rw[PE.beq_eq _ _ h]
       |rw[Fh _ _ h.1,dH h.2.1,dH h.2.2.1,PE.beqs_eq _ _ h.2.2.2]
       |rw[Fh _ _ h.1,dH h.2.1,PE.beq_eq _ _ h.2.2.1,PE.beqs_eq _ _ h.2.2.2]
       |rw[dH h.1,dH h.2.1,PE.beqs_eq _ _ h.2.2])
def PI.beqs:List PI->List PI->Bool
 |[],e=>match e with|[]=>true|_=>false
 |a::aa,e=>match e with|b::bs=>PI.beq a b&&PI.beqs aa bs|_=>false
def PI.beqs_eq:∀a b:List PI,PI.beqs a b=true->a=b
 |[],e,h=>by cases e<;>first|rfl|cases h
 |a::aa,e,h=>by
  cases e with
  |nil=>cases h
  |cons b bs=>simp only[PI.beqs,ao] at h;rw[PI.beq_eq _ _ h.1,PI.beqs_eq _ _ h.2]
structure Lk where
 r:Nat
 o:List Nat
def Lk.or (a b:Lk):Lk:=⟨Nat.lor a.r b.r,a.o++b.o⟩
def Lk.none:Lk:=⟨0,[]⟩
def mX:List (Nat×Bool)->Lk
 |[]=>.none
 |g::gs=>⟨Nat.lor (iv g.1) (mX gs).r,(mX gs).o⟩
mutual
def PE.lk:PE->Lk
 |.r t=>⟨iv t,[]⟩
 |.o j=>⟨0,[j]⟩
 |.con _=>.none
 |.cell e _|.sub e _ _|.nt e|.conv _ e|.llen e|.bytes e|.slen e|.mlen e|.ref e|.deref e|.tget e _=>PE.lk e
 |.setc x _ y|.ai _ _ x y|.ci _ x y|.cb _ x y|.cs _ x y|.sadd x y|.nth x y|.idx x y|.sidx x y|.sok x y|.app x y|.rep x y|.has x y|.mn x y|.mx x y|.an x y=>(PE.lk x).or (PE.lk y)
 |.mk es|.lst es|.tup es|.clo _ es=>PE.lks es
 |.pick x y z|.slc x y z|.slok x y z|.look x y z|.put x y z|.setn x y _ z=>(PE.lk x).or ((PE.lk y).or (PE.lk z))
 |.imp c x=>(mX c).or (PE.lk x)
def PE.lks:List PE->Lk
 |[]=>.none
 |e::es=>(PE.lk e).or (PE.lks es)
end
structure Alike (k:Lk) (O O':Env):Prop where
 r:∀t,aR k.r t=true->O'.r t=O.r t
 o:∀j,j∈k.o->O'.o j=O.o j
def Alike.left {a b:Lk}{O O':Env}(h:Alike (a.or b) O O'):Alike a O O':=
 ⟨λt ht=>h.r t (by simp only[Lk.or,gR,ht,DN]),λj hj=>h.o j (iT _ hj)⟩
def Alike.right {a b:Lk}{O O':Env}(h:Alike (a.or b) O O'):Alike b O O':=
 ⟨λt ht=>h.r t (by simp only[Lk.or,gR,ht,uj]),λj hj=>h.o j (jG _ hj)⟩
def Ch {O O':Env}:∀{c:List (Nat×Bool)},Alike (mX c) O O'->holds c O'=holds c O
 |[],_=>rfl
 |g::gs,h=>by
  have ih:=Ch (O:=O) (O':=O') (c:=gs) ⟨λt ht=>h.r t (by simp only[mX,gR,ht,uj]),λj hj=>h.o j hj⟩;have h1:=h.r g.1 (by simp only[mX,gR,sQ,DN]);unfold holds at ih ⊢;simp only[sJ];rw[ih,h1]
mutual
def PE.ev_alike {O O':Env}:∀(e:PE),Alike e.lk O O'->e.ev O'=e.ev O
 |.r t,h=>h.r t (sQ t)
 |.o j,h=>h.o j (by simp[PE.lk])
 |.con _,h=>rfl
 |.cell e _,h=>by simp only[PE.ev,PE.ev_alike e h]
 |.sub e _ _,h=>by simp only[PE.ev,PE.ev_alike e h]
 |.nt e,h=>by simp only[PE.ev,PE.ev_alike e h]
 |.conv _ e,h=>by simp only[PE.ev,PE.ev_alike e h]
 |.llen e,h=>by simp only[PE.ev,PE.ev_alike e h]
 |.bytes e,h=>by simp only[PE.ev,PE.ev_alike e h]
 |.slen e,h=>by simp only[PE.ev,PE.ev_alike e h]
 |.mlen e,h=>by simp only[PE.ev,PE.ev_alike e h]
 |.ref e,h=>by simp only[PE.ev,PE.ev_alike e h]
 |.deref e,h=>by simp only[PE.ev,PE.ev_alike e h]
 |.tget e _,h=>by simp only[PE.ev,PE.ev_alike e h]
 |.setc x _ y,h=>by simp only[PE.ev,PE.ev_alike x h.left,PE.ev_alike y h.right]
 |.ai _ _ x y,h=>by simp only[PE.ev,PE.ev_alike x h.left,PE.ev_alike y h.right]
 |.ci _ x y,h=>by simp only[PE.ev,PE.ev_alike x h.left,PE.ev_alike y h.right]
 |.cb _ x y,h=>by simp only[PE.ev,PE.ev_alike x h.left,PE.ev_alike y h.right]
 |.cs _ x y,h=>by simp only[PE.ev,PE.ev_alike x h.left,PE.ev_alike y h.right]
 |.sadd x y,h=>by simp only[PE.ev,PE.ev_alike x h.left,PE.ev_alike y h.right]
 |.nth x y,h=>by simp only[PE.ev,PE.ev_alike x h.left,PE.ev_alike y h.right]
 |.idx x y,h=>by simp only[PE.ev,PE.ev_alike x h.left,PE.ev_alike y h.right]
 |.sidx x y,h=>by simp only[PE.ev,PE.ev_alike x h.left,PE.ev_alike y h.right]
 |.sok x y,h=>by simp only[PE.ev,PE.ev_alike x h.left,PE.ev_alike y h.right]
 |.app x y,h=>by simp only[PE.ev,PE.ev_alike x h.left,PE.ev_alike y h.right]
 |.rep x y,h=>by simp only[PE.ev,PE.ev_alike x h.left,PE.ev_alike y h.right]
 |.has x y,h=>by simp only[PE.ev,PE.ev_alike x h.left,PE.ev_alike y h.right]
 |.mn x y,h=>by simp only[PE.ev,PE.ev_alike x h.left,PE.ev_alike y h.right]
 |.mx x y,h=>by simp only[PE.ev,PE.ev_alike x h.left,PE.ev_alike y h.right]
 |.an x y,h=>by simp only[PE.ev,PE.ev_alike x h.left,PE.ev_alike y h.right]
 |.mk es,h=>by simp only[PE.ev,PE.evc_alike es h]
 |.lst es,h=>by simp only[PE.ev,PE.evs_alike es h]
 |.tup es,h=>by simp only[PE.ev,PE.evs_alike es h]
 |.clo _ es,h=>by simp only[PE.ev,PE.evs_alike es h]
 |.pick x y z,h=>by simp only[PE.ev,PE.ev_alike x h.left,PE.ev_alike y h.right.left,PE.ev_alike z h.right.right]
 |.slc x y z,h=>by simp only[PE.ev,PE.ev_alike x h.left,PE.ev_alike y h.right.left,PE.ev_alike z h.right.right]
 |.slok x y z,h=>by simp only[PE.ev,PE.ev_alike x h.left,PE.ev_alike y h.right.left,PE.ev_alike z h.right.right]
 |.look x y z,h=>by simp only[PE.ev,PE.ev_alike x h.left,PE.ev_alike y h.right.left,PE.ev_alike z h.right.right]
 |.put x y z,h=>by simp only[PE.ev,PE.ev_alike x h.left,PE.ev_alike y h.right.left,PE.ev_alike z h.right.right]
 |.setn x y _ z,h=>by simp only[PE.ev,PE.ev_alike x h.left,PE.ev_alike y h.right.left,PE.ev_alike z h.right.right]
 |.imp c x,h=>by simp only[PE.ev,Ch h.left,PE.ev_alike x h.right]
def PE.evs_alike {O O':Env}:∀(es:List PE),Alike (PE.lks es) O O'->PE.evs O' es=PE.evs O es
 |[],h=>rfl
 |e::es,h=>by simp only[PE.evs,PE.ev_alike e h.left,PE.evs_alike es h.right]
def PE.evc_alike {O O':Env}:∀(es:List PE),Alike (PE.lks es) O O'->PE.evc O' es=PE.evc O es
 |[],h=>rfl
 |e::es,h=>by simp only[PE.evc,PE.ev_alike e h.left,PE.evc_alike es h.right]
end
def PI.lk:PI->Lk
 |.setR _ e|.setO _ e|.chk e=>e.lk
 |.call gs _ _ aa=>(mX gs).or (PE.lks aa)
 |.callc gs _ e aa=>(mX gs).or (e.lk.or (PE.lks aa))
 |.mcall _ _ aa=>PE.lks aa
inductive Eff where
 |skip
 |r (t:Nat) (d:D)
 |o (j:Nat) (d:D)
def Eff.app (O:Env):Eff->Env
 |.skip=>O
 |.r t d=>O.setR t d
 |.o j d=>O.setO j d
def PI.eff (Z:aS)(O:Env):PI->Option Eff
 |.setR t e=>some (.r t (e.ev O))
 |.setO j e=>some (.o j (e.ev O))
 |.chk e=>bif (e.ev O).b then some .skip else none
 |.call gs dst f args=>bif holds gs O then(Z f (PE.evs O args)).map (.r dst) else some .skip
 |.callc gs dst e args=>bif holds gs O then(match e.ev O with|.clo f caps=>(Z f (PE.evs O args++caps)).map (.r dst)|_=>none) else some .skip
 |.mcall j f args=>(Z f (PE.evs O args)).map (.o j)
def PI.run_eff (Z:aS)(O:Env)(p:PI):p.run Z O=(p.eff Z O).map (Eff.app O):=by
 cases p with
 |setR t e=>rfl
 |setO t e=>rfl
 |chk e=>simp only[PI.run,PI.eff];cases(e.ev O).b<;>rfl
 |call gs d f aa=>
  simp only[PI.run,PI.eff];cases holds gs O
  .rfl
  .simp only[zyy,aaL];rfl
 |callc gs d e aa=>
  simp only[PI.run,PI.eff];cases holds gs O
  .rfl
  .simp only[zyy];cases e.ev O<;>first|rfl|(simp only[aaL];rfl)
 |mcall j f aa=>simp only[PI.run,PI.eff,aaL];rfl
def PI.eff_alike {Z:aS}{O O':Env}(p:PI)(h:Alike p.lk O O'):p.eff Z O'=p.eff Z O:=by
 cases p with
 |setR t e=>simp only[PI.eff,PE.ev_alike e h]
 |setO t e=>simp only[PI.eff,PE.ev_alike e h]
 |chk e=>simp only[PI.eff,PE.ev_alike e h]
 |call gs d f aa=>simp only[PI.eff,Ch h.left,PE.evs_alike aa h.right]
 |callc gs d e aa=>simp only[PI.eff,Ch h.left,PE.ev_alike e h.right.left,PE.evs_alike aa h.right.right]
 |mcall j f aa=>simp only[PI.eff,PE.evs_alike aa h]
def PI.wo:PI->List Nat
 |.setO j _|.mcall j _ _=>[j]
 |_=>[]
def Eff.within (m:Nat)(l:List Nat):Eff->Prop
 |.skip=>True
 |.r t _=>aR m t=true
 |.o j _=>j∈l
def PI.eff_within {Z:aS}{O:Env}{p:PI}{x:Eff}(h:p.eff Z O=some x):x.within p.mask p.wo:=by
 cases p with
 |setR t e=>simp only[PI.eff,aZ] at h;subst h;exact sQ t
 |setO t e=>simp only[PI.eff,aZ] at h;subst h;simp[Eff.within,PI.wo]
 |chk e=>simp only[PI.eff] at h;cases hb:(e.ev O).b<;>rw[hb] at h<;>cases h;trivial
 |call gs d f aa=>
  simp only[PI.eff] at h;cases hb:holds gs O<;>simp only[hb,zyy,zyx,aZ,aB] at h
  .subst h;trivial
  .obtain⟨d,_,rfl⟩:=h;exact sQ _
 |callc gs d e aa=>
  simp only[PI.eff] at h;cases hb:holds gs O<;>simp only[hb,zyy,zyx,aZ] at h
  .subst h;trivial
  .split at h
   .simp only[aB] at h;obtain⟨d,_,rfl⟩:=h;exact sQ _
   .cases h
 |mcall j f aa=>simp only[PI.eff,aB] at h;obtain⟨d,_,rfl⟩:=h;simp[Eff.within,PI.wo]
def Jk (a b:List Nat):Bool:=a.all λx=> !fK b x
structure Foot where
 wr:Nat
 wo:List Nat
 k:Lk
def iY:List PI->Foot
 |[]=>⟨0,[],.none⟩
 |p::l=>⟨Nat.lor p.mask (iY l).wr,p.wo++(iY l).wo,p.lk.or (iY l).k⟩
def Foot.comm (a b:Foot):Bool:=
 Nat.beq (Nat.land a.wr b.wr) 0&&(Nat.beq (Nat.land a.wr b.k.r) 0&&(Nat.beq (Nat.land b.wr a.k.r) 0&&
    (Jk a.wo b.wo&&(Jk a.wo b.k.o&&Jk b.wo a.k.o))))
def TC {a b t:Nat}(h:Nat.beq (Nat.land a b) 0=true)(ha:aR a t=true)(hb:aR b t=true):False:=by
 have h1:=dH h;have h2:(a&&& b).testBit t=true:=by rw[Nat.testBit_and,<-yd,<-yd,ha,hb];rfl
 have h3:(a&&& b)=0:=h1;rw[h3] at h2;simp at h2
def PK {a b:List Nat}(h:Jk a b=true){x:Nat}(ha:x∈a)(hb:x∈b):False:=by
 have:=cN.1 h x ha;rw[(rW b x).2 hb] at this;cases this
structure Comm (p q:PI):Prop where
 ww:∀t,aR p.mask t=true->aR q.mask t=true->False
 wr:∀t,aR p.mask t=true->aR q.lk.r t=true->False
 rw:∀t,aR q.mask t=true->aR p.lk.r t=true->False
 oww:∀t,t∈p.wo->t∈q.wo->False
 owr:∀t,t∈p.wo->t∈q.lk.o->False
 orw:∀t,t∈q.wo->t∈p.lk.o->False
def Eff.alike {x:Eff}{m:Nat}{l:List Nat}{k:Lk}{O:Env}(h:x.within m l)(h1:∀t,aR m t=true->aR k.r t=true->False)(h2:∀t,t∈l->t∈k.o->False):Alike k O (x.app O):=by
 cases x with
 |skip=>exact⟨λ_ _=>rfl,λ_ _=>rfl⟩
 |r t d=>exact⟨λu hu=>bB _ _ (λe=>h1 t h (e▸hu)),λ_ _=>rfl⟩
 |o t d=>exact⟨λ_ _=>rfl,λu hu=>bB _ _ (λe=>h2 t h (e▸hu))⟩
def ajK {α:Type}(f:Nat->α){i j:Nat}(x y:α)(h:i≠j):bW (bW f i x) j y=bW (bW f j y) i x:=by
 funext t;simp only[fp];by_cases h1:t=i
 .subst h1;simp[h]
 .simp[h1]
def Eff.comm {x y:Eff}{m m':Nat}{l l':List Nat}{O:Env}(hx:x.within m l)(hy:y.within m' l')(h1:∀t,aR m t=true->aR m' t=true->False)(h2:∀t,t∈l->t∈l'->False):
 y.app (x.app O)=x.app (y.app O):=by
 cases x with
 |skip=>rfl
 |r t d=>
  cases y with
  |skip=>rfl
  |r u e=>
   have au:t≠u:=λe=>h1 t hx (by subst e;exact hy);show Env.setR (Env.setR O t d) u e=Env.setR (Env.setR O u e) t d;simp only[Env.setR];rw[ajK _ _ _ au]
  |o u e=>rfl
 |o t d=>
  cases y with
  |skip=>rfl
  |r u e=>rfl
  |o u e=>
   have au:t≠u:=λe=>h2 t hx (by subst e;exact hy);show Env.setO (Env.setO O t d) u e=Env.setO (Env.setO O u e) t d;simp only[Env.setO];rw[ajK _ _ _ au]
def PI.comm {Z:aS}{p q:PI}(h:Comm p q)(O:Env):(p.run Z O).bind (q.run Z)=(q.run Z O).bind (p.run Z):=by
 simp only[PI.run_eff];cases hp:p.eff Z O with
 |none=>
  cases hq:q.eff Z O with
  |none=>rfl
  |some y=>
   have:=PI.eff_alike (Z:=Z) p (Eff.alike (O:=O) (PI.eff_within hq) h.rw h.orw);simp[PI.run_eff,this,hp]
 |some x=>
  have hx:=PI.eff_within hp;have e1:=PI.eff_alike (Z:=Z) q (Eff.alike (O:=O) hx h.wr h.owr);cases hq:q.eff Z O with
  |none=>simp[PI.run_eff,e1,hq]
  |some y=>
   have hy:=PI.eff_within hq;have e2:=PI.eff_alike (Z:=Z) p (Eff.alike (O:=O) hy h.rw h.orw);simp only[kj,pE,PI.run_eff,e1,e2,hp,hq];rw[Eff.comm hx hy h.ww h.oww]
def PI.comm1 {Z:aS}{p:PI}:∀(l:List PI),(∀q,q∈l->Comm p q)->∀O,(p.run Z O).bind (PI.runs Z l)=(PI.runs Z l O).bind (p.run Z)
 |[],_,O=>by simp only[PI.runs];cases h:p.run Z O<;>simp[h]
 |q::l,h,O=>by
  have ih:=PI.comm1 (Z:=Z) l λq hq=>h q (fq _ hq);have hc:=PI.comm (Z:=Z) (h q (fR ..)) O;simp only[PI.runs];have e1:((p.run Z O).bind λρ1=>(q.run Z ρ1).bind (PI.runs Z l))=((p.run Z O).bind (q.run Z)).bind (PI.runs Z l):=by cases p.run Z O<;>rfl
  show((p.run Z O).bind λρ1=>(q.run Z ρ1).bind (PI.runs Z l))=_;rw[e1,hc];cases q.run Z O with
  |none=>rfl
  |some ρ1=>simp only[pE];exact ih ρ1
def PI.comms {Z:aS}:∀(a b:List PI),(∀p q,p∈a->q∈b->Comm p q)->∀O,PI.runs Z (a++b) O=PI.runs Z (b++a) O
 |[],b,_,O=>by simp
 |p::a,b,h,O=>by
  have ih:=PI.comms (Z:=Z) a b λp q hp hq=>h p q (fq _ hp) hq;have h1:=PI.comm1 (Z:=Z) b (λq hq=>h p q (fR ..) hq);simp only[IZ,PI.runs,tX];have e1:((p.run Z O).bind (PI.runs Z (a++b)))=(p.run Z O).bind (PI.runs Z (b++a)):=by
   cases p.run Z O with
   |none=>rfl
   |some ρ1=>exact ih ρ1
  rw[e1];have e2:PI.runs Z (b++a)=λO=>(PI.runs Z b O).bind (PI.runs Z a):=funext λO=>tX;rw[e2];have e3:((p.run Z O).bind λO=>(PI.runs Z b O).bind (PI.runs Z a))=((p.run Z O).bind (PI.runs Z b)).bind (PI.runs Z a):=by cases p.run Z O<;>rfl
  rw[e3,h1 O];cases PI.runs Z b O with
  |none=>rfl
  |some ρ1=>rfl
def acs {l:List PI}{p:PI}(h:p∈l):(∀t,aR p.mask t=true->aR (iY l).wr t=true)/\(∀t,t∈p.wo->t∈(iY l).wo)/\(∀t,aR p.lk.r t=true->aR (iY l).k.r t=true)/\∀t,t∈p.lk.o->t∈(iY l).k.o:=by
 induction l with
 |nil=>cases h
 |cons q l ih=>
  rcases cB.1 h with e|h
  .subst e;refine⟨λt ht=>?_,λt ht=>iT _ ht,λt ht=>?_,λt ht=>iT _ ht⟩
   .simp only[iY,gR,ht,DN]
   .simp only[iY,Lk.or,gR,ht,DN]
  .obtain⟨h1,h2,h3,h4⟩:=ih h;refine⟨λt ht=>?_,λt ht=>jG _ (h2 t ht),λt ht=>?_,λt ht=>jG _ (h4 t ht)⟩
   .simp only[iY,gR,h1 t ht,uj]
   .simp only[iY,Lk.or,gR,h3 t ht,uj]
def jL (S:St)(dst:Nat)(S':St):Prop:=∀t,t≠dst->S'.r t=S.r t
section
variable {C:Ctx} {S:St} {gs:List (Nat×Bool)} {dst:Nat} {r:St×List PI}
def iN {X:St}{s:Sh}(h:X.r=S.r):jL S dst (X.setR dst s):=λt ht=>by simp only[St.setR,bB _ _ ht,h]
def ao9 (S:St)(j:Nat):(S.fz j).r=S.r:=(Ld S j).2
def ang {T:TypeId}{x:Operand}(h:EX C S dst T x=some r):jL S dst r.1:=by
 unfold EX at h;split at h
 .simp only[aB] at h;obtain⟨e,_,rfl⟩:=h;exact iN rfl
 .cases h
def anm {T:TypeId}{x:Operand}(h:vL C S dst T x=some r):jL S dst r.1:=by
 unfold vL at h;split at h
 .rename_i v;simp only[az] at h;obtain⟨e,_,z,_,h⟩:=h;cases hc:kf e v<;>simp only[hc,zyy,zyx] at h<;>cases h;exact iN rfl
 .cases h
def amN {T:TypeId}(h:EL C S dst T=some r):jL S dst r.1:=by
 unfold EL at h;split at h
 .rename_i t inf ag _ _ _;cases hc:(vq inf t&&(t.rowT||t.one))<;>simp only[hc,zyy,zyx] at h
  .cases h
  .simp only[aB] at h;obtain⟨e,_,rfl⟩:=h;exact iN rfl
 .cases h
def amR {T:TypeId}{x:Operand}(h:EN C S dst T x=some r):jL S dst r.1:=by
 unfold EN at h;split at h
 .rename_i t e ag _ _;cases hc:(t.rowT||t.one)<;>simp only[hc,zyy,zyx] at h<;>cases h;exact iN rfl
 .split at h
  .cases h;exact iN rfl
  .cases h
 .cases h
def am9 {T:TypeId}{x:Option Operand}(h:ET C S dst T x=some r):jL S dst r.1:=by
 unfold ET at h;split at h
 .simp only[az,aB] at h;obtain⟨e,_,z,_,rfl⟩:=h;exact iN rfl
 .cases h
def ani {T:TypeId}{x:Operand}(h:EY C S dst T x=some r):jL S dst r.1:=by
 unfold EY at h;split at h
 case h_2=>cases h
 rename_i K E j ver hT es;cases hb:(Nat.beq ver (S.ver j)&& !Nat.beq j dst)<;>simp only[hb,zyy,zyx] at h
 .cases h
 split at h
 .cases h;exact iN rfl
 .cases h
def amV {T U:TypeId}{x:Operand}(h:EO C S dst T U x=some r):jL S dst r.1:=by
 unfold EO at h;split at h
 .split at h
  .cases h;exact iN rfl
  .cases h
 .cases h
def anb {T:TypeId}{x y:Operand}(h:EV C S dst T x y=some r):jL S dst r.1:=by
 unfold EV at h;split at h
 .rename_i E _ n _ m _ _ _;simp only[az] at h;obtain⟨e,_,h⟩:=h;cases hc:sU C.P E e<;>simp only[hc,zyy,zyx] at h
  .cases h
  .simp only[az] at h;obtain⟨z,_,h⟩:=h;cases hc2:Ty.sub z.1 e<;>simp only[hc2,zyy,zyx] at h<;>cases h;exact iN rfl
 .cases h
def amT {T:TypeId}{n:Nat}{ps:List (Nat×Operand)}(h:yp C S gs dst T n ps=some r):jL S dst r.1:=by
 unfold yp at h;split at h
 .simp only[az] at h;obtain⟨e,_,z,_,h⟩:=h
  revert h
  generalize (_&&_:Bool)=b;intro h;cases b<;>simp only[zyy,zyx] at h
  .cases h
  .simp only[aB] at h;obtain⟨es,_,rfl⟩:=h;exact iN rfl
 .cases h
def am7 {T:TypeId}{n:Nat}{ps:List (Nat×Operand)}(h:BI C S gs dst T n ps=some r):jL S dst r.1:=by
 unfold BI at h;split at h
 .simp only[az] at h;obtain⟨e,_,h⟩:=h;split at h
  .cases h;exact iN rfl
  .cases h
 .cases h
def amP {T:TypeId}{x y:Operand}(h:EM C S dst T x y=some r):jL S dst r.1:=by
 unfold EM at h;split at h
 .rename_i E _;simp only[az] at h;obtain⟨e,_,h⟩:=h;split at h
  .rename_i tx ex _;cases hc:(sU C.P E e&&OE tx e)<;>simp only[hc,zyy,zyx] at h
   .cases h
   .split at h
    .cases h;exact iN rfl
    .cases h
    .split at h
     .rename_i j ver _;cases hc:Nat.beq ver (S.ver j)<;>simp only[hc,zyy,zyx] at h
      .cases h
      .split at h
       .rename_i E' e' _;cases hc:(Nat.beq E' E&&Ty.beq e' e)<;>simp only[hc,zyy,zyx] at h<;>cases h;exact iN rfl
       .cases h
     .cases h
  .cases h
 .cases h
def am1 {f:Nat}{xs:List Operand}(h:ER C S dst f xs=some r):jL S dst r.1:=by
 simp only[ER,az] at h;obtain⟨s,_,h⟩:=h;split at h
 .rename_i T e _;simp only[az] at h;obtain⟨u,_,h⟩:=h;cases hc:Ty.subs u.1 s.args<;>simp only[hc,zyy,zyx] at h<;>cases h;refine iN (X:=(bif e.pure then S else S.fzs (dq S [] xs)).newO dst (.row T e)) ?_;cases e.pure
  .exact(rC _ S).2
  .rfl
 .cases h
def am5 {f:Nat}{xs:List Operand}{q:St×Sh×List PI}(h:BG C S gs dst f xs=some q):q.1.r=S.r:=by
 simp only[BG,az] at h;obtain⟨s,_,h⟩:=h;split at h
 .simp only[az] at h;obtain⟨u,_,h⟩:=h;cases hc:Ty.subs u.1 s.args<;>simp only[hc,zyy,zyx] at h<;>cases h;cases s.res.pure
  .exact(rC _ S).2
  .rfl
 .cases h
def amX {x:Operand}{xs:List Operand}{q:St×Sh×List PI}(h:yq C S gs dst x xs=some q):q.1.r=S.r:=by
 unfold yq at h;split at h
 .rename_i aa r0 _ _;split at h
  case h_1=>cases h
  simp only[az] at h;obtain⟨u,_,h⟩:=h;cases hc:Ty.subs u.1 aa<;>simp only[hc,zyy,zyx] at h<;>cases h;cases r0.pure
  .exact(rC _ S).2
  .rfl
 .cases h
def ank {T:TypeId}{x v:Operand}(h:EZ C S T x v=some r):r.1.r=S.r:=by
 unfold EZ at h;split at h
 case h_2=>cases h
 rename_i inf _;split at h
 .rename_i j ver off _;cases hc:Nat.beq ver (S.ver j)<;>simp only[hc,zyy,zyx] at h
  .cases h
  split at h
  case h_2=>cases h
  rename_i ag shs _;split at h
  .revert h
   generalize (_&&_:Bool)=b;intro h;cases b<;>simp only[zyy,zyx] at h<;>cases h;rfl
  .split at h
   .revert h
    generalize (_&&_:Bool)=b;intro h;cases b<;>simp only[zyy,zyx] at h<;>cases h;rfl
   .revert h
    generalize (_&&_:Bool)=b;intro h;cases b<;>simp only[zyy,zyx] at h<;>cases h;rfl
   .cases h
 .rename_i j ver size off _;cases hc:Nat.beq ver (S.ver j)<;>simp only[hc,zyy,zyx] at h
  .cases h
  split at h
  .revert h
   generalize (_&&_:Bool)=b;intro h;cases b<;>simp only[zyy,zyx] at h<;>cases h;rfl
  .revert h
   generalize (_&&_:Bool)=b;intro h;cases b<;>simp only[zyy,zyx] at h<;>cases h;rfl
  .cases h
 .cases h
def abV {T:TypeId}{m k v:Operand}(h:BJ C S T m k v=some r):r.1.r=S.r:=by
 unfold BJ at h;split at h
 .rename_i K _ j ver _ _;cases hc:Nat.beq ver (S.ver j)<;>simp only[hc,zyy,zyx] at h
  .cases h
  split at h
  .revert h
   generalize (_&&_:Bool)=b;intro h;cases b<;>simp only[zyy,zyx] at h<;>cases h;rfl
  .cases h
 .cases h
def am3 {f:Nat}{xs:List Operand}(h:ES C S dst f xs=some r):jL S dst r.1:=by
 simp only[ES,az] at h;obtain⟨s,_,h⟩:=h;split at h
 case h_2=>cases h
 simp only[az] at h;obtain⟨u,_,h⟩:=h
 revert h
 generalize (_&&_:Bool)=b;intro h;cases b<;>simp only[zyy,zyx] at h
 .cases h
 cases h;refine iN (X:=St.newRows _ _ _) ?_;exact(rC _ S).2
def amZ {f:Nat}{xs:List Operand}(h:EP C S dst f xs=some r):jL S dst r.1:=by
 simp only[EP,az] at h;obtain⟨s,_,h⟩:=h;split at h
 case h_2=>cases h
 split at h
 case h_2=>cases h
 split at h
 case h_2=>cases h
 revert h
 generalize (_&&_:Bool)=b;intro h;cases b<;>simp only[zyy,zyx] at h
 .cases h
 simp only[az] at h;obtain⟨u,_,h⟩:=h
 revert h
 generalize Ty.subs _ _=b;intro h;cases b<;>simp only[zyy,zyx] at h
 .cases h
 cases h;exact iN rfl
def Q5 {f:Nat}{xs:List Operand}{cs:List (Nat×Nat)}{q:St×Ty×List PI}(h:sT C S f xs cs=some q):q.1.r=S.r:=by
 simp only[sT,az] at h;obtain⟨s,_,h⟩:=h;split at h
 .rename_i shs obs _;unfold Q4 Q3 at h;simp only[az] at h;obtain⟨u,_,h⟩:=h
  revert h
  generalize (_&&_:Bool)=b;intro h;cases b<;>simp only[zyy,zyx] at h<;>cases h;exact(rC _ S).2
 .cases h
def abR {t:Nat}{xs:List Operand}{q:St×Ty×List PI}(h:BH C S t xs=some q):q.1.r=S.r:=by
 unfold BH at h;split at h
 .rename_i f caps _;cases hc:AF S caps<;>simp only[hc,zyy,zyx] at h
  .cases h
  .exact Q5 h
 .cases h
def afK {dst:Nat}{q:St×Ty×List PI}(h:q.1.r=S.r):jL S dst (rZ S (some dst) q).1:=iN h
def ane {fn:Fn}{a b:Array Operand}(h:EW C S dst fn a b=some r):jL S dst r.1:=by
 unfold EW at h;split at h
 case h_2=>cases h
 split at h
 case h_2=>cases h
 rename_i s _;cases hb:rQ s.mode<;>simp only[hb,zyy,zyx] at h
 .cases h
 simp only[aB] at h;obtain⟨c,_,rfl⟩:=h;exact iN rfl
def amn {o:Oper}(hr:core C S gs o=some r):∀t,o.dst≠some t->r.1.r t=S.r t:=by
 unfold core at hr;split at hr
 .rename_i dst hd
  suffices h:jL S dst r.1 by
   intro t ht;exact h t (λe=>ht (by rw[hd,e]))
  split at hr
  .rename_i q hq;cases fH:MJ q.1<;>simp only[fH,zyy,zyx] at hr<;>cases hr;exact iN rfl
  .split at hr
   .rename_i x e _
    have mv:∀r,(match zt C S [] dst x with|some r=>some (S.setR dst r.1,r.2)|none=>vL C S dst o.type x)=some r->jL S dst r.1:=by
     intro r hr;split at hr
     .cases hr;exact iN rfl
     .exact anm hr
    cases dS:C.fr.any (Nat.beq dst)<;>simp only[dS,zyy,zyx] at hr
    .split at hr
     .rename_i q hq;cases hr;exact ang hq
     .exact mv r hr
    .exact mv r hr
   .exact amN hr
   .exact amR hr
   .split at hr
    .exact amT hr
    .exact am7 hr
   .exact anb hr
   .exact am9 hr
   .exact ani hr
   .exact amV hr
   .rename_i c e;split at hr
    .split at hr
     .rename_i s x T T' _ _;cases hT:Nat.beq T T'<;>simp only[hT,zyy,zyx] at hr
      .cases hr
      .exact amP hr
     .cases hr
    .split at hr
     .rename_i q hq;cases hr;exact iN (am5 hq)
     .split at hr
      .split at hr
       .rename_i q hq;cases hr;exact am1 hq
       .split at hr
        .rename_i q hq;cases hr;exact am3 hq
        split at hr
        .rename_i q hq;cases hr;exact amZ hq
        .simp only[aB] at hr;obtain⟨q,hq,rfl⟩:=hr;exact afK (Q5 hq)
      .cases hr
    .split at hr
     .rename_i q hq;cases hr;exact iN (amX hq)
     .split at hr
      .simp only[aB] at hr;obtain⟨q,hq,rfl⟩:=hr;exact afK (abR hq)
      .cases hr
    .cases hr
   .exact ane hr
   .cases hr
 .split at hr
  .intro t _;rw[ank hr]
  .intro t _;rw[abV hr]
  .intro t _;rw[abV hr]
  .cases hr;intro t _;rfl
  .intro t _;split at hr
   .simp only[aB] at hr;obtain⟨q,hq,rfl⟩:=hr;simp only[rZ,Q5 hq]
   .simp only[aB] at hr;obtain⟨q,hq,rfl⟩:=hr;simp only[rZ,abR hq]
   .cases hr
  .cases hr
def apb {g:Gh}(hr:g.run C S=some r):∀t,(∀u j,g=.rereg u j->t≠u)->r.1.r t=S.r t:=by
 intro t ht;cases g with
 |fz j=>simp only[Gh.run,aZ] at hr;subst hr;rw[ao9]
 |fbox b=>
  simp only[Gh.run,Fe] at hr;split at hr
  case h_2=>cases hr
  rename_i ag shs _;simp only[az] at hr;obtain⟨x,_,hr⟩:=hr;cases ag<;>simp only[zyy,zyx] at hr
  .split at hr
   .cases hr;rfl
   .cases hr
  .cases hr;rfl
 |rereg u j=>
  simp only[Gh.run,Io] at hr;split at hr
  .revert hr
   generalize (_&&_:Bool)=b;intro hr;cases b<;>simp only[zyy,zyx] at hr<;>cases hr
   .rfl
   .simp only[St.setR,bB _ _ (ht u j rfl)];rfl
  .cases hr;rfl
 |recell b i j=>
  simp only[Gh.run,Il] at hr;split at hr
  .split at hr
   .revert hr
    generalize (_&&_:Bool)=b;intro hr;cases b<;>simp only[zyy,zyx] at hr<;>cases hr<;>rfl
   .cases hr;rfl
  .cases hr;rfl
 |home b i j T=>
  simp only[Gh.run,F1] at hr;split at hr
  .split at hr
   .revert hr
    generalize (!_:Bool)=b;intro hr;cases b<;>simp only[zyy,zyx] at hr<;>cases hr<;>rfl
   .cases hr;rfl
  .cases hr;rfl
def Rv:∀(l:List Gh) {S:St} {r:St×List PI},oD C l S=some r->∀t,(∀g u j,g∈l->g=.rereg u j->t≠u)->r.1.r t=S.r t
 |[],S,r,hr,t,_=>by simp only[oD,aZ] at hr;subst hr;rfl
 |g::l,S,r,hr,t,ht=>by
  simp only[oD,az,aB] at hr;obtain⟨q,hq,q2,gY,rfl⟩:=hr;have h1:=Rv l gY t (λg u j hg=>ht g u j (fq _ hg));have h2:=apb hq t (λu j e=>ht g u j (fR ..) e);exact h1.trans h2
def avy (S:St)(gs:List (Nat×Bool))(o:Oper):∀g u j,g∈pre C S gs o.op++Vd C S gs o->g≠.rereg u j:=by
 intro g u j hg e;subst e;rw[dC] at hg;rcases hg with hg|hg
 .unfold pre at hg;split at hg
  .rename_i fn _ _ _;cases ho:afJ C fn<;>simp only[ho,zyy,zyx] at hg
   case true=>cases hg
   obtain⟨b,_,hb⟩:=xQ.1 hg;rw[dC] at hb;rcases hb with hb|hb
   .split at hb
    .obtain⟨_,_,h⟩:=cr.1 hb;cases h
    .cases hb
   .simp at hb
  .split at hg
   .replace hg:=auq hg
    split at hg
    .obtain⟨_,_,h⟩:=cr.1 hg;cases h
    .cases hg
   .cases hg
  .obtain⟨_,_,h⟩:=cr.1 hg;cases h
  .obtain⟨_,_,h⟩:=cr.1 hg;cases h
 .unfold Vd at hg;split at hg
  .rename_i x t _ _;cases hc:C.fr.any (Nat.beq t)<;>simp only[hc,zyy,zyx] at hg
   .cases hg
   .obtain⟨_,_,h⟩:=cr.1 hg;cases h
  .cases hg
def avx (S:St)(o:Oper):∀g u j,g∈post C S o->g=.rereg u j->o.dst=some u:=by
 intro g u j hg e;subst e;unfold post at hg;split at hg
 .rename_i t _ hd;simp at hg;rw[hd,hg.1]
 .unfold Mn homes at hg;have:=(eR.1 hg).1;obtain⟨x,_,hx⟩:=Ar.1 this;cases kT:x.1<;>rw[kT] at hx<;>simp at hx
 .split at hg
  .rw[dC] at hg;rcases hg with hg|hg
   .unfold Mn homes at hg;have:=(eR.1 hg).1;obtain⟨x,_,hx⟩:=Ar.1 this;cases kT:x.1<;>rw[kT] at hx<;>simp at hx
   .unfold aiU at hg;obtain⟨_,_,h⟩:=cr.1 hg;cases h
  .cases hg
 .cases hg
def amd {ops:Array Oper}{o:Oper}(hr:EG C S ops o=some r):∀t,o.dst≠some t->r.1.r t=S.r t:=by
 intro t ht;unfold EG at hr;split at hr
 .rename_i q hq;cases hr;simp only[KW,az] at hq;obtain⟨gs,_,r1,h1,r2,h2,r3,h3,hq⟩:=hq
  revert hq
  generalize Lh gs o.dst r2.2=b;intro hq;cases b<;>simp only[zyy,zyx] at hq<;>cases hq;have e1:=Rv _ h1 t (λg u j hg e=>absurd e (avy S gs o g u j hg));have e2:=amn h2 t ht
  have e3:=Rv _ h3 t (λg u j hg e=>by
   have:=avx r2.1 o g u j hg e;intro e';subst e';exact ht this)
  exact e3.trans (e2.trans e1)
 .cases hr;split
  .rename_i d hd;simp only[St.setR];rw[bB];intro e;subst e;exact ht hd
  .rfl
def abz {ops:Array Oper}{o:Oper}(hr:yn C S ops o=some r):∀t,o.dst≠some t->r.1.r t=S.r t:=by
 intro t ht;unfold yn at hr;split at hr
 .rename_i q hq;cases hr;unfold KY at hq;split at hq
  case h_2=>cases hq
  rename_i dst _ args _ _ _ hd _ _;simp only[az] at hq;obtain⟨gs,_,hq⟩:=hq;split at hq
  case h_2=>cases hq
  split at hq
  case h_2=>cases hq
  simp only[az] at hq;obtain⟨u,_,hq⟩:=hq;rw[qN] at hq;split at hq<;>cases hq;simp only[St.setR];rw[bB,(rC _ S).2];intro e;subst e;exact ht hd
 .exact amd hr t ht
def abB {ops:Array Oper}:∀{l:List Nat} {S:St} {r:St×List PI},vJ C ops l S=some r->∀t,(∀i o,i∈l->ops[i]?=some o->o.dst≠some t)->r.1.r t=S.r t
 |[],S,r,h,t,_=>by simp only[vJ,aZ] at h;subst h;rfl
 |i::l,S,r,h,t,ht=>by
  simp only[vJ] at h;split at h
  .rename_i o ho;simp only[az,aB] at h;obtain⟨q,hq,q2,gY,rfl⟩:=h;exact(abB gY t λj o hj=>ht j o (fq _ hj)).trans (abz hq t (ht i o (fR ..) ho))
  .cases h
end
def lP (S:St):Sh->Sh
 |.opt gs s=>.opt gs (iM S s)
 |s=>iM S s
def St.snapO (n:Nat)(ids:List Nat)(S:St):Snap:=⟨(List.range n).map λt=>lP S (S.r t),ids.map λj=>j0 S (S.o j)⟩
def Snap.stO (ids:List Nat)(s:Snap):St:=⟨λt=>s.rs.getD t .none,λj=>dy ids s.os j,λ_=>0⟩
def tK (S:St)(s:Sh):∀gs s',iM S s≠.opt gs s':=by
 intro gs s' e;cases s<;>simp only[iM] at e<;>first|cases e|(revert e;cases Nat.beq _ _<;>intro e<;>cases e)|(revert e;cases List.all _ _<;>intro e<;>cases e)
section
variable {C:Ctx} {S:St} {O:Env} {V:Im} {own:Nat->Option Nat} {hv:Nat->Value} {w0:World} {σ0:Base} {A:Nat->Prop} {a:Act} {w:World} {n:Nat} {ids:List Nat} {Z:aS}
def auy {s:Sh}{v:Value}{d:D}(h:aG C S O V hv s v d){T:St}(hT:T.ver=λ_=>0):aG C T O V hv (lP S s) v d:=by
 have hc:Compat S.norm hv T hv:=⟨λj=>by rw[hT];exact jK _,λ_ _=>rfl⟩
 have key:∀s,aG C S O V hv s v d->aG C T O V hv (iM S s) v d:=λs hs=>aG.mono' (.refl V) hc (tK S s) (MI hs).1;cases s with
 |opt gs s=>exact⟨λhh=>key s (h.1 hh),h.2⟩
 |_=>exact key _ h
def Good.snapO (h:Good C w0 σ0 S O A a w)(n:Nat)(ids:List Nat):Good C w0 σ0 ((S.snapO n ids).stO ids) O A a w:=by
 obtain⟨V,own,hv,h⟩:=h;have h1:=h.norm;have hc:Compat S.norm hv ((S.snapO n ids).stO ids) hv:=⟨λ_=>aX _,λ_ _=>rfl⟩
 refine⟨V,own,hv,h.defers,h.ok,h.le,h.old,h.newc,h.newm,h.below,h.bw,h.owns,λt=>?_,λj=>?_,λt gs s e=>?_,?_⟩
 rotate_right
 .obtain⟨t,fx,cx,f1,f5⟩:=h.frame;refine⟨t,fx,cx,f1,λj hj=>f5 j ?_⟩;exact zh (λj=>j0 S (S.o j)) (λob=>ob=.tr->S.o j=.tr) (λe=>by cases e) j afC ids hj
 .show aG C _ O V hv (((List.range n).map λt=>lP S (S.r t)).getD t .none) _ _;rw[aE,bX];by_cases ht:t<n
  .rw[pz ht];exact auy (h.regs t) rfl
  .rw[kg (by simpa using ht)];trivial
 .have ho:=(h1.objs j).mono (.refl V) hc (w:=w) (w':=w) rfl rfl (λk hk=>⟨hk,rfl⟩);exact zh (λj=>j0 S (S.o j)) (λob=>bY C _ O V own hv w w0.heap.size j ob) trivial j ho ids
 .change ((List.range n).map λt=>lP S (S.r t)).getD t .none=.opt gs s at e;rw[aE,bX] at e;by_cases ht:t<n
  .rw[pz ht] at e;simp only[kj,kM] at e;cases hs:S.r t with
   |opt bM s'=>
    rw[hs] at e;simp only[lP,Sh.opt.injEq] at e;obtain⟨rfl,rfl⟩:=e;exact⟨(h.opts t bM s' hs).1,tK S s'⟩
   |none=>rw[hs] at e;exact absurd e (tK S .none gs s)
   |yv=>rw[hs] at e;exact absurd e (tK S .yv gs s)
   |fclo f c=>rw[hs] at e;exact absurd e (tK S (.fclo f c) gs s)
   |agg l=>rw[hs] at e;exact absurd e (tK S (.agg l) gs s)
   |dat t=>rw[hs] at e;exact absurd e (tK S (.dat t) gs s)
   |obj t u=>rw[hs] at e;exact absurd e (tK S (.obj t u) gs s)
   |ptr t u v=>rw[hs] at e;exact absurd e (tK S (.ptr t u v) gs s)
   |eptr t u v x=>rw[hs] at e;exact absurd e (tK S (.eptr t u v x) gs s)
  .rw[kg (by simpa using ht)] at e;cases e
def Good.snapF (h:Good C w0 σ0 S O A a w)(n:Nat)(ids:List Nat):Good C w0 σ0 ((S.snap n ids).st ids) O (λ_=>False) a w:=by
 obtain⟨V,own,hv,h⟩:=h;exact⟨V,own,hv,h.snap n ids⟩
def Good.drew (h:Good C w0 σ0 S O A a w):Good C w0 σ0 S O A a {w with drawn:=w.drawn+1}:=by
 obtain⟨V,own,hv,h⟩:=h;refine⟨V,own,hv,h.defers,⟨λk o v e=>h.ok.c k o v e,λk es e=>h.ok.m k es e,λk o n e=>h.ok.f k o n e⟩,h.le,h.old,h.newc,h.newm,h.below.drew,h.bw,h.owns,h.regs,λj=>?_,h.opts,?_⟩
 rotate_right
 .obtain⟨t,fx,cx,f1,f2⟩:=h.frame;exact⟨t,fx,cx,⟨σ0.keep _ _ _ _ _ f1.F (Below.drew (.refl _ _)) (λ_ _=>rfl),f1.own,f1.c,f1.m,f1.d⟩,f2⟩
 exact(h.objs j).mono (.refl V) (.refl S hv) rfl rfl (λk hk=>⟨hk,rfl⟩)
end
def Dw (g:Sh->Sh)(S:St)(rs:List Sh)(ds:List Nat):List Sh:=(ds.foldl (λl d=>l.set d (S.r d)) rs).map g
def acr (S:St):∀(ds:List Nat) (rs:List Sh),(ds.foldl (λl d=>l.set d (S.r d)) rs).length=rs.length/\∀t,t<rs.length->(ds.foldl (λl d=>l.set d (S.r d)) rs).getD t .none=if t∈ds then S.r t else rs.getD t .none
 |[],rs=>⟨rfl,λt _=>by simp⟩
 |d::ds,rs=>by
  obtain⟨h1,h2⟩:=acr S ds (rs.set d (S.r d));simp only[List.length_set] at h1 h2;refine⟨h1,λt ht=>?_⟩;rw[xM,h2 t ht];simp only[cB,aE,DU];by_cases hm:t∈ds
  .simp[hm]
  .by_cases e:d=t
   .subst e;simp[hm,ht]
   .have e':¬t=d:=λh=>e h.symm;simp[hm,e,e']
def OA {g:Sh->Sh}{S:St}{rs:List Sh}{ds:List Nat}(h:∀t,t∉ds->g (rs.getD t .none)=g (S.r t)):Dw g S rs ds=(List.range rs.length).map λt=>g (S.r t):=by
 obtain⟨h1,h2⟩:=acr S ds rs;unfold Dw;apply vx;intro t;simp only[bX];by_cases ht:t<rs.length
 .have:=h2 t ht;rw[aE,aU (by omega)] at this;rw[aU (by omega),pz ht];simp only[kM,kj] at this ⊢;rw[this];by_cases hm:t∈ds
  .simp[hm]
  .simp only[hm,if_false];rw[h t hm]
 .rw[kg (by omega),kg (by simpa using ht)];rfl
def Sh.hd {α:Type}(s:Sh)(k:Sh->α):α:=
 match s with
 |.none=>k .none
 |.dat t=>k (.dat t)
 |.obj j v=>k (.obj j v)
 |.ptr j v o=>k (.ptr j v o)
 |.eptr j v z o=>k (.eptr j v z o)
 |.opt gs s=>k (.opt gs s)
 |.yv=>k .yv
 |.fclo f c=>k (.fclo f c)
 |.agg l=>k (.agg l)
def Sh.hd_eq {α:Type}(s:Sh)(k:Sh->α):s.hd k=k s:=by cases s<;>rfl
def B0 {α:Type}:List Sh->(List Sh->α)->α
 |[],k=>k []
 |s::l,k=>s.hd λs=>B0 l λl=>k (s::l)
def RL {α:Type}:∀(l:List Sh) (k:List Sh->α),B0 l k=k l
 |[],_=>rfl
 |s::l,k=>by rw[B0,Sh.hd_eq,RL l]
def Ob.hd {α:Type}(s:Ob)(k:Ob->α):α:=
 match s with
 |.dead=>k .dead
 |.fz t=>k (.fz t)
 |.fbox t=>k (.fbox t)
 |.box true l=>B0 l λl=>k (.box true l)
 |.box false l=>B0 l λl=>k (.box false l)
 |.row T e=>k (.row T e)
 |.mp a b=>k (.mp a b)
 |.it a b=>k (.it a b)
 |.tr=>k .tr
def Ob.hd_eq {α:Type}(s:Ob)(k:Ob->α):s.hd k=k s:=by
 cases s with
 |box ag l=>cases ag<;>simp only[Ob.hd,RL]
 |_=>rfl
def Ly {α:Type}:List Ob->(List Ob->α)->α
 |[],k=>k []
 |s::l,k=>s.hd λs=>Ly l λl=>k (s::l)
def acS {α:Type}:∀(l:List Ob) (k:List Ob->α),Ly l k=k l
 |[],_=>rfl
 |s::l,k=>by rw[Ly,Ob.hd_eq,acS l]
def Snap.hard {α:Type}(s:Snap)(k:Snap->α):α:=B0 s.rs λa=>Ly s.os λb=>k ⟨a,b⟩
def Snap.hard_eq {α:Type}(s:Snap)(k:Snap->α):s.hard k=k s:=by rw[Snap.hard,RL,acS]
def Lz {α β:Type}:List β->(List β->α)->α
 |[],k=>k []
 |s::l,k=>Lz l λl=>k (s::l)
def acU {α β:Type}:∀(l:List β) (k:List β->α),Lz l k=k l
 |[],_=>rfl
 |s::l,k=>by rw[Lz,acU l]
def Fp {α β:Type}:List (List β)->(List (List β)->α)->α
 |[],k=>k []
 |s::l,k=>Lz s λs=>Fp l λl=>k (s::l)
def acT {α β:Type}:∀(l:List (List β)) (k:List (List β)->α),Fp l k=k l
 |[],_=>rfl
 |s::l,k=>by rw[Fp,acU,acT l]
def aD (P:Program){α:Type}(s:Sem α):Prop:=(∃a,∀w,s.run P w=.ok a w)\/∀w,∃h w',s.run P w=.halt h w'
section
variable {P:Program}
def aD.pure {α:Type}(a:α):aD P (Sem.pure a):=.inl ⟨a,λw=>rfl⟩
def aD.pure' {α:Type}(a:α):aD P (Pure.pure a:Sem α):=.inl ⟨a,λw=>rfl⟩
def aD.halt {α:Type}(h:Halt):aD P (Sem.halt h:Sem α):=.inr λw=>⟨h,w,rfl⟩
def aD.bind' {α β:Type}{s:Sem α}{f:α->Sem β}(h:aD P s)(hf:∀a,(∀w,s.run P w=.ok a w)->aD P (f a)):aD P (s>>=f):=by
 rcases h with⟨a,ha⟩|hd
 .rcases hf a ha with⟨b,hb⟩|hd
  .exact .inl ⟨b,λw=>by rw[Sem.run_bind,ha w];exact hb w⟩
  .refine .inr λw=>?_;obtain⟨x,w',e⟩:=hd w;exact⟨x,w',by rw[Sem.run_bind,ha w];exact e⟩
 .refine .inr λw=>?_;obtain⟨x,w',e⟩:=hd w;exact⟨x,w',by rw[Sem.run_bind,e];rfl⟩
def aD.bind {α β:Type}{s:Sem α}{f:α->Sem β}(h:aD P s)(hf:∀a,aD P (f a)):aD P (s>>=f):=h.bind' λa _=>hf a
def cq {α:Type}(s:Sem α):Prop:=∀P w,∃h w',s.run P w=.halt h w'
def cq.noW {α:Type}{s:Sem α}(h:cq s):aD P s:=.inr (h P)
def cq.halt {α:Type}(h:Halt):cq (Sem.halt h:Sem α):=λP w=>⟨h,w,rfl⟩
def cq.of_bind {α β:Type}{s:Sem α}{f:α->Sem β}(hf:∀a,cq (f a)):cq (s>>=f):=by
 intro P w;rw[Sem.run_bind];cases e:s.run P w with
 |ok a w'=>exact hf a P w'
 |halt h w'=>exact⟨h,w',rfl⟩
def aD.asBool (v:Value):aD P (Go.asBool v):=by
 cases v<;>first|exact .pure _|exact .halt _
def aD.asIntOf (v:Value):aD P (Go.asIntOf v):=by
 unfold Go.asIntOf;split<;>first|exact .pure _|exact .halt _
def aD.sureAddr (v:Value):aD P (Instr.sureAddr v):=by
 unfold Instr.sureAddr;split<;>first|exact .pure _|exact .halt _
def aD.prog:aD P Go.program:=.inl ⟨P,λw=>rfl⟩
def aD.underlying (t:TypeId):aD P (Go.underlying t):=by
 unfold Go.underlying;refine .bind .prog λp=>?_;split<;>first|exact .pure _|exact .halt _
def aD.sizeOf (t:TypeId):aD P (Go.sizeOf t):=by
 unfold Go.sizeOf Go.typeInfo;refine .bind (.bind .prog λp=>?_) λ_=>.pure _;split<;>first|exact .pure _|exact .halt _
def cq.runtimePanic {α:Type}(e:RuntimeError):cq (Go.runtimePanic e:Sem α):=by
 unfold Go.runtimePanic;refine .of_bind λp=>?_;cases e<;>first|exact .halt _|exact .of_bind λ_=>.halt _|exact .of_bind λ_=>.of_bind λ_=>.halt _
def cq.boundsPanic {α:Type}(k:IntKind)(x y:Int)(c:BoundsCode):cq (Go.boundsPanic k x y c:Sem α):=by
 unfold Go.boundsPanic;dsimp only;split<;>exact .of_bind λ_=>.runtimePanic _
def aD.indexAt (t:TypeId)(x i:Value):aD P (Instr.indexAt t x i):=by
 unfold Instr.indexAt
 repeat' (first|(first|exact aD.pure _|exact aD.pure' _|exact aD.halt _|exact cq.noW (cq.boundsPanic _ _ _ _)|exact cq.noW (cq.runtimePanic _)|exact aD.prog|exact aD.underlying _|exact aD.sizeOf _|exact aD.asIntOf _|exact aD.sureAddr _|exact aD.asBool _)|(refine aD.bind ?_ λ_=>?_)|dsimp only|split)
def aD.sliceBound (x:Value)(y:Nat)(c:BoundsCode):aD P (Instr.sliceBound x y c):=by
 unfold Instr.sliceBound
 repeat' (first|(first|exact aD.pure _|exact aD.pure' _|exact aD.halt _|exact cq.noW (cq.boundsPanic _ _ _ _)|exact cq.noW (cq.runtimePanic _)|exact aD.prog|exact aD.underlying _|exact aD.sizeOf _|exact aD.asIntOf _|exact aD.sureAddr _|exact aD.asBool _)|(refine aD.bind ?_ λ_=>?_)|dsimp only|split)
def aD.sliceBounds (b:Bool)(n m:Nat)(lo hi mx:Option Value):aD P (Instr.sliceBounds b n m lo hi mx):=by
 unfold Instr.sliceBounds
 repeat' (first|exact aD.sliceBound _ _ _|(first|exact aD.pure _|exact aD.pure' _|exact aD.halt _|exact cq.noW (cq.boundsPanic _ _ _ _)|exact cq.noW (cq.runtimePanic _)|exact aD.prog|exact aD.underlying _|exact aD.sizeOf _|exact aD.asIntOf _|exact aD.sureAddr _|exact aD.asBool _)|(refine aD.bind ?_ λ_=>?_)|dsimp only|split)
def aD.asAddr (v:Value):aD P (Go.asAddr v):=by
 unfold Go.asAddr
 repeat' (first|(first|exact aD.pure _|exact aD.pure' _|exact aD.halt _|exact cq.noW (cq.boundsPanic _ _ _ _)|exact cq.noW (cq.runtimePanic _)|exact aD.prog|exact aD.underlying _|exact aD.sizeOf _|exact aD.asIntOf _|exact aD.sureAddr _|exact aD.asBool _)|(refine aD.bind ?_ λ_=>?_)|dsimp only|split)
def aD.slice (t:TypeId)(x:Value)(lo hi mx:Option Value):aD P (Instr.slice t x lo hi mx):=by
 unfold Instr.slice
 repeat' (first|exact aD.sliceBounds _ _ _ _ _ _|exact aD.asAddr _|(first|exact aD.pure _|exact aD.pure' _|exact aD.halt _|exact cq.noW (cq.boundsPanic _ _ _ _)|exact cq.noW (cq.runtimePanic _)|exact aD.prog|exact aD.underlying _|exact aD.sizeOf _|exact aD.asIntOf _|exact aD.sureAddr _|exact aD.asBool _)|(refine aD.bind ?_ λ_=>?_)|dsimp only|split)
def aD.sliceAt (t:TypeId)(x:Value)(lo hi mx:Option Value):aD P (Instr.sliceAt t x lo hi mx):=by
 unfold Instr.sliceAt
 repeat' (first|exact aD.sliceBounds _ _ _ _ _ _|exact aD.slice _ _ _ _ _|(first|exact aD.pure _|exact aD.pure' _|exact aD.halt _|exact cq.noW (cq.boundsPanic _ _ _ _)|exact cq.noW (cq.runtimePanic _)|exact aD.prog|exact aD.underlying _|exact aD.sizeOf _|exact aD.asIntOf _|exact aD.sureAddr _|exact aD.asBool _)|(refine aD.bind ?_ λ_=>?_)|dsimp only|split)
def W3 (P:Program)(s:TypeId)(i:Nat):Bool:=
 match P.underlying s with
 |some (.struct fs)=>(match fs[i]? with
  |some f=>(match P.info? f.type with|some d=> !Nat.beq d.size 0|none=>false)
  |none=>false)
 |_=>false
def aD.fieldAt {s:TypeId}{i:Nat}(h:W3 P s i=true)(a:Value):aD P (Instr.fieldAt s a i):=by
 unfold Instr.fieldAt;refine .bind' (.underlying _) λd hd=>?_;have hu:P.underlying s=some d:=by
  have:=hd default;unfold Go.underlying at this;rw[Sem.run_bind] at this;change Result.andThen (.ok P default) _=_ at this;simp only[Result.andThen_ok] at this;cases hp:P.underlying s with
  |none=>rw[hp] at this;cases this
  |some d'=>
   rw[hp] at this;change Result.ok d' default=_ at this;cases this;rfl
 unfold W3 at h;rw[hu] at h;cases d<;>dsimp only at h ⊢<;>try (first|exact aD.pure _|exact aD.pure' _|exact aD.halt _|exact cq.noW (cq.boundsPanic _ _ _ _)|exact cq.noW (cq.runtimePanic _)|exact aD.prog|exact aD.underlying _|exact aD.sizeOf _|exact aD.asIntOf _|exact aD.sureAddr _|exact aD.asBool _)
 rename_i fs;cases hf:fs[i]? with
 |none=>dsimp only;(first|exact aD.pure _|exact aD.pure' _|exact aD.halt _|exact cq.noW (cq.boundsPanic _ _ _ _)|exact cq.noW (cq.runtimePanic _)|exact aD.prog|exact aD.underlying _|exact aD.sizeOf _|exact aD.asIntOf _|exact aD.sureAddr _|exact aD.asBool _)
 |some f=>
  rw[hf] at h;dsimp only at h ⊢;refine .bind (.sureAddr _) λa=>.bind ?_ λ_=>.pure _;unfold Go.fieldPlace;refine .bind' (.sizeOf _) λn hn=>?_;have hz:n≠0:=by
   intro e;have:=hn default;unfold Go.sizeOf Go.typeInfo at this;cases hi:P.info? f.type with
   |none=>rw[hi] at h;cases h
   |some inf=>
    rw[hi] at h;rw[Sem.run_bind,Sem.run_bind] at this;change Result.andThen (Result.andThen (.ok P default) _) _=_ at this;simp only[Result.andThen_ok,hi] at this;change Result.ok inf.size default=_ at this;cases this;dsimp only at h;rw[e] at h;cases h
  rw[if_neg hz]
  (first|exact aD.pure _|exact aD.pure' _|exact aD.halt _|exact cq.noW (cq.boundsPanic _ _ _ _)|exact cq.noW (cq.runtimePanic _)|exact aD.prog|exact aD.underlying _|exact aD.sizeOf _|exact aD.asIntOf _|exact aD.sureAddr _|exact aD.asBool _)
def GU (P:Program):Op->Bool
 |.move _=>true
 |.assign _=>true
 |.pick ..=>true
 |.fieldAddr s _ i=>W3 P s i
 |.indexAddr ..=>true
 |.slice ..=>true
 |_=>false
def avN {o:Oper}(hp:GU P o.op=true)(O:Operand->Value):(∃v,∀w,(execOp O o).run P w=.ok (.value v) w)\/∀w,∃h w',(execOp O o).run P w=.halt h w':=by
 have key:∀s:Sem Value,aD P s->(∃v,∀w,(do Pure.pure (Next.value (<-s)):Sem Next).run P w=.ok (.value v) w)\/∀w,∃h w',(do Pure.pure (Next.value (<-s)):Sem Next).run P w=.halt h w':=by
  intro s hs;rcases hs with⟨a,ha⟩|hd
  .exact .inl ⟨a,λw=>by rw[Sem.run_bind,ha w];rfl⟩
  .refine .inr λw=>?_;obtain⟨x,w',e⟩:=hd w;exact⟨x,w',by rw[Sem.run_bind,e];rfl⟩
 obtain⟨dst,op,type,pos,after,guard⟩:=o;cases op<;>first|(cases hp;done)|skip
 case move x=>exact .inl ⟨_,λw=>rfl⟩
 case assign x=>exact .inl ⟨_,λw=>rfl⟩
 case pick c a b=>
  have:=key (do Pure.pure (if<-Go.asBool (O c) then O a else O b)) (.bind (.asBool _) λ_=>.pure _);simp only[execOp];rcases aD.asBool (P:=P) (O c) with⟨t,ht⟩|hd
  .exact .inl ⟨_,λw=>by rw[Sem.run_bind,ht w];rfl⟩
  .refine .inr λw=>?_;obtain⟨x,w',e⟩:=hd w;exact⟨x,w',by rw[Sem.run_bind,e];rfl⟩
 case fieldAddr s x i=>exact key _ (.fieldAt hp _)
 case indexAddr t x i=>exact key _ (.indexAt _ _ _)
 case slice t x lo hi mx=>exact key _ (.sliceAt _ _ _ _ _)
def avO {rd:Option Nat}{ops:Array Oper}{i:Nat}{o:Oper}{a:Act}{w:World}{K:Act->World->Prop}(hi:ops[i]?=some o)(hp:GU P o.op=true)
 (h:wpOpIn (FR rd) 0 P ops (λ_ _ _=>False) i K a w):∃v,YieldsFenced P ops o v a/\K (a.put o.dst v) w:=by
 have bo:∀c,o.op≠.defer c:=λc e=>by rw[e] at hp;cases hp
 have mc:∀w,o.about P w a.eval=none:=λw=>by
  unfold Oper.about;cases ho:o.op<;>first|rfl|(rw[ho] at hp;cases hp)
 unfold wpOpIn at h;rw[hi] at h;dsimp only at h;cases hw:Region.wanted o (yielded ops a.tmps) with
 |false=>
  rw[hw] at h;exact⟨undef,⟨.inr ⟨hw,rfl⟩,mc⟩,h.2⟩
 |true=>
  rw[hw,if_pos rfl] at h;have h2:=h.2;rw[Oper.semAt_eq _ _ _ bo] at h2;rcases avN hp a.eval with⟨v,hv⟩|hd
  .rw[hv w] at h2;exact⟨v,⟨.inl ⟨hw,hv⟩,mc⟩,h2⟩
  .obtain⟨x,w',e⟩:=hd w;rw[e] at h2;cases x<;>exact h2.elim
section
variable {F:Fence} {n:Nat} {ops:Array Oper} {Q:Exit->Act->World->Prop} {md:Region.Mode}
def YF.wpOpIn {i:Nat}{o:Oper}{v:Value}{a:Act}(bo:tL o.op=true)(hi:ops[i]?=some o)(hy:YieldsFenced P ops o v a)
 {K:Act->World->Prop} {w:World} (h:K (a.put o.dst v) w):wpOpIn F n P ops Q i K a w:=by
 have nf:∀c,o.op≠.defer c:=λc e=>by rw[e] at bo;cases bo
 unfold Go.wpOpIn;simp only[hi];have mc:∀f,o.about P w a.eval=some f->F.fn f:=λf hf=>by rw[hy.2 w] at hf;cases hf
 rcases hy.1 with⟨hw,hv⟩|⟨hw,rfl⟩
 .simp only[hw,if_true,Oper.wpIn,Oper.semAt_eq _ _ _ nf,hv w,Oper.uponIn];exact⟨mc,h⟩
 .simp only[hw,xE,if_false];exact⟨mc,h⟩
def aAK {j:Nat}{oi oj:Oper}{v:Value}(bo:tL oj.op=true)(hj:ops[j]?=some oj)(RK:oi.apart ops oj=true)
 (hsi:∀cs b,oi.op≠.select cs b) (hsj:∀cs b,oj.op≠.select cs b)
 (hQ:∀c a w,Q (.panic c) (a.put oi.dst v) w->Q (.panic c) a w) {K:Act->World->Prop} {a:Act} {w:World}
 (hy:YieldsFenced P ops oi v a) (h:wpOpIn F n P ops Q j K (a.put oi.dst v) w):
 wpOpIn F n P ops Q j (λa' w'=>YieldsFenced P ops oi v a'/\K (a'.put oi.dst v) w') a w:=by
 have nf:∀c,oj.op≠.defer c:=λc e=>by rw[e] at bo;cases bo
 obtain⟨h1,h2,h3⟩:=Oper.apart_spec RK;have keep:∀(a:Act),YieldsFenced P ops oi v a->∀u,YieldsFenced P ops oi v (a.put oj.dst u):=λa hy u=>
  hy.of_same (execOp_put oi hsi a oj.dst u h3) (wanted_put oi a oj.dst u h3) (λw=>about_put oi w a oj.dst u h3)
 have gZ:∀d,YieldsFenced P ops oi v {a with defers:=d::a.defers}:=λd=>hy.of_same rfl rfl (λ_=>rfl);unfold Go.wpOpIn at*;simp only[hj] at*;rw[wanted_put oj a oi.dst v h1,about_put oj w a oi.dst v h1] at h;split
 .rename_i hw;simp only[hw,if_true] at h;unfold Oper.wpIn at*;rw[about_put oj w a oi.dst v h1] at h;refine⟨h.1,?_⟩;have h:=h.2;rw[Oper.semAt_eq _ _ _ nf,execOp_put oj hsj a oi.dst v h1] at h;rw[Oper.semAt_eq _ _ _ nf];generalize (execOp a.eval oj).run P w=r at*;cases r with
  |ok x w'=>
   cases x<;>simp only[Oper.uponIn] at h ⊢
   case value u=>exact⟨keep a hy u,by rw[<-Act.put_comm a v u h2];exact h⟩
   case skip=>exact⟨keep a hy _,by rw[<-Act.put_comm a v undef h2];exact h⟩
   case defer d=>
        refine⟨keep _ (gZ d) _,?_⟩;rw[<-Act.put_comm _ v undef h2,<-Act.put_defers];exact h
   case enter f args=>
        refine⟨h.1,CallsIn.mono h.2 λe lj he=>?_⟩;cases e with
        |returned u=>exact⟨keep a hy u,by rw[<-Act.put_comm a v u h2];exact he⟩
        |panicked c=>exact hQ _ _ _ he
        |outgrown=>exact he
   case row row args=>exact⟨h.1,RowsIn.mono h.2 λu lj he=>⟨keep a hy u,by rw[<-Act.put_comm a v u h2];exact he⟩⟩
   case round l f tmps assign body=>
        refine⟨h.1,RoundIn.mono h.2 λe lj he=>?_⟩;cases e with
        |returned u=>exact⟨keep a hy u,by rw[<-Act.put_comm a v u h2];exact he⟩
        |panicked c=>exact hQ _ _ _ he
        |outgrown=>exact he
  |halt x w'=>
   cases x<;>simp only[Oper.uponIn] at h ⊢
   case panic u=>exact hQ _ _ _ h
 .rename_i hw;simp only[hw] at h;exact⟨h.1,keep a hy _,by rw[<-Act.put_comm a v undef h2];exact h.2⟩
def aAJ {i:Nat}{oi:Oper}{v:Value}(bo:∀(j:Nat) (o:Oper),ops[j]?=some o->tL o.op=true)(hi:ops[i]?=some oi)(Cm:∀(j:Nat) (o:Oper) cs b,ops[j]?=some o->o.op≠.select cs b)
 (hQ:∀c a w,Q (.panic c) (a.put oi.dst v) w->Q (.panic c) a w):
 ∀(fuel:Nat) (listed:Array Bool) (a:Act) (w:World),
  (∀j oj,ops[j]?=some oj->j≠i->listed.getD j true=false->(∀e∈oj.after,Region.binds md e=true->e.on≠i)->oi.apart ops oj=true)->
  i∈Region.ready md ops listed->YieldsFenced P ops oi v a->
  wpAnyIn F n P md ops Q fuel (listed.setIfInBounds i true) (a.put oi.dst v) w->wpAnyIn F n P md ops Q (fuel+1) listed a w:=by
 intro fuel
 induction fuel with
 |zero=>
  intro listed a w _ hr hy zzt;refine⟨λh=>(by rw[h] at hr;cases hr),λj hj=>?_⟩;by_cases kA:j=i
  .subst kA;exact YF.wpOpIn (bo _ _ hi) hi hy zzt
  .have:=ready_mono hj kA;rw[zzt.1] at this;cases this
 |succ fuel ih=>
  intro listed a w oG hr hy zzt;refine⟨λh=>(by rw[h] at hr;cases hr),λj hj=>?_⟩;by_cases kA:j=i
  .subst kA;exact YF.wpOpIn (bo _ _ hi) hi hy zzt
  .have h1:=zzt.2 j (ready_mono hj kA);obtain⟨ads,oj,L1,aK⟩:=mem_ready.1 hj
   have Sw:∀e∈oj.after,Region.binds md e=true->e.on≠i:=λe he hb heq=>by
        have h1:=aK e he hb;have h0:=(mem_ready.1 hr).1;rw[heq] at h1;rcases I8 i listed.size with h'|h'
        .simp[h'] at h0 h1;rw[h0] at h1;cases h1
        .simp[Array.getElem?_eq_none h'] at h1
   have h2:=aAK (bo _ _ L1) L1 (oG j oj L1 kA ads Sw) (λcs b=>Cm i oi cs b hi) (λcs b=>Cm j oj cs b L1) hQ hy h1;have aqk:∀k ok,ops[k]?=some ok->k≠i->(listed.setIfInBounds j true).getD k true=false->
    (∀e∈ok.after,Region.binds md e=true->e.on≠i)->oi.apart ops ok=true:=λk ok hk hki mm fH=>by
        refine oG k ok hk hki ?_ fH;by_cases mY:j=k
        .subst mY;exact ads
        .rw[getD_set_ne true mY] at mm;exact mm
   refine wpOpIn_mono (λa' w' h3=>ih (listed.setIfInBounds j true) a' w' aqk (ready_mono hr (vC kA)) h3.1 ?_) h2;rw[Array.setIfInBounds_comm _ _ kA];exact h3.2
end
end
def ux (P:Program)(ops:Array Oper):List (Option (List Nat)):=(List.range ops.size).map λi=>match ops[i]? with
 |some oi=>bif GU P oi.op then some ((List.range ops.size).filter λj=> !(Nat.beq j i||(match ops[j]? with|some oj=>(oj.after.toList.any λe=>Region.binds .any e&&Nat.beq e.on i)||oi.apart ops oj|none=>true))) else none
 |none=>none
def Dy (bad:List (Option (List Nat)))(E:Nat):List Nat->Option Nat
 |[]=>none
 |i::l=>match bad.getD i none with
  |some b=>bif b.all (aR E) then some i else Dy bad E l
  |none=>Dy bad E l
def TW (ops:Array Oper):Bool:=ops.toList.all λo=>match o.op with|.select ..=>false|_=>true
def OJ {bad:List (Option (List Nat))}{E:Nat}:∀{l:List Nat} {i:Nat},Dy bad E l=some i->i∈l/\∃b,bad.getD i none=some b/\b.all (aR E)=true
 |[],_,h=>by cases h
 |i::l,j,h=>by
  unfold Dy at h;split at h
  .rename_i b hb;cases hc:b.all (aR E) with
   |true=>
    rw[hc] at h;cases h;exact⟨fR ..,b,hb,hc⟩
   |false=>
    rw[hc] at h;obtain⟨h1,h2⟩:=OJ h;exact⟨fq _ h1,h2⟩
  .obtain⟨h1,h2⟩:=OJ h;exact⟨fq _ h1,h2⟩
def ak9 {P:Program}{ops:Array Oper}{i:Nat}{b:List Nat}(h:(ux P ops).getD i none=some b):∃oi,ops[i]?=some oi/\GU P oi.op=true/\
 ∀j oj,ops[j]?=some oj->j≠i->j∉b->(∀e∈oj.after,Region.binds .any e=true->e.on≠i)->oi.apart ops oj=true:=by
 unfold ux at h;rw[aE,bX] at h;by_cases hi:i<ops.size
 .rw[pz hi] at h;simp only[kj,kM] at h;rw[ir hi] at h;dsimp only at h;cases hp:GU P ops[i].op<;>rw[hp] at h<;>simp only[zyy,zyx] at h
  .cases h
  injection h with h
  refine⟨ops[i],ir hi,hp,λj oj hj kA LP fH=>?_⟩;have af:j<ops.size:=(ed.1 hj).1;rw[<-h] at LP;have h2:¬(!(Nat.beq j i||(match ops[j]? with|some oj=>(oj.after.toList.any λe=>Region.binds .any e&&Nat.beq e.on i)||ops[i].apart ops oj|none=>true)))=true:=λhc=>LP (eR.2 ⟨fu.2 af,hc⟩);rw[hj,fy kA] at h2;simp only[Bool.false_or,kK,Bool.not_eq_false,kL] at h2;rcases h2 with h2|h2
  .obtain⟨e,he,hb⟩:=xL.1 h2;rw[ao] at hb;exact absurd (dH hb.2) (fH e (by simpa using he) hb.1)
  .exact h2
 .rw[kg (by simpa using hi)] at h;cases h
def Gt (E:Nat)(T:Snap):List (Nat×Snap)->Option (List (Nat×Snap))
 |[]=>some [(E,T)]
 |x::l=>bif Nat.beq x.1 E then(bif x.2.beq T then some (x::l) else none) else(Gt E T l).map (x::·)
def qC (ops:Array Oper)(E:Nat):List Nat:=
 (List.range ops.size).filter λi=> !aR E i&&(match ops[i]? with|some o=>o.after.toList.all λe=> !Region.binds .any e||aR E e.on|none=>false)
def UM (C:Ctx)(ops:Array Oper)(n:Nat)(ids:List Nat)(X:List (List PI))(nc:List (List Nat))(E:Nat)(T:Snap)(i:Nat):Option (Nat×Snap):=
 match ops[i]? with
 |some o=>(yn C (T.stO ids) ops o).bind λr=>
  bif PI.beqs r.2 (X.getD i [])&&(nc.getD i []).all (aR E) then some (Nat.lor E (iv i),⟨Dw (lP r.1) r.1 T.rs o.dst.toList,ids.map λj=>j0 r.1 (r.1.o j)⟩) else none
 |none=>none
def IC (one:Nat->Option (Nat×Snap)):List Nat->List (Nat×Snap)->Option (List (Nat×Snap))
 |[],acc=>some acc
 |i::l,acc=>(one i).bind λx=>x.2.hard λT=>(Gt x.1 T acc).bind λacc=>IC one l acc
def q9 (ops:Array Oper)(bad:List (Option (List Nat)))(E:Nat):List Nat:=
 match Dy bad E (qC ops E) with
 |some i=>[i]
 |none=>qC ops E
def GB (ops:Array Oper)(bad:List (Option (List Nat)))(one:Nat->Snap->Nat->Option (Nat×Snap)):List (Nat×Snap)->List (Nat×Snap)->Option (List (Nat×Snap))
 |[],acc=>some acc
 |x::l,acc=>
  match q9 ops bad x.1 with
  |[]=>none
  |rs=>(IC (one x.1 x.2) rs acc).bind λacc=>GB ops bad one l acc
def Iv (ops:Array Oper)(bad:List (Option (List Nat)))(one:Nat->Snap->Nat->Option (Nat×Snap)):Nat->List (Nat×Snap)->Option Snap
 |0,L=>
  match L with
  |[x]=>bif (List.range ops.size).all (aR x.1) then some x.2 else none
  |_=>none
 |k+1,L=>(GB ops bad one L []).bind λL=>Iv ops bad one k L
def aeq {E:Nat}{T:Snap}:∀{l l':List (Nat×Snap)},Gt E T l=some l'->(E,T)∈l'/\∀x,x∈l->x∈l'
 |[],l',h=>by simp only[Gt,aZ] at h;subst h;simp
 |x::l,l',h=>by
  simp only[Gt] at h;cases hb:Nat.beq x.1 E<;>simp only[hb,zyy,zyx] at h
  .simp only[aB] at h;obtain⟨l2,h2,rfl⟩:=h;obtain⟨h3,h4⟩:=aeq h2;exact⟨fq _ h3,λy hy=>(cB.1 hy).elim (λe=>e▸fR ..) λhm=>fq _ (h4 y hm)⟩
  .cases hs:x.2.beq T<;>simp only[hs,zyy,zyx] at h
   .cases h
   .cases h;refine⟨?_,λy hy=>hy⟩;have e1:=dH hb;have e2:=Snap.beq_eq _ _ hs;subst e1;subst e2;simp
def ajr {one:Nat->Option (Nat×Snap)}:∀{rs:List Nat} {acc D1:List (Nat×Snap)},IC one rs acc=some D1->(∀x,x∈acc->x∈D1)/\∀i,i∈rs->∃x,one i=some x/\x∈D1
 |[],acc,D1,h=>by simp only[IC,aZ] at h;subst h;simp
 |i::rs,acc,D1,h=>by
  simp only[IC,Snap.hard_eq,az] at h;obtain⟨x,hx,akD,h1,h2⟩:=h;obtain⟨h3,h4⟩:=aeq h1;obtain⟨h5,h6⟩:=ajr h2;refine⟨λy hy=>h5 y (h4 y hy),λj hj=>?_⟩;rcases cB.1 hj with e|hm
  .subst e;exact⟨x,hx,h5 _ h3⟩
  .exact h6 j hm
def aeR {ops:Array Oper}{bad:List (Option (List Nat))}{one:Nat->Snap->Nat->Option (Nat×Snap)}:∀{L acc L':List (Nat×Snap)},GB ops bad one L acc=some L'->
 (∀x,x∈acc->x∈L')/\∀x,x∈L->q9 ops bad x.1≠[]/\∀i,i∈q9 ops bad x.1->∃y,one x.1 x.2 i=some y/\y∈L'
 |[],acc,L',h=>by simp only[GB,aZ] at h;subst h;simp
 |x::L,acc,L',h=>by
  simp only[GB] at h;split at h
  .cases h
  .rename_i au;simp only[az] at h;obtain⟨akD,h1,h2⟩:=h;obtain⟨h3,h4⟩:=ajr h1;obtain⟨h5,h6⟩:=aeR h2;refine⟨λy hy=>h5 y (h3 y hy),λy hy=>?_⟩;rcases cB.1 hy with e|hm
   .subst e;refine⟨λe=>au e,λi hi=>?_⟩;obtain⟨z,hz,hm⟩:=h4 i hi;exact⟨z,hz,h5 z hm⟩
   .exact h6 y hm
def gh (X:List (List PI))(l:List Nat)(E:Nat):List PI:=l.flatMap λi=>bif aR E i then[] else X.getD i []
def WJ {X:List (List PI)}{E E':Nat}:∀(l:List Nat),(∀i,i∈l->aR E i=aR E' i)->gh X l E=gh X l E'
 |[],_=>rfl
 |i::l,h=>by
  have ih:=WJ (X:=X) l λj hj=>h j (fq _ hj);unfold gh at ih ⊢;simp only[vy];rw[ih,h i (fR ..)]
def Foot.comm_each {a b:List PI}(h:(iY a).comm (iY b)=true):∀p q,p∈a->q∈b->Comm p q:=by
 simp only[Foot.comm,ao] at h;obtain⟨h1,h2,h3,h4,h5,h6⟩:=h;intro p q hp hq;obtain⟨p1,p2,p3,p4⟩:=acs hp;obtain⟨q1,q2,q3,q4⟩:=acs hq;exact⟨λt x y=>TC h1 (p1 t x) (q1 t y),λt x y=>TC h2 (p1 t x) (q3 t y),λt x y=>TC h3 (q1 t x) (p3 t y),λt x y=>PK h4 (p2 t x) (q2 t y),λt x y=>PK h5 (p2 t x) (q4 t y),λt x y=>PK h6 (q2 t x) (p4 t y)⟩
def CJ (X:List (List PI))(N:Nat):List (List Nat):=
 (List.range N).map λi=>(List.range i).filter λj=> !(iY (X.getD j [])).comm (iY (X.getD i []))
def ye (E i j:Nat):aR (Nat.lor E (iv i)) j=(aR E j||Nat.beq i j):=by
 rw[gR]
 congr 1
 rw[yd];show(1<<<i).testBit j=_;rw[Nat.testBit_shiftLeft];by_cases h:i=j
 .subst h;simp
 .have h1:Nat.beq i j=false:=fy h;rw[h1];by_cases h2:i<=j
  .have:j-i≠0:=by omega
   cases hk:j-i with
   |zero=>omega
   |succ k=>
    have:(1:Nat).testBit (k+1)=false:=by simp[Nat.testBit_succ]
    simp[this]
  .simp[h2]
def awM {X:List (List PI)}{N E i:Nat}(hi:i<N)(hb:aR E i=false)(dp:((CJ X N).getD i []).all (aR E)=true)(Z:aS)(O:Env):
 PI.runs Z (gh X (List.range N) E) O=(PI.runs Z (X.getD i []) O).bind (PI.runs Z (gh X (List.range N) (Nat.lor E (iv i)))):=by
 obtain⟨l1,l2,hl⟩:=List.append_of_mem (fu.2 hi);have hp:=List.pairwise_lt_range (n:=N);rw[hl,Pq] at hp;obtain⟨_,eO,hp3⟩:=hp;rw[xS] at eO;have lt1:∀j,j∈l1->j<i:=λj hj=>hp3 j hj i (fR ..);have lt2:∀j,j∈l2->i<j:=λj hj=>eO.1 j hj;have e0:∀E,gh X (l1++i::l2) E=gh X l1 E++((bif aR E i then[] else X.getD i [])++gh X l2 E):=λE=>by simp[gh]
 have e1:gh X l1 (Nat.lor E (iv i))=gh X l1 E:=WJ l1 λj hj=>by
  rw[ye,fy (by have:=lt1 j hj;omega),Pe]
 have e2:gh X l2 (Nat.lor E (iv i))=gh X l2 E:=WJ l2 λj hj=>by
  rw[ye,fy (by have:=lt2 j hj;omega),Pe]
 have e3:aR (Nat.lor E (iv i)) i=true:=by rw[ye,ki,uj]
 rw[hl,e0,e0,e1,e2,e3,hb];simp only[zyy,zyx,xR]
 have ap0:PI.runs Z (gh X l1 E++X.getD i [])=PI.runs Z (X.getD i []++gh X l1 E):=funext λO=>PI.comms _ _ (λp q hp hq=>by
  unfold gh at hp;obtain⟨j,hj,hp⟩:=xQ.1 hp;cases hbj:aR E j<;>simp only[hbj,zyy,zyx] at hp
  case true=>cases hp
  have hc:(iY (X.getD j [])).comm (iY (X.getD i []))=true:=by
   cases jv:(iY (X.getD j [])).comm (iY (X.getD i [])) with
   |true=>rfl
   |false=>
    have rI:(CJ X N).getD i []=(List.range i).filter λj=> !(iY (X.getD j [])).comm (iY (X.getD i [])):=by
     unfold CJ;rw[aE,bX,pz hi];rfl
    rw[rI] at dp;have:=cN.1 dp j (eR.2 ⟨fu.2 (lt1 j hj),by rw[jv];rfl⟩);rw[hbj] at this;cases this
  exact Foot.comm_each hc p q hp hq) O
 rw[<-sK,tX,ap0];have:=tX (Z:=Z) (a:=X.getD i []) (b:=gh X l1 E) (O:=O);rw[this,Option.bind_assoc]
 congr 1
 funext ρ1;rw[tX]
def fm (C:Ctx)(ops:Array Oper):List Nat->St->Option (List (List PI))
 |[],_=>some []
 |i::l,S=>
  match ops[i]? with
  |some o=>(yn C S ops o).bind λr=>(fm C ops l r.1).map λq=>r.2::q
  |none=>none
def acC (ops:Array Oper):Bool:=(List.range ops.size).all λi=>match ops[i]? with
 |some o=>(match o.guard with|some (j,_)=>Nat.blt j i|none=>true)
 |none=>true
def Li (ops:Array Oper):Bool:=ops.toList.all λo=>match o.guard with
 |some (j,_)=>o.after.toList.any λe=>Region.binds .any e&&Nat.beq e.on j
 |none=>true
section
variable {C:Ctx} {S:St} {f:Nat->Sh} {gs:List (Nat×Bool)} {dst:Nat}
end
section
variable {C:Ctx} {S:St} {O:Env} {V:Im} {own:Nat->Option Nat} {hv:Nat->Value} {w0:World} {σ0:Base} {A:Nat->Prop} {a:Act} {w:World} {n:Nat} {ids:List Nat} {Z:aS}
def aHv {ops:Array Oper}{listed:Array Bool}{E:Nat}(aI:listed.size=ops.size)(hl:∀i,listed.getD i false=aR E i)(i:Nat):i∈Region.ready .any ops listed↔i∈qC ops E:=by
 unfold Region.ready qC;simp only[eR,fu];refine and_congr_right λhi=>?_;have h1:listed.getD i true=aR E i:=by
  rw[<-hl i];simp only[fe];rw[ir (by omega)];rfl
 have h2:ops[i]?=some ops[i]:=ir hi;rw[h1,h2];simp only[kj,kM,<-Array.all_toList,hl]
end
def Om (C:Ctx)(n:Nat)(ids:List Nat)(ops:Array Oper)(draw:Bool)(S:Snap):Option (Snap×List PI):=
 bif Dn n ops then
    bif draw then
     bif Li ops&&TW ops&&C.P.follows .mixedOrders then
        (fm C ops (List.range ops.size) (S.st ids)).bind λX=>Fp X λX=>Fp (CJ X ops.size) λnc=>
         (Snap.hard ⟨S.rs.map λs=>lP (S.st ids) (cJ s),ids.map λj=>j0 (S.st ids) ((S.st ids).o j)⟩ λT0=>Iv ops (ux C.P ops) (UM C ops n ids X nc) ops.size [(0,T0)]).map λT=>(⟨T.rs.map (iM (T.stO ids)),ids.map λj=>j0 (T.stO ids) ((T.stO ids).o j)⟩,X.flatten)
     else none
    else bif acC ops then(vJ C ops (List.range ops.size) (S.st ids)).map λr=>(⟨Dw (iM r.1) r.1 S.rs (ops.toList.filterMap (·.dst)),ids.map λj=>j0 r.1 (r.1.o j)⟩,r.2) else none
 else none
def Ol (C:Ctx)(n:Nat)(ids:List Nat)(ops:Array Oper)(draw:Bool)(S:Snap):Option (Snap×List PI):=
 (Om C n ids ops draw S).bind λr=>r.1.hard λT=>some (T,r.2)
def awF (C:Ctx)(n:Nat)(ids:List Nat)(ops:Array Oper)(draw:Bool)(S:Snap):Ol C n ids ops draw S=Om C n ids ops draw S:=by
 unfold Ol;cases Om C n ids ops draw S with
 |none=>rfl
 |some r=>rw[pE,Snap.hard_eq]
def zV (ops:Array Oper)(E:Nat):Nat->Prop:=λt=>∃i o,aR E i=true/\ops[i]?=some o/\o.dst=some t
section
variable {C:Ctx} {S:St} {O:Env} {V:Im} {own:Nat->Option Nat} {hv:Nat->Value} {w0:World} {σ0:Base} {A:Nat->Prop} {a:Act} {w:World} {n:Nat} {ids:List Nat} {Z:aS}
def Oh {ops:Array Oper}{listed:Array Bool}{E:Nat}(aI:listed.size=ops.size)(hl:∀i,listed.getD i false=aR E i)(i:Nat):i∈Region.ready .any ops listed↔i∈qC ops E:=by
 unfold Region.ready qC;simp only[eR,fu];refine and_congr_right λhi=>?_;have h1:listed.getD i true=aR E i:=by
  rw[<-hl i];simp only[fe];rw[ir (by omega)];rfl
 have h2:ops[i]?=some ops[i]:=ir hi;rw[h1,h2];simp only[kj,kM,<-Array.all_toList,hl]
def aw4 {rd:Option Nat}(hC:CtxOK C σ0)(aY:dN C)(hΦ:du C Z)(hY:uv C Z w0 σ0){a0:Act}(Sp:a0.tmps.size=n){ops:Array Oper}(ar:Dn n ops=true)(gV:Li ops=true){X:List (List PI)}{Q:Exit->Act->World->Prop}{O':Env}(Cm:TW ops=true)(hQp:∀c a w,¬Q (.panic c) a w):
 ∀(k:Nat) {L:List (Nat×Snap)} {T:Snap},Iv ops (ux C.P ops) (UM C ops n ids X (CJ X ops.size)) k L=some T->
  (∀a' w',SameBut (BF ops) a0 a'->Good C w0 σ0 (T.stO ids) O' (λt=>∃E,zV ops E t) a' w'->Q .normal a' w')->
  ∀(E:Nat) (U:Snap),(E,U)∈L->∀(listed:Array Bool) (O:Env) (a:Act) (w:World),listed.size=ops.size->(∀i,listed.getD i false=aR E i)->SameBut (BF ops) a0 a->
   Good C w0 σ0 (U.stO ids) O (zV ops E) a w->PI.runs Z (gh X (List.range ops.size) E) O=some O'->wpAnyIn (FR rd) 0 C.P .any ops Q k listed a w:=by
 simp only[Dn,ao] at ar;have bo:=qn ar.1;intro k
 induction k with
 |zero=>
  intro L T hs hQ E U hm listed O a w aI hl hn hg ak;simp only[Iv] at hs;split at hs
  case h_2=>cases hs
  rename_i x;cases aK:(List.range ops.size).all (aR x.1)<;>simp only[aK,zyy,zyx] at hs
  .cases hs
  cases hs;simp only[vA] at hm;subst hm;simp only at aK hg hQ ak hl;have uN:=cN.1 aK;have aqi:gh X (List.range ops.size) E=[]:=by
   unfold gh;rw[List.flatMap_eq_nil_iff];intro i hi;rw[uN i hi];rfl
  rw[aqi] at ak;simp only[PI.runs,aZ] at ak;subst ak;refine⟨?_,hQ a w hn ?_⟩
  .rw[aas];intro i hi;rw[Oh aI hl] at hi;unfold qC at hi;simp only[eR,ao,kK] at hi;rw[uN i hi.1] at hi;cases hi.2.1
  .obtain⟨V,own,hv,h⟩:=hg;exact⟨V,own,hv,h.defers,h.ok,h.le,h.old,h.newc,h.newm,h.below,h.bw,h.owns,h.regs,h.objs,λt gs s e=>⟨λg hm=>⟨E,(h.opts t gs s e).1 g hm⟩,(h.opts t gs s e).2⟩,h.frame⟩
 |succ k ih=>
  intro L T hs hQ E U hm listed O a w aI hl hn hg ak;simp only[Iv,az] at hs;obtain⟨L',hL,hs⟩:=hs;obtain⟨_,cV⟩:=aeR hL;obtain⟨au,Gf⟩:=cV _ hm;have aq4:qC ops E≠[]:=λe=>au (by unfold q9;rw[e];rfl)
  have cg:∀i,i∈q9 ops (ux C.P ops) E->i∈qC ops E:=λi hi=>by
   unfold q9 at hi;split at hi
   .rename_i i' hp;rw[vA.1 hi];exact(OJ hp).1
   .exact hi
  have step:∀i,i∈q9 ops (ux C.P ops) E->∀Q':Exit->Act->World->Prop,wpOpIn (FR rd) 0 C.P ops Q' i (wpAnyIn (FR rd) 0 C.P .any ops Q k (listed.setIfInBounds i true)) a w:=by
   intro i hi Q';obtain⟨y,hy,hyL⟩:=Gf i hi;have hi:=cg i hi;unfold qC at hi;simp only[eR,fu,ao,kK] at hi;obtain⟨bO,dT,RY⟩:=hi;simp only[UM] at hy;split at hy
   case h_2=>cases hy
   rename_i o ho;simp only[az] at hy;obtain⟨r,hr,hy⟩:=hy;cases hc:(PI.beqs r.2 (X.getD i [])&&((CJ X ops.size).getD i []).all (aR E))<;>simp only[hc,zyy,zyx] at hy
   .cases hy
   cases hy;simp only[ao] at hc;have hX:=PI.beqs_eq _ _ hc.1;rw[awM bO dT hc.2,az] at ak;obtain⟨ρ1,hρ1,hρ2⟩:=ak;rw[<-hX] at hρ1;rw[ho] at RY;simp only at RY;have B7:∀d,o.dst=some d->¬zV ops E d/\d<a.tmps.size:=by
        intro d hd;refine⟨λ⟨i',o',df,jb,gw⟩=>?_,?_⟩
        .have au:i'≠i:=λe=>by subst e;rw[dT] at df;cases df
         exact KX.dst_once bo jb ho gw hd au
        .have:=cN.1 ar.2 o (by simpa using qM ho);simp only[hd,ao] at this;rw[hn.size,Sp];simpa [pC] using this.2
   have nf:tL o.op=true:=by
        have:=cN.1 ar.2 o (by simpa using qM ho);simp only[ao] at this;exact this.1
   have hj:∀j want t,o.guard=some (j,want)->(ops[j]?).bind (·.dst)=some t->zV ops E t:=by
        intro j want t oH ht;rw[az] at ht;obtain⟨oj,h1,h2⟩:=ht;have oI:=cN.1 gV o (by simpa using qM ho);simp only[oH] at oI;obtain⟨e,rH,Fz⟩:=xL.1 oI;simp only[ao] at Fz;have h3:=cN.1 RY e rH;rw[Fz.1] at h3;simp only[Bool.not_true,Bool.false_or] at h3;exact⟨j,oj,by rw[<-dH Fz.2];exact h3,h1,h2⟩
   have main:=abA (rd:=rd) (K:=wpAnyIn (FR rd) 0 C.P .any ops Q k (listed.setIfInBounds i true)) (Q:=Q') hg hC aY hΦ hY nf B7 hj hr hρ1 (λa' w' lF wu=>by
        have hA:(λu=>zV ops E u\/o.dst=some u)=zV ops (Nat.lor E (iv i)):=by
         funext u;apply propext;constructor
         .rintro(⟨i',o',h1,h2,h3⟩|h1)
          .exact⟨i',o',by rw[ye,h1,DN],h2,h3⟩
          .exact⟨i,o,by rw[ye,ki,uj],ho,h1⟩
         .rintro⟨i',o',h1,h2,h3⟩;rw[ye,kL] at h1;rcases h1 with h1|h1
          .exact .inl ⟨i',o',h1,h2,h3⟩
          .rw[<-dH h1,ho] at h2;cases h2;exact .inr h3
        rw[hA] at lF
        refine ih hs hQ _ _ hyL _ ρ1 a' w' (by simpa using aI) (λj=>?_) (hn.trans (wu.mono λt e=>⟨o,by simpa using qM ho,e⟩)) (by
         have:=lF.snapO U.rs.length ids
         rw[show r.1.snapO U.rs.length ids=⟨Dw (lP r.1) r.1 U.rs o.dst.toList,ids.map λj=>j0 r.1 (r.1.o j)⟩ from by
          unfold St.snapO;rw[OA λt ht=>?_];rw[abz hr t (λe=>ht (by rw[e];simp))];rfl] at this
         exact this) hρ2
        rw[ye];simp only[fe,DM];by_cases dw:i=j
        .subst dw;simp[aI,bO]
        .rw[if_neg dw,fy dw,Pe,<-hl j];simp only[fe])
   simp only[wpOpIn,ho];split
   .rename_i hw;rw[if_pos hw] at main;exact main
   .rename_i hw;rw[if_neg hw] at main;exact⟨λ_ _=>trivial,main⟩
  cases SK:Dy (ux C.P ops) E (qC ops E) with
  |none=>
   have kP:q9 ops (ux C.P ops) E=qC ops E:=by unfold q9;rw[SK]
   refine⟨λhe=>?_,λi hi=>step i (by rw[kP];exact(Oh aI hl i).1 hi) Q⟩;exfalso;refine aq4 ?_;rw[aas];intro i hi;rw[<-Oh aI hl,he] at hi;cases hi
  |some i=>
   have kP:q9 ops (ux C.P ops) E=[i]:=by unfold q9;rw[SK]
   obtain⟨hir,b,hb,apV⟩:=OJ SK;obtain⟨oi,hoi,SL,RK⟩:=ak9 hb;obtain⟨v,hv,hK⟩:=avO hoi SL (step i (by rw[kP];simp) _);refine aAJ (λj o ho=>?_) hoi (λj o cs b' ho e=>?_) (λc a' w' h=>(hQp _ _ _ h).elim) k listed a w (λj oj hj kA mm fH=>RK j oj hj kA (λLP=>?_) fH) ((Oh aI hl i).2 hir) hv hK
   .have:=cN.1 ar.2 o (by simpa using qM ho);simp only[ao] at this;exact this.1
   .have:=cN.1 Cm o (by simpa using qM ho);rw[e] at this;cases this
   .have h1:=cN.1 apV j LP;have h2:=hl j;rw[h1] at h2;simp only[fe] at h2 mm;cases yJ:listed[j]? with
    |none=>rw[yJ] at h2;cases h2
    |some x=>
     rw[yJ] at h2 mm;simp only[kM] at h2 mm;rw[h2] at mm;cases mm
def ajc {ops:Array Oper}:∀{l:List Nat} {S:St} {X:List (List PI)},fm C ops l S=some X->X.length=l.length
 |[],S,X,h=>by simp only[fm,aZ] at h;subst h;rfl
 |i::l,S,X,h=>by
  simp only[fm] at h;split at h
  case h_2=>cases h
  simp only[az,aB] at h;obtain⟨r,_,q,hq,rfl⟩:=h;simp[ajc hq]
def awN (X:List (List PI)):gh X (List.range X.length) 0=X.flatten:=by
 have h0:∀i,aR 0 i=false:=λi=>by rw[yd];simp
 have key:∀(Y zzu:List (List PI)),gh (Y++zzu) (List.range' Y.length zzu.length) 0=zzu.flatten:=by
  intro Y zzu
  induction zzu generalizing Y with
  |nil=>rfl
  |cons z zzu ih=>
   have:=ih (Y++[z]);simp only[sK,List.singleton_append,mM,qT,Aq,fw] at this;rw[qT,Pr];have e:gh (Y++z::zzu) (Y.length::List.range' (Y.length+1) zzu.length) 0=(Y++z::zzu).getD Y.length []++gh (Y++z::zzu) (List.range' (Y.length+1) zzu.length) 0:=by
        unfold gh;rw[vy,h0];rfl
   rw[e,this,aau]
   congr 1
   simp[aE]
 have:=key [] X;simp only[xR,Aq] at this;rw[Ps];exact this
def awG (aY:dN C)(hΦ:du C Z):Pz C n ids Z (Ol C n ids):=by
 intro id ops draw S r hr rd w0 σ0 O O' a w Q hC hY hn hg ak hQ;rw[awF] at hr;unfold Om at hr;cases ar:Dn n ops<;>simp only[ar,zyy,zyx] at hr
 .cases hr
 cases draw with
 |false=>
  simp only[zyx] at hr;cases hgb:acC ops<;>simp only[hgb,zyy,zyx] at hr
  .cases hr
  simp only[aB] at hr;obtain⟨q,hq,rfl⟩:=hr;refine wpIn_region ?_
  have y1:zU ops []=λ_=>False:=by
   funext t;apply propext;constructor
   .rintro⟨i,o,h,_⟩;cases h
   .intro h;exact h.elim
  refine KX hC aY hΦ hY ar (List.range ops.size) [] (by simpa using aaC) (λp i q o j want hl ho oH=>?_) hn (by rw[y1];exact hg) hq ak (λa' w' lI lF=>hQ a' w' lI (by
   have:=lF.snapF S.rs.length ids
   rw[show q.1.snap S.rs.length ids=⟨Dw (iM q.1) q.1 S.rs (ops.toList.filterMap (·.dst)),ids.map λj=>j0 q.1 (q.1.o j)⟩ from by
        unfold St.snap;rw[OA λt ht=>?_];rw[abB hq t (λi o hi ho e=>ht (Ar.2 ⟨o,by simpa using qM ho,e⟩))];show _=iM q.1 (cJ (S.rs.getD t .none));cases S.rs.getD t .none<;>rfl] at this
   exact this))
  have hi:i<ops.size:=by
   have:i∈List.range ops.size:=by rw[hl];simp
   exact fu.1 this
  have hb:=cN.1 hgb i (fu.2 hi);rw[ho] at hb;simp only[oH,pC] at hb;have hp:=List.pairwise_lt_range (n:=ops.size);have vY:j∈List.range ops.size:=fu.2 (by omega);rw[hl,Pq] at hp;obtain⟨_,eO,_⟩:=hp;rw[xS] at eO;rw[hl,dC] at vY;simp only[xR];rcases vY with hm|hm
  .exact hm
  .rcases cB.1 hm with e|hm
   .omega
   .have:=eO.1 j hm;omega
 |true=>
  simp only[zyy] at hr;cases gV:(Li ops&&TW ops&&C.P.follows .mixedOrders)<;>simp only[gV,zyy,zyx] at hr
  .cases hr
  simp only[ao] at gV;have Cm:=gV.1.2
  replace gV:Li ops=true/\C.P.follows .mixedOrders=true:=⟨gV.1.1,gV.2⟩
  have h0:∀i,aR 0 i=false:=λi=>by rw[yd];simp
  simp only[acT,Snap.hard_eq,az,aB] at hr;obtain⟨X,hX,T,hT,rfl⟩:=hr;refine wpIn_mono (Q:=λe a w=>(∀c,e≠.panic c)/\Q e a w) ?_ λe a w h=>h.2;refine wpIn_region_any gV.2 ?_
  have y1:zV ops 0=λ_=>False:=by
   funext t;apply propext;constructor
   .rintro⟨i,o,h,_⟩;rw[h0] at h;cases h
   .intro h;exact h.elim
  have hlen:=ajc hX;rw[aaz] at hlen
  refine aw4 (w0:=w0) hC aY hΦ hY hn ar gV.1 (O':=O') Cm (λc a w h=>h.1 c rfl) ops.size hT (λa' w' lI lF=>⟨λc e=>(by cases e),hQ a' w' lI (by
   have:=lF.snapF T.rs.length ids
   rw[show(T.stO ids).snap T.rs.length ids=⟨T.rs.map (iM (T.stO ids)),ids.map λj=>j0 (T.stO ids) ((T.stO ids).o j)⟩ from by
        unfold St.snap;have:=OA (g:=iM (T.stO ids)) (S:=T.stO ids) (rs:=T.rs) (ds:=[]) (λt _=>rfl);rw[<-this];rfl] at this
   exact this)⟩) 0 _ (vA.2 rfl) _ O a _ (by simp) (λi=>?_) (.refl _ _) ?_ ?_
  .rw[h0];simp only[fe,Array.getElem?_replicate];split<;>rfl
  .rw[y1];have:=(hg.drew).snapO S.rs.length ids
   rw[show(S.st ids).snapO S.rs.length ids=⟨S.rs.map λs=>lP (S.st ids) (cJ s),ids.map λj=>j0 (S.st ids) ((S.st ids).o j)⟩ from by
        unfold St.snapO
        have:=OA (g:=λs=>lP (S.st ids) (cJ s)) (S:=S.st ids) (rs:=S.rs) (ds:=[]) (λt _=>by
         show lP _ (cJ (S.rs.getD t .none))=lP _ (cJ (cJ (S.rs.getD t .none)));cases S.rs.getD t .none<;>rfl)
        have h2:(λt=>lP (S.st ids) (cJ ((S.st ids).r t)))=λt=>lP (S.st ids) ((S.st ids).r t):=by
         funext t;show lP _ (cJ (cJ (S.rs.getD t .none)))=lP _ (cJ (S.rs.getD t .none));cases S.rs.getD t .none<;>rfl
        rw[h2] at this;rw[<-this];rfl] at this
   exact this
  .rw[<-hlen,awN];exact ak
end
end Cx
