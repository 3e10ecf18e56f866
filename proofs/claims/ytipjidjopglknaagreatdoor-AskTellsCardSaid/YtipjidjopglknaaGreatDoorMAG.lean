/-
  Shared texts of this claim.
-/
import Derived.Test.YtipjidjopglknaaGreatDoorMAF
set_option linter.defProp false
set_option linter.unusedSimpArgs false
set_option linter.unusedVariables false
namespace Cx
open Go Go.RowKit
def ZJ:Value->Value->Bool
 |.int k n,.int k' m=>k==k'&&n==m
 |.bool a,.bool b=>a==b
 |.string a,.string b=>decide (a=b)
 |.nilFunc,.nilFunc=>true
 |_,_=>false
def aCB:∀a b,ZJ a b=true->a=b:=by
 intro a b h;unfold ZJ at h;split at h
 .simp only[au,beq_iff_eq] at h;rw[h.1,h.2]
 .simp only[beq_iff_eq] at h;rw[h]
 .simp only[decide_eq_true_eq] at h;rw[h]
 .rfl
 .cases h
mutual
def D.beq:D->D->Bool
 |.v a,e=>match e with|.v b=>ZJ a b|_=>false
 |.agg a,e=>match e with|.agg b=>D.beqs a b|_=>false
 |.list a,e=>match e with|.list b=>D.beqs a b|_=>false
 |.tup a,e=>match e with|.tup b=>D.beqs a b|_=>false
 |.map a,e=>match e with|.map b=>a.isEmpty&&b.isEmpty|_=>false
 |.ref a,e=>match e with|.ref b=>D.beq a b|_=>false
 |.clo f a,e=>match e with|.clo g b=>Nat.beq f g&&D.beqs a b|_=>false
 |.none,e=>match e with|.none=>true|_=>false
def D.beqs:List D->List D->Bool
 |[],e=>match e with|[]=>true|_=>false
 |a::aa,e=>match e with|b::bs=>D.beq a b&&D.beqs aa bs|_=>false
end
mutual
def D.beq_eq:∀a b:D,D.beq a b=true->a=b
 |.v a,e,h=>by cases e<;>first|(simp only[D.beq] at h;rw[aCB _ _ h])|cases h
 |.agg a,e,h=>by cases e<;>first|(simp only[D.beq] at h;rw[D.beqs_eq _ _ h])|cases h
 |.list a,e,h=>by cases e<;>first|(simp only[D.beq] at h;rw[D.beqs_eq _ _ h])|cases h
 |.tup a,e,h=>by cases e<;>first|(simp only[D.beq] at h;rw[D.beqs_eq _ _ h])|cases h
 |.map a,e,h=>by
  cases e<;>first|(simp only[D.beq,au,vG] at h;rw[h.1,h.2])|cases h
 |.ref a,e,h=>by cases e<;>first|(simp only[D.beq] at h;rw[D.beq_eq _ _ h])|cases h
 |.clo f a,e,h=>by cases e<;>first|(simp only[D.beq,au] at h;rw[aC h.1,D.beqs_eq _ _ h.2])|cases h
 |.none,e,h=>by cases e<;>first|rfl|cases h
def D.beqs_eq:∀a b:List D,D.beqs a b=true->a=b
 |[],e,h=>by cases e<;>first|rfl|cases h
 |a::aa,e,h=>by
  cases e with
  |nil=>cases h
  |cons b bs=>simp only[D.beqs,au] at h;rw[D.beq_eq _ _ h.1,D.beqs_eq _ _ h.2]
end
mutual
def PE.beq:PE->PE->Bool
 |.r a,e=>match e with|.r b=>Nat.beq a b|_=>false
 |.o a,e=>match e with|.o b=>Nat.beq a b|_=>false
 |.con a,e=>match e with|.con b=>D.beq a b|_=>false
 |.cell x i,e=>match e with|.cell y j=>PE.beq x y&&Nat.beq i j|_=>false
 |.sub x i n,e=>match e with|.sub y j m=>PE.beq x y&&(Nat.beq i j&&Nat.beq n m)|_=>false
 |.setc x i z,e=>match e with|.setc y j u=>PE.beq x y&&(Nat.beq i j&&PE.beq z u)|_=>false
 |.mk x,e=>match e with|.mk y=>PE.beqs x y|_=>false
 |.ai op k x y,e=>match e with|.ai zJ k' x' y'=>op==zJ&&(k==k'&&(PE.beq x x'&&PE.beq y y'))|_=>false
 |.ci op x y,e=>match e with|.ci zJ x' y'=>op==zJ&&(PE.beq x x'&&PE.beq y y')|_=>false
 |.cb op x y,e=>match e with|.cb zJ x' y'=>op==zJ&&(PE.beq x x'&&PE.beq y y')|_=>false
 |.cs op x y,e=>match e with|.cs zJ x' y'=>op==zJ&&(PE.beq x x'&&PE.beq y y')|_=>false
 |.sadd x y,e=>match e with|.sadd x' y'=>PE.beq x x'&&PE.beq y y'|_=>false
 |.nt x,e=>match e with|.nt y=>PE.beq x y|_=>false
 |.conv k x,e=>match e with|.conv k' y=>k==k'&&PE.beq x y|_=>false
 |.pick c x y,e=>match e with|.pick c' x' y'=>PE.beq c c'&&(PE.beq x x'&&PE.beq y y')|_=>false
 |.llen x,e=>match e with|.llen y=>PE.beq x y|_=>false
 |.bytes x,e=>match e with|.bytes y=>PE.beq x y|_=>false
 |.slen x,e=>match e with|.slen y=>PE.beq x y|_=>false
 |.mlen x,e=>match e with|.mlen y=>PE.beq x y|_=>false
 |.nth x y,e=>match e with|.nth x' y'=>PE.beq x x'&&PE.beq y y'|_=>false
 |.idx x y,e=>match e with|.idx x' y'=>PE.beq x x'&&PE.beq y y'|_=>false
 |.sidx x y,e=>match e with|.sidx x' y'=>PE.beq x x'&&PE.beq y y'|_=>false
 |.sok x y,e=>match e with|.sok x' y'=>PE.beq x x'&&PE.beq y y'|_=>false
 |.setn x i n y,e=>match e with|.setn x' i' n' y'=>PE.beq x x'&&(PE.beq i i'&&(Nat.beq n n'&&PE.beq y y'))|_=>false
 |.app x y,e=>match e with|.app x' y'=>PE.beq x x'&&PE.beq y y'|_=>false
 |.lst x,e=>match e with|.lst y=>PE.beqs x y|_=>false
 |.rep x y,e=>match e with|.rep x' y'=>PE.beq x x'&&PE.beq y y'|_=>false
 |.slc c x y,e=>match e with|.slc c' x' y'=>PE.beq c c'&&(PE.beq x x'&&PE.beq y y')|_=>false
 |.slok c x y,e=>match e with|.slok c' x' y'=>PE.beq c c'&&(PE.beq x x'&&PE.beq y y')|_=>false
 |.ref x,e=>match e with|.ref y=>PE.beq x y|_=>false
 |.deref x,e=>match e with|.deref y=>PE.beq x y|_=>false
 |.look c x y,e=>match e with|.look c' x' y'=>PE.beq c c'&&(PE.beq x x'&&PE.beq y y')|_=>false
 |.has x y,e=>match e with|.has x' y'=>PE.beq x x'&&PE.beq y y'|_=>false
 |.put c x y,e=>match e with|.put c' x' y'=>PE.beq c c'&&(PE.beq x x'&&PE.beq y y')|_=>false
 |.mn x y,e=>match e with|.mn x' y'=>PE.beq x x'&&PE.beq y y'|_=>false
 |.mx x y,e=>match e with|.mx x' y'=>PE.beq x x'&&PE.beq y y'|_=>false
 |.tup x,e=>match e with|.tup y=>PE.beqs x y|_=>false
 |.tget x i,e=>match e with|.tget y j=>PE.beq x y&&Nat.beq i j|_=>false
 |.clo f x,e=>match e with|.clo g y=>Nat.beq f g&&PE.beqs x y|_=>false
 |.an x y,e=>match e with|.an x' y'=>PE.beq x x'&&PE.beq y y'|_=>false
 |.imp c x,e=>match e with|.imp c' y=>um c c'&&PE.beq x y|_=>false
def PE.beqs:List PE->List PE->Bool
 |[],e=>match e with|[]=>true|_=>false
 |a::aa,e=>match e with|b::bs=>PE.beq a b&&PE.beqs aa bs|_=>false
end
def dp {a b:Nat}(h:Nat.beq a b=true):a=b:=aC h
mutual
def PE.beq_eq:∀a b:PE,PE.beq a b=true->a=b
 |.r a,e,h=>by cases e<;>first|(rw[dp h])|cases h
 |.o a,e,h=>by cases e<;>first|(rw[dp h])|cases h
 |.con a,e,h=>by cases e<;>first|(rw[D.beq_eq _ _ h])|cases h
 |.cell x i,e,h=>by cases e<;>first|(simp only[PE.beq,au] at h;rw[PE.beq_eq _ _ h.1,dp h.2])|cases h
 |.sub x i n,e,h=>by cases e<;>first|(simp only[PE.beq,au] at h;rw[PE.beq_eq _ _ h.1,dp h.2.1,dp h.2.2])|cases h
 |.setc x i z,e,h=>by cases e<;>first|(simp only[PE.beq,au] at h;rw[PE.beq_eq _ _ h.1,dp h.2.1,PE.beq_eq _ _ h.2.2])|cases h
 |.mk x,e,h=>by cases e<;>first|(simp only[PE.beq] at h;rw[PE.beqs_eq _ _ h])|cases h
 |.ai op k x y,e,h=>by cases e<;>first|(simp only[PE.beq,au,beq_iff_eq] at h;rw[h.1,h.2.1,PE.beq_eq _ _ h.2.2.1,PE.beq_eq _ _ h.2.2.2])|cases h
 |.ci op x y,e,h=>by cases e<;>first|(simp only[PE.beq,au,beq_iff_eq] at h;rw[h.1,PE.beq_eq _ _ h.2.1,PE.beq_eq _ _ h.2.2])|cases h
 |.cb op x y,e,h=>by cases e<;>first|(simp only[PE.beq,au,beq_iff_eq] at h;rw[h.1,PE.beq_eq _ _ h.2.1,PE.beq_eq _ _ h.2.2])|cases h
 |.cs op x y,e,h=>by cases e<;>first|(simp only[PE.beq,au,beq_iff_eq] at h;rw[h.1,PE.beq_eq _ _ h.2.1,PE.beq_eq _ _ h.2.2])|cases h
 |.sadd x y,e,h=>by cases e<;>first|(simp only[PE.beq,au] at h;rw[PE.beq_eq _ _ h.1,PE.beq_eq _ _ h.2])|cases h
 |.nt x,e,h=>by cases e<;>first|(simp only[PE.beq] at h;rw[PE.beq_eq _ _ h])|cases h
 |.conv k x,e,h=>by cases e<;>first|(simp only[PE.beq,au,beq_iff_eq] at h;rw[h.1,PE.beq_eq _ _ h.2])|cases h
 |.pick c x y,e,h=>by cases e<;>first|(simp only[PE.beq,au] at h;rw[PE.beq_eq _ _ h.1,PE.beq_eq _ _ h.2.1,PE.beq_eq _ _ h.2.2])|cases h
 |.llen x,e,h=>by cases e<;>first|(simp only[PE.beq] at h;rw[PE.beq_eq _ _ h])|cases h
 |.bytes x,e,h=>by cases e<;>first|(simp only[PE.beq] at h;rw[PE.beq_eq _ _ h])|cases h
 |.slen x,e,h=>by cases e<;>first|(simp only[PE.beq] at h;rw[PE.beq_eq _ _ h])|cases h
 |.mlen x,e,h=>by cases e<;>first|(simp only[PE.beq] at h;rw[PE.beq_eq _ _ h])|cases h
 |.nth x y,e,h=>by cases e<;>first|(simp only[PE.beq,au] at h;rw[PE.beq_eq _ _ h.1,PE.beq_eq _ _ h.2])|cases h
 |.idx x y,e,h=>by cases e<;>first|(simp only[PE.beq,au] at h;rw[PE.beq_eq _ _ h.1,PE.beq_eq _ _ h.2])|cases h
 |.sidx x y,e,h=>by cases e<;>first|(simp only[PE.beq,au] at h;rw[PE.beq_eq _ _ h.1,PE.beq_eq _ _ h.2])|cases h
 |.sok x y,e,h=>by cases e<;>first|(simp only[PE.beq,au] at h;rw[PE.beq_eq _ _ h.1,PE.beq_eq _ _ h.2])|cases h
 |.setn x i n y,e,h=>by cases e<;>first|(simp only[PE.beq,au] at h;rw[PE.beq_eq _ _ h.1,PE.beq_eq _ _ h.2.1,dp h.2.2.1,PE.beq_eq _ _ h.2.2.2])|cases h
 |.app x y,e,h=>by cases e<;>first|(simp only[PE.beq,au] at h;rw[PE.beq_eq _ _ h.1,PE.beq_eq _ _ h.2])|cases h
 |.lst x,e,h=>by cases e<;>first|(simp only[PE.beq] at h;rw[PE.beqs_eq _ _ h])|cases h
 |.rep x y,e,h=>by cases e<;>first|(simp only[PE.beq,au] at h;rw[PE.beq_eq _ _ h.1,PE.beq_eq _ _ h.2])|cases h
 |.slc c x y,e,h=>by cases e<;>first|(simp only[PE.beq,au] at h;rw[PE.beq_eq _ _ h.1,PE.beq_eq _ _ h.2.1,PE.beq_eq _ _ h.2.2])|cases h
 |.slok c x y,e,h=>by cases e<;>first|(simp only[PE.beq,au] at h;rw[PE.beq_eq _ _ h.1,PE.beq_eq _ _ h.2.1,PE.beq_eq _ _ h.2.2])|cases h
 |.ref x,e,h=>by cases e<;>first|(simp only[PE.beq] at h;rw[PE.beq_eq _ _ h])|cases h
 |.deref x,e,h=>by cases e<;>first|(simp only[PE.beq] at h;rw[PE.beq_eq _ _ h])|cases h
 |.look c x y,e,h=>by cases e<;>first|(simp only[PE.beq,au] at h;rw[PE.beq_eq _ _ h.1,PE.beq_eq _ _ h.2.1,PE.beq_eq _ _ h.2.2])|cases h
 |.has x y,e,h=>by cases e<;>first|(simp only[PE.beq,au] at h;rw[PE.beq_eq _ _ h.1,PE.beq_eq _ _ h.2])|cases h
 |.put c x y,e,h=>by cases e<;>first|(simp only[PE.beq,au] at h;rw[PE.beq_eq _ _ h.1,PE.beq_eq _ _ h.2.1,PE.beq_eq _ _ h.2.2])|cases h
 |.mn x y,e,h=>by cases e<;>first|(simp only[PE.beq,au] at h;rw[PE.beq_eq _ _ h.1,PE.beq_eq _ _ h.2])|cases h
 |.mx x y,e,h=>by cases e<;>first|(simp only[PE.beq,au] at h;rw[PE.beq_eq _ _ h.1,PE.beq_eq _ _ h.2])|cases h
 |.tup x,e,h=>by cases e<;>first|(simp only[PE.beq] at h;rw[PE.beqs_eq _ _ h])|cases h
 |.tget x i,e,h=>by cases e<;>first|(simp only[PE.beq,au] at h;rw[PE.beq_eq _ _ h.1,dp h.2])|cases h
 |.clo f x,e,h=>by cases e<;>first|(simp only[PE.beq,au] at h;rw[dp h.1,PE.beqs_eq _ _ h.2])|cases h
 |.an x y,e,h=>by cases e<;>first|(simp only[PE.beq,au] at h;rw[PE.beq_eq _ _ h.1,PE.beq_eq _ _ h.2])|cases h
 |.imp c x,e,h=>by cases e<;>first|(simp only[PE.beq,au] at h;rw[FC _ _ h.1,PE.beq_eq _ _ h.2])|cases h
def PE.beqs_eq:∀a b:List PE,PE.beqs a b=true->a=b
 |[],e,h=>by cases e<;>first|rfl|cases h
 |a::aa,e,h=>by
  cases e with
  |nil=>cases h
  |cons b bs=>simp only[PE.beqs,au] at h;rw[PE.beq_eq _ _ h.1,PE.beqs_eq _ _ h.2]
end
def PI.beq:PI->PI->Bool
 |.setR t x,e=>match e with|.setR u y=>Nat.beq t u&&PE.beq x y|_=>false
 |.setO t x,e=>match e with|.setO u y=>Nat.beq t u&&PE.beq x y|_=>false
 |.chk x,e=>match e with|.chk y=>PE.beq x y|_=>false
 |.call gs d f aa,e=>match e with|.call cd d' f' Ei=>um gs cd&&(Nat.beq d d'&&(Nat.beq f f'&&PE.beqs aa Ei))|_=>false
 |.callc gs d f aa,e=>match e with|.callc cd d' f' Ei=>um gs cd&&(Nat.beq d d'&&(PE.beq f f'&&PE.beqs aa Ei))|_=>false
 |.mcall d f aa,e=>match e with|.mcall d' f' Ei=>Nat.beq d d'&&(Nat.beq f f'&&PE.beqs aa Ei)|_=>false
def PI.beq_eq:∀a b:PI,PI.beq a b=true->a=b:=by
 intro a b h;cases a<;>cases b<;>first
  |(cases h;done)
  |(simp only[PI.beq,au] at h;first
       |rw[dp h.1,PE.beq_eq _ _ h.2]
       |rw[PE.beq_eq _ _ h]
       |rw[FC _ _ h.1,dp h.2.1,dp h.2.2.1,PE.beqs_eq _ _ h.2.2.2]
       |rw[FC _ _ h.1,dp h.2.1,PE.beq_eq _ _ h.2.2.1,PE.beqs_eq _ _ h.2.2.2]
       |rw[dp h.1,dp h.2.1,PE.beqs_eq _ _ h.2.2])
def PI.beqs:List PI->List PI->Bool
 |[],e=>match e with|[]=>true|_=>false
 |a::aa,e=>match e with|b::bs=>PI.beq a b&&PI.beqs aa bs|_=>false
def PI.beqs_eq:∀a b:List PI,PI.beqs a b=true->a=b
 |[],e,h=>by cases e<;>first|rfl|cases h
 |a::aa,e,h=>by
  cases e with
  |nil=>cases h
  |cons b bs=>simp only[PI.beqs,au] at h;rw[PI.beq_eq _ _ h.1,PI.beqs_eq _ _ h.2]
structure Lk where
 r:Nat
 o:List Nat
def Lk.or (a b:Lk):Lk:=⟨Nat.lor a.r b.r,a.o++b.o⟩
def Lk.none:Lk:=⟨0,[]⟩
def nf:List (Nat×Bool)->Lk
 |[]=>.none
 |g::gs=>⟨Nat.lor (eC g.1) (nf gs).r,(nf gs).o⟩
mutual
def PE.lk:PE->Lk
 |.r t=>⟨eC t,[]⟩
 |.o j=>⟨0,[j]⟩
 |.con _=>.none
 |.cell e _|.sub e _ _|.nt e|.conv _ e|.llen e|.bytes e|.slen e|.mlen e|.ref e|.deref e|.tget e _=>PE.lk e
 |.setc x _ y|.ai _ _ x y|.ci _ x y|.cb _ x y|.cs _ x y|.sadd x y|.nth x y|.idx x y|.sidx x y|.sok x y|.app x y|.rep x y|.has x y|.mn x y|.mx x y|.an x y=>(PE.lk x).or (PE.lk y)
 |.mk es|.lst es|.tup es|.clo _ es=>PE.lks es
 |.pick x y z|.slc x y z|.slok x y z|.look x y z|.put x y z|.setn x y _ z=>(PE.lk x).or ((PE.lk y).or (PE.lk z))
 |.imp c x=>(nf c).or (PE.lk x)
def PE.lks:List PE->Lk
 |[]=>.none
 |e::es=>(PE.lk e).or (PE.lks es)
end
structure Alike (k:Lk) (O O':Env):Prop where
 r:∀t,aA k.r t=true->O'.r t=O.r t
 o:∀j,j∈k.o->O'.o j=O.o j
def Alike.left {a b:Lk}{O O':Env}(h:Alike (a.or b) O O'):Alike a O O':=
 ⟨λt ht=>h.r t (by simp only[Lk.or,gd,ht,AF]),λj hj=>h.o j (ja _ hj)⟩
def Alike.right {a b:Lk}{O O':Env}(h:Alike (a.or b) O O'):Alike b O O':=
 ⟨λt ht=>h.r t (by simp only[Lk.or,gd,ht,oR]),λj hj=>h.o j (jz _ hj)⟩
def Cv {O O':Env}:∀{c:List (Nat×Bool)},Alike (nf c) O O'->holds c O'=holds c O
 |[],_=>rfl
 |g::gs,h=>by
  have ih:=Cv (O:=O) (O':=O') (c:=gs) ⟨λt ht=>h.r t (by simp only[nf,gd,ht,oR]),λj hj=>h.o j hj⟩;have h1:=h.r g.1 (by simp only[nf,gd,se,AF]);unfold holds at ih ⊢;simp only[rW];rw[ih,h1]
mutual
def PE.ev_alike {O O':Env}:∀(e:PE),Alike e.lk O O'->e.ev O'=e.ev O
 |.r t,h=>h.r t (se t)
 |.o j,h=>h.o j (by simp[PE.lk])
 |.con _,h=>rfl
 |.cell e _,h=>by simp only[PE.ev,PE.ev_alike e h]
 |.sub e _ _,h=>by simp only[PE.ev,PE.ev_alike e h]
 |.nt e,h=>by simp only[PE.ev,PE.ev_alike e h]
 |.conv _ e,h=>by simp only[PE.ev,PE.ev_alike e h]
 |.llen e,h=>by simp only[PE.ev,PE.ev_alike e h]
 |.bytes e,h=>by simp only[PE.ev,PE.ev_alike e h]
 |.slen e,h=>by simp only[PE.ev,PE.ev_alike e h]
 |.mlen e,h=>by simp only[PE.ev,PE.ev_alike e h]
 |.ref e,h=>by simp only[PE.ev,PE.ev_alike e h]
 |.deref e,h=>by simp only[PE.ev,PE.ev_alike e h]
 |.tget e _,h=>by simp only[PE.ev,PE.ev_alike e h]
 |.setc x _ y,h=>by simp only[PE.ev,PE.ev_alike x h.left,PE.ev_alike y h.right]
 |.ai _ _ x y,h=>by simp only[PE.ev,PE.ev_alike x h.left,PE.ev_alike y h.right]
 |.ci _ x y,h=>by simp only[PE.ev,PE.ev_alike x h.left,PE.ev_alike y h.right]
 |.cb _ x y,h=>by simp only[PE.ev,PE.ev_alike x h.left,PE.ev_alike y h.right]
 |.cs _ x y,h=>by simp only[PE.ev,PE.ev_alike x h.left,PE.ev_alike y h.right]
 |.sadd x y,h=>by simp only[PE.ev,PE.ev_alike x h.left,PE.ev_alike y h.right]
 |.nth x y,h=>by simp only[PE.ev,PE.ev_alike x h.left,PE.ev_alike y h.right]
 |.idx x y,h=>by simp only[PE.ev,PE.ev_alike x h.left,PE.ev_alike y h.right]
 |.sidx x y,h=>by simp only[PE.ev,PE.ev_alike x h.left,PE.ev_alike y h.right]
 |.sok x y,h=>by simp only[PE.ev,PE.ev_alike x h.left,PE.ev_alike y h.right]
 |.app x y,h=>by simp only[PE.ev,PE.ev_alike x h.left,PE.ev_alike y h.right]
 |.rep x y,h=>by simp only[PE.ev,PE.ev_alike x h.left,PE.ev_alike y h.right]
 |.has x y,h=>by simp only[PE.ev,PE.ev_alike x h.left,PE.ev_alike y h.right]
 |.mn x y,h=>by simp only[PE.ev,PE.ev_alike x h.left,PE.ev_alike y h.right]
 |.mx x y,h=>by simp only[PE.ev,PE.ev_alike x h.left,PE.ev_alike y h.right]
 |.an x y,h=>by simp only[PE.ev,PE.ev_alike x h.left,PE.ev_alike y h.right]
 |.mk es,h=>by simp only[PE.ev,PE.evc_alike es h]
 |.lst es,h=>by simp only[PE.ev,PE.evs_alike es h]
 |.tup es,h=>by simp only[PE.ev,PE.evs_alike es h]
 |.clo _ es,h=>by simp only[PE.ev,PE.evs_alike es h]
 |.pick x y z,h=>by simp only[PE.ev,PE.ev_alike x h.left,PE.ev_alike y h.right.left,PE.ev_alike z h.right.right]
 |.slc x y z,h=>by simp only[PE.ev,PE.ev_alike x h.left,PE.ev_alike y h.right.left,PE.ev_alike z h.right.right]
 |.slok x y z,h=>by simp only[PE.ev,PE.ev_alike x h.left,PE.ev_alike y h.right.left,PE.ev_alike z h.right.right]
 |.look x y z,h=>by simp only[PE.ev,PE.ev_alike x h.left,PE.ev_alike y h.right.left,PE.ev_alike z h.right.right]
 |.put x y z,h=>by simp only[PE.ev,PE.ev_alike x h.left,PE.ev_alike y h.right.left,PE.ev_alike z h.right.right]
 |.setn x y _ z,h=>by simp only[PE.ev,PE.ev_alike x h.left,PE.ev_alike y h.right.left,PE.ev_alike z h.right.right]
 |.imp c x,h=>by simp only[PE.ev,Cv h.left,PE.ev_alike x h.right]
def PE.evs_alike {O O':Env}:∀(es:List PE),Alike (PE.lks es) O O'->PE.evs O' es=PE.evs O es
 |[],h=>rfl
 |e::es,h=>by simp only[PE.evs,PE.ev_alike e h.left,PE.evs_alike es h.right]
def PE.evc_alike {O O':Env}:∀(es:List PE),Alike (PE.lks es) O O'->PE.evc O' es=PE.evc O es
 |[],h=>rfl
 |e::es,h=>by simp only[PE.evc,PE.ev_alike e h.left,PE.evc_alike es h.right]
end
def PI.lk:PI->Lk
 |.setR _ e|.setO _ e|.chk e=>e.lk
 |.call gs _ _ aa=>(nf gs).or (PE.lks aa)
 |.callc gs _ e aa=>(nf gs).or (e.lk.or (PE.lks aa))
 |.mcall _ _ aa=>PE.lks aa
inductive Eff where
 |skip
 |r (t:Nat) (d:D)
 |o (j:Nat) (d:D)
def Eff.app (O:Env):Eff->Env
 |.skip=>O
 |.r t d=>O.setR t d
 |.o j d=>O.setO j d
def PI.eff (Z:aQ)(O:Env):PI->Option Eff
 |.setR t e=>some (.r t (e.ev O))
 |.setO j e=>some (.o j (e.ev O))
 |.chk e=>bif (e.ev O).b then some .skip else none
 |.call gs dst f args=>bif holds gs O then(Z f (PE.evs O args)).map (.r dst) else some .skip
 |.callc gs dst e args=>bif holds gs O then(match e.ev O with|.clo f caps=>(Z f (PE.evs O args++caps)).map (.r dst)|_=>none) else some .skip
 |.mcall j f args=>(Z f (PE.evs O args)).map (.o j)
def PI.run_eff (Z:aQ)(O:Env)(p:PI):p.run Z O=(p.eff Z O).map (Eff.app O):=by
 cases p with
 |setR t e=>rfl
 |setO t e=>rfl
 |chk e=>simp only[PI.run,PI.eff];cases(e.ev O).b<;>rfl
 |call gs d f aa=>
  simp only[PI.run,PI.eff];cases holds gs O
  .rfl
  .simp only[zyy,aak];rfl
 |callc gs d e aa=>
  simp only[PI.run,PI.eff];cases holds gs O
  .rfl
  .simp only[zyy];cases e.ev O<;>first|rfl|(simp only[aak];rfl)
 |mcall j f aa=>simp only[PI.run,PI.eff,aak];rfl
def PI.eff_alike {Z:aQ}{O O':Env}(p:PI)(h:Alike p.lk O O'):p.eff Z O'=p.eff Z O:=by
 cases p with
 |setR t e=>simp only[PI.eff,PE.ev_alike e h]
 |setO t e=>simp only[PI.eff,PE.ev_alike e h]
 |chk e=>simp only[PI.eff,PE.ev_alike e h]
 |call gs d f aa=>simp only[PI.eff,Cv h.left,PE.evs_alike aa h.right]
 |callc gs d e aa=>simp only[PI.eff,Cv h.left,PE.ev_alike e h.right.left,PE.evs_alike aa h.right.right]
 |mcall j f aa=>simp only[PI.eff,PE.evs_alike aa h]
def PI.wo:PI->List Nat
 |.setO j _|.mcall j _ _=>[j]
 |_=>[]
def Eff.within (m:Nat)(l:List Nat):Eff->Prop
 |.skip=>True
 |.r t _=>aA m t=true
 |.o j _=>j∈l
def PI.eff_within {Z:aQ}{O:Env}{p:PI}{x:Eff}(h:p.eff Z O=some x):x.within p.mask p.wo:=by
 cases p with
 |setR t e=>simp only[PI.eff,aX] at h;subst h;exact se t
 |setO t e=>simp only[PI.eff,aX] at h;subst h;simp[Eff.within,PI.wo]
 |chk e=>simp only[PI.eff] at h;cases hb:(e.ev O).b<;>rw[hb] at h<;>cases h;trivial
 |call gs d f aa=>
  simp only[PI.eff] at h;cases hb:holds gs O<;>simp only[hb,zyy,zyx,aX,aD] at h
  .subst h;trivial
  .obtain⟨d,_,rfl⟩:=h;exact se _
 |callc gs d e aa=>
  simp only[PI.eff] at h;cases hb:holds gs O<;>simp only[hb,zyy,zyx,aX] at h
  .subst h;trivial
  .split at h
   .simp only[aD] at h;obtain⟨d,_,rfl⟩:=h;exact se _
   .cases h
 |mcall j f aa=>simp only[PI.eff,aD] at h;obtain⟨d,_,rfl⟩:=h;simp[Eff.within,PI.wo]
def Jn (a b:List Nat):Bool:=a.all λx=> !fR b x
structure Foot where
 wr:Nat
 wo:List Nat
 k:Lk
def jd:List PI->Foot
 |[]=>⟨0,[],.none⟩
 |p::l=>⟨Nat.lor p.mask (jd l).wr,p.wo++(jd l).wo,p.lk.or (jd l).k⟩
def Foot.comm (a b:Foot):Bool:=
 Nat.beq (Nat.land a.wr b.wr) 0&&(Nat.beq (Nat.land a.wr b.k.r) 0&&(Nat.beq (Nat.land b.wr a.k.r) 0&&
    (Jn a.wo b.wo&&(Jn a.wo b.k.o&&Jn b.wo a.k.o))))
def Th {a b t:Nat}(h:Nat.beq (Nat.land a b) 0=true)(ha:aA a t=true)(hb:aA b t=true):False:=by
 have h1:=dp h;have h2:(a&&& b).testBit t=true:=by rw[Nat.testBit_and,<-tX,<-tX,ha,hb];rfl
 have h3:(a&&& b)=0:=h1;rw[h3] at h2;simp at h2
def PH {a b:List Nat}(h:Jn a b=true){x:Nat}(ha:x∈a)(hb:x∈b):False:=by
 have:=bR.1 h x ha;rw[(rp b x).2 hb] at this;cases this
structure Comm (p q:PI):Prop where
 ww:∀t,aA p.mask t=true->aA q.mask t=true->False
 wr:∀t,aA p.mask t=true->aA q.lk.r t=true->False
 rw:∀t,aA q.mask t=true->aA p.lk.r t=true->False
 oww:∀t,t∈p.wo->t∈q.wo->False
 owr:∀t,t∈p.wo->t∈q.lk.o->False
 orw:∀t,t∈q.wo->t∈p.lk.o->False
def Eff.alike {x:Eff}{m:Nat}{l:List Nat}{k:Lk}{O:Env}(h:x.within m l)(h1:∀t,aA m t=true->aA k.r t=true->False)(h2:∀t,t∈l->t∈k.o->False):Alike k O (x.app O):=by
 cases x with
 |skip=>exact⟨λ_ _=>rfl,λ_ _=>rfl⟩
 |r t d=>exact⟨λu hu=>bF _ _ (λe=>h1 t h (e▸hu)),λ_ _=>rfl⟩
 |o t d=>exact⟨λ_ _=>rfl,λu hu=>bF _ _ (λe=>h2 t h (e▸hu))⟩
def akV {α:Type}(f:Nat->α){i j:Nat}(x y:α)(h:i≠j):cr (cr f i x) j y=cr (cr f j y) i x:=by
 funext t;simp only[fY];by_cases h1:t=i
 .subst h1;simp[h]
 .simp[h1]
def Eff.comm {x y:Eff}{m m':Nat}{l l':List Nat}{O:Env}(hx:x.within m l)(hy:y.within m' l')(h1:∀t,aA m t=true->aA m' t=true->False)(h2:∀t,t∈l->t∈l'->False):
 y.app (x.app O)=x.app (y.app O):=by
 cases x with
 |skip=>rfl
 |r t d=>
  cases y with
  |skip=>rfl
  |r u e=>
   have aB:t≠u:=λe=>h1 t hx (by subst e;exact hy);show Env.setR (Env.setR O t d) u e=Env.setR (Env.setR O u e) t d;simp only[Env.setR];rw[akV _ _ _ aB]
  |o u e=>rfl
 |o t d=>
  cases y with
  |skip=>rfl
  |r u e=>rfl
  |o u e=>
   have aB:t≠u:=λe=>h2 t hx (by subst e;exact hy);show Env.setO (Env.setO O t d) u e=Env.setO (Env.setO O u e) t d;simp only[Env.setO];rw[akV _ _ _ aB]
def PI.comm {Z:aQ}{p q:PI}(h:Comm p q)(O:Env):(p.run Z O).bind (q.run Z)=(q.run Z O).bind (p.run Z):=by
 simp only[PI.run_eff];cases hp:p.eff Z O with
 |none=>
  cases hq:q.eff Z O with
  |none=>rfl
  |some y=>
   have:=PI.eff_alike (Z:=Z) p (Eff.alike (O:=O) (PI.eff_within hq) h.rw h.orw);simp[PI.run_eff,this,hp]
 |some x=>
  have hx:=PI.eff_within hp;have e1:=PI.eff_alike (Z:=Z) q (Eff.alike (O:=O) hx h.wr h.owr);cases hq:q.eff Z O with
  |none=>simp[PI.run_eff,e1,hq]
  |some y=>
   have hy:=PI.eff_within hq;have e2:=PI.eff_alike (Z:=Z) p (Eff.alike (O:=O) hy h.rw h.orw);simp only[kO,kM,PI.run_eff,e1,e2,hp,hq];rw[Eff.comm hx hy h.ww h.oww]
def PI.comm1 {Z:aQ}{p:PI}:∀(l:List PI),(∀q,q∈l->Comm p q)->∀O,(p.run Z O).bind (PI.runs Z l)=(PI.runs Z l O).bind (p.run Z)
 |[],_,O=>by simp only[PI.runs];cases h:p.run Z O<;>simp[h]
 |q::l,h,O=>by
  have ih:=PI.comm1 (Z:=Z) l λq hq=>h q (dV _ hq);have hc:=PI.comm (Z:=Z) (h q (dZ ..)) O;simp only[PI.runs];have e1:((p.run Z O).bind λρ1=>(q.run Z ρ1).bind (PI.runs Z l))=((p.run Z O).bind (q.run Z)).bind (PI.runs Z l):=by cases p.run Z O<;>rfl
  show((p.run Z O).bind λρ1=>(q.run Z ρ1).bind (PI.runs Z l))=_;rw[e1,hc];cases q.run Z O with
  |none=>rfl
  |some ρ1=>simp only[kM];exact ih ρ1
def PI.comms {Z:aQ}:∀(a b:List PI),(∀p q,p∈a->q∈b->Comm p q)->∀O,PI.runs Z (a++b) O=PI.runs Z (b++a) O
 |[],b,_,O=>by simp
 |p::a,b,h,O=>by
  have ih:=PI.comms (Z:=Z) a b λp q hp hq=>h p q (dV _ hp) hq;have h1:=PI.comm1 (Z:=Z) b (λq hq=>h p q (dZ ..) hq);simp only[Ja,PI.runs,qg];have e1:((p.run Z O).bind (PI.runs Z (a++b)))=(p.run Z O).bind (PI.runs Z (b++a)):=by
   cases p.run Z O with
   |none=>rfl
   |some ρ1=>exact ih ρ1
  rw[e1];have e2:PI.runs Z (b++a)=λO=>(PI.runs Z b O).bind (PI.runs Z a):=funext λO=>qg;rw[e2];have e3:((p.run Z O).bind λO=>(PI.runs Z b O).bind (PI.runs Z a))=((p.run Z O).bind (PI.runs Z b)).bind (PI.runs Z a):=by cases p.run Z O<;>rfl
  rw[e3,h1 O];cases PI.runs Z b O with
  |none=>rfl
  |some ρ1=>rfl
def abS {l:List PI}{p:PI}(h:p∈l):(∀t,aA p.mask t=true->aA (jd l).wr t=true)/\(∀t,t∈p.wo->t∈(jd l).wo)/\(∀t,aA p.lk.r t=true->aA (jd l).k.r t=true)/\∀t,t∈p.lk.o->t∈(jd l).k.o:=by
 induction l with
 |nil=>cases h
 |cons q l ih=>
  rcases cU.1 h with e|h
  .subst e;refine⟨λt ht=>?_,λt ht=>ja _ ht,λt ht=>?_,λt ht=>ja _ ht⟩
   .simp only[jd,gd,ht,AF]
   .simp only[jd,Lk.or,gd,ht,AF]
  .obtain⟨h1,h2,h3,h4⟩:=ih h;refine⟨λt ht=>?_,λt ht=>jz _ (h2 t ht),λt ht=>?_,λt ht=>jz _ (h4 t ht)⟩
   .simp only[jd,gd,h1 t ht,oR]
   .simp only[jd,Lk.or,gd,h3 t ht,oR]
def jS (S:St)(dst:Nat)(S':St):Prop:=∀t,t≠dst->S'.r t=S.r t
section
variable {C:Ctx} {S:St} {gs:List (Nat×Bool)} {dst:Nat} {r:St×List PI}
def iT {X:St}{s:Sh}(h:X.r=S.r):jS S dst (X.setR dst s):=λt ht=>by simp only[St.setR,bF _ _ ht,h]
def aqc (S:St)(j:Nat):(S.fz j).r=S.r:=(Lo S j).2
def aoj {T:TypeId}{x:Operand}(h:Fj C S dst T x=some r):jS S dst r.1:=by
 unfold Fj at h;split at h
 .simp only[aD] at h;obtain⟨e,_,rfl⟩:=h;exact iT rfl
 .cases h
def aop {T:TypeId}{x:Operand}(h:vX C S dst T x=some r):jS S dst r.1:=by
 unfold vX at h;split at h
 .rename_i v;simp only[ay] at h;obtain⟨e,_,z,_,h⟩:=h;cases hc:kl e v<;>simp only[hc,zyy,zyx] at h<;>cases h;exact iT rfl
 .cases h
def anP {T:TypeId}(h:E8 C S dst T=some r):jS S dst r.1:=by
 unfold E8 at h;split at h
 .rename_i t inf ag _ _ _;cases hc:(vy inf t&&(t.rowT||t.one))<;>simp only[hc,zyy,zyx] at h
  .cases h
  .simp only[aD] at h;obtain⟨e,_,rfl⟩:=h;exact iT rfl
 .cases h
def anT {T:TypeId}{x:Operand}(h:Fa C S dst T x=some r):jS S dst r.1:=by
 unfold Fa at h;split at h
 .rename_i t e ag _ _;cases hc:(t.rowT||t.one)<;>simp only[hc,zyy,zyx] at h<;>cases h;exact iT rfl
 .split at h
  .cases h;exact iT rfl
  .cases h
 .cases h
def aod {T:TypeId}{x:Option Operand}(h:Fg C S dst T x=some r):jS S dst r.1:=by
 unfold Fg at h;split at h
 .simp only[ay,aD] at h;obtain⟨e,_,z,_,rfl⟩:=h;exact iT rfl
 .cases h
def aol {T:TypeId}{x:Operand}(h:Fk C S dst T x=some r):jS S dst r.1:=by
 unfold Fk at h;split at h
 case h_2=>cases h
 rename_i K E j ver hT es;cases hb:(Nat.beq ver (S.ver j)&& !Nat.beq j dst)<;>simp only[hb,zyy,zyx] at h
 .cases h
 split at h
 .cases h;exact iT rfl
 .cases h
def anX {T U:TypeId}{x:Operand}(h:Fb C S dst T U x=some r):jS S dst r.1:=by
 unfold Fb at h;split at h
 .split at h
  .cases h;exact iT rfl
  .cases h
 .cases h
def aof {T:TypeId}{x y:Operand}(h:Fh C S dst T x y=some r):jS S dst r.1:=by
 unfold Fh at h;split at h
 .rename_i E _ n _ m _ _ _;simp only[ay] at h;obtain⟨e,_,h⟩:=h;cases hc:sr C.P E e<;>simp only[hc,zyy,zyx] at h
  .cases h
  .simp only[ay] at h;obtain⟨z,_,h⟩:=h;cases hc2:Ty.sub z.1 e<;>simp only[hc2,zyy,zyx] at h<;>cases h;exact iT rfl
 .cases h
def anV {T:TypeId}{n:Nat}{ps:List (Nat×Operand)}(h:yx C S gs dst T n ps=some r):jS S dst r.1:=by
 unfold yx at h;split at h
 .simp only[ay] at h;obtain⟨e,_,z,_,h⟩:=h
  revert h
  generalize (_&&_:Bool)=b;intro h;cases b<;>simp only[zyy,zyx] at h
  .cases h
  .simp only[aD] at h;obtain⟨es,_,rfl⟩:=h;exact iT rfl
 .cases h
def aob {T:TypeId}{n:Nat}{ps:List (Nat×Operand)}(h:BX C S gs dst T n ps=some r):jS S dst r.1:=by
 unfold BX at h;split at h
 .simp only[ay] at h;obtain⟨e,_,h⟩:=h;split at h
  .cases h;exact iT rfl
  .cases h
 .cases h
def anR {T:TypeId}{x y:Operand}(h:E9 C S dst T x y=some r):jS S dst r.1:=by
 unfold E9 at h;split at h
 .rename_i E _;simp only[ay] at h;obtain⟨e,_,h⟩:=h;split at h
  .rename_i tx ex _;cases hc:(sr C.P E e&&OE tx e)<;>simp only[hc,zyy,zyx] at h
   .cases h
   .split at h
    .cases h;exact iT rfl
    .cases h
    .split at h
     .rename_i j ver _;cases hc:Nat.beq ver (S.ver j)<;>simp only[hc,zyy,zyx] at h
      .cases h
      .split at h
       .rename_i E' e' _;cases hc:(Nat.beq E' E&&Ty.beq e' e)<;>simp only[hc,zyy,zyx] at h<;>cases h;exact iT rfl
       .cases h
     .cases h
  .cases h
 .cases h
def an4 {f:Nat}{xs:List Operand}(h:Fe C S dst f xs=some r):jS S dst r.1:=by
 simp only[Fe,ay] at h;obtain⟨s,_,h⟩:=h;split at h
 .rename_i T e _;simp only[ay] at h;obtain⟨u,_,h⟩:=h;cases hc:Ty.subs u.1 s.args<;>simp only[hc,zyy,zyx] at h<;>cases h;refine iT (X:=(bif e.pure then S else S.fzs (cf S [] xs)).newO dst (.row T e)) ?_;cases e.pure
  .exact(pk _ S).2
  .rfl
 .cases h
def an9 {f:Nat}{xs:List Operand}{q:St×Sh×List PI}(h:qL C S gs dst f xs=some q):q.1.r=S.r:=by
 simp only[qL,ay] at h;obtain⟨s,_,h⟩:=h;split at h
 .simp only[ay] at h;obtain⟨u,_,h⟩:=h;cases hc:Ty.subs u.1 s.args<;>simp only[hc,zyy,zyx] at h<;>cases h;cases s.res.pure
  .exact(pk _ S).2
  .rfl
 .cases h
def an0 {x:Operand}{xs:List Operand}{q:St×Sh×List PI}(h:ph C S gs dst x xs=some q):q.1.r=S.r:=by
 unfold ph at h;split at h
 .rename_i aa r0 _ _;split at h
  case h_1=>cases h
  simp only[ay] at h;obtain⟨u,_,h⟩:=h;cases hc:Ty.subs u.1 aa<;>simp only[hc,zyy,zyx] at h<;>cases h;cases r0.pure
  .exact(pk _ S).2
  .rfl
 .cases h
def aon {T:TypeId}{x v:Operand}(h:vW C S T x v=some r):r.1.r=S.r:=by
 unfold vW at h;split at h
 case h_2=>cases h
 rename_i inf _;split at h
 .rename_i j ver off _;cases hc:Nat.beq ver (S.ver j)<;>simp only[hc,zyy,zyx] at h
  .cases h
  split at h
  case h_2=>cases h
  rename_i ag shs _;split at h
  .revert h
   generalize (_&&_:Bool)=b;intro h;cases b<;>simp only[zyy,zyx] at h<;>cases h;rfl
  .split at h
   .revert h
    generalize (_&&_:Bool)=b;intro h;cases b<;>simp only[zyy,zyx] at h<;>cases h;rfl
   .revert h
    generalize (_&&_:Bool)=b;intro h;cases b<;>simp only[zyy,zyx] at h<;>cases h;rfl
   .cases h
 .rename_i j ver size off _;cases hc:Nat.beq ver (S.ver j)<;>simp only[hc,zyy,zyx] at h
  .cases h
  split at h
  .revert h
   generalize (_&&_:Bool)=b;intro h;cases b<;>simp only[zyy,zyx] at h<;>cases h;rfl
  .revert h
   generalize (_&&_:Bool)=b;intro h;cases b<;>simp only[zyy,zyx] at h<;>cases h;rfl
  .cases h
 .cases h
def abl {T:TypeId}{m k v:Operand}(h:ua C S T m k v=some r):r.1.r=S.r:=by
 unfold ua at h;split at h
 .rename_i K _ j ver _ _;cases hc:Nat.beq ver (S.ver j)<;>simp only[hc,zyy,zyx] at h
  .cases h
  split at h
  .revert h
   generalize (_&&_:Bool)=b;intro h;cases b<;>simp only[zyy,zyx] at h<;>cases h;rfl
  .cases h
 .cases h
def an6 {f:Nat}{xs:List Operand}(h:Ff C S dst f xs=some r):jS S dst r.1:=by
 simp only[Ff,ay] at h;obtain⟨s,_,h⟩:=h;split at h
 case h_2=>cases h
 simp only[ay] at h;obtain⟨u,_,h⟩:=h
 revert h
 generalize (_&&_:Bool)=b;intro h;cases b<;>simp only[zyy,zyx] at h
 .cases h
 cases h;refine iT (X:=St.newRows _ _ _) ?_;exact(pk _ S).2
def an2 {f:Nat}{xs:List Operand}(h:Fc C S dst f xs=some r):jS S dst r.1:=by
 simp only[Fc,ay] at h;obtain⟨s,_,h⟩:=h;split at h
 case h_2=>cases h
 split at h
 case h_2=>cases h
 split at h
 case h_2=>cases h
 revert h
 generalize (_&&_:Bool)=b;intro h;cases b<;>simp only[zyy,zyx] at h
 .cases h
 simp only[ay] at h;obtain⟨u,_,h⟩:=h
 revert h
 generalize Ty.subs _ _=b;intro h;cases b<;>simp only[zyy,zyx] at h
 .cases h
 cases h;exact iT rfl
def QY {f:Nat}{xs:List Operand}{cs:List (Nat×Nat)}{q:St×Ty×List PI}(h:sq C S f xs cs=some q):q.1.r=S.r:=by
 simp only[sq,ay] at h;obtain⟨s,_,h⟩:=h;split at h
 .rename_i shs obs _;unfold QX QW at h;simp only[ay] at h;obtain⟨u,_,h⟩:=h
  revert h
  generalize (_&&_:Bool)=b;intro h;cases b<;>simp only[zyy,zyx] at h<;>cases h;exact(pk _ S).2
 .cases h
def abh {t:Nat}{xs:List Operand}{q:St×Ty×List PI}(h:BW C S t xs=some q):q.1.r=S.r:=by
 unfold BW at h;split at h
 .rename_i f caps _;cases hc:AR S caps<;>simp only[hc,zyy,zyx] at h
  .cases h
  .exact QY h
 .cases h
def ae0 {dst:Nat}{q:St×Ty×List PI}(h:q.1.r=S.r):jS S dst (ry S (some dst) q).1:=iT h
def aoh {fn:Fn}{a b:Array Operand}(h:Fi C S dst fn a b=some r):jS S dst r.1:=by
 unfold Fi at h;split at h
 case h_2=>cases h
 split at h
 case h_2=>cases h
 rename_i s _;cases hb:pM s.mode<;>simp only[hb,zyy,zyx] at h
 .cases h
 simp only[aD] at h;obtain⟨c,_,rfl⟩:=h;exact iT rfl
def anw {o:Oper}(hr:core C S gs o=some r):∀t,o.dst≠some t->r.1.r t=S.r t:=by
 unfold core at hr;split at hr
 .rename_i dst hd
  suffices h:jS S dst r.1 by
   intro t ht;exact h t (λe=>ht (by rw[hd,e]))
  split at hr
  .rename_i q hq;cases eH:sR q.1<;>simp only[eH,zyy,zyx] at hr<;>cases hr;exact iT rfl
  .split at hr
   .rename_i x e _
    have mv:∀r,(match rz C S [] dst x with|some r=>some (S.setR dst r.1,r.2)|none=>vX C S dst o.type x)=some r->jS S dst r.1:=by
     intro r hr;split at hr
     .cases hr;exact iT rfl
     .exact aop hr
    cases dy:C.fr.any (Nat.beq dst)<;>simp only[dy,zyy,zyx] at hr
    .split at hr
     .rename_i q hq;cases hr;exact aoj hq
     .exact mv r hr
    .exact mv r hr
   .exact anP hr
   .exact anT hr
   .split at hr
    .exact anV hr
    .exact aob hr
   .exact aof hr
   .exact aod hr
   .exact aol hr
   .exact anX hr
   .rename_i c e;split at hr
    .split at hr
     .rename_i s x T T' _ _;cases hT:Nat.beq T T'<;>simp only[hT,zyy,zyx] at hr
      .cases hr
      .exact anR hr
     .cases hr
    .split at hr
     .rename_i q hq;cases hr;exact iT (an9 hq)
     .split at hr
      .split at hr
       .rename_i q hq;cases hr;exact an4 hq
       .split at hr
        .rename_i q hq;cases hr;exact an6 hq
        split at hr
        .rename_i q hq;cases hr;exact an2 hq
        .simp only[aD] at hr;obtain⟨q,hq,rfl⟩:=hr;exact ae0 (QY hq)
      .cases hr
    .split at hr
     .rename_i q hq;cases hr;exact iT (an0 hq)
     .split at hr
      .simp only[aD] at hr;obtain⟨q,hq,rfl⟩:=hr;exact ae0 (abh hq)
      .cases hr
    .cases hr
   .exact aoh hr
   .cases hr
 .split at hr
  .intro t _;rw[aon hr]
  .intro t _;rw[abl hr]
  .intro t _;rw[abl hr]
  .cases hr;intro t _;rfl
  .intro t _;split at hr
   .simp only[aD] at hr;obtain⟨q,hq,rfl⟩:=hr;simp only[ry,QY hq]
   .simp only[aD] at hr;obtain⟨q,hq,rfl⟩:=hr;simp only[ry,abh hq]
   .cases hr
  .cases hr
def aqf {g:Gh}(hr:g.run C S=some r):∀t,(∀u j,g=.rereg u j->t≠u)->r.1.r t=S.r t:=by
 intro t ht;cases g with
 |fz j=>simp only[Gh.run,aX] at hr;subst hr;rw[aqc]
 |fbox b=>
  simp only[Gh.run,FA] at hr;split at hr
  case h_2=>cases hr
  rename_i ag shs _;simp only[ay] at hr;obtain⟨x,_,hr⟩:=hr;cases ag<;>simp only[zyy,zyx] at hr
  .split at hr
   .cases hr;rfl
   .cases hr
  .cases hr;rfl
 |rereg u j=>
  simp only[Gh.run,Am] at hr;split at hr
  .revert hr
   generalize (_&&_:Bool)=b;intro hr;cases b<;>simp only[zyy,zyx] at hr<;>cases hr
   .rfl
   .simp only[St.setR,bF _ _ (ht u j rfl)];rfl
  .cases hr;rfl
 |recell b i j=>
  simp only[Gh.run,IE] at hr;split at hr
  .split at hr
   .revert hr
    generalize (_&&_:Bool)=b;intro hr;cases b<;>simp only[zyy,zyx] at hr<;>cases hr<;>rfl
   .cases hr;rfl
  .cases hr;rfl
 |home b i j T=>
  simp only[Gh.run,Gi] at hr;split at hr
  .split at hr
   .revert hr
    generalize (!_:Bool)=b;intro hr;cases b<;>simp only[zyy,zyx] at hr<;>cases hr<;>rfl
   .cases hr;rfl
  .cases hr;rfl
def Rh:∀(l:List Gh) {S:St} {r:St×List PI},kq C l S=some r->∀t,(∀g u j,g∈l->g=.rereg u j->t≠u)->r.1.r t=S.r t
 |[],S,r,hr,t,_=>by simp only[kq,aX] at hr;subst hr;rfl
 |g::l,S,r,hr,t,ht=>by
  simp only[kq,ay,aD] at hr;obtain⟨q,hq,q2,j4,rfl⟩:=hr;have h1:=Rh l j4 t (λg u j hg=>ht g u j (dV _ hg));have h2:=aqf hq t (λu j e=>ht g u j (dZ ..) e);exact h1.trans h2
def aw5 (S:St)(gs:List (Nat×Bool))(o:Oper):∀g u j,g∈pre C S gs o.op++rB C S gs o->g≠.rereg u j:=by
 intro g u j hg e;subst e;rw[dH] at hg;rcases hg with hg|hg
 .unfold pre at hg;split at hg
  .rename_i fn _ _ _;cases ho:aeZ C fn<;>simp only[ho,zyy,zyx] at hg
   case true=>cases hg
   obtain⟨b,_,hb⟩:=lF.1 hg;rw[dH] at hb;rcases hb with hb|hb
   .split at hb
    .obtain⟨_,_,h⟩:=dW.1 hb;cases h
    .cases hb
   .simp at hb
  .split at hg
   .replace hg:=avE hg
    split at hg
    .obtain⟨_,_,h⟩:=dW.1 hg;cases h
    .cases hg
   .cases hg
  .obtain⟨_,_,h⟩:=dW.1 hg;cases h
  .obtain⟨_,_,h⟩:=dW.1 hg;cases h
 .unfold rB at hg;split at hg
  .rename_i x t _ _;cases hc:C.fr.any (Nat.beq t)<;>simp only[hc,zyy,zyx] at hg
   .cases hg
   .obtain⟨_,_,h⟩:=dW.1 hg;cases h
  .cases hg
def aw2 (S:St)(o:Oper):∀g u j,g∈post C S o->g=.rereg u j->o.dst=some u:=by
 intro g u j hg e;subst e;unfold post at hg;split at hg
 .rename_i t _ hd;simp at hg;rw[hd,hg.1]
 .unfold Mv homes at hg;have:=(eO.1 hg).1;obtain⟨x,_,hx⟩:=vH.1 this;cases ot:x.1<;>rw[ot] at hx<;>simp at hx
 .split at hg
  .rw[dH] at hg;rcases hg with hg|hg
   .unfold Mv homes at hg;have:=(eO.1 hg).1;obtain⟨x,_,hx⟩:=vH.1 this;cases ot:x.1<;>rw[ot] at hx<;>simp at hx
   .unfold aiI at hg;obtain⟨_,_,h⟩:=dW.1 hg;cases h
  .cases hg
 .cases hg
def ann {ops:Array Oper}{o:Oper}(hr:BT C S ops o=some r):∀t,o.dst≠some t->r.1.r t=S.r t:=by
 intro t ht;unfold BT at hr;split at hr
 .rename_i q hq;cases hr;simp only[E4,ay] at hq;obtain⟨gs,_,r1,h1,r2,h2,r3,h3,hq⟩:=hq
  revert hq
  generalize j0 gs o.dst r2.2=b;intro hq;cases b<;>simp only[zyy,zyx] at hq<;>cases hq;have e1:=Rh _ h1 t (λg u j hg e=>absurd e (aw5 S gs o g u j hg));have e2:=anw h2 t ht
  have e3:=Rh _ h3 t (λg u j hg e=>by
   have:=aw2 r2.1 o g u j hg e;intro e';subst e';exact ht this)
  exact e3.trans (e2.trans e1)
 .cases hr;split
  .rename_i d hd;simp only[St.setR];rw[bF];intro e;subst e;exact ht hd
  .rfl
def aa5 {ops:Array Oper}{o:Oper}(hr:qF C S ops o=some r):∀t,o.dst≠some t->r.1.r t=S.r t:=by
 intro t ht;unfold qF at hr;split at hr
 .rename_i q hq;cases hr;unfold BU at hq;split at hq
  case h_2=>cases hq
  rename_i dst _ args _ _ _ hd _ _;simp only[ay] at hq;obtain⟨gs,_,hq⟩:=hq;split at hq
  case h_2=>cases hq
  split at hq
  case h_2=>cases hq
  simp only[ay] at hq;obtain⟨u,_,hq⟩:=hq;rw[qp] at hq;split at hq<;>cases hq;simp only[St.setR];rw[bF,(pk _ S).2];intro e;subst e;exact ht hd
 .exact ann hr t ht
def QP {ops:Array Oper}:∀{l:List Nat} {S:St} {r:St×List PI},pg C ops l S=some r->∀t,(∀i o,i∈l->ops[i]?=some o->o.dst≠some t)->r.1.r t=S.r t
 |[],S,r,h,t,_=>by simp only[pg,aX] at h;subst h;rfl
 |i::l,S,r,h,t,ht=>by
  simp only[pg] at h;split at h
  .rename_i o ho;simp only[ay,aD] at h;obtain⟨q,hq,q2,j4,rfl⟩:=h;exact(QP j4 t λj o hj=>ht j o (dV _ hj)).trans (aa5 hq t (ht i o (dZ ..) ho))
  .cases h
end
end Cx
