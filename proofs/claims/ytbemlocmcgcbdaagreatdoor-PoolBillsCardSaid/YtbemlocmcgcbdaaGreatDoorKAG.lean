/-
  Shared texts of this claim.
-/
import Derived.Test.YtbemlocmcgcbdaaGreatDoorKAF
import Derived.OrdersIn
set_option linter.defProp false
set_option linter.unusedSimpArgs false
set_option linter.unusedVariables false
namespace Cx
open Go Go.RowKit
def aaJ:Value->Value->Bool
 |.int k n,.int k' m=>k==k'&&n==m
 |.bool a,.bool b=>a==b
 |.string a,.string b=>decide (a=b)
 |.nilFunc,.nilFunc=>true
 |_,_=>false
def aD6:∀a b,aaJ a b=true->a=b:=by
 intro a b h;unfold aaJ at h;split at h
 .simp only[au,beq_iff_eq] at h;rw[h.1,h.2]
 .simp only[beq_iff_eq] at h;rw[h]
 .simp only[decide_eq_true_eq] at h;rw[h]
 .rfl
 .cases h
mutual
def D.beq:D->D->Bool
 |.v a,e=>match e with|.v b=>aaJ a b|_=>false
 |.agg a,e=>match e with|.agg b=>D.beqs a b|_=>false
 |.list a,e=>match e with|.list b=>D.beqs a b|_=>false
 |.tup a,e=>match e with|.tup b=>D.beqs a b|_=>false
 |.map a,e=>match e with|.map b=>a.isEmpty&&b.isEmpty|_=>false
 |.ref a,e=>match e with|.ref b=>D.beq a b|_=>false
 |.clo f a,e=>match e with|.clo g b=>Nat.beq f g&&D.beqs a b|_=>false
 |.none,e=>match e with|.none=>true|_=>false
def D.beqs:List D->List D->Bool
 |[],e=>match e with|[]=>true|_=>false
 |a::aa,e=>match e with|b::bs=>D.beq a b&&D.beqs aa bs|_=>false
end
mutual
def D.beq_eq:∀a b:D,D.beq a b=true->a=b
 |.v a,e,h=>by cases e<;>first|(simp only[D.beq] at h;rw[aD6 _ _ h])|cases h
 |.agg a,e,h=>by cases e<;>first|(simp only[D.beq] at h;rw[D.beqs_eq _ _ h])|cases h
 |.list a,e,h=>by cases e<;>first|(simp only[D.beq] at h;rw[D.beqs_eq _ _ h])|cases h
 |.tup a,e,h=>by cases e<;>first|(simp only[D.beq] at h;rw[D.beqs_eq _ _ h])|cases h
 |.map a,e,h=>by
  cases e<;>first|(simp only[D.beq,au,abe] at h;rw[h.1,h.2])|cases h
 |.ref a,e,h=>by cases e<;>first|(simp only[D.beq] at h;rw[D.beq_eq _ _ h])|cases h
 |.clo f a,e,h=>by cases e<;>first|(simp only[D.beq,au] at h;rw[aD h.1,D.beqs_eq _ _ h.2])|cases h
 |.none,e,h=>by cases e<;>first|rfl|cases h
def D.beqs_eq:∀a b:List D,D.beqs a b=true->a=b
 |[],e,h=>by cases e<;>first|rfl|cases h
 |a::aa,e,h=>by
  cases e with
  |nil=>cases h
  |cons b bs=>simp only[D.beqs,au] at h;rw[D.beq_eq _ _ h.1,D.beqs_eq _ _ h.2]
end
mutual
def PE.beq:PE->PE->Bool
 |.r a,e=>match e with|.r b=>Nat.beq a b|_=>false
 |.o a,e=>match e with|.o b=>Nat.beq a b|_=>false
 |.con a,e=>match e with|.con b=>D.beq a b|_=>false
 |.cell x i,e=>match e with|.cell y j=>PE.beq x y&&Nat.beq i j|_=>false
 |.sub x i n,e=>match e with|.sub y j m=>PE.beq x y&&(Nat.beq i j&&Nat.beq n m)|_=>false
 |.setc x i z,e=>match e with|.setc y j u=>PE.beq x y&&(Nat.beq i j&&PE.beq z u)|_=>false
 |.mk x,e=>match e with|.mk y=>PE.beqs x y|_=>false
 |.ai op k x y,e=>match e with|.ai zZ k' x' y'=>op==zZ&&(k==k'&&(PE.beq x x'&&PE.beq y y'))|_=>false
 |.ci op x y,e=>match e with|.ci zZ x' y'=>op==zZ&&(PE.beq x x'&&PE.beq y y')|_=>false
 |.cb op x y,e=>match e with|.cb zZ x' y'=>op==zZ&&(PE.beq x x'&&PE.beq y y')|_=>false
 |.cs op x y,e=>match e with|.cs zZ x' y'=>op==zZ&&(PE.beq x x'&&PE.beq y y')|_=>false
 |.sadd x y,e=>match e with|.sadd x' y'=>PE.beq x x'&&PE.beq y y'|_=>false
 |.nt x,e=>match e with|.nt y=>PE.beq x y|_=>false
 |.conv k x,e=>match e with|.conv k' y=>k==k'&&PE.beq x y|_=>false
 |.pick c x y,e=>match e with|.pick c' x' y'=>PE.beq c c'&&(PE.beq x x'&&PE.beq y y')|_=>false
 |.llen x,e=>match e with|.llen y=>PE.beq x y|_=>false
 |.bytes x,e=>match e with|.bytes y=>PE.beq x y|_=>false
 |.slen x,e=>match e with|.slen y=>PE.beq x y|_=>false
 |.mlen x,e=>match e with|.mlen y=>PE.beq x y|_=>false
 |.nth x y,e=>match e with|.nth x' y'=>PE.beq x x'&&PE.beq y y'|_=>false
 |.idx x y,e=>match e with|.idx x' y'=>PE.beq x x'&&PE.beq y y'|_=>false
 |.sidx x y,e=>match e with|.sidx x' y'=>PE.beq x x'&&PE.beq y y'|_=>false
 |.sok x y,e=>match e with|.sok x' y'=>PE.beq x x'&&PE.beq y y'|_=>false
 |.setn x i n y,e=>match e with|.setn x' i' n' y'=>PE.beq x x'&&(PE.beq i i'&&(Nat.beq n n'&&PE.beq y y'))|_=>false
 |.app x y,e=>match e with|.app x' y'=>PE.beq x x'&&PE.beq y y'|_=>false
 |.lst x,e=>match e with|.lst y=>PE.beqs x y|_=>false
 |.rep x y,e=>match e with|.rep x' y'=>PE.beq x x'&&PE.beq y y'|_=>false
 |.slc c x y,e=>match e with|.slc c' x' y'=>PE.beq c c'&&(PE.beq x x'&&PE.beq y y')|_=>false
 |.slok c x y,e=>match e with|.slok c' x' y'=>PE.beq c c'&&(PE.beq x x'&&PE.beq y y')|_=>false
 |.ref x,e=>match e with|.ref y=>PE.beq x y|_=>false
 |.deref x,e=>match e with|.deref y=>PE.beq x y|_=>false
 |.look c x y,e=>match e with|.look c' x' y'=>PE.beq c c'&&(PE.beq x x'&&PE.beq y y')|_=>false
 |.has x y,e=>match e with|.has x' y'=>PE.beq x x'&&PE.beq y y'|_=>false
 |.put c x y,e=>match e with|.put c' x' y'=>PE.beq c c'&&(PE.beq x x'&&PE.beq y y')|_=>false
 |.mn x y,e=>match e with|.mn x' y'=>PE.beq x x'&&PE.beq y y'|_=>false
 |.mx x y,e=>match e with|.mx x' y'=>PE.beq x x'&&PE.beq y y'|_=>false
 |.tup x,e=>match e with|.tup y=>PE.beqs x y|_=>false
 |.tget x i,e=>match e with|.tget y j=>PE.beq x y&&Nat.beq i j|_=>false
 |.clo f x,e=>match e with|.clo g y=>Nat.beq f g&&PE.beqs x y|_=>false
 |.an x y,e=>match e with|.an x' y'=>PE.beq x x'&&PE.beq y y'|_=>false
 |.imp c x,e=>match e with|.imp c' y=>uH c c'&&PE.beq x y|_=>false
def PE.beqs:List PE->List PE->Bool
 |[],e=>match e with|[]=>true|_=>false
 |a::aa,e=>match e with|b::bs=>PE.beq a b&&PE.beqs aa bs|_=>false
end
def df {a b:Nat}(h:Nat.beq a b=true):a=b:=aD h
mutual
def PE.beq_eq:∀a b:PE,PE.beq a b=true->a=b
 |.r a,e,h=>by cases e<;>first|(rw[df h])|cases h
 |.o a,e,h=>by cases e<;>first|(rw[df h])|cases h
 |.con a,e,h=>by cases e<;>first|(rw[D.beq_eq _ _ h])|cases h
 |.cell x i,e,h=>by cases e<;>first|(simp only[PE.beq,au] at h;rw[PE.beq_eq _ _ h.1,df h.2])|cases h
 |.sub x i n,e,h=>by cases e<;>first|(simp only[PE.beq,au] at h;rw[PE.beq_eq _ _ h.1,df h.2.1,df h.2.2])|cases h
 |.setc x i z,e,h=>by cases e<;>first|(simp only[PE.beq,au] at h;rw[PE.beq_eq _ _ h.1,df h.2.1,PE.beq_eq _ _ h.2.2])|cases h
 |.mk x,e,h=>by cases e<;>first|(simp only[PE.beq] at h;rw[PE.beqs_eq _ _ h])|cases h
 |.ai op k x y,e,h=>by cases e<;>first|(simp only[PE.beq,au,beq_iff_eq] at h;rw[h.1,h.2.1,PE.beq_eq _ _ h.2.2.1,PE.beq_eq _ _ h.2.2.2])|cases h
 |.ci op x y,e,h=>by cases e<;>first|(simp only[PE.beq,au,beq_iff_eq] at h;rw[h.1,PE.beq_eq _ _ h.2.1,PE.beq_eq _ _ h.2.2])|cases h
 |.cb op x y,e,h=>by cases e<;>first|(simp only[PE.beq,au,beq_iff_eq] at h;rw[h.1,PE.beq_eq _ _ h.2.1,PE.beq_eq _ _ h.2.2])|cases h
 |.cs op x y,e,h=>by cases e<;>first|(simp only[PE.beq,au,beq_iff_eq] at h;rw[h.1,PE.beq_eq _ _ h.2.1,PE.beq_eq _ _ h.2.2])|cases h
 |.sadd x y,e,h=>by cases e<;>first|(simp only[PE.beq,au] at h;rw[PE.beq_eq _ _ h.1,PE.beq_eq _ _ h.2])|cases h
 |.nt x,e,h=>by cases e<;>first|(simp only[PE.beq] at h;rw[PE.beq_eq _ _ h])|cases h
 |.conv k x,e,h=>by cases e<;>first|(simp only[PE.beq,au,beq_iff_eq] at h;rw[h.1,PE.beq_eq _ _ h.2])|cases h
 |.pick c x y,e,h=>by cases e<;>first|(simp only[PE.beq,au] at h;rw[PE.beq_eq _ _ h.1,PE.beq_eq _ _ h.2.1,PE.beq_eq _ _ h.2.2])|cases h
 |.llen x,e,h=>by cases e<;>first|(simp only[PE.beq] at h;rw[PE.beq_eq _ _ h])|cases h
 |.bytes x,e,h=>by cases e<;>first|(simp only[PE.beq] at h;rw[PE.beq_eq _ _ h])|cases h
 |.slen x,e,h=>by cases e<;>first|(simp only[PE.beq] at h;rw[PE.beq_eq _ _ h])|cases h
 |.mlen x,e,h=>by cases e<;>first|(simp only[PE.beq] at h;rw[PE.beq_eq _ _ h])|cases h
 |.nth x y,e,h=>by cases e<;>first|(simp only[PE.beq,au] at h;rw[PE.beq_eq _ _ h.1,PE.beq_eq _ _ h.2])|cases h
 |.idx x y,e,h=>by cases e<;>first|(simp only[PE.beq,au] at h;rw[PE.beq_eq _ _ h.1,PE.beq_eq _ _ h.2])|cases h
 |.sidx x y,e,h=>by cases e<;>first|(simp only[PE.beq,au] at h;rw[PE.beq_eq _ _ h.1,PE.beq_eq _ _ h.2])|cases h
 |.sok x y,e,h=>by cases e<;>first|(simp only[PE.beq,au] at h;rw[PE.beq_eq _ _ h.1,PE.beq_eq _ _ h.2])|cases h
 |.setn x i n y,e,h=>by cases e<;>first|(simp only[PE.beq,au] at h;rw[PE.beq_eq _ _ h.1,PE.beq_eq _ _ h.2.1,df h.2.2.1,PE.beq_eq _ _ h.2.2.2])|cases h
 |.app x y,e,h=>by cases e<;>first|(simp only[PE.beq,au] at h;rw[PE.beq_eq _ _ h.1,PE.beq_eq _ _ h.2])|cases h
 |.lst x,e,h=>by cases e<;>first|(simp only[PE.beq] at h;rw[PE.beqs_eq _ _ h])|cases h
 |.rep x y,e,h=>by cases e<;>first|(simp only[PE.beq,au] at h;rw[PE.beq_eq _ _ h.1,PE.beq_eq _ _ h.2])|cases h
 |.slc c x y,e,h=>by cases e<;>first|(simp only[PE.beq,au] at h;rw[PE.beq_eq _ _ h.1,PE.beq_eq _ _ h.2.1,PE.beq_eq _ _ h.2.2])|cases h
 |.slok c x y,e,h=>by cases e<;>first|(simp only[PE.beq,au] at h;rw[PE.beq_eq _ _ h.1,PE.beq_eq _ _ h.2.1,PE.beq_eq _ _ h.2.2])|cases h
 |.ref x,e,h=>by cases e<;>first|(simp only[PE.beq] at h;rw[PE.beq_eq _ _ h])|cases h
 |.deref x,e,h=>by cases e<;>first|(simp only[PE.beq] at h;rw[PE.beq_eq _ _ h])|cases h
 |.look c x y,e,h=>by cases e<;>first|(simp only[PE.beq,au] at h;rw[PE.beq_eq _ _ h.1,PE.beq_eq _ _ h.2.1,PE.beq_eq _ _ h.2.2])|cases h
 |.has x y,e,h=>by cases e<;>first|(simp only[PE.beq,au] at h;rw[PE.beq_eq _ _ h.1,PE.beq_eq _ _ h.2])|cases h
 |.put c x y,e,h=>by cases e<;>first|(simp only[PE.beq,au] at h;rw[PE.beq_eq _ _ h.1,PE.beq_eq _ _ h.2.1,PE.beq_eq _ _ h.2.2])|cases h
 |.mn x y,e,h=>by cases e<;>first|(simp only[PE.beq,au] at h;rw[PE.beq_eq _ _ h.1,PE.beq_eq _ _ h.2])|cases h
 |.mx x y,e,h=>by cases e<;>first|(simp only[PE.beq,au] at h;rw[PE.beq_eq _ _ h.1,PE.beq_eq _ _ h.2])|cases h
 |.tup x,e,h=>by cases e<;>first|(simp only[PE.beq] at h;rw[PE.beqs_eq _ _ h])|cases h
 |.tget x i,e,h=>by cases e<;>first|(simp only[PE.beq,au] at h;rw[PE.beq_eq _ _ h.1,df h.2])|cases h
 |.clo f x,e,h=>by cases e<;>first|(simp only[PE.beq,au] at h;rw[df h.1,PE.beqs_eq _ _ h.2])|cases h
 |.an x y,e,h=>by cases e<;>first|(simp only[PE.beq,au] at h;rw[PE.beq_eq _ _ h.1,PE.beq_eq _ _ h.2])|cases h
 |.imp c x,e,h=>by cases e<;>first|(simp only[PE.beq,au] at h;rw[FE _ _ h.1,PE.beq_eq _ _ h.2])|cases h
def PE.beqs_eq:∀a b:List PE,PE.beqs a b=true->a=b
 |[],e,h=>by cases e<;>first|rfl|cases h
 |a::aa,e,h=>by
  cases e with
  |nil=>cases h
  |cons b bs=>simp only[PE.beqs,au] at h;rw[PE.beq_eq _ _ h.1,PE.beqs_eq _ _ h.2]
end
def PI.beq:PI->PI->Bool
 |.setR t x,e=>match e with|.setR u y=>Nat.beq t u&&PE.beq x y|_=>false
 |.setO t x,e=>match e with|.setO u y=>Nat.beq t u&&PE.beq x y|_=>false
 |.chk x,e=>match e with|.chk y=>PE.beq x y|_=>false
 |.call gs d f aa,e=>match e with|.call bN d' f' EB=>uH gs bN&&(Nat.beq d d'&&(Nat.beq f f'&&PE.beqs aa EB))|_=>false
 |.callc gs d f aa,e=>match e with|.callc bN d' f' EB=>uH gs bN&&(Nat.beq d d'&&(PE.beq f f'&&PE.beqs aa EB))|_=>false
 |.mcall d f aa,e=>match e with|.mcall d' f' EB=>Nat.beq d d'&&(Nat.beq f f'&&PE.beqs aa EB)|_=>false
def PI.beq_eq:∀a b:PI,PI.beq a b=true->a=b:=by
 intro a b h;cases a<;>cases b<;>first
  |(cases h;done)
  |(simp only[PI.beq,au] at h;first
       |rw[df h.1,PE.beq_eq _ _ h.2]
       |rw[PE.beq_eq _ _ h]
       |rw[FE _ _ h.1,df h.2.1,df h.2.2.1,PE.beqs_eq _ _ h.2.2.2]
       |rw[FE _ _ h.1,df h.2.1,PE.beq_eq _ _ h.2.2.1,PE.beqs_eq _ _ h.2.2.2]
       |rw[df h.1,df h.2.1,PE.beqs_eq _ _ h.2.2])
def PI.beqs:List PI->List PI->Bool
 |[],e=>match e with|[]=>true|_=>false
 |a::aa,e=>match e with|b::bs=>PI.beq a b&&PI.beqs aa bs|_=>false
def PI.beqs_eq:∀a b:List PI,PI.beqs a b=true->a=b
 |[],e,h=>by cases e<;>first|rfl|cases h
 |a::aa,e,h=>by
  cases e with
  |nil=>cases h
  |cons b bs=>simp only[PI.beqs,au] at h;rw[PI.beq_eq _ _ h.1,PI.beqs_eq _ _ h.2]
structure Lk where
 r:Nat
 o:List Nat
def Lk.or (a b:Lk):Lk:=⟨Nat.lor a.r b.r,a.o++b.o⟩
def Lk.none:Lk:=⟨0,[]⟩
def mU:List (Nat×Bool)->Lk
 |[]=>.none
 |g::gs=>⟨Nat.lor (iI g.1) (mU gs).r,(mU gs).o⟩
mutual
def PE.lk:PE->Lk
 |.r t=>⟨iI t,[]⟩
 |.o j=>⟨0,[j]⟩
 |.con _=>.none
 |.cell e _|.sub e _ _|.nt e|.conv _ e|.llen e|.bytes e|.slen e|.mlen e|.ref e|.deref e|.tget e _=>PE.lk e
 |.setc x _ y|.ai _ _ x y|.ci _ x y|.cb _ x y|.cs _ x y|.sadd x y|.nth x y|.idx x y|.sidx x y|.sok x y|.app x y|.rep x y|.has x y|.mn x y|.mx x y|.an x y=>(PE.lk x).or (PE.lk y)
 |.mk es|.lst es|.tup es|.clo _ es=>PE.lks es
 |.pick x y z|.slc x y z|.slok x y z|.look x y z|.put x y z|.setn x y _ z=>(PE.lk x).or ((PE.lk y).or (PE.lk z))
 |.imp c x=>(mU c).or (PE.lk x)
def PE.lks:List PE->Lk
 |[]=>.none
 |e::es=>(PE.lk e).or (PE.lks es)
end
structure Alike (k:Lk) (O O':Env):Prop where
 r:∀t,aU k.r t=true->O'.r t=O.r t
 o:∀j,j∈k.o->O'.o j=O.o j
def Alike.left {a b:Lk}{O O':Env}(h:Alike (a.or b) O O'):Alike a O O':=
 ⟨λt ht=>h.r t (by simp only[Lk.or,gU,ht,Ek]),λj hj=>h.o j (jr _ hj)⟩
def Alike.right {a b:Lk}{O O':Env}(h:Alike (a.or b) O O'):Alike b O O':=
 ⟨λt ht=>h.r t (by simp only[Lk.or,gU,ht,ui]),λj hj=>h.o j (jG _ hj)⟩
def CT {O O':Env}:∀{c:List (Nat×Bool)},Alike (mU c) O O'->holds c O'=holds c O
 |[],_=>rfl
 |g::gs,h=>by
  have ih:=CT (O:=O) (O':=O') (c:=gs) ⟨λt ht=>h.r t (by simp only[mU,gU,ht,ui]),λj hj=>h.o j hj⟩;have h1:=h.r g.1 (by simp only[mU,gU,sG,Ek]);unfold holds at ih ⊢;simp only[sv];rw[ih,h1]
mutual
def PE.ev_alike {O O':Env}:∀(e:PE),Alike e.lk O O'->e.ev O'=e.ev O
 |.r t,h=>h.r t (sG t)
 |.o j,h=>h.o j (by simp[PE.lk])
 |.con _,h=>rfl
 |.cell e _,h=>by simp only[PE.ev,PE.ev_alike e h]
 |.sub e _ _,h=>by simp only[PE.ev,PE.ev_alike e h]
 |.nt e,h=>by simp only[PE.ev,PE.ev_alike e h]
 |.conv _ e,h=>by simp only[PE.ev,PE.ev_alike e h]
 |.llen e,h=>by simp only[PE.ev,PE.ev_alike e h]
 |.bytes e,h=>by simp only[PE.ev,PE.ev_alike e h]
 |.slen e,h=>by simp only[PE.ev,PE.ev_alike e h]
 |.mlen e,h=>by simp only[PE.ev,PE.ev_alike e h]
 |.ref e,h=>by simp only[PE.ev,PE.ev_alike e h]
 |.deref e,h=>by simp only[PE.ev,PE.ev_alike e h]
 |.tget e _,h=>by simp only[PE.ev,PE.ev_alike e h]
 |.setc x _ y,h=>by simp only[PE.ev,PE.ev_alike x h.left,PE.ev_alike y h.right]
 |.ai _ _ x y,h=>by simp only[PE.ev,PE.ev_alike x h.left,PE.ev_alike y h.right]
 |.ci _ x y,h=>by simp only[PE.ev,PE.ev_alike x h.left,PE.ev_alike y h.right]
 |.cb _ x y,h=>by simp only[PE.ev,PE.ev_alike x h.left,PE.ev_alike y h.right]
 |.cs _ x y,h=>by simp only[PE.ev,PE.ev_alike x h.left,PE.ev_alike y h.right]
 |.sadd x y,h=>by simp only[PE.ev,PE.ev_alike x h.left,PE.ev_alike y h.right]
 |.nth x y,h=>by simp only[PE.ev,PE.ev_alike x h.left,PE.ev_alike y h.right]
 |.idx x y,h=>by simp only[PE.ev,PE.ev_alike x h.left,PE.ev_alike y h.right]
 |.sidx x y,h=>by simp only[PE.ev,PE.ev_alike x h.left,PE.ev_alike y h.right]
 |.sok x y,h=>by simp only[PE.ev,PE.ev_alike x h.left,PE.ev_alike y h.right]
 |.app x y,h=>by simp only[PE.ev,PE.ev_alike x h.left,PE.ev_alike y h.right]
 |.rep x y,h=>by simp only[PE.ev,PE.ev_alike x h.left,PE.ev_alike y h.right]
 |.has x y,h=>by simp only[PE.ev,PE.ev_alike x h.left,PE.ev_alike y h.right]
 |.mn x y,h=>by simp only[PE.ev,PE.ev_alike x h.left,PE.ev_alike y h.right]
 |.mx x y,h=>by simp only[PE.ev,PE.ev_alike x h.left,PE.ev_alike y h.right]
 |.an x y,h=>by simp only[PE.ev,PE.ev_alike x h.left,PE.ev_alike y h.right]
 |.mk es,h=>by simp only[PE.ev,PE.evc_alike es h]
 |.lst es,h=>by simp only[PE.ev,PE.evs_alike es h]
 |.tup es,h=>by simp only[PE.ev,PE.evs_alike es h]
 |.clo _ es,h=>by simp only[PE.ev,PE.evs_alike es h]
 |.pick x y z,h=>by simp only[PE.ev,PE.ev_alike x h.left,PE.ev_alike y h.right.left,PE.ev_alike z h.right.right]
 |.slc x y z,h=>by simp only[PE.ev,PE.ev_alike x h.left,PE.ev_alike y h.right.left,PE.ev_alike z h.right.right]
 |.slok x y z,h=>by simp only[PE.ev,PE.ev_alike x h.left,PE.ev_alike y h.right.left,PE.ev_alike z h.right.right]
 |.look x y z,h=>by simp only[PE.ev,PE.ev_alike x h.left,PE.ev_alike y h.right.left,PE.ev_alike z h.right.right]
 |.put x y z,h=>by simp only[PE.ev,PE.ev_alike x h.left,PE.ev_alike y h.right.left,PE.ev_alike z h.right.right]
 |.setn x y _ z,h=>by simp only[PE.ev,PE.ev_alike x h.left,PE.ev_alike y h.right.left,PE.ev_alike z h.right.right]
 |.imp c x,h=>by simp only[PE.ev,CT h.left,PE.ev_alike x h.right]
def PE.evs_alike {O O':Env}:∀(es:List PE),Alike (PE.lks es) O O'->PE.evs O' es=PE.evs O es
 |[],h=>rfl
 |e::es,h=>by simp only[PE.evs,PE.ev_alike e h.left,PE.evs_alike es h.right]
def PE.evc_alike {O O':Env}:∀(es:List PE),Alike (PE.lks es) O O'->PE.evc O' es=PE.evc O es
 |[],h=>rfl
 |e::es,h=>by simp only[PE.evc,PE.ev_alike e h.left,PE.evc_alike es h.right]
end
def PI.lk:PI->Lk
 |.setR _ e|.setO _ e|.chk e=>e.lk
 |.call gs _ _ aa=>(mU gs).or (PE.lks aa)
 |.callc gs _ e aa=>(mU gs).or (e.lk.or (PE.lks aa))
 |.mcall _ _ aa=>PE.lks aa
inductive Eff where
 |skip
 |r (t:Nat) (d:D)
 |o (j:Nat) (d:D)
def Eff.app (O:Env):Eff->Env
 |.skip=>O
 |.r t d=>O.setR t d
 |.o j d=>O.setO j d
def PI.eff (Z:aO)(O:Env):PI->Option Eff
 |.setR t e=>some (.r t (e.ev O))
 |.setO j e=>some (.o j (e.ev O))
 |.chk e=>bif (e.ev O).b then some .skip else none
 |.call gs dst f args=>bif holds gs O then(Z f (PE.evs O args)).map (.r dst) else some .skip
 |.callc gs dst e args=>bif holds gs O then(match e.ev O with|.clo f caps=>(Z f (PE.evs O args++caps)).map (.r dst)|_=>none) else some .skip
 |.mcall j f args=>(Z f (PE.evs O args)).map (.o j)
def PI.run_eff (Z:aO)(O:Env)(p:PI):p.run Z O=(p.eff Z O).map (Eff.app O):=by
 cases p with
 |setR t e=>rfl
 |setO t e=>rfl
 |chk e=>simp only[PI.run,PI.eff];cases(e.ev O).b<;>rfl
 |call gs d f aa=>
  simp only[PI.run,PI.eff];cases holds gs O
  .rfl
  .simp only[zyy,abr];rfl
 |callc gs d e aa=>
  simp only[PI.run,PI.eff];cases holds gs O
  .rfl
  .simp only[zyy];cases e.ev O<;>first|rfl|(simp only[abr];rfl)
 |mcall j f aa=>simp only[PI.run,PI.eff,abr];rfl
def PI.eff_alike {Z:aO}{O O':Env}(p:PI)(h:Alike p.lk O O'):p.eff Z O'=p.eff Z O:=by
 cases p with
 |setR t e=>simp only[PI.eff,PE.ev_alike e h]
 |setO t e=>simp only[PI.eff,PE.ev_alike e h]
 |chk e=>simp only[PI.eff,PE.ev_alike e h]
 |call gs d f aa=>simp only[PI.eff,CT h.left,PE.evs_alike aa h.right]
 |callc gs d e aa=>simp only[PI.eff,CT h.left,PE.ev_alike e h.right.left,PE.evs_alike aa h.right.right]
 |mcall j f aa=>simp only[PI.eff,PE.evs_alike aa h]
def PI.wo:PI->List Nat
 |.setO j _|.mcall j _ _=>[j]
 |_=>[]
def Eff.within (m:Nat)(l:List Nat):Eff->Prop
 |.skip=>True
 |.r t _=>aU m t=true
 |.o j _=>j∈l
def PI.eff_within {Z:aO}{O:Env}{p:PI}{x:Eff}(h:p.eff Z O=some x):x.within p.mask p.wo:=by
 cases p with
 |setR t e=>simp only[PI.eff,bj] at h;subst h;exact sG t
 |setO t e=>simp only[PI.eff,bj] at h;subst h;simp[Eff.within,PI.wo]
 |chk e=>simp only[PI.eff] at h;cases hb:(e.ev O).b<;>rw[hb] at h<;>cases h;trivial
 |call gs d f aa=>
  simp only[PI.eff] at h;cases hb:holds gs O<;>simp only[hb,zyy,zyx,bj,aB] at h
  .subst h;trivial
  .obtain⟨d,_,rfl⟩:=h;exact sG _
 |callc gs d e aa=>
  simp only[PI.eff] at h;cases hb:holds gs O<;>simp only[hb,zyy,zyx,bj] at h
  .subst h;trivial
  .split at h
   .simp only[aB] at h;obtain⟨d,_,rfl⟩:=h;exact sG _
   .cases h
 |mcall j f aa=>simp only[PI.eff,aB] at h;obtain⟨d,_,rfl⟩:=h;simp[Eff.within,PI.wo]
def Jy (a b:List Nat):Bool:=a.all λx=> !fK b x
structure Foot where
 wr:Nat
 wo:List Nat
 k:Lk
def iY:List PI->Foot
 |[]=>⟨0,[],.none⟩
 |p::l=>⟨Nat.lor p.mask (iY l).wr,p.wo++(iY l).wo,p.lk.or (iY l).k⟩
def Foot.comm (a b:Foot):Bool:=
 Nat.beq (Nat.land a.wr b.wr) 0&&(Nat.beq (Nat.land a.wr b.k.r) 0&&(Nat.beq (Nat.land b.wr a.k.r) 0&&
    (Jy a.wo b.wo&&(Jy a.wo b.k.o&&Jy b.wo a.k.o))))
def TN {a b t:Nat}(h:Nat.beq (Nat.land a b) 0=true)(ha:aU a t=true)(hb:aU b t=true):False:=by
 have h1:=df h;have h2:(a&&& b).testBit t=true:=by rw[Nat.testBit_and,<-yj,<-yj,ha,hb];rfl
 have h3:(a&&& b)=0:=h1;rw[h3] at h2;simp at h2
def P1 {a b:List Nat}(h:Jy a b=true){x:Nat}(ha:x∈a)(hb:x∈b):False:=by
 have:=cM.1 h x ha;rw[(rE b x).2 hb] at this;cases this
structure Comm (p q:PI):Prop where
 ww:∀t,aU p.mask t=true->aU q.mask t=true->False
 wr:∀t,aU p.mask t=true->aU q.lk.r t=true->False
 rw:∀t,aU q.mask t=true->aU p.lk.r t=true->False
 oww:∀t,t∈p.wo->t∈q.wo->False
 owr:∀t,t∈p.wo->t∈q.lk.o->False
 orw:∀t,t∈q.wo->t∈p.lk.o->False
def Eff.alike {x:Eff}{m:Nat}{l:List Nat}{k:Lk}{O:Env}(h:x.within m l)(h1:∀t,aU m t=true->aU k.r t=true->False)(h2:∀t,t∈l->t∈k.o->False):Alike k O (x.app O):=by
 cases x with
 |skip=>exact⟨λ_ _=>rfl,λ_ _=>rfl⟩
 |r t d=>exact⟨λu hu=>bJ _ _ (λe=>h1 t h (e▸hu)),λ_ _=>rfl⟩
 |o t d=>exact⟨λ_ _=>rfl,λu hu=>bJ _ _ (λe=>h2 t h (e▸hu))⟩
def akG {α:Type}(f:Nat->α){i j:Nat}(x y:α)(h:i≠j):bZ (bZ f i x) j y=bZ (bZ f j y) i x:=by
 funext t;simp only[fq];by_cases h1:t=i
 .subst h1;simp[h]
 .simp[h1]
def Eff.comm {x y:Eff}{m m':Nat}{l l':List Nat}{O:Env}(hx:x.within m l)(hy:y.within m' l')(h1:∀t,aU m t=true->aU m' t=true->False)(h2:∀t,t∈l->t∈l'->False):
 y.app (x.app O)=x.app (y.app O):=by
 cases x with
 |skip=>rfl
 |r t d=>
  cases y with
  |skip=>rfl
  |r u e=>
   have ay:t≠u:=λe=>h1 t hx (by subst e;exact hy);show Env.setR (Env.setR O t d) u e=Env.setR (Env.setR O u e) t d;simp only[Env.setR];rw[akG _ _ _ ay]
  |o u e=>rfl
 |o t d=>
  cases y with
  |skip=>rfl
  |r u e=>rfl
  |o u e=>
   have ay:t≠u:=λe=>h2 t hx (by subst e;exact hy);show Env.setO (Env.setO O t d) u e=Env.setO (Env.setO O u e) t d;simp only[Env.setO];rw[akG _ _ _ ay]
def PI.comm {Z:aO}{p q:PI}(h:Comm p q)(O:Env):(p.run Z O).bind (q.run Z)=(q.run Z O).bind (p.run Z):=by
 simp only[PI.run_eff];cases hp:p.eff Z O with
 |none=>
  cases hq:q.eff Z O with
  |none=>rfl
  |some y=>
   have:=PI.eff_alike (Z:=Z) p (Eff.alike (O:=O) (PI.eff_within hq) h.rw h.orw);simp[PI.run_eff,this,hp]
 |some x=>
  have hx:=PI.eff_within hp;have e1:=PI.eff_alike (Z:=Z) q (Eff.alike (O:=O) hx h.wr h.owr);cases hq:q.eff Z O with
  |none=>simp[PI.run_eff,e1,hq]
  |some y=>
   have hy:=PI.eff_within hq;have e2:=PI.eff_alike (Z:=Z) p (Eff.alike (O:=O) hy h.rw h.orw);simp only[lC,sB,PI.run_eff,e1,e2,hp,hq];rw[Eff.comm hx hy h.ww h.oww]
def PI.comm1 {Z:aO}{p:PI}:∀(l:List PI),(∀q,q∈l->Comm p q)->∀O,(p.run Z O).bind (PI.runs Z l)=(PI.runs Z l O).bind (p.run Z)
 |[],_,O=>by simp only[PI.runs];cases h:p.run Z O<;>simp[h]
 |q::l,h,O=>by
  have ih:=PI.comm1 (Z:=Z) l λq hq=>h q (fy _ hq);have hc:=PI.comm (Z:=Z) (h q (fQ ..)) O;simp only[PI.runs];have e1:((p.run Z O).bind λρ1=>(q.run Z ρ1).bind (PI.runs Z l))=((p.run Z O).bind (q.run Z)).bind (PI.runs Z l):=by cases p.run Z O<;>rfl
  show((p.run Z O).bind λρ1=>(q.run Z ρ1).bind (PI.runs Z l))=_;rw[e1,hc];cases q.run Z O with
  |none=>rfl
  |some ρ1=>simp only[sB];exact ih ρ1
def PI.comms {Z:aO}:∀(a b:List PI),(∀p q,p∈a->q∈b->Comm p q)->∀O,PI.runs Z (a++b) O=PI.runs Z (b++a) O
 |[],b,_,O=>by simp
 |p::a,b,h,O=>by
  have ih:=PI.comms (Z:=Z) a b λp q hp hq=>h p q (fy _ hp) hq;have h1:=PI.comm1 (Z:=Z) b (λq hq=>h p q (fQ ..) hq);simp only[Je,PI.runs,tY];have e1:((p.run Z O).bind (PI.runs Z (a++b)))=(p.run Z O).bind (PI.runs Z (b++a)):=by
   cases p.run Z O with
   |none=>rfl
   |some ρ1=>exact ih ρ1
  rw[e1];have e2:PI.runs Z (b++a)=λO=>(PI.runs Z b O).bind (PI.runs Z a):=funext λO=>tY;rw[e2];have e3:((p.run Z O).bind λO=>(PI.runs Z b O).bind (PI.runs Z a))=((p.run Z O).bind (PI.runs Z b)).bind (PI.runs Z a):=by cases p.run Z O<;>rfl
  rw[e3,h1 O];cases PI.runs Z b O with
  |none=>rfl
  |some ρ1=>rfl
def adt {l:List PI}{p:PI}(h:p∈l):(∀t,aU p.mask t=true->aU (iY l).wr t=true)/\(∀t,t∈p.wo->t∈(iY l).wo)/\(∀t,aU p.lk.r t=true->aU (iY l).k.r t=true)/\∀t,t∈p.lk.o->t∈(iY l).k.o:=by
 induction l with
 |nil=>cases h
 |cons q l ih=>
  rcases cv.1 h with e|h
  .subst e;refine⟨λt ht=>?_,λt ht=>jr _ ht,λt ht=>?_,λt ht=>jr _ ht⟩
   .simp only[iY,gU,ht,Ek]
   .simp only[iY,Lk.or,gU,ht,Ek]
  .obtain⟨h1,h2,h3,h4⟩:=ih h;refine⟨λt ht=>?_,λt ht=>jG _ (h2 t ht),λt ht=>?_,λt ht=>jG _ (h4 t ht)⟩
   .simp only[iY,gU,h1 t ht,ui]
   .simp only[iY,Lk.or,gU,h3 t ht,ui]
def jH (S:St)(dst:Nat)(S':St):Prop:=∀t,t≠dst->S'.r t=S.r t
section
variable {C:Ctx} {S:St} {gs:List (Nat×Bool)} {dst:Nat} {r:St×List PI}
def jB {X:St}{s:Sh}(h:X.r=S.r):jH S dst (X.setR dst s):=λt ht=>by simp only[St.setR,bJ _ _ ht,h]
def aqD (S:St)(j:Nat):(S.fz j).r=S.r:=(Ls S j).2
def aoy {T:TypeId}{x:Operand}(h:Fl C S dst T x=some r):jH S dst r.1:=by
 unfold Fl at h;split at h
 .simp only[aB] at h;obtain⟨e,_,rfl⟩:=h;exact jB rfl
 .cases h
def aoE {T:TypeId}{x:Operand}(h:vS C S dst T x=some r):jH S dst r.1:=by
 unfold vS at h;split at h
 .rename_i v;simp only[az] at h;obtain⟨e,_,z,_,h⟩:=h;cases hc:j4 e v<;>simp only[hc,zyy,zyx] at h<;>cases h;exact jB rfl
 .cases h
def an5 {T:TypeId}(h:Fc C S dst T=some r):jH S dst r.1:=by
 unfold Fc at h;split at h
 .rename_i t inf ag _ _ _;cases hc:(vA inf t&&(t.rowT||t.one))<;>simp only[hc,zyy,zyx] at h
  .cases h
  .simp only[aB] at h;obtain⟨e,_,rfl⟩:=h;exact jB rfl
 .cases h
def an9 {T:TypeId}{x:Operand}(h:Ff C S dst T x=some r):jH S dst r.1:=by
 unfold Ff at h;split at h
 .rename_i t e ag _ _;cases hc:(t.rowT||t.one)<;>simp only[hc,zyy,zyx] at h<;>cases h;exact jB rfl
 .split at h
  .cases h;exact jB rfl
  .cases h
 .cases h
def aos {T:TypeId}{x:Option Operand}(h:Fj C S dst T x=some r):jH S dst r.1:=by
 unfold Fj at h;split at h
 .simp only[az,aB] at h;obtain⟨e,_,z,_,rfl⟩:=h;exact jB rfl
 .cases h
def aoA {T:TypeId}{x:Operand}(h:Fm C S dst T x=some r):jH S dst r.1:=by
 unfold Fm at h;split at h
 case h_2=>cases h
 rename_i K E j ver hT es;cases hb:(Nat.beq ver (S.ver j)&& !Nat.beq j dst)<;>simp only[hb,zyy,zyx] at h
 .cases h
 split at h
 .cases h;exact jB rfl
 .cases h
def aod {T U:TypeId}{x:Operand}(h:Fg C S dst T U x=some r):jH S dst r.1:=by
 unfold Fg at h;split at h
 .split at h
  .cases h;exact jB rfl
  .cases h
 .cases h
def aou {T:TypeId}{x y:Operand}(h:Fk C S dst T x y=some r):jH S dst r.1:=by
 unfold Fk at h;split at h
 .rename_i E _ n _ m _ _ _;simp only[az] at h;obtain⟨e,_,h⟩:=h;cases hc:sL C.P E e<;>simp only[hc,zyy,zyx] at h
  .cases h
  .simp only[az] at h;obtain⟨z,_,h⟩:=h;cases hc2:Ty.sub z.1 e<;>simp only[hc2,zyy,zyx] at h<;>cases h;exact jB rfl
 .cases h
def aob {T:TypeId}{n:Nat}{ps:List (Nat×Operand)}(h:yM C S gs dst T n ps=some r):jH S dst r.1:=by
 unfold yM at h;split at h
 .simp only[az] at h;obtain⟨e,_,z,_,h⟩:=h
  revert h
  generalize (_&&_:Bool)=b;intro h;cases b<;>simp only[zyy,zyx] at h
  .cases h
  .simp only[aB] at h;obtain⟨es,_,rfl⟩:=h;exact jB rfl
 .cases h
def aoq {T:TypeId}{n:Nat}{ps:List (Nat×Operand)}(h:Ck C S gs dst T n ps=some r):jH S dst r.1:=by
 unfold Ck at h;split at h
 .simp only[az] at h;obtain⟨e,_,h⟩:=h;split at h
  .cases h;exact jB rfl
  .cases h
 .cases h
def an7 {T:TypeId}{x y:Operand}(h:Fe C S dst T x y=some r):jH S dst r.1:=by
 unfold Fe at h;split at h
 .rename_i E _;simp only[az] at h;obtain⟨e,_,h⟩:=h;split at h
  .rename_i tx ex _;cases hc:(sL C.P E e&&OW tx e)<;>simp only[hc,zyy,zyx] at h
   .cases h
   .split at h
    .cases h;exact jB rfl
    .cases h
    .split at h
     .rename_i j ver _;cases hc:Nat.beq ver (S.ver j)<;>simp only[hc,zyy,zyx] at h
      .cases h
      .split at h
       .rename_i E' e' _;cases hc:(Nat.beq E' E&&Ty.beq e' e)<;>simp only[hc,zyy,zyx] at h<;>cases h;exact jB rfl
       .cases h
     .cases h
  .cases h
 .cases h
def aok {f:Nat}{xs:List Operand}(h:Fi C S dst f xs=some r):jH S dst r.1:=by
 simp only[Fi,az] at h;obtain⟨s,_,h⟩:=h;split at h
 .rename_i T e _;simp only[az] at h;obtain⟨u,_,h⟩:=h;cases hc:Ty.subs u.1 s.args<;>simp only[hc,zyy,zyx] at h<;>cases h;refine jB (X:=(bif e.pure then S else S.fzs (ej S [] xs)).newO dst (.row T e)) ?_;cases e.pure
  .exact(sU _ S).2
  .rfl
 .cases h
def aoo {f:Nat}{xs:List Operand}{q:St×Sh×List PI}(h:Cj C S gs dst f xs=some q):q.1.r=S.r:=by
 simp only[Cj,az] at h;obtain⟨s,_,h⟩:=h;split at h
 .simp only[az] at h;obtain⟨u,_,h⟩:=h;cases hc:Ty.subs u.1 s.args<;>simp only[hc,zyy,zyx] at h<;>cases h;cases s.res.pure
  .exact(sU _ S).2
  .rfl
 .cases h
def aof {x:Operand}{xs:List Operand}{q:St×Sh×List PI}(h:yN C S gs dst x xs=some q):q.1.r=S.r:=by
 unfold yN at h;split at h
 .rename_i aa r0 _ _;split at h
  case h_1=>cases h
  simp only[az] at h;obtain⟨u,_,h⟩:=h;cases hc:Ty.subs u.1 aa<;>simp only[hc,zyy,zyx] at h<;>cases h;cases r0.pure
  .exact(sU _ S).2
  .rfl
 .cases h
def aoC {T:TypeId}{x v:Operand}(h:Fo C S T x v=some r):r.1.r=S.r:=by
 unfold Fo at h;split at h
 case h_2=>cases h
 rename_i inf _;split at h
 .rename_i j ver off _;cases hc:Nat.beq ver (S.ver j)<;>simp only[hc,zyy,zyx] at h
  .cases h
  split at h
  case h_2=>cases h
  rename_i ag shs _;split at h
  .revert h
   generalize (_&&_:Bool)=b;intro h;cases b<;>simp only[zyy,zyx] at h<;>cases h;rfl
  .split at h
   .revert h
    generalize (_&&_:Bool)=b;intro h;cases b<;>simp only[zyy,zyx] at h<;>cases h;rfl
   .cases h
 .rename_i j ver size off _;cases hc:Nat.beq ver (S.ver j)<;>simp only[hc,zyy,zyx] at h
  .cases h
  split at h
  .revert h
   generalize (_&&_:Bool)=b;intro h;cases b<;>simp only[zyy,zyx] at h<;>cases h;rfl
  .revert h
   generalize (_&&_:Bool)=b;intro h;cases b<;>simp only[zyy,zyx] at h<;>cases h;rfl
  .cases h
 .cases h
def acR {T:TypeId}{m k v:Operand}(h:Cl C S T m k v=some r):r.1.r=S.r:=by
 unfold Cl at h;split at h
 .rename_i K _ j ver _ _;cases hc:Nat.beq ver (S.ver j)<;>simp only[hc,zyy,zyx] at h
  .cases h
  split at h
  .revert h
   generalize (_&&_:Bool)=b;intro h;cases b<;>simp only[zyy,zyx] at h<;>cases h;rfl
  .cases h
 .cases h
def aom {f:Nat}{xs:List Operand}(h:Ri C S dst f xs=some r):jH S dst r.1:=by cases h
def aoh {f:Nat}{xs:List Operand}(h:Fh C S dst f xs=some r):jH S dst r.1:=by
 simp only[Fh,az] at h;obtain⟨s,_,h⟩:=h;split at h
 case h_2=>cases h
 split at h
 case h_2=>cases h
 split at h
 case h_2=>cases h
 revert h
 generalize (_&&_:Bool)=b;intro h;cases b<;>simp only[zyy,zyx] at h
 .cases h
 simp only[az] at h;obtain⟨u,_,h⟩:=h
 revert h
 generalize Ty.subs _ _=b;intro h;cases b<;>simp only[zyy,zyx] at h
 .cases h
 cases h;exact jB rfl
def acP {f:Nat}{xs:List Operand}{cs:List (Nat×Nat)}{q:St×Ty×List PI}(h:vR C S f xs cs=some q):q.1.r=S.r:=by
 simp only[vR,az] at h;obtain⟨s,_,h⟩:=h;split at h
 .rename_i shs obs _;unfold Rh Rg at h;simp only[az] at h;obtain⟨u,_,h⟩:=h
  revert h
  generalize (_&&_:Bool)=b;intro h;cases b<;>simp only[zyy,zyx] at h<;>cases h;exact(sU _ S).2
 .cases h
def acN {t:Nat}{xs:List Operand}{q:St×Ty×List PI}(h:Lh C S t xs=some q):q.1.r=S.r:=by cases h
def agJ {dst:Nat}{q:St×Ty×List PI}(h:q.1.r=S.r):jH S dst (rI S (some dst) q).1:=jB h
def aow {fn:Fn}{a b:Array Operand}(h:Rj C S dst fn a b=some r):jH S dst r.1:=by cases h
def anE {o:Oper}(hr:core C S gs o=some r):∀t,o.dst≠some t->r.1.r t=S.r t:=by
 unfold core at hr;split at hr
 .rename_i dst hd
  suffices h:jH S dst r.1 by
   intro t ht;exact h t (λe=>ht (by rw[hd,e]))
  split at hr
  .rename_i q hq;cases fH:MW q.1<;>simp only[fH,zyy,zyx] at hr<;>cases hr;exact jB rfl
  .split at hr
   .rename_i x e _
    have mv:∀r,(match z7 C S [] dst x with|some r=>some (S.setR dst r.1,r.2)|none=>vS C S dst o.type x)=some r->jH S dst r.1:=by
     intro r hr;split at hr
     .cases hr;exact jB rfl
     .exact aoE hr
    cases eE:C.fr.any (Nat.beq dst)<;>simp only[eE,zyy,zyx] at hr
    .split at hr
     .rename_i q hq;cases hr;exact aoy hq
     .exact mv r hr
    .exact mv r hr
   .exact an5 hr
   .exact an9 hr
   .split at hr
    .exact aob hr
    .exact aoq hr
   .exact aou hr
   .exact aos hr
   .exact aoA hr
   .exact aod hr
   .rename_i c e;split at hr
    .split at hr
     .rename_i s x T T' _ _;cases hT:Nat.beq T T'<;>simp only[hT,zyy,zyx] at hr
      .cases hr
      .exact an7 hr
     .cases hr
    .split at hr
     .rename_i q hq;cases hr;exact jB (aoo hq)
     .split at hr
      .split at hr
       .rename_i q hq;cases hr;exact aok hq
       .split at hr
        .rename_i q hq;cases hr;exact aom hq
        split at hr
        .rename_i q hq;cases hr;exact aoh hq
        .simp only[aB] at hr;obtain⟨q,hq,rfl⟩:=hr;exact agJ (acP hq)
      .cases hr
    .split at hr
     .rename_i q hq;cases hr;exact jB (aof hq)
     .split at hr
      .simp only[aB] at hr;obtain⟨q,hq,rfl⟩:=hr;exact agJ (acN hq)
      .cases hr
    .cases hr
   .exact aow hr
   .cases hr
 .split at hr
  .intro t _;rw[aoC hr]
  .intro t _;rw[acR hr]
  .intro t _;rw[acR hr]
  .cases hr;intro t _;rfl
  .intro t _;split at hr
   .simp only[aB] at hr;obtain⟨q,hq,rfl⟩:=hr;simp only[rI,acP hq]
   .simp only[aB] at hr;obtain⟨q,hq,rfl⟩:=hr;simp only[rI,acN hq]
   .cases hr
  .cases hr
def aqF {g:Gh}(hr:g.run C S=some r):∀t,(∀u j,g=.rereg u j->t≠u)->r.1.r t=S.r t:=by
 intro t ht;cases g with
 |fz j=>simp only[Gh.run,bj] at hr;subst hr;rw[aqD]
 |fbox b=>
  simp only[Gh.run,FB] at hr;split at hr
  case h_2=>cases hr
  rename_i ag shs _;simp only[az] at hr;obtain⟨x,_,hr⟩:=hr;cases ag<;>simp only[zyy,zyx] at hr
  .split at hr
   .cases hr;rfl
   .cases hr
  .cases hr;rfl
 |rereg u j=>
  simp only[Gh.run,ID] at hr;split at hr
  .revert hr
   generalize (_&&_:Bool)=b;intro hr;cases b<;>simp only[zyy,zyx] at hr<;>cases hr
   .rfl
   .simp only[St.setR,bJ _ _ (ht u j rfl)];rfl
  .cases hr;rfl
 |recell b i j=>cases hr
 |home b i j T=>
  simp only[Gh.run,Gg] at hr;split at hr
  .split at hr
   .revert hr
    generalize (!_:Bool)=b;intro hr;cases b<;>simp only[zyy,zyx] at hr<;>cases hr<;>rfl
   .cases hr;rfl
  .cases hr;rfl
def RH:∀(l:List Gh) {S:St} {r:St×List PI},ou C l S=some r->∀t,(∀g u j,g∈l->g=.rereg u j->t≠u)->r.1.r t=S.r t
 |[],S,r,hr,t,_=>by simp only[ou,bj] at hr;subst hr;rfl
 |g::l,S,r,hr,t,ht=>by
  simp only[ou,az,aB] at hr;obtain⟨q,hq,q2,ie,rfl⟩:=hr;have h1:=RH l ie t (λg u j hg=>ht g u j (fy _ hg));have h2:=aqF hq t (λu j e=>ht g u j (fQ ..) e);exact h1.trans h2
def ayH (S:St)(gs:List (Nat×Bool))(o:Oper):∀g u j,g∈pre C S gs o.op++VP C S gs o->g≠.rereg u j:=by
 intro g u j hg e;subst e;rw[dZ] at hg;rcases hg with hg|hg
 .unfold pre at hg;split at hg
  .rename_i fn _ _ _;cases ho:agI C fn<;>simp only[ho,zyy,zyx] at hg
   case true=>cases hg
   obtain⟨b,_,hb⟩:=xV.1 hg;rw[dZ] at hb;rcases hb with hb|hb
   .split at hb
    .obtain⟨_,_,h⟩:=cd.1 hb;cases h
    .cases hb
   .simp at hb
  .split at hg
   .replace hg:=axl hg
    split at hg
    .obtain⟨_,_,h⟩:=cd.1 hg;cases h
    .cases hg
   .cases hg
  .obtain⟨_,_,h⟩:=cd.1 hg;cases h
  .obtain⟨_,_,h⟩:=cd.1 hg;cases h
 .unfold VP at hg;split at hg
  .rename_i x t _ _;cases hc:C.fr.any (Nat.beq t)<;>simp only[hc,zyy,zyx] at hg
   .cases hg
   .obtain⟨_,_,h⟩:=cd.1 hg;cases h
  .cases hg
def ayG (S:St)(o:Oper):∀g u j,g∈post C S o->g=.rereg u j->o.dst=some u:=by
 intro g u j hg e;subst e;unfold post at hg;split at hg
 .rename_i t _ hd;simp at hg;rw[hd,hg.1]
 .unfold Mz homes at hg;have:=(dK.1 hg).1;obtain⟨x,_,hx⟩:=A3.1 this;cases kU:x.1<;>rw[kU] at hx<;>simp at hx
 .split at hg
  .unfold Mz homes at hg;have:=(dK.1 hg).1;obtain⟨x,_,hx⟩:=A3.1 this;cases kU:x.1<;>rw[kU] at hx<;>simp at hx
  .cases hg
 .cases hg
def ant {ops:Array Oper}{o:Oper}(hr:E9 C S ops o=some r):∀t,o.dst≠some t->r.1.r t=S.r t:=by
 intro t ht;unfold E9 at hr;split at hr
 .rename_i q hq;cases hr;simp only[La,az] at hq;obtain⟨gs,_,r1,h1,r2,h2,r3,h3,hq⟩:=hq
  revert hq
  generalize Lu gs o.dst r2.2=b;intro hq;cases b<;>simp only[zyy,zyx] at hq<;>cases hq;have e1:=RH _ h1 t (λg u j hg e=>absurd e (ayH S gs o g u j hg));have e2:=anE h2 t ht
  have e3:=RH _ h3 t (λg u j hg e=>by
   have:=ayG r2.1 o g u j hg e;intro e';subst e';exact ht this)
  exact e3.trans (e2.trans e1)
 .cases hr;split
  .rename_i d hd;simp only[St.setR];rw[bJ];intro e;subst e;exact ht hd
  .rfl
def acw {ops:Array Oper}{o:Oper}(hr:yK C S ops o=some r):∀t,o.dst≠some t->r.1.r t=S.r t:=by
 intro t ht;unfold yK at hr;split at hr
 .rename_i q hq;cases hr;unfold Lc at hq;split at hq
  case h_2=>cases hq
  rename_i dst _ args _ _ _ hd _ _;simp only[az] at hq;obtain⟨gs,_,hq⟩:=hq;split at hq
  case h_2=>cases hq
  split at hq
  case h_2=>cases hq
  simp only[az] at hq;obtain⟨u,_,hq⟩:=hq;rw[qz] at hq;split at hq<;>cases hq;simp only[St.setR];rw[bJ,(sU _ S).2];intro e;subst e;exact ht hd
 .exact ant hr t ht
def acy {ops:Array Oper}:∀{l:List Nat} {S:St} {r:St×List PI},vO C ops l S=some r->∀t,(∀i o,i∈l->ops[i]?=some o->o.dst≠some t)->r.1.r t=S.r t
 |[],S,r,h,t,_=>by simp only[vO,bj] at h;subst h;rfl
 |i::l,S,r,h,t,ht=>by
  simp only[vO] at h;split at h
  .rename_i o ho;simp only[az,aB] at h;obtain⟨q,hq,q2,ie,rfl⟩:=h;exact(acy ie t λj o hj=>ht j o (fy _ hj)).trans (acw hq t (ht i o (fQ ..) ho))
  .cases h
end
def lU (S:St):Sh->Sh
 |.opt gs s=>.opt gs (iN S s)
 |s=>iN S s
def St.snapO (n:Nat)(ids:List Nat)(S:St):Snap:=⟨(List.range n).map λt=>lU S (S.r t),ids.map λj=>jU S (S.o j)⟩
def Snap.stO (ids:List Nat)(s:Snap):St:=⟨λt=>s.rs.getD t .none,λj=>dq ids s.os j,λ_=>0⟩
def tD (S:St)(s:Sh):∀gs s',iN S s≠.opt gs s':=by
 intro gs s' e;cases s<;>simp only[iN] at e<;>first|cases e|(revert e;cases Nat.beq _ _<;>intro e<;>cases e)|(revert e;cases List.all _ _<;>intro e<;>cases e)
section
variable {C:Ctx} {S:St} {O:Env} {V:Im} {own:Nat->Option Nat} {hv:Nat->Value} {w0:World} {σ0:Base} {A:Nat->Prop} {a:Act} {w:World} {n:Nat} {ids:List Nat} {Z:aO}
def axs {s:Sh}{v:Value}{d:D}(h:aG C S O V hv s v d){T:St}(hT:T.ver=λ_=>0):aG C T O V hv (lU S s) v d:=by
 have hc:Compat S.norm hv T hv:=⟨λj=>by rw[hT];exact kf _,λ_ _=>rfl⟩
 have key:∀s,aG C S O V hv s v d->aG C T O V hv (iN S s) v d:=λs hs=>aG.mono' (.refl V) hc (tD S s) (MV hs).1;cases s with
 |opt gs s=>exact⟨λhh=>key s (h.1 hh),h.2⟩
 |_=>exact key _ h
def Good.snapO (h:Good C w0 σ0 S O A a w)(n:Nat)(ids:List Nat):Good C w0 σ0 ((S.snapO n ids).stO ids) O A a w:=by
 obtain⟨V,own,hv,h⟩:=h;have h1:=h.norm;have hc:Compat S.norm hv ((S.snapO n ids).stO ids) hv:=⟨λ_=>aZ _,λ_ _=>rfl⟩
 refine⟨V,own,hv,h.defers,h.ok,h.le,h.old,h.newc,h.newm,h.below,h.bw,h.owns,λt=>?_,λj=>?_,λt gs s e=>?_,?_⟩
 rotate_right
 .obtain⟨t,fx,cx,f1,f5⟩:=h.frame;refine⟨t,fx,cx,f1,λj hj=>f5 j ?_⟩;exact zM (λj=>jU S (S.o j)) (λob=>ob=.tr->S.o j=.tr) (λe=>by cases e) j agE ids hj
 .show aG C _ O V hv (((List.range n).map λt=>lU S (S.r t)).getD t .none) _ _;rw[aH,cq];by_cases ht:t<n
  .rw[sy ht];exact axs (h.regs t) rfl
  .rw[j7 (by simpa using ht)];trivial
 .have ho:=(h1.objs j).mono (.refl V) hc (w:=w) (w':=w) rfl rfl (λk hk=>⟨hk,rfl⟩);exact zM (λj=>jU S (S.o j)) (λob=>cf C _ O V own hv w w0.heap.size j ob) trivial j ho ids
 .change ((List.range n).map λt=>lU S (S.r t)).getD t .none=.opt gs s at e;rw[aH,cq] at e;by_cases ht:t<n
  .rw[sy ht] at e;simp only[lC,lz] at e;cases hs:S.r t with
   |opt bN s'=>
    rw[hs] at e;simp only[lU,Sh.opt.injEq] at e;obtain⟨rfl,rfl⟩:=e;exact⟨(h.opts t bN s' hs).1,tD S s'⟩
   |none=>rw[hs] at e;exact absurd e (tD S .none gs s)
   |yv=>rw[hs] at e;exact absurd e (tD S .yv gs s)
   |fclo f c=>rw[hs] at e;exact absurd e (tD S (.fclo f c) gs s)
   |agg l=>rw[hs] at e;exact absurd e (tD S (.agg l) gs s)
   |dat t=>rw[hs] at e;exact absurd e (tD S (.dat t) gs s)
   |obj t u=>rw[hs] at e;exact absurd e (tD S (.obj t u) gs s)
   |ptr t u v=>rw[hs] at e;exact absurd e (tD S (.ptr t u v) gs s)
   |eptr t u v x=>rw[hs] at e;exact absurd e (tD S (.eptr t u v x) gs s)
  .rw[j7 (by simpa using ht)] at e;cases e
def Good.snapF (h:Good C w0 σ0 S O A a w)(n:Nat)(ids:List Nat):Good C w0 σ0 ((S.snap n ids).st ids) O (λ_=>False) a w:=by
 obtain⟨V,own,hv,h⟩:=h;exact⟨V,own,hv,h.snap n ids⟩
def Good.drew (h:Good C w0 σ0 S O A a w):Good C w0 σ0 S O A a {w with drawn:=w.drawn+1}:=by
 obtain⟨V,own,hv,h⟩:=h;refine⟨V,own,hv,h.defers,⟨λk o v e=>h.ok.c k o v e,λk es e=>h.ok.m k es e,λk o n e=>h.ok.f k o n e⟩,h.le,h.old,h.newc,h.newm,h.below.drew,h.bw,h.owns,h.regs,λj=>?_,h.opts,?_⟩
 rotate_right
 .obtain⟨t,fx,cx,f1,f2⟩:=h.frame;exact⟨t,fx,cx,⟨σ0.keep _ _ _ _ _ f1.F (Below.drew (.refl _ _)) (λ_ _=>rfl),f1.own,f1.c,f1.m,f1.d⟩,f2⟩
 exact(h.objs j).mono (.refl V) (.refl S hv) rfl rfl (λk hk=>⟨hk,rfl⟩)
end
def D4 (g:Sh->Sh)(S:St)(rs:List Sh)(ds:List Nat):List Sh:=(ds.foldl (λl d=>l.set d (S.r d)) rs).map g
def ads (S:St):∀(ds:List Nat) (rs:List Sh),(ds.foldl (λl d=>l.set d (S.r d)) rs).length=rs.length/\∀t,t<rs.length->(ds.foldl (λl d=>l.set d (S.r d)) rs).getD t .none=if t∈ds then S.r t else rs.getD t .none
 |[],rs=>⟨rfl,λt _=>by simp⟩
 |d::ds,rs=>by
  obtain⟨h1,h2⟩:=ads S ds (rs.set d (S.r d));simp only[List.length_set] at h1 h2;refine⟨h1,λt ht=>?_⟩;rw[vG,h2 t ht];simp only[cv,aH,Jf];by_cases hm:t∈ds
  .simp[hm]
  .by_cases e:d=t
   .subst e;simp[hm,ht]
   .have e':¬t=d:=λh=>e h.symm;simp[hm,e,e']
def OS {g:Sh->Sh}{S:St}{rs:List Sh}{ds:List Nat}(h:∀t,t∉ds->g (rs.getD t .none)=g (S.r t)):D4 g S rs ds=(List.range rs.length).map λt=>g (S.r t):=by
 obtain⟨h1,h2⟩:=ads S ds rs;unfold D4;apply vE;intro t;simp only[cq];by_cases ht:t<rs.length
 .have:=h2 t ht;rw[aH,aY (by omega)] at this;rw[aY (by omega),sy ht];simp only[lz,lC] at this ⊢;rw[this];by_cases hm:t∈ds
  .simp[hm]
  .simp only[hm,if_false];rw[h t hm]
 .rw[j7 (by omega),j7 (by simpa using ht)];rfl
def Sh.hd {α:Type}(s:Sh)(k:Sh->α):α:=
 match s with
 |.none=>k .none
 |.dat t=>k (.dat t)
 |.obj j v=>k (.obj j v)
 |.ptr j v o=>k (.ptr j v o)
 |.eptr j v z o=>k (.eptr j v z o)
 |.opt gs s=>k (.opt gs s)
 |.yv=>k .yv
 |.fclo f c=>k (.fclo f c)
 |.agg l=>k (.agg l)
def Sh.hd_eq {α:Type}(s:Sh)(k:Sh->α):s.hd k=k s:=by cases s<;>rfl
def CB {α:Type}:List Sh->(List Sh->α)->α
 |[],k=>k []
 |s::l,k=>s.hd λs=>CB l λl=>k (s::l)
def RY {α:Type}:∀(l:List Sh) (k:List Sh->α),CB l k=k l
 |[],_=>rfl
 |s::l,k=>by rw[CB,Sh.hd_eq,RY l]
def Ob.hd {α:Type}(s:Ob)(k:Ob->α):α:=
 match s with
 |.dead=>k .dead
 |.fz t=>k (.fz t)
 |.fbox t=>k (.fbox t)
 |.box true l=>CB l λl=>k (.box true l)
 |.box false l=>CB l λl=>k (.box false l)
 |.row T e=>k (.row T e)
 |.mp a b=>k (.mp a b)
 |.it a b=>k (.it a b)
 |.tr=>k .tr
def Ob.hd_eq {α:Type}(s:Ob)(k:Ob->α):s.hd k=k s:=by
 cases s with
 |box ag l=>cases ag<;>simp only[Ob.hd,RY]
 |_=>rfl
def LK {α:Type}:List Ob->(List Ob->α)->α
 |[],k=>k []
 |s::l,k=>s.hd λs=>LK l λl=>k (s::l)
def adV {α:Type}:∀(l:List Ob) (k:List Ob->α),LK l k=k l
 |[],_=>rfl
 |s::l,k=>by rw[LK,Ob.hd_eq,adV l]
def Snap.hard {α:Type}(s:Snap)(k:Snap->α):α:=CB s.rs λa=>LK s.os λb=>k ⟨a,b⟩
def Snap.hard_eq {α:Type}(s:Snap)(k:Snap->α):s.hard k=k s:=by rw[Snap.hard,RY,adV]
def LL {α β:Type}:List β->(List β->α)->α
 |[],k=>k []
 |s::l,k=>LL l λl=>k (s::l)
def adX {α β:Type}:∀(l:List β) (k:List β->α),LL l k=k l
 |[],_=>rfl
 |s::l,k=>by rw[LL,adX l]
def FK {α β:Type}:List (List β)->(List (List β)->α)->α
 |[],k=>k []
 |s::l,k=>LL s λs=>FK l λl=>k (s::l)
def adW {α β:Type}:∀(l:List (List β)) (k:List (List β)->α),FK l k=k l
 |[],_=>rfl
 |s::l,k=>by rw[FK,adX,adW l]
def aE (P:Program){α:Type}(s:Sem α):Prop:=(∃a,∀w,s.run P w=.ok a w)\/∀w,∃h w',s.run P w=.halt h w'
section
variable {P:Program}
def aE.pure {α:Type}(a:α):aE P (Sem.pure a):=.inl ⟨a,λw=>rfl⟩
def aE.pure' {α:Type}(a:α):aE P (Pure.pure a:Sem α):=.inl ⟨a,λw=>rfl⟩
def aE.halt {α:Type}(h:Halt):aE P (Sem.halt h:Sem α):=.inr λw=>⟨h,w,rfl⟩
def aE.bind' {α β:Type}{s:Sem α}{f:α->Sem β}(h:aE P s)(hf:∀a,(∀w,s.run P w=.ok a w)->aE P (f a)):aE P (s>>=f):=by
 rcases h with⟨a,ha⟩|hd
 .rcases hf a ha with⟨b,hb⟩|hd
  .exact .inl ⟨b,λw=>by rw[Sem.run_bind,ha w];exact hb w⟩
  .refine .inr λw=>?_;obtain⟨x,w',e⟩:=hd w;exact⟨x,w',by rw[Sem.run_bind,ha w];exact e⟩
 .refine .inr λw=>?_;obtain⟨x,w',e⟩:=hd w;exact⟨x,w',by rw[Sem.run_bind,e];rfl⟩
def aE.bind {α β:Type}{s:Sem α}{f:α->Sem β}(h:aE P s)(hf:∀a,aE P (f a)):aE P (s>>=f):=h.bind' λa _=>hf a
def cn {α:Type}(s:Sem α):Prop:=∀P w,∃h w',s.run P w=.halt h w'
def cn.noW {α:Type}{s:Sem α}(h:cn s):aE P s:=.inr (h P)
def cn.halt {α:Type}(h:Halt):cn (Sem.halt h:Sem α):=λP w=>⟨h,w,rfl⟩
def cn.of_bind {α β:Type}{s:Sem α}{f:α->Sem β}(hf:∀a,cn (f a)):cn (s>>=f):=by
 intro P w;rw[Sem.run_bind];cases e:s.run P w with
 |ok a w'=>exact hf a P w'
 |halt h w'=>exact⟨h,w',rfl⟩
def aE.asBool (v:Value):aE P (Go.asBool v):=by
 cases v<;>first|exact .pure _|exact .halt _
def aE.asIntOf (v:Value):aE P (Go.asIntOf v):=by
 unfold Go.asIntOf;split<;>first|exact .pure _|exact .halt _
def aE.sureAddr (v:Value):aE P (Instr.sureAddr v):=by
 unfold Instr.sureAddr;split<;>first|exact .pure _|exact .halt _
def aE.prog:aE P Go.program:=.inl ⟨P,λw=>rfl⟩
def aE.underlying (t:TypeId):aE P (Go.underlying t):=by
 unfold Go.underlying;refine .bind .prog λp=>?_;split<;>first|exact .pure _|exact .halt _
def aE.sizeOf (t:TypeId):aE P (Go.sizeOf t):=by
 unfold Go.sizeOf Go.typeInfo;refine .bind (.bind .prog λp=>?_) λ_=>.pure _;split<;>first|exact .pure _|exact .halt _
def cn.runtimePanic {α:Type}(e:RuntimeError):cn (Go.runtimePanic e:Sem α):=by
 unfold Go.runtimePanic;refine .of_bind λp=>?_;cases e<;>first|exact .halt _|exact .of_bind λ_=>.halt _|exact .of_bind λ_=>.of_bind λ_=>.halt _
def cn.boundsPanic {α:Type}(k:IntKind)(x y:Int)(c:BoundsCode):cn (Go.boundsPanic k x y c:Sem α):=by
 unfold Go.boundsPanic;dsimp only;split<;>exact .of_bind λ_=>.runtimePanic _
def aE.indexAt (t:TypeId)(x i:Value):aE P (Instr.indexAt t x i):=by
 unfold Instr.indexAt
 repeat' (first|(first|exact aE.pure _|exact aE.pure' _|exact aE.halt _|exact cn.noW (cn.boundsPanic _ _ _ _)|exact cn.noW (cn.runtimePanic _)|exact aE.prog|exact aE.underlying _|exact aE.sizeOf _|exact aE.asIntOf _|exact aE.sureAddr _|exact aE.asBool _)|(refine aE.bind ?_ λ_=>?_)|dsimp only|split)
def aE.sliceBound (x:Value)(y:Nat)(c:BoundsCode):aE P (Instr.sliceBound x y c):=by
 unfold Instr.sliceBound
 repeat' (first|(first|exact aE.pure _|exact aE.pure' _|exact aE.halt _|exact cn.noW (cn.boundsPanic _ _ _ _)|exact cn.noW (cn.runtimePanic _)|exact aE.prog|exact aE.underlying _|exact aE.sizeOf _|exact aE.asIntOf _|exact aE.sureAddr _|exact aE.asBool _)|(refine aE.bind ?_ λ_=>?_)|dsimp only|split)
def aE.sliceBounds (b:Bool)(n m:Nat)(lo hi mx:Option Value):aE P (Instr.sliceBounds b n m lo hi mx):=by
 unfold Instr.sliceBounds
 repeat' (first|exact aE.sliceBound _ _ _|(first|exact aE.pure _|exact aE.pure' _|exact aE.halt _|exact cn.noW (cn.boundsPanic _ _ _ _)|exact cn.noW (cn.runtimePanic _)|exact aE.prog|exact aE.underlying _|exact aE.sizeOf _|exact aE.asIntOf _|exact aE.sureAddr _|exact aE.asBool _)|(refine aE.bind ?_ λ_=>?_)|dsimp only|split)
def aE.asAddr (v:Value):aE P (Go.asAddr v):=by
 unfold Go.asAddr
 repeat' (first|(first|exact aE.pure _|exact aE.pure' _|exact aE.halt _|exact cn.noW (cn.boundsPanic _ _ _ _)|exact cn.noW (cn.runtimePanic _)|exact aE.prog|exact aE.underlying _|exact aE.sizeOf _|exact aE.asIntOf _|exact aE.sureAddr _|exact aE.asBool _)|(refine aE.bind ?_ λ_=>?_)|dsimp only|split)
def aE.slice (t:TypeId)(x:Value)(lo hi mx:Option Value):aE P (Instr.slice t x lo hi mx):=by
 unfold Instr.slice
 repeat' (first|exact aE.sliceBounds _ _ _ _ _ _|exact aE.asAddr _|(first|exact aE.pure _|exact aE.pure' _|exact aE.halt _|exact cn.noW (cn.boundsPanic _ _ _ _)|exact cn.noW (cn.runtimePanic _)|exact aE.prog|exact aE.underlying _|exact aE.sizeOf _|exact aE.asIntOf _|exact aE.sureAddr _|exact aE.asBool _)|(refine aE.bind ?_ λ_=>?_)|dsimp only|split)
def aE.sliceAt (t:TypeId)(x:Value)(lo hi mx:Option Value):aE P (Instr.sliceAt t x lo hi mx):=by
 unfold Instr.sliceAt
 repeat' (first|exact aE.sliceBounds _ _ _ _ _ _|exact aE.slice _ _ _ _ _|(first|exact aE.pure _|exact aE.pure' _|exact aE.halt _|exact cn.noW (cn.boundsPanic _ _ _ _)|exact cn.noW (cn.runtimePanic _)|exact aE.prog|exact aE.underlying _|exact aE.sizeOf _|exact aE.asIntOf _|exact aE.sureAddr _|exact aE.asBool _)|(refine aE.bind ?_ λ_=>?_)|dsimp only|split)
def XK (P:Program)(s:TypeId)(i:Nat):Bool:=
 match P.underlying s with
 |some (.struct fs)=>(match fs[i]? with
  |some f=>(match P.info? f.type with|some d=> !Nat.beq d.size 0|none=>false)
  |none=>false)
 |_=>false
def akE {t:TypeId}{d:TypeDesc}(h:∀w,(Go.underlying t).run P w=.ok d w):P.underlying t=some d:=by
 have:=h default;unfold Go.underlying at this;rw[Sem.run_bind] at this;change Result.andThen (.ok P default) _=_ at this;simp only[Result.andThen_ok] at this;cases hp:P.underlying t with
 |none=>rw[hp] at this;cases this
 |some e=>
  rw[hp] at this;change Result.ok e default=_ at this;cases this;rfl
def aE.fieldAt {s:TypeId}{i:Nat}(h:XK P s i=true)(a:Value):aE P (Instr.fieldAt s a i):=by
 unfold Instr.fieldAt;refine .bind' (.underlying _) λd hd=>?_;have hu:=akE hd;unfold XK at h;rw[hu] at h;cases d<;>dsimp only at h ⊢<;>try (first|exact aE.pure _|exact aE.pure' _|exact aE.halt _|exact cn.noW (cn.boundsPanic _ _ _ _)|exact cn.noW (cn.runtimePanic _)|exact aE.prog|exact aE.underlying _|exact aE.sizeOf _|exact aE.asIntOf _|exact aE.sureAddr _|exact aE.asBool _)
 rename_i fs;cases hf:fs[i]? with
 |none=>dsimp only;(first|exact aE.pure _|exact aE.pure' _|exact aE.halt _|exact cn.noW (cn.boundsPanic _ _ _ _)|exact cn.noW (cn.runtimePanic _)|exact aE.prog|exact aE.underlying _|exact aE.sizeOf _|exact aE.asIntOf _|exact aE.sureAddr _|exact aE.asBool _)
 |some f=>
  rw[hf] at h;dsimp only at h ⊢;refine .bind (.sureAddr _) λa=>.bind ?_ λ_=>.pure _;unfold Go.fieldPlace;refine .bind' (.sizeOf _) λn hn=>?_;have hz:n≠0:=by
   intro e;have:=hn default;unfold Go.sizeOf Go.typeInfo at this;cases hi:P.info? f.type with
   |none=>rw[hi] at h;cases h
   |some inf=>
    rw[hi] at h;rw[Sem.run_bind,Sem.run_bind] at this;change Result.andThen (Result.andThen (.ok P default) _) _=_ at this;simp only[Result.andThen_ok,hi] at this;change Result.ok inf.size default=_ at this;cases this;dsimp only at h;rw[e] at h;cases h
  rw[if_neg hz]
  (first|exact aE.pure _|exact aE.pure' _|exact aE.halt _|exact cn.noW (cn.boundsPanic _ _ _ _)|exact cn.noW (cn.runtimePanic _)|exact aE.prog|exact aE.underlying _|exact aE.sizeOf _|exact aE.asIntOf _|exact aE.sureAddr _|exact aE.asBool _)
def Ds (P:Program):Op->Bool
 |.move _=>true
 |.assign _=>true
 |.pick ..=>true
 |.fieldAddr s _ i=>XK P s i
 |.indexAddr ..=>true
 |.slice ..=>true
 |.convert _ d _=>(match P.underlying d with|some (.int _)=>true|_=>false)
 |.binOp op ..=>(match op with|.quo|.rem|.shl|.shr=>false|_=>true)
 |_=>false
def zT:Op->List Operand
 |.convert _ _ x=>[x]
 |.binOp _ _ x y _=>[x,y]
 |_=>[]
def ayQ {o:Oper}(hp:Ds P o.op=true)(O:Operand->Value)(hn:∀x,x∈zT o.op->∃k n,O x=.int k n):(∃v,∀w,(execOp O o).run P w=.ok (.value v) w)\/∀w,∃h w',(execOp O o).run P w=.halt h w':=by
 have key:∀s:Sem Value,aE P s->(∃v,∀w,(do Pure.pure (Next.value (<-s)):Sem Next).run P w=.ok (.value v) w)\/∀w,∃h w',(do Pure.pure (Next.value (<-s)):Sem Next).run P w=.halt h w':=by
  intro s hs;rcases hs with⟨a,ha⟩|hd
  .exact .inl ⟨a,λw=>by rw[Sem.run_bind,ha w];rfl⟩
  .refine .inr λw=>?_;obtain⟨x,w',e⟩:=hd w;exact⟨x,w',by rw[Sem.run_bind,e];rfl⟩
 obtain⟨dst,op,type,pos,after,guard⟩:=o;cases op<;>first|(cases hp;done)|skip
 case move x=>exact .inl ⟨_,λw=>rfl⟩
 case assign x=>exact .inl ⟨_,λw=>rfl⟩
 case pick c a b=>
  have:=key (do Pure.pure (if<-Go.asBool (O c) then O a else O b)) (.bind (.asBool _) λ_=>.pure _);simp only[execOp];rcases aE.asBool (P:=P) (O c) with⟨t,ht⟩|hd
  .exact .inl ⟨_,λw=>by rw[Sem.run_bind,ht w];rfl⟩
  .refine .inr λw=>?_;obtain⟨x,w',e⟩:=hd w;exact⟨x,w',by rw[Sem.run_bind,e];rfl⟩
 case fieldAddr s x i=>exact key _ (.fieldAt hp _)
 case indexAddr t x i=>exact key _ (.indexAt _ _ _)
 case slice t x lo hi mx=>exact key _ (.sliceAt _ _ _ _ _)
 case convert s d x=>
  obtain⟨k,n,e⟩:=hn x (by simp[zT]);refine key (Go.convert s d (O x)) ?_;rw[e];unfold Go.convert;refine .bind (.underlying _) λ_=>.bind' (.underlying _) λu hu=>?_;simp only[Ds,akE hu] at hp;cases u<;>first|exact .pure' _|cases hp
 case binOp op t x y c=>
  obtain⟨k,n,e⟩:=hn x (by simp[zT]);obtain⟨k',n',e'⟩:=hn y (by simp[zT]);refine key (do eqGuard op t x y (O x) (O y);Go.binOp op t (O x) (O y)) ?_;rw[e,e'];refine .bind ?_ λ_=>?_
  .unfold eqGuard;cases op<;>exact .pure' _
  .cases op<;>first|(cases hp;done)|skip
   all_goals
        unfold Go.binOp;dsimp only;split
        .exact .halt _
        .exact .pure' _
def ayR {rd:Option Nat}{ops:Array Oper}{i:Nat}{o:Oper}{a:Act}{w:World}{K:Act->World->Prop}(hi:ops[i]?=some o)(hp:Ds P o.op=true)(hn:∀x,x∈zT o.op->∃k n,a.eval x=.int k n)
 (h:wpOpIn (FR rd) 0 P ops (λ_ _ _=>False) i K a w):∃v,YieldsFenced P ops o v a/\K (a.put o.dst v) w:=by
 have bp:∀c,o.op≠.defer c:=λc e=>by rw[e] at hp;cases hp
 have mc:∀w,o.about P w a.eval=none:=λw=>by
  unfold Oper.about;cases ho:o.op<;>first|rfl|(rw[ho] at hp;cases hp)
 unfold wpOpIn at h;rw[hi] at h;dsimp only at h;cases hw:Region.wanted o (yielded ops a.tmps) with
 |false=>
  rw[hw] at h;exact⟨undef,⟨.inr ⟨hw,rfl⟩,mc⟩,h.2⟩
 |true=>
  rw[hw,if_pos rfl] at h;have h2:=h.2;rw[Oper.semAt_eq _ _ _ bp] at h2;rcases ayQ hp a.eval hn with⟨v,hv⟩|hd
  .rw[hv w] at h2;exact⟨v,⟨.inl ⟨hw,hv⟩,mc⟩,h2⟩
  .obtain⟨x,w',e⟩:=hd w;rw[e] at h2;cases x<;>exact h2.elim
section
variable {F:Fence} {n:Nat} {ops:Array Oper} {Q:Exit->Act->World->Prop} {md:Region.Mode}
def YF.wpOpIn {i:Nat}{o:Oper}{v:Value}{a:Act}(bp:tF o.op=true)(hi:ops[i]?=some o)(hy:YieldsFenced P ops o v a)
 {K:Act->World->Prop} {w:World} (h:K (a.put o.dst v) w):wpOpIn F n P ops Q i K a w:=by
 have nf:∀c,o.op≠.defer c:=λc e=>by rw[e] at bp;cases bp
 unfold Go.wpOpIn;simp only[hi];have mc:∀f,o.about P w a.eval=some f->F.fn f:=λf hf=>by rw[hy.2 w] at hf;cases hf
 rcases hy.1 with⟨hw,hv⟩|⟨hw,rfl⟩
 .simp only[hw,if_true,Oper.wpIn,Oper.semAt_eq _ _ _ nf,hv w,Oper.uponIn];exact⟨mc,h⟩
 .simp only[hw,AT,if_false];exact⟨mc,h⟩
def aEs {j:Nat}{oi oj:Oper}{v:Value}(bp:tF oj.op=true)(hj:ops[j]?=some oj)(RX:oi.apart ops oj=true)
 (hsi:∀cs b,oi.op≠.select cs b) (hsj:∀cs b,oj.op≠.select cs b)
 (hQ:∀c a w,Q (.panic c) (a.put oi.dst v) w->Q (.panic c) a w) {K:Act->World->Prop} {a:Act} {w:World}
 (hy:YieldsFenced P ops oi v a) (h:wpOpIn F n P ops Q j K (a.put oi.dst v) w):
 wpOpIn F n P ops Q j (λa' w'=>YieldsFenced P ops oi v a'/\K (a'.put oi.dst v) w') a w:=by
 have nf:∀c,oj.op≠.defer c:=λc e=>by rw[e] at bp;cases bp
 obtain⟨h1,h2,h3⟩:=Oper.apart_spec RX;have keep:∀(a:Act),YieldsFenced P ops oi v a->∀u,YieldsFenced P ops oi v (a.put oj.dst u):=λa hy u=>
  hy.of_same (execOp_put oi hsi a oj.dst u h3) (wanted_put oi a oj.dst u h3) (λw=>about_put oi w a oj.dst u h3)
 have ij:∀d,YieldsFenced P ops oi v {a with defers:=d::a.defers}:=λd=>hy.of_same rfl rfl (λ_=>rfl);unfold Go.wpOpIn at*;simp only[hj] at*;rw[wanted_put oj a oi.dst v h1,about_put oj w a oi.dst v h1] at h;split
 .rename_i hw;simp only[hw,if_true] at h;unfold Oper.wpIn at*;rw[about_put oj w a oi.dst v h1] at h;refine⟨h.1,?_⟩;have h:=h.2;rw[Oper.semAt_eq _ _ _ nf,execOp_put oj hsj a oi.dst v h1] at h;rw[Oper.semAt_eq _ _ _ nf];generalize (execOp a.eval oj).run P w=r at*;cases r with
  |ok x w'=>
   cases x<;>simp only[Oper.uponIn] at h ⊢
   case value u=>exact⟨keep a hy u,by rw[<-Act.put_comm a v u h2];exact h⟩
   case skip=>exact⟨keep a hy _,by rw[<-Act.put_comm a v undef h2];exact h⟩
   case defer d=>
        refine⟨keep _ (ij d) _,?_⟩;rw[<-Act.put_comm _ v undef h2,<-Act.put_defers];exact h
   case enter f args=>
        refine⟨h.1,CallsIn.mono h.2 λe ll he=>?_⟩;cases e with
        |returned u=>exact⟨keep a hy u,by rw[<-Act.put_comm a v u h2];exact he⟩
        |panicked c=>exact hQ _ _ _ he
        |outgrown=>exact he
   case row row args=>exact⟨h.1,RowsIn.mono h.2 λu ll he=>⟨keep a hy u,by rw[<-Act.put_comm a v u h2];exact he⟩⟩
   case round l f tmps assign body=>
        refine⟨h.1,RoundIn.mono h.2 λe ll he=>?_⟩;cases e with
        |returned u=>exact⟨keep a hy u,by rw[<-Act.put_comm a v u h2];exact he⟩
        |panicked c=>exact hQ _ _ _ he
        |outgrown=>exact he
  |halt x w'=>
   cases x<;>simp only[Oper.uponIn] at h ⊢
   case panic u=>exact hQ _ _ _ h
 .rename_i hw;simp only[hw] at h;exact⟨h.1,keep a hy _,by rw[<-Act.put_comm a v undef h2];exact h.2⟩
def aEr {i:Nat}{oi:Oper}{v:Value}(bp:∀(j:Nat) (o:Oper),ops[j]?=some o->tF o.op=true)(hi:ops[i]?=some oi)(CX:∀(j:Nat) (o:Oper) cs b,ops[j]?=some o->o.op≠.select cs b)
 (hQ:∀c a w,Q (.panic c) (a.put oi.dst v) w->Q (.panic c) a w):
 ∀(fuel:Nat) (listed:Array Bool) (a:Act) (w:World),
  (∀j oj,ops[j]?=some oj->j≠i->listed.getD j true=false->(∀e∈oj.after,Region.binds md e=true->e.on≠i)->oi.apart ops oj=true)->
  i∈Region.ready md ops listed->YieldsFenced P ops oi v a->
  wpAnyIn F n P md ops Q fuel (listed.setIfInBounds i true) (a.put oi.dst v) w->wpAnyIn F n P md ops Q (fuel+1) listed a w:=by
 intro fuel
 induction fuel with
 |zero=>
  intro listed a w _ hr hy zzt;refine⟨λh=>(by rw[h] at hr;cases hr),λj hj=>?_⟩;by_cases ko:j=i
  .subst ko;exact YF.wpOpIn (bp _ _ hi) hi hy zzt
  .have:=ready_mono hj ko;rw[zzt.1] at this;cases this
 |succ fuel ih=>
  intro listed a w oB hr hy zzt;refine⟨λh=>(by rw[h] at hr;cases hr),λj hj=>?_⟩;by_cases ko:j=i
  .subst ko;exact YF.wpOpIn (bp _ _ hi) hi hy zzt
  .have h1:=zzt.2 j (ready_mono hj ko);obtain⟨aer,oj,Mg,aP⟩:=mem_ready.1 hj
   have SF:∀e∈oj.after,Region.binds md e=true->e.on≠i:=λe he hb heq=>by
        have h1:=aP e he hb;have h0:=(mem_ready.1 hr).1;rw[heq] at h1;rcases Jm i listed.size with h'|h'
        .simp[h'] at h0 h1;rw[h0] at h1;cases h1
        .simp[Array.getElem?_eq_none h'] at h1
   have h2:=aEs (bp _ _ Mg) Mg (oB j oj Mg ko aer SF) (λcs b=>CX i oi cs b hi) (λcs b=>CX j oj cs b Mg) hQ hy h1;have arX:∀k ok,ops[k]?=some ok->k≠i->(listed.setIfInBounds j true).getD k true=false->
    (∀e∈ok.after,Region.binds md e=true->e.on≠i)->oi.apart ops ok=true:=λk ok hk hki mi fH=>by
        refine oB k ok hk hki ?_ fH;by_cases mY:j=k
        .subst mY;exact aer
        .rw[getD_set_ne true mY] at mi;exact mi
   refine wpOpIn_mono (λa' w' h3=>ih (listed.setIfInBounds j true) a' w' arX (ready_mono hr (yb ko)) h3.1 ?_) h2;rw[Array.setIfInBounds_comm _ _ ko];exact h3.2
end
end
def uv (P:Program)(ops:Array Oper):List (Option (List Nat)):=(List.range ops.size).map λi=>match ops[i]? with
 |some oi=>bif Ds P oi.op then some ((List.range ops.size).filter λj=> !(Nat.beq j i||(match ops[j]? with|some oj=>(oj.after.toList.any λe=>Region.binds .any e&&Nat.beq e.on i)||oi.apart ops oj|none=>true))) else none
 |none=>none
def D7 (bad:List (Option (List Nat)))(pu:Nat->Bool)(E:Nat):List Nat->Option Nat
 |[]=>none
 |i::l=>match bad.getD i none with
  |some b=>bif b.all (aU E)&&pu i then some i else D7 bad pu E l
  |none=>D7 bad pu E l
def Uw (ops:Array Oper):Bool:=ops.toList.all λo=>match o.op with|.select ..=>false|_=>true
def O1 {bad:List (Option (List Nat))}{pu:Nat->Bool}{E:Nat}:∀{l:List Nat} {i:Nat},D7 bad pu E l=some i->i∈l/\pu i=true/\∃b,bad.getD i none=some b/\b.all (aU E)=true
 |[],_,h=>by cases h
 |i::l,j,h=>by
  unfold D7 at h;split at h
  .rename_i b hb;cases hc:b.all (aU E)&&pu i with
   |true=>
    rw[hc] at h;cases h;rw[au] at hc;exact⟨fQ ..,hc.2,b,hb,hc.1⟩
   |false=>
    rw[hc] at h;obtain⟨h1,h2⟩:=O1 h;exact⟨fy _ h1,h2⟩
  .obtain⟨h1,h2⟩:=O1 h;exact⟨fy _ h1,h2⟩
def amk {P:Program}{ops:Array Oper}{i:Nat}{b:List Nat}(h:(uv P ops).getD i none=some b):∃oi,ops[i]?=some oi/\Ds P oi.op=true/\
 ∀j oj,ops[j]?=some oj->j≠i->j∉b->(∀e∈oj.after,Region.binds .any e=true->e.on≠i)->oi.apart ops oj=true:=by
 unfold uv at h;rw[aH,cq] at h;by_cases hi:i<ops.size
 .rw[sy hi] at h;simp only[lC,lz] at h;rw[jF hi] at h;dsimp only at h;cases hp:Ds P ops[i].op<;>rw[hp] at h<;>simp only[zyy,zyx] at h
  .cases h
  injection h with h
  refine⟨ops[i],jF hi,hp,λj oj hj ko L6 fH=>?_⟩;have af:j<ops.size:=(eA.1 hj).1;rw[<-h] at L6;have h2:¬(!(Nat.beq j i||(match ops[j]? with|some oj=>(oj.after.toList.any λe=>Region.binds .any e&&Nat.beq e.on i)||ops[i].apart ops oj|none=>true)))=true:=λhc=>L6 (dK.2 ⟨fR.2 af,hc⟩);rw[hj,fS ko] at h2;simp only[Bool.false_or,l6,Bool.not_eq_false,j5] at h2;rcases h2 with h2|h2
  .obtain⟨e,he,hb⟩:=xR.1 h2;rw[au] at hb;exact absurd (df hb.2) (fH e (by simpa using he) hb.1)
  .exact h2
 .rw[j7 (by simpa using hi)] at h;cases h
def GI (E:Nat)(T:Snap):List (Nat×Snap)->Option (List (Nat×Snap))
 |[]=>some [(E,T)]
 |x::l=>bif Nat.beq x.1 E then(bif x.2.beq T then some (x::l) else none) else(GI E T l).map (x::·)
def tW (ops:Array Oper)(E:Nat):List Nat:=
 (List.range ops.size).filter λi=> !aU E i&&(match ops[i]? with|some o=>o.after.toList.all λe=> !Region.binds .any e||aU E e.on|none=>false)
def Vq (C:Ctx)(ops:Array Oper)(n:Nat)(ids:List Nat)(X:List (List PI))(nc:List (List Nat))(E:Nat)(T:Snap)(i:Nat):Option (Nat×Snap):=
 match ops[i]? with
 |some o=>(yK C (T.stO ids) ops o).bind λr=>
  bif PI.beqs r.2 (X.getD i [])&&(nc.getD i []).all (aU E) then some (Nat.lor E (iI i),⟨D4 (lU r.1) r.1 T.rs o.dst.toList,ids.map λj=>jU r.1 (r.1.o j)⟩) else none
 |none=>none
def afn (C:Ctx)(S:St)(x:Operand):Bool:=match use C S [] x with|some (.int _,_)=>true|_=>false
def w7 (C:Ctx)(ids:List Nat)(ops:Array Oper)(U:Snap)(i:Nat):Bool:=match ops[i]? with|some o=>(zT o.op).all (afn C (U.stO ids))|none=>false
def IQ (one:Nat->Option (Nat×Snap)):List Nat->List (Nat×Snap)->Option (List (Nat×Snap))
 |[],acc=>some acc
 |i::l,acc=>(one i).bind λx=>x.2.hard λT=>(GI x.1 T acc).bind λacc=>IQ one l acc
def qM (ops:Array Oper)(bad:List (Option (List Nat)))(pu:Nat->Bool)(E:Nat):List Nat:=
 match D7 bad pu E (tW ops E) with
 |some i=>[i]
 |none=>tW ops E
def GR (ops:Array Oper)(bad:List (Option (List Nat)))(pu:Snap->Nat->Bool)(one:Nat->Snap->Nat->Option (Nat×Snap)):List (Nat×Snap)->List (Nat×Snap)->Option (List (Nat×Snap))
 |[],acc=>some acc
 |x::l,acc=>
  match qM ops bad (pu x.2) x.1 with
  |[]=>none
  |rs=>(IQ (one x.1 x.2) rs acc).bind λacc=>GR ops bad pu one l acc
def IK (ops:Array Oper)(bad:List (Option (List Nat)))(pu:Snap->Nat->Bool)(one:Nat->Snap->Nat->Option (Nat×Snap)):Nat->List (Nat×Snap)->Option Snap
 |0,L=>
  match L with
  |[x]=>bif (List.range ops.size).all (aU x.1) then some x.2 else none
  |_=>none
 |k+1,L=>(GR ops bad pu one L []).bind λL=>IK ops bad pu one k L
def afm {E:Nat}{T:Snap}:∀{l l':List (Nat×Snap)},GI E T l=some l'->(E,T)∈l'/\∀x,x∈l->x∈l'
 |[],l',h=>by simp only[GI,bj] at h;subst h;simp
 |x::l,l',h=>by
  simp only[GI] at h;cases hb:Nat.beq x.1 E<;>simp only[hb,zyy,zyx] at h
  .simp only[aB] at h;obtain⟨l2,h2,rfl⟩:=h;obtain⟨h3,h4⟩:=afm h2;exact⟨fy _ h3,λy hy=>(cv.1 hy).elim (λe=>e▸fQ ..) λhm=>fy _ (h4 y hm)⟩
  .cases hs:x.2.beq T<;>simp only[hs,zyy,zyx] at h
   .cases h
   .cases h;refine⟨?_,λy hy=>hy⟩;have e1:=df hb;have e2:=Snap.beq_eq _ _ hs;subst e1;subst e2;simp
def akk {one:Nat->Option (Nat×Snap)}:∀{rs:List Nat} {acc Ex:List (Nat×Snap)},IQ one rs acc=some Ex->(∀x,x∈acc->x∈Ex)/\∀i,i∈rs->∃x,one i=some x/\x∈Ex
 |[],acc,Ex,h=>by simp only[IQ,bj] at h;subst h;simp
 |i::rs,acc,Ex,h=>by
  simp only[IQ,Snap.hard_eq,az] at h;obtain⟨x,hx,alx,h1,h2⟩:=h;obtain⟨h3,h4⟩:=afm h1;obtain⟨h5,h6⟩:=akk h2;refine⟨λy hy=>h5 y (h4 y hy),λj hj=>?_⟩;rcases cv.1 hj with e|hm
  .subst e;exact⟨x,hx,h5 _ h3⟩
  .exact h6 j hm
def afO {ops:Array Oper}{bad:List (Option (List Nat))}{pu:Snap->Nat->Bool}{one:Nat->Snap->Nat->Option (Nat×Snap)}:∀{L acc L':List (Nat×Snap)},GR ops bad pu one L acc=some L'->
 (∀x,x∈acc->x∈L')/\∀x,x∈L->qM ops bad (pu x.2) x.1≠[]/\∀i,i∈qM ops bad (pu x.2) x.1->∃y,one x.1 x.2 i=some y/\y∈L'
 |[],acc,L',h=>by simp only[GR,bj] at h;subst h;simp
 |x::L,acc,L',h=>by
  simp only[GR] at h;split at h
  .cases h
  .rename_i ay;simp only[az] at h;obtain⟨alx,h1,h2⟩:=h;obtain⟨h3,h4⟩:=akk h1;obtain⟨h5,h6⟩:=afO h2;refine⟨λy hy=>h5 y (h3 y hy),λy hy=>?_⟩;rcases cv.1 hy with e|hm
   .subst e;refine⟨λe=>ay e,λi hi=>?_⟩;obtain⟨z,hz,hm⟩:=h4 i hi;exact⟨z,hz,h5 z hm⟩
   .exact h6 y hm
def gm (X:List (List PI))(l:List Nat)(E:Nat):List PI:=l.flatMap λi=>bif aU E i then[] else X.getD i []
def Xu {X:List (List PI)}{E E':Nat}:∀(l:List Nat),(∀i,i∈l->aU E i=aU E' i)->gm X l E=gm X l E'
 |[],_=>rfl
 |i::l,h=>by
  have ih:=Xu (X:=X) l λj hj=>h j (fy _ hj);unfold gm at ih ⊢;simp only[vF];rw[ih,h i (fQ ..)]
def Foot.comm_each {a b:List PI}(h:(iY a).comm (iY b)=true):∀p q,p∈a->q∈b->Comm p q:=by
 simp only[Foot.comm,au] at h;obtain⟨h1,h2,h3,h4,h5,h6⟩:=h;intro p q hp hq;obtain⟨p1,p2,p3,p4⟩:=adt hp;obtain⟨q1,q2,q3,q4⟩:=adt hq;exact⟨λt x y=>TN h1 (p1 t x) (q1 t y),λt x y=>TN h2 (p1 t x) (q3 t y),λt x y=>TN h3 (q1 t x) (p3 t y),λt x y=>P1 h4 (p2 t x) (q2 t y),λt x y=>P1 h5 (p2 t x) (q4 t y),λt x y=>P1 h6 (q2 t x) (p4 t y)⟩
def Dg (X:List (List PI))(N:Nat):List (List Nat):=
 (List.range N).map λi=>(List.range i).filter λj=> !(iY (X.getD j [])).comm (iY (X.getD i []))
def yk (E i j:Nat):aU (Nat.lor E (iI i)) j=(aU E j||Nat.beq i j):=by
 rw[gU]
 congr 1
 rw[yj];show(1<<<i).testBit j=_;rw[Nat.testBit_shiftLeft];by_cases h:i=j
 .subst h;simp
 .have h1:Nat.beq i j=false:=fS h;rw[h1];by_cases h2:i<=j
  .have:j-i≠0:=by omega
   cases hk:j-i with
   |zero=>omega
   |succ k=>
    have:(1:Nat).testBit (k+1)=false:=by simp[Nat.testBit_succ]
    simp[this]
  .simp[h2]
def azZ {X:List (List PI)}{N E i:Nat}(hi:i<N)(hb:aU E i=false)(dD:((Dg X N).getD i []).all (aU E)=true)(Z:aO)(O:Env):
 PI.runs Z (gm X (List.range N) E) O=(PI.runs Z (X.getD i []) O).bind (PI.runs Z (gm X (List.range N) (Nat.lor E (iI i)))):=by
 obtain⟨l1,l2,hl⟩:=List.append_of_mem (fR.2 hi);have hp:=List.pairwise_lt_range (n:=N);rw[hl,abj] at hp;obtain⟨_,eR,hp3⟩:=hp;rw[xX] at eR;have lt1:∀j,j∈l1->j<i:=λj hj=>hp3 j hj i (fQ ..);have lt2:∀j,j∈l2->i<j:=λj hj=>eR.1 j hj;have e0:∀E,gm X (l1++i::l2) E=gm X l1 E++((bif aU E i then[] else X.getD i [])++gm X l2 E):=λE=>by simp[gm]
 have e1:gm X l1 (Nat.lor E (iI i))=gm X l1 E:=Xu l1 λj hj=>by
  rw[yk,fS (by have:=lt1 j hj;omega),Pr]
 have e2:gm X l2 (Nat.lor E (iI i))=gm X l2 E:=Xu l2 λj hj=>by
  rw[yk,fS (by have:=lt2 j hj;omega),Pr]
 have e3:aU (Nat.lor E (iI i)) i=true:=by rw[yk,lu,ui]
 rw[hl,e0,e0,e1,e2,e3,hb];simp only[zyy,zyx,xW]
 have arz:PI.runs Z (gm X l1 E++X.getD i [])=PI.runs Z (X.getD i []++gm X l1 E):=funext λO=>PI.comms _ _ (λp q hp hq=>by
  unfold gm at hp;obtain⟨j,hj,hp⟩:=xV.1 hp;cases hbj:aU E j<;>simp only[hbj,zyy,zyx] at hp
  case true=>cases hp
  have hc:(iY (X.getD j [])).comm (iY (X.getD i []))=true:=by
   cases jv:(iY (X.getD j [])).comm (iY (X.getD i [])) with
   |true=>rfl
   |false=>
    have rl:(Dg X N).getD i []=(List.range i).filter λj=> !(iY (X.getD j [])).comm (iY (X.getD i [])):=by
     unfold Dg;rw[aH,cq,sy hi];rfl
    rw[rl] at dD;have:=cM.1 dD j (dK.2 ⟨fR.2 (lt1 j hj),by rw[jv];rfl⟩);rw[hbj] at this;cases this
  exact Foot.comm_each hc p q hp hq) O
 rw[<-qC,tY,arz];have:=tY (Z:=Z) (a:=X.getD i []) (b:=gm X l1 E) (O:=O);rw[this,Option.bind_assoc]
 congr 1
 funext ρ1;rw[tY]
def fo (C:Ctx)(ops:Array Oper):List Nat->St->Option (List (List PI))
 |[],_=>some []
 |i::l,S=>
  match ops[i]? with
  |some o=>(yK C S ops o).bind λr=>(fo C ops l r.1).map λq=>r.2::q
  |none=>none
def adE (ops:Array Oper):Bool:=(List.range ops.size).all λi=>match ops[i]? with
 |some o=>(match o.guard with|some (j,_)=>Nat.blt j i|none=>true)
 |none=>true
def Lv (ops:Array Oper):Bool:=ops.toList.all λo=>match o.guard with
 |some (j,_)=>o.after.toList.any λe=>Region.binds .any e&&Nat.beq e.on j
 |none=>true
def OD (C:Ctx)(n:Nat)(ids:List Nat)(ops:Array Oper)(draw:Bool)(S:Snap):Option (Snap×List PI):=
 bif DX n ops then
    bif draw then
     bif Lv ops&&Uw ops&&C.P.follows .mixedOrders then
        (fo C ops (List.range ops.size) (S.st ids)).bind λX=>FK X λX=>FK (Dg X ops.size) λnc=>
         (Snap.hard ⟨S.rs.map λs=>lU (S.st ids) (cG s),ids.map λj=>jU (S.st ids) ((S.st ids).o j)⟩ λT0=>IK ops (uv C.P ops) (w7 C ids ops) (Vq C ops n ids X nc) ops.size [(0,T0)]).map λT=>(⟨T.rs.map (iN (T.stO ids)),ids.map λj=>jU (T.stO ids) ((T.stO ids).o j)⟩,X.flatten)
     else none
    else bif adE ops then(vO C ops (List.range ops.size) (S.st ids)).map λr=>(⟨D4 (iN r.1) r.1 S.rs (ops.toList.filterMap (·.dst)),ids.map λj=>jU r.1 (r.1.o j)⟩,r.2) else none
 else none
def OC (C:Ctx)(n:Nat)(ids:List Nat)(ops:Array Oper)(draw:Bool)(S:Snap):Option (Snap×List PI):=
 (OD C n ids ops draw S).bind λr=>r.1.hard λT=>some (T,r.2)
def azT (C:Ctx)(n:Nat)(ids:List Nat)(ops:Array Oper)(draw:Bool)(S:Snap):OC C n ids ops draw S=OD C n ids ops draw S:=by
 unfold OC;cases OD C n ids ops draw S with
 |none=>rfl
 |some r=>rw[sB,Snap.hard_eq]
def AE (ops:Array Oper)(E:Nat):Nat->Prop:=λt=>∃i o,aU E i=true/\ops[i]?=some o/\o.dst=some t
section
variable {C:Ctx} {S:St} {O:Env} {V:Im} {own:Nat->Option Nat} {hv:Nat->Value} {w0:World} {σ0:Base} {A:Nat->Prop} {a:Act} {w:World} {n:Nat} {ids:List Nat} {Z:aO}
def OA {ops:Array Oper}{listed:Array Bool}{E:Nat}(aJ:listed.size=ops.size)(hl:∀i,listed.getD i false=aU E i)(i:Nat):i∈Region.ready .any ops listed↔i∈tW ops E:=by
 unfold Region.ready tW;simp only[dK,fR];refine and_congr_right λhi=>?_;have h1:listed.getD i true=aU E i:=by
  rw[<-hl i];simp only[gp];rw[jF (by omega)];rfl
 have h2:ops[i]?=some ops[i]:=jF hi;rw[h1,h2];simp only[lC,lz,<-Array.all_toList,hl]
def aAl {rd:Option Nat}(hC:CtxOK C σ0)(bh:dJ C)(hΦ:dj C Z)(hY:ur C Z w0 σ0){a0:Act}(Sz:a0.tmps.size=n){ops:Array Oper}(ax:DX n ops=true)(hZ:Lv ops=true){X:List (List PI)}{Q:Exit->Act->World->Prop}{O':Env}(CX:Uw ops=true)(hQp:∀c a w,¬Q (.panic c) a w):
 ∀(k:Nat) {L:List (Nat×Snap)} {T:Snap},IK ops (uv C.P ops) (w7 C ids ops) (Vq C ops n ids X (Dg X ops.size)) k L=some T->
  (∀a' w',SameBut (Ci ops) a0 a'->Good C w0 σ0 (T.stO ids) O' (λt=>∃E,AE ops E t) a' w'->Q .normal a' w')->
  ∀(E:Nat) (U:Snap),(E,U)∈L->∀(listed:Array Bool) (O:Env) (a:Act) (w:World),listed.size=ops.size->(∀i,listed.getD i false=aU E i)->SameBut (Ci ops) a0 a->
   Good C w0 σ0 (U.stO ids) O (AE ops E) a w->PI.runs Z (gm X (List.range ops.size) E) O=some O'->wpAnyIn (FR rd) 0 C.P .any ops Q k listed a w:=by
 simp only[DX,au] at ax;have bp:=rH ax.1;intro k
 induction k with
 |zero=>
  intro L T hs hQ E U hm listed O a w aJ hl hn hg aq;simp only[IK] at hs;split at hs
  case h_2=>cases hs
  rename_i x;cases aP:(List.range ops.size).all (aU x.1)<;>simp only[aP,zyy,zyx] at hs
  .cases hs
  cases hs;simp only[A5] at hm;subst hm;simp only at aP hg hQ aq hl;have uL:=cM.1 aP;have arR:gm X (List.range ops.size) E=[]:=by
   unfold gm;rw[List.flatMap_eq_nil_iff];intro i hi;rw[uL i hi];rfl
  rw[arR] at aq;simp only[PI.runs,bj] at aq;subst aq;refine⟨?_,hQ a w hn ?_⟩
  .rw[aa7];intro i hi;rw[OA aJ hl] at hi;unfold tW at hi;simp only[dK,au,l6] at hi;rw[uL i hi.1] at hi;cases hi.2.1
  .obtain⟨V,own,hv,h⟩:=hg;exact⟨V,own,hv,h.defers,h.ok,h.le,h.old,h.newc,h.newm,h.below,h.bw,h.owns,h.regs,h.objs,λt gs s e=>⟨λg hm=>⟨E,(h.opts t gs s e).1 g hm⟩,(h.opts t gs s e).2⟩,h.frame⟩
 |succ k ih=>
  intro L T hs hQ E U hm listed O a w aJ hl hn hg aq;simp only[IK,az] at hs;obtain⟨L',hL,hs⟩:=hs;obtain⟨_,cV⟩:=afO hL;obtain⟨ay,Gv⟩:=cV _ hm;have asM:tW ops E≠[]:=λe=>ay (by unfold qM;rw[e];rfl)
  have cK:∀i,i∈qM ops (uv C.P ops) (w7 C ids ops U) E->i∈tW ops E:=λi hi=>by
   unfold qM at hi;split at hi
   .rename_i i' hp;rw[A5.1 hi];exact(O1 hp).1
   .exact hi
  have step:∀i,i∈qM ops (uv C.P ops) (w7 C ids ops U) E->∀Q':Exit->Act->World->Prop,wpOpIn (FR rd) 0 C.P ops Q' i (wpAnyIn (FR rd) 0 C.P .any ops Q k (listed.setIfInBounds i true)) a w:=by
   intro i hi Q';obtain⟨y,hy,hyL⟩:=Gv i hi;have hi:=cK i hi;unfold tW at hi;simp only[dK,fR,au,l6] at hi;obtain⟨cg,dP,Sb⟩:=hi;simp only[Vq] at hy;split at hy
   case h_2=>cases hy
   rename_i o ho;simp only[az] at hy;obtain⟨r,hr,hy⟩:=hy;cases hc:(PI.beqs r.2 (X.getD i [])&&((Dg X ops.size).getD i []).all (aU E))<;>simp only[hc,zyy,zyx] at hy
   .cases hy
   cases hy;simp only[au] at hc;have hX:=PI.beqs_eq _ _ hc.1;rw[azZ cg dP hc.2,az] at aq;obtain⟨ρ1,hρ1,hρ2⟩:=aq;rw[<-hX] at hρ1;rw[ho] at Sb;simp only at Sb;have Sa:∀d,o.dst=some d->¬AE ops E d/\d<a.tmps.size:=by
        intro d hd;refine⟨λ⟨i',o',dB,jc,gy⟩=>?_,?_⟩
        .have ay:i'≠i:=λe=>by subst e;rw[dP] at dB;cases dB
         exact Lb.dst_once bp jc ho gy hd ay
        .have:=cM.1 ax.2 o (by simpa using qy ho);simp only[hd,au] at this;rw[hn.size,Sz];simpa [qF] using this.2
   have nf:tF o.op=true:=by
        have:=cM.1 ax.2 o (by simpa using qy ho);simp only[au] at this;exact this.1
   have hj:∀j want t,o.guard=some (j,want)->(ops[j]?).bind (·.dst)=some t->AE ops E t:=by
        intro j want t oC ht;rw[az] at ht;obtain⟨oj,h1,h2⟩:=ht;have oD:=cM.1 hZ o (by simpa using qy ho);simp only[oC] at oD;obtain⟨e,uN,FU⟩:=xR.1 oD;simp only[au] at FU;have h3:=cM.1 Sb e uN;rw[FU.1] at h3;simp only[Bool.not_true,Bool.false_or] at h3;exact⟨j,oj,by rw[<-df FU.2];exact h3,h1,h2⟩
   have main:=acx (rd:=rd) (K:=wpAnyIn (FR rd) 0 C.P .any ops Q k (listed.setIfInBounds i true)) (Q:=Q') hg hC bh hΦ hY nf Sa hj hr hρ1 (λa' w' lL wC=>by
        have hA:(λu=>AE ops E u\/o.dst=some u)=AE ops (Nat.lor E (iI i)):=by
         funext u;apply propext;constructor
         .rintro(⟨i',o',h1,h2,h3⟩|h1)
          .exact⟨i',o',by rw[yk,h1,Ek],h2,h3⟩
          .exact⟨i,o,by rw[yk,lu,ui],ho,h1⟩
         .rintro⟨i',o',h1,h2,h3⟩;rw[yk,j5] at h1;rcases h1 with h1|h1
          .exact .inl ⟨i',o',h1,h2,h3⟩
          .rw[<-df h1,ho] at h2;cases h2;exact .inr h3
        rw[hA] at lL
        refine ih hs hQ _ _ hyL _ ρ1 a' w' (by simpa using aJ) (λj=>?_) (hn.trans (wC.mono λt e=>⟨o,by simpa using qy ho,e⟩)) (by
         have:=lL.snapO U.rs.length ids
         rw[show r.1.snapO U.rs.length ids=⟨D4 (lU r.1) r.1 U.rs o.dst.toList,ids.map λj=>jU r.1 (r.1.o j)⟩ from by
          unfold St.snapO;rw[OS λt ht=>?_];rw[acw hr t (λe=>ht (by rw[e];simp))];rfl] at this
         exact this) hρ2
        rw[yk];simp only[gp,Ej];by_cases dC:i=j
        .subst dC;simp[aJ,cg]
        .rw[if_neg dC,fS dC,Pr,<-hl j];simp only[gp])
   simp only[wpOpIn,ho];split
   .rename_i hw;rw[if_pos hw] at main;exact main
   .rename_i hw;rw[if_neg hw] at main;exact⟨λ_ _=>trivial,main⟩
  cases SX:D7 (uv C.P ops) (w7 C ids ops U) E (tW ops E) with
  |none=>
   have kN:qM ops (uv C.P ops) (w7 C ids ops U) E=tW ops E:=by unfold qM;rw[SX]
   refine⟨λhe=>?_,λi hi=>step i (by rw[kN];exact(OA aJ hl i).1 hi) Q⟩;exfalso;refine asM ?_;rw[aa7];intro i hi;rw[<-OA aJ hl,he] at hi;cases hi
  |some i=>
   have kN:qM ops (uv C.P ops) (w7 C ids ops U) E=[i]:=by unfold qM;rw[SX]
   obtain⟨hir,SZ,b,hb,ars⟩:=O1 SX;obtain⟨oi,SL,SY,RX⟩:=amk hb
   have wu:∀x,x∈zT oi.op->∃k n,a.eval x=.int k n:=λx hx=>by
        unfold w7 at SZ;rw[SL] at SZ;have h1:=cM.1 SZ x hx;unfold afn at h1;obtain⟨V,own,hv,h⟩:=hg;split at h1
        .rename_i hu;obtain⟨m,hm,_⟩:=(cu h hC rfl hu).int_inv;exact⟨_,m,hm⟩
        .cases h1
   obtain⟨v,hv,hK⟩:=ayR SL SY wu (step i (by rw[kN];simp) _);refine aEr (λj o ho=>?_) SL (λj o cs b' ho e=>?_) (λc a' w' h=>(hQp _ _ _ h).elim) k listed a w (λj oj hj ko mi fH=>RX j oj hj ko (λL6=>?_) fH) ((OA aJ hl i).2 hir) hv hK
   .have:=cM.1 ax.2 o (by simpa using qy ho);simp only[au] at this;exact this.1
   .have:=cM.1 CX o (by simpa using qy ho);rw[e] at this;cases this
   .have h1:=cM.1 ars j L6;have h2:=hl j;rw[h1] at h2;simp only[gp] at h2 mi;cases zc:listed[j]? with
    |none=>rw[zc] at h2;cases h2
    |some x=>
     rw[zc] at h2 mi;simp only[lz] at h2 mi;rw[h2] at mi;cases mi
def aj5 {ops:Array Oper}:∀{l:List Nat} {S:St} {X:List (List PI)},fo C ops l S=some X->X.length=l.length
 |[],S,X,h=>by simp only[fo,bj] at h;subst h;rfl
 |i::l,S,X,h=>by
  simp only[fo] at h;split at h
  case h_2=>cases h
  simp only[az,aB] at h;obtain⟨r,_,q,hq,rfl⟩:=h;simp[aj5 hq]
def az0 (X:List (List PI)):gm X (List.range X.length) 0=X.flatten:=by
 have h0:∀i,aU 0 i=false:=λi=>by rw[yj];simp
 have key:∀(Y zzu:List (List PI)),gm (Y++zzu) (List.range' Y.length zzu.length) 0=zzu.flatten:=by
  intro Y zzu
  induction zzu generalizing Y with
  |nil=>rfl
  |cons z zzu ih=>
   have:=ih (Y++[z]);simp only[qC,List.singleton_append,mG,px,A2,ke] at this;rw[px,PJ];have e:gm (Y++z::zzu) (Y.length::List.range' (Y.length+1) zzu.length) 0=(Y++z::zzu).getD Y.length []++gm (Y++z::zzu) (List.range' (Y.length+1) zzu.length) 0:=by
        unfold gm;rw[vF,h0];rfl
   rw[e,this,aa9]
   congr 1
   simp[aH]
 have:=key [] X;simp only[xW,A2] at this;rw[PK];exact this
def azU (bh:dJ C)(hΦ:dj C Z):PS C n ids Z (OC C n ids):=by
 intro id ops draw S r hr rd w0 σ0 O O' a w Q hC hY hn hg aq hQ;rw[azT] at hr;unfold OD at hr;cases ax:DX n ops<;>simp only[ax,zyy,zyx] at hr
 .cases hr
 cases draw with
 |false=>
  simp only[zyx] at hr;cases hgb:adE ops<;>simp only[hgb,zyy,zyx] at hr
  .cases hr
  simp only[aB] at hr;obtain⟨q,hq,rfl⟩:=hr;refine wpIn_region ?_
  have Gu:AB ops []=λ_=>False:=by
   funext t;apply propext;constructor
   .rintro⟨i,o,h,_⟩;cases h
   .intro h;exact h.elim
  refine Lb hC bh hΦ hY ax (List.range ops.size) [] (by simpa using abi) (λp i q o j want hl ho oC=>?_) hn (by rw[Gu];exact hg) hq aq (λa' w' me lL=>hQ a' w' me (by
   have:=lL.snapF S.rs.length ids
   rw[show q.1.snap S.rs.length ids=⟨D4 (iN q.1) q.1 S.rs (ops.toList.filterMap (·.dst)),ids.map λj=>jU q.1 (q.1.o j)⟩ from by
        unfold St.snap;rw[OS λt ht=>?_];rw[acy hq t (λi o hi ho e=>ht (A3.2 ⟨o,by simpa using qy ho,e⟩))];show _=iN q.1 (cG (S.rs.getD t .none));cases S.rs.getD t .none<;>rfl] at this
   exact this))
  have hi:i<ops.size:=by
   have:i∈List.range ops.size:=by rw[hl];simp
   exact fR.1 this
  have hb:=cM.1 hgb i (fR.2 hi);rw[ho] at hb;simp only[oC,qF] at hb;have hp:=List.pairwise_lt_range (n:=ops.size);have wg:j∈List.range ops.size:=fR.2 (by omega);rw[hl,abj] at hp;obtain⟨_,eR,_⟩:=hp;rw[xX] at eR;rw[hl,dZ] at wg;simp only[xW];rcases wg with hm|hm
  .exact hm
  .rcases cv.1 hm with e|hm
   .omega
   .have:=eR.1 j hm;omega
 |true=>
  simp only[zyy] at hr;cases hZ:(Lv ops&&Uw ops&&C.P.follows .mixedOrders)<;>simp only[hZ,zyy,zyx] at hr
  .cases hr
  simp only[au] at hZ;have CX:=hZ.1.2
  replace hZ:Lv ops=true/\C.P.follows .mixedOrders=true:=⟨hZ.1.1,hZ.2⟩
  have h0:∀i,aU 0 i=false:=λi=>by rw[yj];simp
  simp only[adW,Snap.hard_eq,az,aB] at hr;obtain⟨X,hX,T,hT,rfl⟩:=hr;refine wpIn_mono (Q:=λe a w=>(∀c,e≠.panic c)/\Q e a w) ?_ λe a w h=>h.2;refine wpIn_region_any hZ.2 ?_
  have Gu:AE ops 0=λ_=>False:=by
   funext t;apply propext;constructor
   .rintro⟨i,o,h,_⟩;rw[h0] at h;cases h
   .intro h;exact h.elim
  have hlen:=aj5 hX;rw[abf] at hlen
  refine aAl (w0:=w0) hC bh hΦ hY hn ax hZ.1 (O':=O') CX (λc a w h=>h.1 c rfl) ops.size hT (λa' w' me lL=>⟨λc e=>(by cases e),hQ a' w' me (by
   have:=lL.snapF T.rs.length ids
   rw[show(T.stO ids).snap T.rs.length ids=⟨T.rs.map (iN (T.stO ids)),ids.map λj=>jU (T.stO ids) ((T.stO ids).o j)⟩ from by
        unfold St.snap;have:=OS (g:=iN (T.stO ids)) (S:=T.stO ids) (rs:=T.rs) (ds:=[]) (λt _=>rfl);rw[<-this];rfl] at this
   exact this)⟩) 0 _ (A5.2 rfl) _ O a _ (by simp) (λi=>?_) (.refl _ _) ?_ ?_
  .rw[h0];simp only[gp,Array.getElem?_replicate];split<;>rfl
  .rw[Gu];have:=(hg.drew).snapO S.rs.length ids
   rw[show(S.st ids).snapO S.rs.length ids=⟨S.rs.map λs=>lU (S.st ids) (cG s),ids.map λj=>jU (S.st ids) ((S.st ids).o j)⟩ from by
        unfold St.snapO
        have:=OS (g:=λs=>lU (S.st ids) (cG s)) (S:=S.st ids) (rs:=S.rs) (ds:=[]) (λt _=>by
         show lU _ (cG (S.rs.getD t .none))=lU _ (cG (cG (S.rs.getD t .none)));cases S.rs.getD t .none<;>rfl)
        have h2:(λt=>lU (S.st ids) (cG ((S.st ids).r t)))=λt=>lU (S.st ids) ((S.st ids).r t):=by
         funext t;show lU _ (cG (cG (S.rs.getD t .none)))=lU _ (cG (S.rs.getD t .none));cases S.rs.getD t .none<;>rfl
        rw[h2] at this;rw[<-this];rfl] at this
   exact this
  .rw[<-hlen,az0];exact aq
end
end Cx
