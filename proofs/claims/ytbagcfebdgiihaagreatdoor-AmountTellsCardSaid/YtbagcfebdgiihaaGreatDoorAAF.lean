import Derived.Test.YtbagcfebdgiihaaGreatDoorAAE
import Derived.OrdersIn
noncomputable section
set_option linter.all false
namespace Cx
open Go Go.RowKit
def adO:Value->Value->Bool
 |.int k n,.int k' m=>k==k'&&n==m
 |.bool a,.bool b=>a==b
 |.string a,.string b=>decide (a=b)
 |.nilFunc,.nilFunc=>true
 |_,_=>false
def aHc:∀a b,adO a b=true->a=b:=by
 intro a b h;unfold adO at h;split at h
 .simp only[aA,beq_iff_eq] at h;rw[h.1,h.2]
 .simp only[beq_iff_eq] at h;rw[h]
 .simp only[decide_eq_true_eq] at h;rw[h]
 .rfl
 .cases h
mutual
def D.beq:D->D->Bool
 |.v a,e=>match e with|.v b=>adO a b|_=>false
 |.agg a,e=>match e with|.agg b=>D.beqs a b|_=>false
 |.list a,e=>match e with|.list b=>D.beqs a b|_=>false
 |.tup a,e=>match e with|.tup b=>D.beqs a b|_=>false
 |.map a,e=>match e with|.map b=>a.isEmpty&&b.isEmpty|_=>false
 |.ref a,e=>match e with|.ref b=>D.beq a b|_=>false
 |.clo f a,e=>match e with|.clo g b=>Nat.beq f g&&D.beqs a b|_=>false
 |.none,e=>match e with|.none=>true|_=>false
def D.beqs:List D->List D->Bool
 |[],e=>match e with|[]=>true|_=>false
 |a::aa,e=>match e with|b::bs=>D.beq a b&&D.beqs aa bs|_=>false
end
mutual
def D.beq_eq:∀a b:D,D.beq a b=true->a=b
 |.v a,e,h=>by cases e<;>first|(simp only[D.beq] at h;rw[aHc _ _ h])|cases h
 |.agg a,e,h=>by cases e<;>first|(simp only[D.beq] at h;rw[D.beqs_eq _ _ h])|cases h
 |.list a,e,h=>by cases e<;>first|(simp only[D.beq] at h;rw[D.beqs_eq _ _ h])|cases h
 |.tup a,e,h=>by cases e<;>first|(simp only[D.beq] at h;rw[D.beqs_eq _ _ h])|cases h
 |.map a,e,h=>by
  cases e<;>first|(simp only[D.beq,aA,aee] at h;rw[h.1,h.2])|cases h
 |.ref a,e,h=>by cases e<;>first|(simp only[D.beq] at h;rw[D.beq_eq _ _ h])|cases h
 |.clo f a,e,h=>by cases e<;>first|(simp only[D.beq,aA] at h;rw[aK h.1,D.beqs_eq _ _ h.2])|cases h
 |.none,e,h=>by cases e<;>first|rfl|cases h
def D.beqs_eq:∀a b:List D,D.beqs a b=true->a=b
 |[],e,h=>by cases e<;>first|rfl|cases h
 |a::aa,e,h=>by
  cases e with
  |nil=>cases h
  |cons b bs=>simp only[D.beqs,aA] at h;rw[D.beq_eq _ _ h.1,D.beqs_eq _ _ h.2]
end
mutual
def PE.beq:PE->PE->Bool
 |.r a,e=>match e with|.r b=>Nat.beq a b|_=>false
 |.o a,e=>match e with|.o b=>Nat.beq a b|_=>false
 |.con a,e=>match e with|.con b=>D.beq a b|_=>false
 |.cell x i,e=>match e with|.cell y j=>PE.beq x y&&Nat.beq i j|_=>false
 |.sub x i n,e=>match e with|.sub y j m=>PE.beq x y&&(Nat.beq i j&&Nat.beq n m)|_=>false
 |.setc x i z,e=>match e with|.setc y j u=>PE.beq x y&&(Nat.beq i j&&PE.beq z u)|_=>false
 |.mk x,e=>match e with|.mk y=>PE.beqs x y|_=>false
 |.ai op k x y,e=>match e with|.ai At k' x' y'=>op==At&&(k==k'&&(PE.beq x x'&&PE.beq y y'))|_=>false
 |.ci op x y,e=>match e with|.ci At x' y'=>op==At&&(PE.beq x x'&&PE.beq y y')|_=>false
 |.cb op x y,e=>match e with|.cb At x' y'=>op==At&&(PE.beq x x'&&PE.beq y y')|_=>false
 |.cs op x y,e=>match e with|.cs At x' y'=>op==At&&(PE.beq x x'&&PE.beq y y')|_=>false
 |.sadd x y,e=>match e with|.sadd x' y'=>PE.beq x x'&&PE.beq y y'|_=>false
 |.nt x,e=>match e with|.nt y=>PE.beq x y|_=>false
 |.conv k x,e=>match e with|.conv k' y=>k==k'&&PE.beq x y|_=>false
 |.pick c x y,e=>match e with|.pick c' x' y'=>PE.beq c c'&&(PE.beq x x'&&PE.beq y y')|_=>false
 |.llen x,e=>match e with|.llen y=>PE.beq x y|_=>false
 |.bytes x,e=>match e with|.bytes y=>PE.beq x y|_=>false
 |.slen x,e=>match e with|.slen y=>PE.beq x y|_=>false
 |.mlen x,e=>match e with|.mlen y=>PE.beq x y|_=>false
 |.nth x y,e=>match e with|.nth x' y'=>PE.beq x x'&&PE.beq y y'|_=>false
 |.idx x y,e=>match e with|.idx x' y'=>PE.beq x x'&&PE.beq y y'|_=>false
 |.sidx x y,e=>match e with|.sidx x' y'=>PE.beq x x'&&PE.beq y y'|_=>false
 |.sok x y,e=>match e with|.sok x' y'=>PE.beq x x'&&PE.beq y y'|_=>false
 |.setn x i n y,e=>match e with|.setn x' i' n' y'=>PE.beq x x'&&(PE.beq i i'&&(Nat.beq n n'&&PE.beq y y'))|_=>false
 |.app x y,e=>match e with|.app x' y'=>PE.beq x x'&&PE.beq y y'|_=>false
 |.lst x,e=>match e with|.lst y=>PE.beqs x y|_=>false
 |.rep x y,e=>match e with|.rep x' y'=>PE.beq x x'&&PE.beq y y'|_=>false
 |.slc c x y,e=>match e with|.slc c' x' y'=>PE.beq c c'&&(PE.beq x x'&&PE.beq y y')|_=>false
 |.slok c x y,e=>match e with|.slok c' x' y'=>PE.beq c c'&&(PE.beq x x'&&PE.beq y y')|_=>false
 |.ref x,e=>match e with|.ref y=>PE.beq x y|_=>false
 |.deref x,e=>match e with|.deref y=>PE.beq x y|_=>false
 |.look c x y,e=>match e with|.look c' x' y'=>PE.beq c c'&&(PE.beq x x'&&PE.beq y y')|_=>false
 |.has x y,e=>match e with|.has x' y'=>PE.beq x x'&&PE.beq y y'|_=>false
 |.put c x y,e=>match e with|.put c' x' y'=>PE.beq c c'&&(PE.beq x x'&&PE.beq y y')|_=>false
 |.mn x y,e=>match e with|.mn x' y'=>PE.beq x x'&&PE.beq y y'|_=>false
 |.mx x y,e=>match e with|.mx x' y'=>PE.beq x x'&&PE.beq y y'|_=>false
 |.tup x,e=>match e with|.tup y=>PE.beqs x y|_=>false
 |.tget x i,e=>match e with|.tget y j=>PE.beq x y&&Nat.beq i j|_=>false
 |.clo f x,e=>match e with|.clo g y=>Nat.beq f g&&PE.beqs x y|_=>false
 |.an x y,e=>match e with|.an x' y'=>PE.beq x x'&&PE.beq y y'|_=>false
 |.imp c x,e=>match e with|.imp c' y=>uC c c'&&PE.beq x y|_=>false
def PE.beqs:List PE->List PE->Bool
 |[],e=>match e with|[]=>true|_=>false
 |a::aa,e=>match e with|b::bs=>PE.beq a b&&PE.beqs aa bs|_=>false
end
def dP {a b:Nat}(h:Nat.beq a b=true):a=b:=aK h
mutual
def PE.beq_eq:∀a b:PE,PE.beq a b=true->a=b
 |.r a,e,h=>by cases e<;>first|(rw[dP h])|cases h
 |.o a,e,h=>by cases e<;>first|(rw[dP h])|cases h
 |.con a,e,h=>by cases e<;>first|(rw[D.beq_eq _ _ h])|cases h
 |.cell x i,e,h=>by cases e<;>first|(simp only[PE.beq,aA] at h;rw[PE.beq_eq _ _ h.1,dP h.2])|cases h
 |.sub x i n,e,h=>by cases e<;>first|(simp only[PE.beq,aA] at h;rw[PE.beq_eq _ _ h.1,dP h.2.1,dP h.2.2])|cases h
 |.setc x i z,e,h=>by cases e<;>first|(simp only[PE.beq,aA] at h;rw[PE.beq_eq _ _ h.1,dP h.2.1,PE.beq_eq _ _ h.2.2])|cases h
 |.mk x,e,h=>by cases e<;>first|(simp only[PE.beq] at h;rw[PE.beqs_eq _ _ h])|cases h
 |.ai op k x y,e,h=>by cases e<;>first|(simp only[PE.beq,aA,beq_iff_eq] at h;rw[h.1,h.2.1,PE.beq_eq _ _ h.2.2.1,PE.beq_eq _ _ h.2.2.2])|cases h
 |.ci op x y,e,h=>by cases e<;>first|(simp only[PE.beq,aA,beq_iff_eq] at h;rw[h.1,PE.beq_eq _ _ h.2.1,PE.beq_eq _ _ h.2.2])|cases h
 |.cb op x y,e,h=>by cases e<;>first|(simp only[PE.beq,aA,beq_iff_eq] at h;rw[h.1,PE.beq_eq _ _ h.2.1,PE.beq_eq _ _ h.2.2])|cases h
 |.cs op x y,e,h=>by cases e<;>first|(simp only[PE.beq,aA,beq_iff_eq] at h;rw[h.1,PE.beq_eq _ _ h.2.1,PE.beq_eq _ _ h.2.2])|cases h
 |.sadd x y,e,h=>by cases e<;>first|(simp only[PE.beq,aA] at h;rw[PE.beq_eq _ _ h.1,PE.beq_eq _ _ h.2])|cases h
 |.nt x,e,h=>by cases e<;>first|(simp only[PE.beq] at h;rw[PE.beq_eq _ _ h])|cases h
 |.conv k x,e,h=>by cases e<;>first|(simp only[PE.beq,aA,beq_iff_eq] at h;rw[h.1,PE.beq_eq _ _ h.2])|cases h
 |.pick c x y,e,h=>by cases e<;>first|(simp only[PE.beq,aA] at h;rw[PE.beq_eq _ _ h.1,PE.beq_eq _ _ h.2.1,PE.beq_eq _ _ h.2.2])|cases h
 |.llen x,e,h=>by cases e<;>first|(simp only[PE.beq] at h;rw[PE.beq_eq _ _ h])|cases h
 |.bytes x,e,h=>by cases e<;>first|(simp only[PE.beq] at h;rw[PE.beq_eq _ _ h])|cases h
 |.slen x,e,h=>by cases e<;>first|(simp only[PE.beq] at h;rw[PE.beq_eq _ _ h])|cases h
 |.mlen x,e,h=>by cases e<;>first|(simp only[PE.beq] at h;rw[PE.beq_eq _ _ h])|cases h
 |.nth x y,e,h=>by cases e<;>first|(simp only[PE.beq,aA] at h;rw[PE.beq_eq _ _ h.1,PE.beq_eq _ _ h.2])|cases h
 |.idx x y,e,h=>by cases e<;>first|(simp only[PE.beq,aA] at h;rw[PE.beq_eq _ _ h.1,PE.beq_eq _ _ h.2])|cases h
 |.sidx x y,e,h=>by cases e<;>first|(simp only[PE.beq,aA] at h;rw[PE.beq_eq _ _ h.1,PE.beq_eq _ _ h.2])|cases h
 |.sok x y,e,h=>by cases e<;>first|(simp only[PE.beq,aA] at h;rw[PE.beq_eq _ _ h.1,PE.beq_eq _ _ h.2])|cases h
 |.setn x i n y,e,h=>by cases e<;>first|(simp only[PE.beq,aA] at h;rw[PE.beq_eq _ _ h.1,PE.beq_eq _ _ h.2.1,dP h.2.2.1,PE.beq_eq _ _ h.2.2.2])|cases h
 |.app x y,e,h=>by cases e<;>first|(simp only[PE.beq,aA] at h;rw[PE.beq_eq _ _ h.1,PE.beq_eq _ _ h.2])|cases h
 |.lst x,e,h=>by cases e<;>first|(simp only[PE.beq] at h;rw[PE.beqs_eq _ _ h])|cases h
 |.rep x y,e,h=>by cases e<;>first|(simp only[PE.beq,aA] at h;rw[PE.beq_eq _ _ h.1,PE.beq_eq _ _ h.2])|cases h
 |.slc c x y,e,h=>by cases e<;>first|(simp only[PE.beq,aA] at h;rw[PE.beq_eq _ _ h.1,PE.beq_eq _ _ h.2.1,PE.beq_eq _ _ h.2.2])|cases h
 |.slok c x y,e,h=>by cases e<;>first|(simp only[PE.beq,aA] at h;rw[PE.beq_eq _ _ h.1,PE.beq_eq _ _ h.2.1,PE.beq_eq _ _ h.2.2])|cases h
 |.ref x,e,h=>by cases e<;>first|(simp only[PE.beq] at h;rw[PE.beq_eq _ _ h])|cases h
 |.deref x,e,h=>by cases e<;>first|(simp only[PE.beq] at h;rw[PE.beq_eq _ _ h])|cases h
 |.look c x y,e,h=>by cases e<;>first|(simp only[PE.beq,aA] at h;rw[PE.beq_eq _ _ h.1,PE.beq_eq _ _ h.2.1,PE.beq_eq _ _ h.2.2])|cases h
 |.has x y,e,h=>by cases e<;>first|(simp only[PE.beq,aA] at h;rw[PE.beq_eq _ _ h.1,PE.beq_eq _ _ h.2])|cases h
 |.put c x y,e,h=>by cases e<;>first|(simp only[PE.beq,aA] at h;rw[PE.beq_eq _ _ h.1,PE.beq_eq _ _ h.2.1,PE.beq_eq _ _ h.2.2])|cases h
 |.mn x y,e,h=>by cases e<;>first|(simp only[PE.beq,aA] at h;rw[PE.beq_eq _ _ h.1,PE.beq_eq _ _ h.2])|cases h
 |.mx x y,e,h=>by cases e<;>first|(simp only[PE.beq,aA] at h;rw[PE.beq_eq _ _ h.1,PE.beq_eq _ _ h.2])|cases h
 |.tup x,e,h=>by cases e<;>first|(simp only[PE.beq] at h;rw[PE.beqs_eq _ _ h])|cases h
 |.tget x i,e,h=>by cases e<;>first|(simp only[PE.beq,aA] at h;rw[PE.beq_eq _ _ h.1,dP h.2])|cases h
 |.clo f x,e,h=>by cases e<;>first|(simp only[PE.beq,aA] at h;rw[dP h.1,PE.beqs_eq _ _ h.2])|cases h
 |.an x y,e,h=>by cases e<;>first|(simp only[PE.beq,aA] at h;rw[PE.beq_eq _ _ h.1,PE.beq_eq _ _ h.2])|cases h
 |.imp c x,e,h=>by cases e<;>first|(simp only[PE.beq,aA] at h;rw[Gc _ _ h.1,PE.beq_eq _ _ h.2])|cases h
def PE.beqs_eq:∀a b:List PE,PE.beqs a b=true->a=b
 |[],e,h=>by cases e<;>first|rfl|cases h
 |a::aa,e,h=>by
  cases e with
  |nil=>cases h
  |cons b bs=>simp only[PE.beqs,aA] at h;rw[PE.beq_eq _ _ h.1,PE.beqs_eq _ _ h.2]
end
def PI.beq:PI->PI->Bool
 |.setR t x,e=>match e with|.setR u y=>Nat.beq t u&&PE.beq x y|_=>false
 |.setO t x,e=>match e with|.setO u y=>Nat.beq t u&&PE.beq x y|_=>false
 |.chk x,e=>match e with|.chk y=>PE.beq x y|_=>false
 |.call gs d f aa,e=>match e with|.call bY d' f' E1=>uC gs bY&&(Nat.beq d d'&&(Nat.beq f f'&&PE.beqs aa E1))|_=>false
 |.callc gs d f aa,e=>match e with|.callc bY d' f' E1=>uC gs bY&&(Nat.beq d d'&&(PE.beq f f'&&PE.beqs aa E1))|_=>false
 |.mcall d f aa,e=>match e with|.mcall d' f' E1=>Nat.beq d d'&&(Nat.beq f f'&&PE.beqs aa E1)|_=>false
def PI.beq_eq:∀a b:PI,PI.beq a b=true->a=b:=by
 intro a b h;cases a<;>cases b<;>first
  |(cases h;done)
  |(simp only[PI.beq,aA] at h;first
       |rw[dP h.1,PE.beq_eq _ _ h.2]
       |rw[PE.beq_eq _ _ h]
       |rw[Gc _ _ h.1,dP h.2.1,dP h.2.2.1,PE.beqs_eq _ _ h.2.2.2]
       |rw[Gc _ _ h.1,dP h.2.1,PE.beq_eq _ _ h.2.2.1,PE.beqs_eq _ _ h.2.2.2]
       |rw[dP h.1,dP h.2.1,PE.beqs_eq _ _ h.2.2])
def PI.beqs:List PI->List PI->Bool
 |[],e=>match e with|[]=>true|_=>false
 |a::aa,e=>match e with|b::bs=>PI.beq a b&&PI.beqs aa bs|_=>false
def PI.beqs_eq:∀a b:List PI,PI.beqs a b=true->a=b
 |[],e,h=>by cases e<;>first|rfl|cases h
 |a::aa,e,h=>by
  cases e with
  |nil=>cases h
  |cons b bs=>simp only[PI.beqs,aA] at h;rw[PI.beq_eq _ _ h.1,PI.beqs_eq _ _ h.2]
structure Lk where
 r:Nat
 o:List Nat
def Lk.or (a b:Lk):Lk:=⟨Nat.lor a.r b.r,a.o++b.o⟩
def Lk.none:Lk:=⟨0,[]⟩
def mX:List (Nat×Bool)->Lk
 |[]=>.none
 |g::gs=>⟨Nat.lor (ir g.1) (mX gs).r,(mX gs).o⟩
mutual
def PE.lk:PE->Lk
 |.r t=>⟨ir t,[]⟩
 |.o j=>⟨0,[j]⟩
 |.con _=>.none
 |.cell e _|.sub e _ _|.nt e|.conv _ e|.llen e|.bytes e|.slen e|.mlen e|.ref e|.deref e|.tget e _=>PE.lk e
 |.setc x _ y|.ai _ _ x y|.ci _ x y|.cb _ x y|.cs _ x y|.sadd x y|.nth x y|.idx x y|.sidx x y|.sok x y|.app x y|.rep x y|.has x y|.mn x y|.mx x y|.an x y=>(PE.lk x).or (PE.lk y)
 |.mk es|.lst es|.tup es|.clo _ es=>PE.lks es
 |.pick x y z|.slc x y z|.slok x y z|.look x y z|.put x y z|.setn x y _ z=>(PE.lk x).or ((PE.lk y).or (PE.lk z))
 |.imp c x=>(mX c).or (PE.lk x)
def PE.lks:List PE->Lk
 |[]=>.none
 |e::es=>(PE.lk e).or (PE.lks es)
end
structure Alike (k:Lk) (Z Z':Env):Prop where
 r:∀t,aW k.r t=true->Z'.r t=Z.r t
 o:∀j,j∈k.o->Z'.o j=Z.o j
def Alike.left {a b:Lk}{Z Z':Env}(h:Alike (a.or b) Z Z'):Alike a Z Z':=
 ⟨λt ht=>h.r t (by simp only[Lk.or,gT,ht,Ez]),λj hj=>h.o j (kC _ hj)⟩
def Alike.right {a b:Lk}{Z Z':Env}(h:Alike (a.or b) Z Z'):Alike b Z Z':=
 ⟨λt ht=>h.r t (by simp only[Lk.or,gT,ht,tR]),λj hj=>h.o j (lg _ hj)⟩
def Dg {Z Z':Env}:∀{c:List (Nat×Bool)},Alike (mX c) Z Z'->holds c Z'=holds c Z
 |[],_=>rfl
 |g::gs,h=>by
  have ih:=Dg (Z:=Z) (Z':=Z') (c:=gs) ⟨λt ht=>h.r t (by simp only[mX,gT,ht,tR]),λj hj=>h.o j hj⟩;have h1:=h.r g.1 (by simp only[mX,gT,sk,Ez]);unfold holds at ih ⊢;simp only[vO];rw[ih,h1]
mutual
def PE.ev_alike {Z Z':Env}:∀(e:PE),Alike e.lk Z Z'->e.ev Z'=e.ev Z
 |.r t,h=>h.r t (sk t)
 |.o j,h=>h.o j (by simp[PE.lk])
 |.con _,h=>rfl
 |.cell e _,h=>by simp only[PE.ev,PE.ev_alike e h]
 |.sub e _ _,h=>by simp only[PE.ev,PE.ev_alike e h]
 |.nt e,h=>by simp only[PE.ev,PE.ev_alike e h]
 |.conv _ e,h=>by simp only[PE.ev,PE.ev_alike e h]
 |.llen e,h=>by simp only[PE.ev,PE.ev_alike e h]
 |.bytes e,h=>by simp only[PE.ev,PE.ev_alike e h]
 |.slen e,h=>by simp only[PE.ev,PE.ev_alike e h]
 |.mlen e,h=>by simp only[PE.ev,PE.ev_alike e h]
 |.ref e,h=>by simp only[PE.ev,PE.ev_alike e h]
 |.deref e,h=>by simp only[PE.ev,PE.ev_alike e h]
 |.tget e _,h=>by simp only[PE.ev,PE.ev_alike e h]
 |.setc x _ y,h=>by simp only[PE.ev,PE.ev_alike x h.left,PE.ev_alike y h.right]
 |.ai _ _ x y,h=>by simp only[PE.ev,PE.ev_alike x h.left,PE.ev_alike y h.right]
 |.ci _ x y,h=>by simp only[PE.ev,PE.ev_alike x h.left,PE.ev_alike y h.right]
 |.cb _ x y,h=>by simp only[PE.ev,PE.ev_alike x h.left,PE.ev_alike y h.right]
 |.cs _ x y,h=>by simp only[PE.ev,PE.ev_alike x h.left,PE.ev_alike y h.right]
 |.sadd x y,h=>by simp only[PE.ev,PE.ev_alike x h.left,PE.ev_alike y h.right]
 |.nth x y,h=>by simp only[PE.ev,PE.ev_alike x h.left,PE.ev_alike y h.right]
 |.idx x y,h=>by simp only[PE.ev,PE.ev_alike x h.left,PE.ev_alike y h.right]
 |.sidx x y,h=>by simp only[PE.ev,PE.ev_alike x h.left,PE.ev_alike y h.right]
 |.sok x y,h=>by simp only[PE.ev,PE.ev_alike x h.left,PE.ev_alike y h.right]
 |.app x y,h=>by simp only[PE.ev,PE.ev_alike x h.left,PE.ev_alike y h.right]
 |.rep x y,h=>by simp only[PE.ev,PE.ev_alike x h.left,PE.ev_alike y h.right]
 |.has x y,h=>by simp only[PE.ev,PE.ev_alike x h.left,PE.ev_alike y h.right]
 |.mn x y,h=>by simp only[PE.ev,PE.ev_alike x h.left,PE.ev_alike y h.right]
 |.mx x y,h=>by simp only[PE.ev,PE.ev_alike x h.left,PE.ev_alike y h.right]
 |.an x y,h=>by simp only[PE.ev,PE.ev_alike x h.left,PE.ev_alike y h.right]
 |.mk es,h=>by simp only[PE.ev,PE.evc_alike es h]
 |.lst es,h=>by simp only[PE.ev,PE.evs_alike es h]
 |.tup es,h=>by simp only[PE.ev,PE.evs_alike es h]
 |.clo _ es,h=>by simp only[PE.ev,PE.evs_alike es h]
 |.pick x y z,h=>by simp only[PE.ev,PE.ev_alike x h.left,PE.ev_alike y h.right.left,PE.ev_alike z h.right.right]
 |.slc x y z,h=>by simp only[PE.ev,PE.ev_alike x h.left,PE.ev_alike y h.right.left,PE.ev_alike z h.right.right]
 |.slok x y z,h=>by simp only[PE.ev,PE.ev_alike x h.left,PE.ev_alike y h.right.left,PE.ev_alike z h.right.right]
 |.look x y z,h=>by simp only[PE.ev,PE.ev_alike x h.left,PE.ev_alike y h.right.left,PE.ev_alike z h.right.right]
 |.put x y z,h=>by simp only[PE.ev,PE.ev_alike x h.left,PE.ev_alike y h.right.left,PE.ev_alike z h.right.right]
 |.setn x y _ z,h=>by simp only[PE.ev,PE.ev_alike x h.left,PE.ev_alike y h.right.left,PE.ev_alike z h.right.right]
 |.imp c x,h=>by simp only[PE.ev,Dg h.left,PE.ev_alike x h.right]
def PE.evs_alike {Z Z':Env}:∀(es:List PE),Alike (PE.lks es) Z Z'->PE.evs Z' es=PE.evs Z es
 |[],h=>rfl
 |e::es,h=>by simp only[PE.evs,PE.ev_alike e h.left,PE.evs_alike es h.right]
def PE.evc_alike {Z Z':Env}:∀(es:List PE),Alike (PE.lks es) Z Z'->PE.evc Z' es=PE.evc Z es
 |[],h=>rfl
 |e::es,h=>by simp only[PE.evc,PE.ev_alike e h.left,PE.evc_alike es h.right]
end
def PI.lk:PI->Lk
 |.setR _ e|.setO _ e|.chk e=>e.lk
 |.call gs _ _ aa=>(mX gs).or (PE.lks aa)
 |.callc gs _ e aa=>(mX gs).or (e.lk.or (PE.lks aa))
 |.mcall _ _ aa=>PE.lks aa
inductive Eff where
 |skip
 |r (t:Nat) (d:D)
 |o (j:Nat) (d:D)
def Eff.app (Z:Env):Eff->Env
 |.skip=>Z
 |.r t d=>Z.setR t d
 |.o j d=>Z.setO j d
def PI.eff (V:bf)(Z:Env):PI->Option Eff
 |.setR t e=>some (.r t (e.ev Z))
 |.setO j e=>some (.o j (e.ev Z))
 |.chk e=>bif (e.ev Z).b then some .skip else none
 |.call gs dst f args=>bif holds gs Z then(V f (PE.evs Z args)).map (.r dst) else some .skip
 |.callc gs dst e args=>bif holds gs Z then(match e.ev Z with|.clo f caps=>(V f (PE.evs Z args++caps)).map (.r dst)|_=>none) else some .skip
 |.mcall j f args=>(V f (PE.evs Z args)).map (.o j)
def PI.run_eff (V:bf)(Z:Env)(p:PI):p.run V Z=(p.eff V Z).map (Eff.app Z):=by
 cases p with
 |setR t e=>rfl
 |setO t e=>rfl
 |chk e=>simp only[PI.run,PI.eff];cases(e.ev Z).b<;>rfl
 |call gs d f aa=>
  simp only[PI.run,PI.eff];cases holds gs Z
  .rfl
  .simp only[zyv,aeu];rfl
 |callc gs d e aa=>
  simp only[PI.run,PI.eff];cases holds gs Z
  .rfl
  .simp only[zyv];cases e.ev Z<;>first|rfl|(simp only[aeu];rfl)
 |mcall j f aa=>simp only[PI.run,PI.eff,aeu];rfl
def PI.eff_alike {V:bf}{Z Z':Env}(p:PI)(h:Alike p.lk Z Z'):p.eff V Z'=p.eff V Z:=by
 cases p with
 |setR t e=>simp only[PI.eff,PE.ev_alike e h]
 |setO t e=>simp only[PI.eff,PE.ev_alike e h]
 |chk e=>simp only[PI.eff,PE.ev_alike e h]
 |call gs d f aa=>simp only[PI.eff,Dg h.left,PE.evs_alike aa h.right]
 |callc gs d e aa=>simp only[PI.eff,Dg h.left,PE.ev_alike e h.right.left,PE.evs_alike aa h.right.right]
 |mcall j f aa=>simp only[PI.eff,PE.evs_alike aa h]
def PI.wo:PI->List Nat
 |.setO j _|.mcall j _ _=>[j]
 |_=>[]
def Eff.within (m:Nat)(l:List Nat):Eff->Prop
 |.skip=>True
 |.r t _=>aW m t=true
 |.o j _=>j∈l
def PI.eff_within {V:bf}{Z:Env}{p:PI}{x:Eff}(h:p.eff V Z=some x):x.within p.mask p.wo:=by
 cases p with
 |setR t e=>simp only[PI.eff,bx] at h;subst h;exact sk t
 |setO t e=>simp only[PI.eff,bx] at h;subst h;simp[Eff.within,PI.wo]
 |chk e=>simp only[PI.eff] at h;cases hb:(e.ev Z).b<;>rw[hb] at h<;>cases h;trivial
 |call gs d f aa=>
  simp only[PI.eff] at h;cases hb:holds gs Z<;>simp only[hb,zyv,zyu,bx,aT] at h
  .subst h;trivial
  .obtain⟨d,_,rfl⟩:=h;exact sk _
 |callc gs d e aa=>
  simp only[PI.eff] at h;cases hb:holds gs Z<;>simp only[hb,zyv,zyu,bx] at h
  .subst h;trivial
  .split at h
   .simp only[aT] at h;obtain⟨d,_,rfl⟩:=h;exact sk _
   .cases h
 |mcall j f aa=>simp only[PI.eff,aT] at h;obtain⟨d,_,rfl⟩:=h;simp[Eff.within,PI.wo]
def J9 (a b:List Nat):Bool:=a.all λx=> !gp b x
structure Foot where
 wr:Nat
 wo:List Nat
 k:Lk
def iP:List PI->Foot
 |[]=>⟨0,[],.none⟩
 |p::l=>⟨Nat.lor p.mask (iP l).wr,p.wo++(iP l).wo,p.lk.or (iP l).k⟩
def Foot.comm (a b:Foot):Bool:=
 Nat.beq (Nat.land a.wr b.wr) 0&&(Nat.beq (Nat.land a.wr b.k.r) 0&&(Nat.beq (Nat.land b.wr a.k.r) 0&&
    (J9 a.wo b.wo&&(J9 a.wo b.k.o&&J9 b.wo a.k.o))))
def VP {a b t:Nat}(h:Nat.beq (Nat.land a b) 0=true)(ha:aW a t=true)(hb:aW b t=true):False:=by
 have h1:=dP h;have h2:(a&&& b).testBit t=true:=by rw[Nat.testBit_and,<-yZ,<-yZ,ha,hb];rfl
 have h3:(a&&& b)=0:=h1;rw[h3] at h2;simp at h2
def R1 {a b:List Nat}(h:J9 a b=true){x:Nat}(ha:x∈a)(hb:x∈b):False:=by
 have:=fe.1 h x ha;rw[(sV b x).2 hb] at this;cases this
structure Comm (p q:PI):Prop where
 ww:∀t,aW p.mask t=true->aW q.mask t=true->False
 wr:∀t,aW p.mask t=true->aW q.lk.r t=true->False
 rw:∀t,aW q.mask t=true->aW p.lk.r t=true->False
 oww:∀t,t∈p.wo->t∈q.wo->False
 owr:∀t,t∈p.wo->t∈q.lk.o->False
 orw:∀t,t∈q.wo->t∈p.lk.o->False
def Eff.alike {x:Eff}{m:Nat}{l:List Nat}{k:Lk}{Z:Env}(h:x.within m l)(h1:∀t,aW m t=true->aW k.r t=true->False)(h2:∀t,t∈l->t∈k.o->False):Alike k Z (x.app Z):=by
 cases x with
 |skip=>exact⟨λ_ _=>rfl,λ_ _=>rfl⟩
 |r t d=>exact⟨λu hu=>bU _ _ (λe=>h1 t h (e▸hu)),λ_ _=>rfl⟩
 |o t d=>exact⟨λ_ _=>rfl,λu hu=>bU _ _ (λe=>h2 t h (e▸hu))⟩
def aou {α:Type}(f:Nat->α){i j:Nat}(x y:α)(h:i≠j):cL (cL f i x) j y=cL (cL f j y) i x:=by
 funext t;simp only[ic];by_cases h1:t=i
 .subst h1;simp[h]
 .simp[h1]
def Eff.comm {x y:Eff}{m m':Nat}{l l':List Nat}{Z:Env}(hx:x.within m l)(hy:y.within m' l')(h1:∀t,aW m t=true->aW m' t=true->False)(h2:∀t,t∈l->t∈l'->False):
 y.app (x.app Z)=x.app (y.app Z):=by
 cases x with
 |skip=>rfl
 |r t d=>
  cases y with
  |skip=>rfl
  |r u e=>
   have aI:t≠u:=λe=>h1 t hx (by subst e;exact hy);show Env.setR (Env.setR Z t d) u e=Env.setR (Env.setR Z u e) t d;simp only[Env.setR];rw[aou _ _ _ aI]
  |o u e=>rfl
 |o t d=>
  cases y with
  |skip=>rfl
  |r u e=>rfl
  |o u e=>
   have aI:t≠u:=λe=>h2 t hx (by subst e;exact hy);show Env.setO (Env.setO Z t d) u e=Env.setO (Env.setO Z u e) t d;simp only[Env.setO];rw[aou _ _ _ aI]
def PI.comm {V:bf}{p q:PI}(h:Comm p q)(Z:Env):(p.run V Z).bind (q.run V)=(q.run V Z).bind (p.run V):=by
 simp only[PI.run_eff];cases hp:p.eff V Z with
 |none=>
  cases hq:q.eff V Z with
  |none=>rfl
  |some y=>
   have:=PI.eff_alike (V:=V) p (Eff.alike (Z:=Z) (PI.eff_within hq) h.rw h.orw);simp[PI.run_eff,this,hp]
 |some x=>
  have hx:=PI.eff_within hp;have e1:=PI.eff_alike (V:=V) q (Eff.alike (Z:=Z) hx h.wr h.owr);cases hq:q.eff V Z with
  |none=>simp[PI.run_eff,e1,hq]
  |some y=>
   have hy:=PI.eff_within hq;have e2:=PI.eff_alike (V:=V) p (Eff.alike (Z:=Z) hy h.rw h.orw);simp only[ll,yP,PI.run_eff,e1,e2,hp,hq];rw[Eff.comm hx hy h.ww h.oww]
def PI.comm1 {V:bf}{p:PI}:∀(l:List PI),(∀q,q∈l->Comm p q)->∀Z,(p.run V Z).bind (PI.runs V l)=(PI.runs V l Z).bind (p.run V)
 |[],_,Z=>by simp only[PI.runs];cases h:p.run V Z<;>simp[h]
 |q::l,h,Z=>by
  have ih:=PI.comm1 (V:=V) l λq hq=>h q (fY _ hq);have hc:=PI.comm (V:=V) (h q (gy ..)) Z;simp only[PI.runs];have e1:((p.run V Z).bind λρ1=>(q.run V ρ1).bind (PI.runs V l))=((p.run V Z).bind (q.run V)).bind (PI.runs V l):=by cases p.run V Z<;>rfl
  show((p.run V Z).bind λρ1=>(q.run V ρ1).bind (PI.runs V l))=_;rw[e1,hc];cases q.run V Z with
  |none=>rfl
  |some ρ1=>simp only[yP];exact ih ρ1
def PI.comms {V:bf}:∀(a b:List PI),(∀p q,p∈a->q∈b->Comm p q)->∀Z,PI.runs V (a++b) Z=PI.runs V (b++a) Z
 |[],b,_,Z=>by simp
 |p::a,b,h,Z=>by
  have ih:=PI.comms (V:=V) a b λp q hp hq=>h p q (fY _ hp) hq;have h1:=PI.comm1 (V:=V) b (λq hq=>h p q (gy ..) hq);simp only[Rv,PI.runs,vF];have e1:((p.run V Z).bind (PI.runs V (a++b)))=(p.run V Z).bind (PI.runs V (b++a)):=by
   cases p.run V Z with
   |none=>rfl
   |some ρ1=>exact ih ρ1
  rw[e1];have e2:PI.runs V (b++a)=λZ=>(PI.runs V b Z).bind (PI.runs V a):=funext λZ=>vF;rw[e2];have e3:((p.run V Z).bind λZ=>(PI.runs V b Z).bind (PI.runs V a))=((p.run V Z).bind (PI.runs V b)).bind (PI.runs V a):=by cases p.run V Z<;>rfl
  rw[e3,h1 Z];cases PI.runs V b Z with
  |none=>rfl
  |some ρ1=>rfl
def afS {l:List PI}{p:PI}(h:p∈l):(∀t,aW p.mask t=true->aW (iP l).wr t=true)/\(∀t,t∈p.wo->t∈(iP l).wo)/\(∀t,aW p.lk.r t=true->aW (iP l).k.r t=true)/\∀t,t∈p.lk.o->t∈(iP l).k.o:=by
 induction l with
 |nil=>cases h
 |cons q l ih=>
  rcases dG.1 h with e|h
  .subst e;refine⟨λt ht=>?_,λt ht=>kC _ ht,λt ht=>?_,λt ht=>kC _ ht⟩
   .simp only[iP,gT,ht,Ez]
   .simp only[iP,Lk.or,gT,ht,Ez]
  .obtain⟨h1,h2,h3,h4⟩:=ih h;refine⟨λt ht=>?_,λt ht=>lg _ (h2 t ht),λt ht=>?_,λt ht=>lg _ (h4 t ht)⟩
   .simp only[iP,gT,h1 t ht,tR]
   .simp only[iP,Lk.or,gT,h3 t ht,tR]
def kc (S:St)(dst:Nat)(S':St):Prop:=∀t,t≠dst->S'.r t=S.r t
section
variable {C:Ctx} {S:St} {gs:List (Nat×Bool)} {dst:Nat} {r:St×List PI}
def kq {X:St}{s:Sh}(h:X.r=S.r):kc S dst (X.setR dst s):=λt ht=>by simp only[St.setR,bU _ _ ht,h]
def atD (S:St)(j:Nat):(S.fz j).r=S.r:=(TZ S j).2
def arj {T:TypeId}{x:Operand}(h:FX C S dst T x=some r):kc S dst r.1:=by
 unfold FX at h;split at h
 .simp only[aT] at h;obtain⟨e,_,rfl⟩:=h;exact kq rfl
 .cases h
def arq {T:TypeId}{x:Operand}(h:wy C S dst T x=some r):kc S dst r.1:=by
 unfold wy at h;split at h
 .rename_i v;simp only[aJ] at h;obtain⟨e,_,z,_,h⟩:=h;cases hc:j2 e v<;>simp only[hc,zyv,zyu] at h<;>cases h;exact kq rfl
 .cases h
def aqR {T:TypeId}(h:FO C S dst T=some r):kc S dst r.1:=by
 unfold FO at h;split at h
 .rename_i t inf ag _ _ _;cases hc:(vN inf t&&(t.rowT||t.one))<;>simp only[hc,zyv,zyu] at h
  .cases h
  .simp only[aT] at h;obtain⟨e,_,rfl⟩:=h;exact kq rfl
 .cases h
def aqV {T:TypeId}{x:Operand}(h:FQ C S dst T x=some r):kc S dst r.1:=by
 unfold FQ at h;split at h
 .rename_i t e ag _ _;cases hc:(t.rowT||t.one)<;>simp only[hc,zyv,zyu] at h<;>cases h;exact kq rfl
 .cases h
def arb {T:TypeId}{x:Option Operand}(h:FV C S dst T x=some r):kc S dst r.1:=by
 unfold FV at h;split at h
 .simp only[aJ,aT] at h;obtain⟨e,_,z,_,rfl⟩:=h;exact kq rfl
 .cases h
def arl {T:TypeId}{x:Operand}(h:FY C S dst T x=some r):kc S dst r.1:=by
 unfold FY at h;split at h
 case h_2=>cases h
 rename_i K E j ver hT es;cases hb:(Nat.beq ver (S.ver j)&& !Nat.beq j dst)<;>simp only[hb,zyv,zyu] at h
 .cases h
 split at h
 .cases h;exact kq rfl
 .cases h
def aqZ {T U:TypeId}{x:Operand}(h:FT C S dst T U x=some r):kc S dst r.1:=by
 unfold FT at h;split at h
 .split at h
  .cases h;exact kq rfl
  .cases h
 .cases h
def ard {T:TypeId}{x y:Operand}(h:FW C S dst T x y=some r):kc S dst r.1:=by
 unfold FW at h;split at h
 .rename_i E _ n _ m _ _ _;simp only[aJ] at h;obtain⟨e,_,h⟩:=h;cases hc:sq C.P E e<;>simp only[hc,zyv,zyu] at h
  .cases h
  .simp only[aJ] at h;obtain⟨z,_,h⟩:=h;cases hc2:Ty.sub z.1 e<;>simp only[hc2,zyv,zyu] at h<;>cases h;exact kq rfl
 .cases h
def aqX {T:TypeId}{n:Nat}{ps:List (Nat×Operand)}(h:ze C S gs dst T n ps=some r):kc S dst r.1:=by
 unfold ze at h;split at h
 .simp only[aJ] at h;obtain⟨e,_,z,_,h⟩:=h
  revert h
  generalize (_&&_:Bool)=b;intro h;cases b<;>simp only[zyv,zyu] at h
  .cases h
  .simp only[aT] at h;obtain⟨es,_,rfl⟩:=h;exact kq rfl
 .cases h
def aq9 {T:TypeId}{n:Nat}{ps:List (Nat×Operand)}(h:CJ C S gs dst T n ps=some r):kc S dst r.1:=by
 unfold CJ at h;split at h
 .simp only[aJ] at h;obtain⟨e,_,h⟩:=h;split at h
  .cases h;exact kq rfl
  .cases h
 .cases h
def aqT {T:TypeId}{x y:Operand}(h:FP C S dst T x y=some r):kc S dst r.1:=by
 unfold FP at h;split at h
 .rename_i E _;simp only[aJ] at h;obtain⟨e,_,h⟩:=h;split at h
  .rename_i tx ex _;cases hc:(sq C.P E e&&QJ tx e)<;>simp only[hc,zyv,zyu] at h
   .cases h
   .split at h
    .cases h;exact kq rfl
    .cases h
    .split at h
     .rename_i j ver _;cases hc:Nat.beq ver (S.ver j)<;>simp only[hc,zyv,zyu] at h
      .cases h
      .split at h
       .rename_i E' e' _;cases hc:(Nat.beq E' E&&Ty.beq e' e)<;>simp only[hc,zyv,zyu] at h<;>cases h;exact kq rfl
       .cases h
     .cases h
  .cases h
 .cases h
def aq5 {f:Nat}{xs:List Operand}(h:FU C S dst f xs=some r):kc S dst r.1:=by
 simp only[FU,aJ] at h;obtain⟨s,_,h⟩:=h;split at h
 .rename_i T e _;simp only[aJ] at h;obtain⟨u,_,h⟩:=h;cases hc:Ty.subs u.1 s.args<;>simp only[hc,zyv,zyu] at h<;>cases h;refine kq (X:=(bif e.pure then S else S.fzs (eZ S [] xs)).newO dst (.row T e)) ?_;cases e.pure
  .exact(Ga _ S).2
  .rfl
 .cases h
def aq7 {f:Nat}{xs:List Operand}{q:St×Sh×List PI}(h:CI C S gs dst f xs=some q):q.1.r=S.r:=by
 simp only[CI,aJ] at h;obtain⟨s,_,h⟩:=h;split at h
 .simp only[aJ] at h;obtain⟨u,_,h⟩:=h;cases hc:Ty.subs u.1 s.args<;>simp only[hc,zyv,zyu] at h<;>cases h;cases s.res.pure
  .exact(Ga _ S).2
  .rfl
 .cases h
def aq1 {x:Operand}{xs:List Operand}{q:St×Sh×List PI}(h:zf C S gs dst x xs=some q):q.1.r=S.r:=by
 unfold zf at h;split at h
 .rename_i aa r0 _ _;split at h
  case h_1=>cases h
  simp only[aJ] at h;obtain⟨u,_,h⟩:=h;cases hc:Ty.subs u.1 aa<;>simp only[hc,zyv,zyu] at h<;>cases h;cases r0.pure
  .exact(Ga _ S).2
  .rfl
 .cases h
def aro {T:TypeId}{x v:Operand}(h:FZ C S T x v=some r):r.1.r=S.r:=by
 unfold FZ at h;split at h
 case h_2=>cases h
 rename_i inf _;split at h
 .rename_i j ver off _;cases hc:Nat.beq ver (S.ver j)<;>simp only[hc,zyv,zyu] at h
  .cases h
  split at h
  case h_2=>cases h
  rename_i ag aP _;split at h
  .revert h
   generalize (_&&_:Bool)=b;intro h;cases b<;>simp only[zyv,zyu] at h<;>cases h;rfl
  .split at h
   .revert h
    generalize (_&&_:Bool)=b;intro h;cases b<;>simp only[zyv,zyu] at h<;>cases h;rfl
   .cases h
 .rename_i j ver size off _;cases hc:Nat.beq ver (S.ver j)<;>simp only[hc,zyv,zyu] at h
  .cases h
  split at h
  .revert h
   generalize (_&&_:Bool)=b;intro h;cases b<;>simp only[zyv,zyu] at h<;>cases h;rfl
  .revert h
   generalize (_&&_:Bool)=b;intro h;cases b<;>simp only[zyv,zyu] at h<;>cases h;rfl
  .cases h
 .cases h
def afy {T:TypeId}{m k v:Operand}(h:CK C S T m k v=some r):r.1.r=S.r:=by
 unfold CK at h;split at h
 .rename_i K _ j ver _ _;cases hc:Nat.beq ver (S.ver j)<;>simp only[hc,zyv,zyu] at h
  .cases h
  split at h
  .revert h
   generalize (_&&_:Bool)=b;intro h;cases b<;>simp only[zyv,zyu] at h<;>cases h;rfl
  .cases h
 .cases h
def aq3 {f:Nat}{xs:List Operand}(h:TF C S dst f xs=some r):kc S dst r.1:=by cases h
def afw {f:Nat}{xs:List Operand}{cs:List (Nat×Nat)}{q:St×Ty×List PI}(h:MX C S f xs cs=some q):q.1.r=S.r:=by cases h
def afu {t:Nat}{xs:List Operand}{q:St×Ty×List PI}(h:MY C S t xs=some q):q.1.r=S.r:=by cases h
def aiW {dst:Nat}{q:St×Ty×List PI}(h:q.1.r=S.r):kc S dst (vd S (some dst) q).1:=kq h
def arh {fn:Fn}{a b:Array Operand}(h:TG C S dst fn a b=some r):kc S dst r.1:=by cases h
def aqD {o:Oper}(hr:core C S gs o=some r):∀t,o.dst≠some t->r.1.r t=S.r t:=by
 unfold core at hr;split at hr
 .rename_i dst hd
  suffices h:kc S dst r.1 by
   intro t ht;exact h t (λe=>ht (by rw[hd,e]))
  split at hr
  .rename_i q hq;cases eU:Ow q.1<;>simp only[eU,zyv,zyu] at hr<;>cases hr;exact kq rfl
  .split at hr
   .rename_i x e _
    have mv:∀r,(match Au C S [] dst x with|some r=>some (S.setR dst r.1,r.2)|none=>wy C S dst o.type x)=some r->kc S dst r.1:=by
     intro r hr;split at hr
     .cases hr;exact kq rfl
     .exact arq hr
    cases gE:C.fr.any (Nat.beq dst)<;>simp only[gE,zyv,zyu] at hr
    .split at hr
     .rename_i q hq;cases hr;exact arj hq
     .exact mv r hr
    .exact mv r hr
   .exact aqR hr
   .exact aqV hr
   .split at hr
    .exact aqX hr
    .exact aq9 hr
   .exact ard hr
   .exact arb hr
   .exact arl hr
   .exact aqZ hr
   .rename_i c e;split at hr
    .split at hr
     .rename_i s x T T' _ _;cases hT:Nat.beq T T'<;>simp only[hT,zyv,zyu] at hr
      .cases hr
      .exact aqT hr
     .cases hr
    .split at hr
     .rename_i q hq;cases hr;exact kq (aq7 hq)
     .split at hr
      .split at hr
       .rename_i q hq;cases hr;exact aq5 hq
       .split at hr
        .rename_i q hq;cases hr;exact aq3 hq
        .simp only[aT] at hr;obtain⟨q,hq,rfl⟩:=hr;exact aiW (afw hq)
      .cases hr
    .split at hr
     .rename_i q hq;cases hr;exact kq (aq1 hq)
     .split at hr
      .simp only[aT] at hr;obtain⟨q,hq,rfl⟩:=hr;exact aiW (afu hq)
      .cases hr
    .cases hr
   .exact arh hr
   .cases hr
 .split at hr
  .intro t _;rw[aro hr]
  .intro t _;rw[afy hr]
  .intro t _;rw[afy hr]
  .cases hr;intro t _;rfl
  .intro t _;split at hr
   .simp only[aT] at hr;obtain⟨q,hq,rfl⟩:=hr;simp only[vd,afw hq]
   .simp only[aT] at hr;obtain⟨q,hq,rfl⟩:=hr;simp only[vd,afu hq]
   .cases hr
  .cases hr
def atH {g:Gh}(hr:g.run C S=some r):∀t,(∀u j,g=.rereg u j->t≠u)->r.1.r t=S.r t:=by
 intro t ht;cases g with
 |fz j=>simp only[Gh.run,bx] at hr;subst hr;rw[atD]
 |fbox b=>
  simp only[Gh.run,F9] at hr;split at hr
  case h_2=>cases hr
  rename_i ag aP _;simp only[aJ] at hr;obtain⟨x,_,hr⟩:=hr;cases ag<;>simp only[zyv,zyu] at hr
  .split at hr
   .cases hr;rfl
   .cases hr
  .cases hr;rfl
 |rereg u j=>
  simp only[Gh.run,Jq] at hr;split at hr
  .revert hr
   generalize (_&&_:Bool)=b;intro hr;cases b<;>simp only[zyv,zyu] at hr<;>cases hr
   .rfl
   .simp only[St.setR,bU _ _ (ht u j rfl)];rfl
  .cases hr;rfl
 |recell b i j=>
  simp only[Gh.run,Jp] at hr;split at hr
  .split at hr
   .revert hr
    generalize (_&&_:Bool)=b;intro hr;cases b<;>simp only[zyv,zyu] at hr<;>cases hr<;>rfl
   .cases hr;rfl
  .cases hr;rfl
 |home b i j T=>
  simp only[Gh.run,GN] at hr;split at hr
  .split at hr
   .revert hr
    generalize (!_:Bool)=b;intro hr;cases b<;>simp only[zyv,zyu] at hr<;>cases hr<;>rfl
   .cases hr;rfl
  .cases hr;rfl
def T2:∀(l:List Gh) {S:St} {r:St×List PI},oz C l S=some r->∀t,(∀g u j,g∈l->g=.rereg u j->t≠u)->r.1.r t=S.r t
 |[],S,r,hr,t,_=>by simp only[oz,bx] at hr;subst hr;rfl
 |g::l,S,r,hr,t,ht=>by
  simp only[oz,aJ,aT] at hr;obtain⟨q,hq,q2,eM,rfl⟩:=hr;have h1:=T2 l eM t (λg u j hg=>ht g u j (fY _ hg));have h2:=atH hq t (λu j e=>ht g u j (gy ..) e);exact h1.trans h2
def aAI (S:St)(gs:List (Nat×Bool))(o:Oper):∀g u j,g∈pre C S gs o.op++XE C S gs o->g≠.rereg u j:=by
 intro g u j hg e;subst e;rw[dT] at hg;rcases hg with hg|hg
 .unfold pre at hg;split at hg
  .rename_i fn _ _ _;cases ho:aiV C fn<;>simp only[ho,zyv,zyu] at hg
   case true=>cases hg
   obtain⟨b,_,hb⟩:=JT.1 hg;rw[dT] at hb;rcases hb with hb|hb
   .split at hb
    .obtain⟨_,_,h⟩:=fF.1 hb;cases h
    .cases hb
   .simp at hb
  .split at hg
   .replace hg:=azl hg
    split at hg
    .obtain⟨_,_,h⟩:=fF.1 hg;cases h
    .cases hg
   .cases hg
  .obtain⟨_,_,h⟩:=fF.1 hg;cases h
 .unfold XE at hg;split at hg
  .rename_i x t _ _;cases hc:C.fr.any (Nat.beq t)<;>simp only[hc,zyv,zyu] at hg
   .cases hg
   .obtain⟨_,_,h⟩:=fF.1 hg;cases h
  .cases hg
def aAG (S:St)(o:Oper):∀g u j,g∈post C S o->g=.rereg u j->o.dst=some u:=by
 intro g u j hg e;subst e;unfold post at hg;split at hg
 .rename_i t _ hd;simp at hg;rw[hd,hg.1]
 .unfold Oa homes at hg;have:=(gz.1 hg).1;obtain⟨x,_,hx⟩:=Bb.1 this;cases jQ:x.1<;>rw[jQ] at hx<;>simp at hx
 .split at hg
  .rw[dT] at hg;rcases hg with hg|hg
   .unfold Oa homes at hg;have:=(gz.1 hg).1;obtain⟨x,_,hx⟩:=Bb.1 this;cases jQ:x.1<;>rw[jQ] at hx<;>simp at hx
   .unfold anf at hg;obtain⟨_,_,h⟩:=fF.1 hg;cases h
  .cases hg
 .cases hg
def aqw {ops:Array Oper}{o:Oper}(hr:FK C S ops o=some r):∀t,o.dst≠some t->r.1.r t=S.r t:=by
 intro t ht;unfold FK at hr;split at hr
 .rename_i q hq;cases hr;simp only[MT,aJ] at hq;obtain⟨gs,_,r1,h1,r2,h2,r3,h3,hq⟩:=hq
  revert hq
  generalize M9 gs o.dst r2.2=b;intro hq;cases b<;>simp only[zyv,zyu] at hq<;>cases hq;have e1:=T2 _ h1 t (λg u j hg e=>absurd e (aAI S gs o g u j hg));have e2:=aqD h2 t ht
  have e3:=T2 _ h3 t (λg u j hg e=>by
   have:=aAG r2.1 o g u j hg e;intro e';subst e';exact ht this)
  exact e3.trans (e2.trans e1)
 .cases hr;split
  .rename_i d hd;simp only[St.setR];rw[bU];intro e;subst e;exact ht hd
  .rfl
def afb {ops:Array Oper}{o:Oper}(hr:zd C S ops o=some r):∀t,o.dst≠some t->r.1.r t=S.r t:=by
 intro t ht;unfold zd at hr;split at hr
 .rename_i q hq;cases hr;unfold MV at hq;split at hq
  case h_2=>cases hq
  rename_i dst _ args _ _ _ hd _ _;simp only[aJ] at hq;obtain⟨gs,_,hq⟩:=hq;split at hq
  case h_2=>cases hq
  split at hq
  case h_2=>cases hq
  simp only[aJ] at hq;obtain⟨u,_,hq⟩:=hq;rw[qB] at hq;split at hq<;>cases hq;simp only[St.setR];rw[bU,(Ga _ S).2];intro e;subst e;exact ht hd
 .exact aqw hr t ht
def afd {ops:Array Oper}:∀{l:List Nat} {S:St} {r:St×List PI},wg C ops l S=some r->∀t,(∀i o,i∈l->ops[i]?=some o->o.dst≠some t)->r.1.r t=S.r t
 |[],S,r,h,t,_=>by simp only[wg,bx] at h;subst h;rfl
 |i::l,S,r,h,t,ht=>by
  simp only[wg] at h;split at h
  .rename_i o ho;simp only[aJ,aT] at h;obtain⟨q,hq,q2,eM,rfl⟩:=h;exact(afd eM t λj o hj=>ht j o (fY _ hj)).trans (afb hq t (ht i o (gy ..) ho))
  .cases h
end
def lN (S:St):Sh->Sh
 |.opt gs s=>.opt gs (iy S s)
 |s=>iy S s
def St.snapO (n:Nat)(ids:List Nat)(S:St):Snap:=⟨(List.range n).map λt=>lN S (S.r t),ids.map λj=>jU S (S.o j)⟩
def Snap.stO (ids:List Nat)(s:Snap):St:=⟨λt=>s.rs.getD t .none,λj=>eX ids s.os j,λ_=>0⟩
def sY (S:St)(s:Sh):∀gs s',iy S s≠.opt gs s':=by
 intro gs s' e;cases s<;>simp only[iy] at e<;>first|cases e|(revert e;cases Nat.beq _ _<;>intro e<;>cases e)|(revert e;cases List.all _ _<;>intro e<;>cases e)
section
variable {C:Ctx} {S:St} {Z:Env} {H:Im} {own:Nat->Option Nat} {hv:Nat->Value} {w0:World} {σ0:Base} {A:Nat->Prop} {a:Act} {w:World} {n:Nat} {ids:List Nat} {V:bf}
def azM {s:Sh}{v:Value}{d:D}(h:ba C S Z H hv s v d){T:St}(hT:T.ver=λ_=>0):ba C T Z H hv (lN S s) v d:=by
 have hc:Compat S.norm hv T hv:=⟨λj=>by rw[hT];exact vU _,λ_ _=>rfl⟩
 have key:∀s,ba C S Z H hv s v d->ba C T Z H hv (iy S s) v d:=λs hs=>ba.mono' (.refl H) hc (sY S s) (Ov hs).1;cases s with
 |opt gs s=>exact⟨λhh=>key s (h.1 hh),h.2⟩
 |_=>exact key _ h
def Good.snapO (h:Good C w0 σ0 S Z A a w)(n:Nat)(ids:List Nat):Good C w0 σ0 ((S.snapO n ids).stO ids) Z A a w:=by
 obtain⟨H,own,hv,h⟩:=h;have h1:=h.norm;have hc:Compat S.norm hv ((S.snapO n ids).stO ids) hv:=⟨λ_=>bL _,λ_ _=>rfl⟩
 refine⟨H,own,hv,h.defers,h.ok,h.le,h.old,h.newc,h.newm,h.below,h.bw,h.owns,λt=>?_,λj=>?_,λt gs s e=>?_,?_⟩
 rotate_right
 .obtain⟨t,fx,cx,f1,f5⟩:=h.frame;refine⟨t,fx,cx,f1,λj hj=>f5 j ?_⟩;exact Am (λj=>jU S (S.o j)) (λob=>ob=.tr->S.o j=.tr) (λe=>by cases e) j aiS ids hj
 .show ba C _ Z H hv (((List.range n).map λt=>lN S (S.r t)).getD t .none) _ _;rw[bn,dF];by_cases ht:t<n
  .rw[rZ ht];exact azM (h.regs t) rfl
  .rw[tX (by simpa using ht)];trivial
 .have ho:=(h1.objs j).mono (.refl H) hc (w:=w) (w':=w) rfl rfl (λk hk=>⟨hk,rfl⟩);exact Am (λj=>jU S (S.o j)) (λob=>eD C _ Z H own hv w w0.heap.size j ob) trivial j ho ids
 .change ((List.range n).map λt=>lN S (S.r t)).getD t .none=.opt gs s at e;rw[bn,dF] at e;by_cases ht:t<n
  .rw[rZ ht] at e;simp only[ll,lj] at e;cases hs:S.r t with
   |opt bY s'=>
    rw[hs] at e;simp only[lN,Sh.opt.injEq] at e;obtain⟨rfl,rfl⟩:=e;exact⟨(h.opts t bY s' hs).1,sY S s'⟩
   |none=>rw[hs] at e;exact absurd e (sY S .none gs s)
   |yv=>rw[hs] at e;exact absurd e (sY S .yv gs s)
   |fclo f c=>rw[hs] at e;exact absurd e (sY S (.fclo f c) gs s)
   |agg l=>rw[hs] at e;exact absurd e (sY S (.agg l) gs s)
   |dat t=>rw[hs] at e;exact absurd e (sY S (.dat t) gs s)
   |obj t u=>rw[hs] at e;exact absurd e (sY S (.obj t u) gs s)
   |ptr t u v=>rw[hs] at e;exact absurd e (sY S (.ptr t u v) gs s)
   |eptr t u v x=>rw[hs] at e;exact absurd e (sY S (.eptr t u v x) gs s)
  .rw[tX (by simpa using ht)] at e;cases e
def Good.snapF (h:Good C w0 σ0 S Z A a w)(n:Nat)(ids:List Nat):Good C w0 σ0 ((S.snap n ids).st ids) Z (λ_=>False) a w:=by
 obtain⟨H,own,hv,h⟩:=h;exact⟨H,own,hv,h.snap n ids⟩
def Good.drew (h:Good C w0 σ0 S Z A a w):Good C w0 σ0 S Z A a {w with drawn:=w.drawn+1}:=by
 obtain⟨H,own,hv,h⟩:=h;refine⟨H,own,hv,h.defers,⟨λk o v e=>h.ok.c k o v e,λk es e=>h.ok.m k es e⟩,h.le,h.old,h.newc,h.newm,h.below.drew,h.bw,h.owns,h.regs,λj=>?_,h.opts,?_⟩
 rotate_right
 .obtain⟨t,fx,cx,f1,f2⟩:=h.frame;exact⟨t,fx,cx,⟨σ0.keep _ _ _ _ _ f1.F (Below.drew (.refl _ _)) (λ_ _=>rfl),f1.own,f1.c,f1.m,f1.d⟩,f2⟩
 exact(h.objs j).mono (.refl H) (.refl S hv) rfl rfl (λk hk=>⟨hk,rfl⟩)
end
def Ei (g:Sh->Sh)(S:St)(rs:List Sh)(ds:List Nat):List Sh:=(ds.foldl (λl d=>l.set d (S.r d)) rs).map g
def afR (S:St):∀(ds:List Nat) (rs:List Sh),(ds.foldl (λl d=>l.set d (S.r d)) rs).length=rs.length/\∀t,t<rs.length->(ds.foldl (λl d=>l.set d (S.r d)) rs).getD t .none=if t∈ds then S.r t else rs.getD t .none
 |[],rs=>⟨rfl,λt _=>by simp⟩
 |d::ds,rs=>by
  obtain⟨h1,h2⟩:=afR S ds (rs.set d (S.r d));simp only[List.length_set] at h1 h2;refine⟨h1,λt ht=>?_⟩;rw[A8,h2 t ht];simp only[dG,bn,EH];by_cases hm:t∈ds
  .simp[hm]
  .by_cases e:d=t
   .subst e;simp[hm,ht]
   .have e':¬t=d:=λh=>e h.symm;simp[hm,e,e']
def QI {g:Sh->Sh}{S:St}{rs:List Sh}{ds:List Nat}(h:∀t,t∉ds->g (rs.getD t .none)=g (S.r t)):Ei g S rs ds=(List.range rs.length).map λt=>g (S.r t):=by
 obtain⟨h1,h2⟩:=afR S ds rs;unfold Ei;apply aea;intro t;simp only[dF];by_cases ht:t<rs.length
 .have:=h2 t ht;rw[bn,cd (by omega)] at this;rw[cd (by omega),rZ ht];simp only[lj,ll] at this ⊢;rw[this];by_cases hm:t∈ds
  .simp[hm]
  .simp only[hm,if_false];rw[h t hm]
 .rw[tX (by omega),tX (by simpa using ht)];rfl
def Sh.hd {α:Type}(s:Sh)(k:Sh->α):α:=
 match s with
 |.none=>k .none
 |.dat t=>k (.dat t)
 |.obj j v=>k (.obj j v)
 |.ptr j v o=>k (.ptr j v o)
 |.eptr j v z o=>k (.eptr j v z o)
 |.opt gs s=>k (.opt gs s)
 |.yv=>k .yv
 |.fclo f c=>k (.fclo f c)
 |.agg l=>k (.agg l)
def Sh.hd_eq {α:Type}(s:Sh)(k:Sh->α):s.hd k=k s:=by cases s<;>rfl
def CW {α:Type}:List Sh->(List Sh->α)->α
 |[],k=>k []
 |s::l,k=>s.hd λs=>CW l λl=>k (s::l)
def Uj {α:Type}:∀(l:List Sh) (k:List Sh->α),CW l k=k l
 |[],_=>rfl
 |s::l,k=>by rw[CW,Sh.hd_eq,Uj l]
def Ob.hd {α:Type}(s:Ob)(k:Ob->α):α:=
 match s with
 |.dead=>k .dead
 |.fz t=>k (.fz t)
 |.fbox t=>k (.fbox t)
 |.box true l=>CW l λl=>k (.box true l)
 |.box false l=>CW l λl=>k (.box false l)
 |.row T e=>k (.row T e)
 |.mp a b=>k (.mp a b)
 |.it a b=>k (.it a b)
 |.tr=>k .tr
def Ob.hd_eq {α:Type}(s:Ob)(k:Ob->α):s.hd k=k s:=by
 cases s with
 |box ag l=>cases ag<;>simp only[Ob.hd,Uj]
 |_=>rfl
def Np {α:Type}:List Ob->(List Ob->α)->α
 |[],k=>k []
 |s::l,k=>s.hd λs=>Np l λl=>k (s::l)
def agf {α:Type}:∀(l:List Ob) (k:List Ob->α),Np l k=k l
 |[],_=>rfl
 |s::l,k=>by rw[Np,Ob.hd_eq,agf l]
def Snap.hard {α:Type}(s:Snap)(k:Snap->α):α:=CW s.rs λa=>Np s.os λb=>k ⟨a,b⟩
def Snap.hard_eq {α:Type}(s:Snap)(k:Snap->α):s.hard k=k s:=by rw[Snap.hard,Uj,agf]
def Nq {α β:Type}:List β->(List β->α)->α
 |[],k=>k []
 |s::l,k=>Nq l λl=>k (s::l)
def agi {α β:Type}:∀(l:List β) (k:List β->α),Nq l k=k l
 |[],_=>rfl
 |s::l,k=>by rw[Nq,agi l]
def Gl {α β:Type}:List (List β)->(List (List β)->α)->α
 |[],k=>k []
 |s::l,k=>Nq s λs=>Gl l λl=>k (s::l)
def agh {α β:Type}:∀(l:List (List β)) (k:List (List β)->α),Gl l k=k l
 |[],_=>rfl
 |s::l,k=>by rw[Gl,agi,agh l]
def aF (P:Program){α:Type}(s:Sem α):Prop:=(∃a,∀w,s.run P w=.ok a w)\/∀w,∃h w',s.run P w=.halt h w'
section
variable {P:Program}
def aF.pure {α:Type}(a:α):aF P (Sem.pure a):=.inl ⟨a,λw=>rfl⟩
def aF.pure' {α:Type}(a:α):aF P (Pure.pure a:Sem α):=.inl ⟨a,λw=>rfl⟩
def aF.halt {α:Type}(h:Halt):aF P (Sem.halt h:Sem α):=.inr λw=>⟨h,w,rfl⟩
def aF.bind' {α β:Type}{s:Sem α}{f:α->Sem β}(h:aF P s)(hf:∀a,(∀w,s.run P w=.ok a w)->aF P (f a)):aF P (s>>=f):=by
 rcases h with⟨a,ha⟩|hd
 .rcases hf a ha with⟨b,hb⟩|hd
  .exact .inl ⟨b,λw=>by rw[Sem.run_bind,ha w];exact hb w⟩
  .refine .inr λw=>?_;obtain⟨x,w',e⟩:=hd w;exact⟨x,w',by rw[Sem.run_bind,ha w];exact e⟩
 .refine .inr λw=>?_;obtain⟨x,w',e⟩:=hd w;exact⟨x,w',by rw[Sem.run_bind,e];rfl⟩
def aF.bind {α β:Type}{s:Sem α}{f:α->Sem β}(h:aF P s)(hf:∀a,aF P (f a)):aF P (s>>=f):=h.bind' λa _=>hf a
def cD {α:Type}(s:Sem α):Prop:=∀P w,∃h w',s.run P w=.halt h w'
def cD.noW {α:Type}{s:Sem α}(h:cD s):aF P s:=.inr (h P)
def cD.halt {α:Type}(h:Halt):cD (Sem.halt h:Sem α):=λP w=>⟨h,w,rfl⟩
def cD.of_bind {α β:Type}{s:Sem α}{f:α->Sem β}(hf:∀a,cD (f a)):cD (s>>=f):=by
 intro P w;rw[Sem.run_bind];cases e:s.run P w with
 |ok a w'=>exact hf a P w'
 |halt h w'=>exact⟨h,w',rfl⟩
def aF.asBool (v:Value):aF P (Go.asBool v):=by
 cases v<;>first|exact .pure _|exact .halt _
def aF.asIntOf (v:Value):aF P (Go.asIntOf v):=by
 unfold Go.asIntOf;split<;>first|exact .pure _|exact .halt _
def aF.sureAddr (v:Value):aF P (Instr.sureAddr v):=by
 unfold Instr.sureAddr;split<;>first|exact .pure _|exact .halt _
def aF.prog:aF P Go.program:=.inl ⟨P,λw=>rfl⟩
def aF.underlying (t:TypeId):aF P (Go.underlying t):=by
 unfold Go.underlying;refine .bind .prog λp=>?_;split<;>first|exact .pure _|exact .halt _
def aF.sizeOf (t:TypeId):aF P (Go.sizeOf t):=by
 unfold Go.sizeOf Go.typeInfo;refine .bind (.bind .prog λp=>?_) λ_=>.pure _;split<;>first|exact .pure _|exact .halt _
def cD.runtimePanic {α:Type}(e:RuntimeError):cD (Go.runtimePanic e:Sem α):=by
 unfold Go.runtimePanic;refine .of_bind λp=>?_;cases e<;>first|exact .halt _|exact .of_bind λ_=>.halt _|exact .of_bind λ_=>.of_bind λ_=>.halt _
def cD.boundsPanic {α:Type}(k:IntKind)(x y:Int)(c:BoundsCode):cD (Go.boundsPanic k x y c:Sem α):=by
 unfold Go.boundsPanic;dsimp only;split<;>exact .of_bind λ_=>.runtimePanic _
def aF.indexAt (t:TypeId)(x i:Value):aF P (Instr.indexAt t x i):=by
 unfold Instr.indexAt
 repeat' (first|(first|exact aF.pure _|exact aF.pure' _|exact aF.halt _|exact cD.noW (cD.boundsPanic _ _ _ _)|exact cD.noW (cD.runtimePanic _)|exact aF.prog|exact aF.underlying _|exact aF.sizeOf _|exact aF.asIntOf _|exact aF.sureAddr _|exact aF.asBool _)|(refine aF.bind ?_ λ_=>?_)|dsimp only|split)
def aF.sliceBound (x:Value)(y:Nat)(c:BoundsCode):aF P (Instr.sliceBound x y c):=by
 unfold Instr.sliceBound
 repeat' (first|(first|exact aF.pure _|exact aF.pure' _|exact aF.halt _|exact cD.noW (cD.boundsPanic _ _ _ _)|exact cD.noW (cD.runtimePanic _)|exact aF.prog|exact aF.underlying _|exact aF.sizeOf _|exact aF.asIntOf _|exact aF.sureAddr _|exact aF.asBool _)|(refine aF.bind ?_ λ_=>?_)|dsimp only|split)
def aF.sliceBounds (b:Bool)(n m:Nat)(lo hi mx:Option Value):aF P (Instr.sliceBounds b n m lo hi mx):=by
 unfold Instr.sliceBounds
 repeat' (first|exact aF.sliceBound _ _ _|(first|exact aF.pure _|exact aF.pure' _|exact aF.halt _|exact cD.noW (cD.boundsPanic _ _ _ _)|exact cD.noW (cD.runtimePanic _)|exact aF.prog|exact aF.underlying _|exact aF.sizeOf _|exact aF.asIntOf _|exact aF.sureAddr _|exact aF.asBool _)|(refine aF.bind ?_ λ_=>?_)|dsimp only|split)
def aF.asAddr (v:Value):aF P (Go.asAddr v):=by
 unfold Go.asAddr
 repeat' (first|(first|exact aF.pure _|exact aF.pure' _|exact aF.halt _|exact cD.noW (cD.boundsPanic _ _ _ _)|exact cD.noW (cD.runtimePanic _)|exact aF.prog|exact aF.underlying _|exact aF.sizeOf _|exact aF.asIntOf _|exact aF.sureAddr _|exact aF.asBool _)|(refine aF.bind ?_ λ_=>?_)|dsimp only|split)
def aF.slice (t:TypeId)(x:Value)(lo hi mx:Option Value):aF P (Instr.slice t x lo hi mx):=by
 unfold Instr.slice
 repeat' (first|exact aF.sliceBounds _ _ _ _ _ _|exact aF.asAddr _|(first|exact aF.pure _|exact aF.pure' _|exact aF.halt _|exact cD.noW (cD.boundsPanic _ _ _ _)|exact cD.noW (cD.runtimePanic _)|exact aF.prog|exact aF.underlying _|exact aF.sizeOf _|exact aF.asIntOf _|exact aF.sureAddr _|exact aF.asBool _)|(refine aF.bind ?_ λ_=>?_)|dsimp only|split)
def aF.sliceAt (t:TypeId)(x:Value)(lo hi mx:Option Value):aF P (Instr.sliceAt t x lo hi mx):=by
 unfold Instr.sliceAt
 repeat' (first|exact aF.sliceBounds _ _ _ _ _ _|exact aF.slice _ _ _ _ _|(first|exact aF.pure _|exact aF.pure' _|exact aF.halt _|exact cD.noW (cD.boundsPanic _ _ _ _)|exact cD.noW (cD.runtimePanic _)|exact aF.prog|exact aF.underlying _|exact aF.sizeOf _|exact aF.asIntOf _|exact aF.sureAddr _|exact aF.asBool _)|(refine aF.bind ?_ λ_=>?_)|dsimp only|split)
def Z1 (P:Program)(s:TypeId)(i:Nat):Bool:=
 match P.underlying s with
 |some (.struct fs)=>(match fs[i]? with
  |some f=>(match P.info? f.type with|some d=> !Nat.beq d.size 0|none=>false)
  |none=>false)
 |_=>false
def aF.fieldAt {s:TypeId}{i:Nat}(h:Z1 P s i=true)(a:Value):aF P (Instr.fieldAt s a i):=by
 unfold Instr.fieldAt;refine .bind' (.underlying _) λd hd=>?_;have hu:P.underlying s=some d:=by
  have:=hd default;unfold Go.underlying at this;rw[Sem.run_bind] at this;change Result.andThen (.ok P default) _=_ at this;simp only[Result.andThen_ok] at this;cases hp:P.underlying s with
  |none=>rw[hp] at this;cases this
  |some d'=>
   rw[hp] at this;change Result.ok d' default=_ at this;cases this;rfl
 unfold Z1 at h;rw[hu] at h;cases d<;>dsimp only at h ⊢<;>try (first|exact aF.pure _|exact aF.pure' _|exact aF.halt _|exact cD.noW (cD.boundsPanic _ _ _ _)|exact cD.noW (cD.runtimePanic _)|exact aF.prog|exact aF.underlying _|exact aF.sizeOf _|exact aF.asIntOf _|exact aF.sureAddr _|exact aF.asBool _)
 rename_i fs;cases hf:fs[i]? with
 |none=>dsimp only;(first|exact aF.pure _|exact aF.pure' _|exact aF.halt _|exact cD.noW (cD.boundsPanic _ _ _ _)|exact cD.noW (cD.runtimePanic _)|exact aF.prog|exact aF.underlying _|exact aF.sizeOf _|exact aF.asIntOf _|exact aF.sureAddr _|exact aF.asBool _)
 |some f=>
  rw[hf] at h;dsimp only at h ⊢;refine .bind (.sureAddr _) λa=>.bind ?_ λ_=>.pure _;unfold Go.fieldPlace;refine .bind' (.sizeOf _) λn hn=>?_;have hz:n≠0:=by
   intro e;have:=hn default;unfold Go.sizeOf Go.typeInfo at this;cases hi:P.info? f.type with
   |none=>rw[hi] at h;cases h
   |some inf=>
    rw[hi] at h;rw[Sem.run_bind,Sem.run_bind] at this;change Result.andThen (Result.andThen (.ok P default) _) _=_ at this;simp only[Result.andThen_ok,hi] at this;change Result.ok inf.size default=_ at this;cases this;dsimp only at h;rw[e] at h;cases h
  rw[if_neg hz]
  (first|exact aF.pure _|exact aF.pure' _|exact aF.halt _|exact cD.noW (cD.boundsPanic _ _ _ _)|exact cD.noW (cD.runtimePanic _)|exact aF.prog|exact aF.underlying _|exact aF.sizeOf _|exact aF.asIntOf _|exact aF.sureAddr _|exact aF.asBool _)
def HK (P:Program):Op->Bool
 |.move _=>true
 |.assign _=>true
 |.pick ..=>true
 |.fieldAddr s _ i=>Z1 P s i
 |.indexAddr ..=>true
 |.slice ..=>true
 |_=>false
def aAM {o:Oper}(hp:HK P o.op=true)(Z:Operand->Value):(∃v,∀w,(execOp Z o).run P w=.ok (.value v) w)\/∀w,∃h w',(execOp Z o).run P w=.halt h w':=by
 have key:∀s:Sem Value,aF P s->(∃v,∀w,(do Pure.pure (Next.value (<-s)):Sem Next).run P w=.ok (.value v) w)\/∀w,∃h w',(do Pure.pure (Next.value (<-s)):Sem Next).run P w=.halt h w':=by
  intro s hs;rcases hs with⟨a,ha⟩|hd
  .exact .inl ⟨a,λw=>by rw[Sem.run_bind,ha w];rfl⟩
  .refine .inr λw=>?_;obtain⟨x,w',e⟩:=hd w;exact⟨x,w',by rw[Sem.run_bind,e];rfl⟩
 obtain⟨dst,op,type,pos,after,guard⟩:=o;cases op<;>first|(cases hp;done)|skip
 case move x=>exact .inl ⟨_,λw=>rfl⟩
 case assign x=>exact .inl ⟨_,λw=>rfl⟩
 case pick c a b=>
  have:=key (do Pure.pure (if<-Go.asBool (Z c) then Z a else Z b)) (.bind (.asBool _) λ_=>.pure _);simp only[execOp];rcases aF.asBool (P:=P) (Z c) with⟨t,ht⟩|hd
  .exact .inl ⟨_,λw=>by rw[Sem.run_bind,ht w];rfl⟩
  .refine .inr λw=>?_;obtain⟨x,w',e⟩:=hd w;exact⟨x,w',by rw[Sem.run_bind,e];rfl⟩
 case fieldAddr s x i=>exact key _ (.fieldAt hp _)
 case indexAddr t x i=>exact key _ (.indexAt _ _ _)
 case slice t x lo hi mx=>exact key _ (.sliceAt _ _ _ _ _)
def aAN {rd:Option Nat}{ops:Array Oper}{i:Nat}{o:Oper}{a:Act}{w:World}{K:Act->World->Prop}(hi:ops[i]?=some o)(hp:HK P o.op=true)
 (h:wpOpIn (FR rd) 0 P ops (λ_ _ _=>False) i K a w):∃v,YieldsFenced P ops o v a/\K (a.put o.dst v) w:=by
 have bX:∀c,o.op≠.defer c:=λc e=>by rw[e] at hp;cases hp
 have zx:∀w,o.about P w a.eval=none:=λw=>by
  unfold Oper.about;cases ho:o.op<;>first|rfl|(rw[ho] at hp;cases hp)
 unfold wpOpIn at h;rw[hi] at h;dsimp only at h;cases hw:Region.wanted o (yielded ops a.tmps) with
 |false=>
  rw[hw] at h;exact⟨undef,⟨.inr ⟨hw,rfl⟩,zx⟩,h.2⟩
 |true=>
  rw[hw,if_pos rfl] at h;have h2:=h.2;rw[Oper.semAt_eq _ _ _ bX] at h2;rcases aAM hp a.eval with⟨v,hv⟩|hd
  .rw[hv w] at h2;exact⟨v,⟨.inl ⟨hw,hv⟩,zx⟩,h2⟩
  .obtain⟨x,w',e⟩:=hd w;rw[e] at h2;cases x<;>exact h2.elim
section
variable {F:Fence} {n:Nat} {ops:Array Oper} {Q:Exit->Act->World->Prop} {md:Region.Mode}
def YF.wpOpIn {i:Nat}{o:Oper}{v:Value}{a:Act}(bX:sZ o.op=true)(hi:ops[i]?=some o)(hy:YieldsFenced P ops o v a)
 {K:Act->World->Prop} {w:World} (h:K (a.put o.dst v) w):wpOpIn F n P ops Q i K a w:=by
 have m9:∀c,o.op≠.defer c:=λc e=>by rw[e] at bX;cases bX
 unfold Go.wpOpIn;simp only[hi];have zx:∀f,o.about P w a.eval=some f->F.fn f:=λf hf=>by rw[hy.2 w] at hf;cases hf
 rcases hy.1 with⟨hw,hv⟩|⟨hw,rfl⟩
 .simp only[hw,if_true,Oper.wpIn,Oper.semAt_eq _ _ _ m9,hv w,Oper.uponIn];exact⟨zx,h⟩
 .simp only[hw,A3,if_false];exact⟨zx,h⟩
def aHq {j:Nat}{oi oj:Oper}{v:Value}(bX:sZ oj.op=true)(hj:ops[j]?=some oj)(Ui:oi.apart ops oj=true)
 (zS:∀cs b,oi.op≠.select cs b) (hsj:∀cs b,oj.op≠.select cs b)
 (hQ:∀c a w,Q (.panic c) (a.put oi.dst v) w->Q (.panic c) a w) {K:Act->World->Prop} {a:Act} {w:World}
 (hy:YieldsFenced P ops oi v a) (h:wpOpIn F n P ops Q j K (a.put oi.dst v) w):
 wpOpIn F n P ops Q j (λa' w'=>YieldsFenced P ops oi v a'/\K (a'.put oi.dst v) w') a w:=by
 have m9:∀c,oj.op≠.defer c:=λc e=>by rw[e] at bX;cases bX
 obtain⟨h1,h2,h3⟩:=Oper.apart_spec Ui;have keep:∀(a:Act),YieldsFenced P ops oi v a->∀u,YieldsFenced P ops oi v (a.put oj.dst u):=λa hy u=>
  hy.of_same (execOp_put oi zS a oj.dst u h3) (wanted_put oi a oj.dst u h3) (λw=>about_put oi w a oj.dst u h3)
 have aw6:∀d,YieldsFenced P ops oi v {a with defers:=d::a.defers}:=λd=>hy.of_same rfl rfl (λ_=>rfl);unfold Go.wpOpIn at*;simp only[hj] at*;rw[wanted_put oj a oi.dst v h1,about_put oj w a oi.dst v h1] at h;split
 .rename_i hw;simp only[hw,if_true] at h;unfold Oper.wpIn at*;rw[about_put oj w a oi.dst v h1] at h;refine⟨h.1,?_⟩;have h:=h.2;rw[Oper.semAt_eq _ _ _ m9,execOp_put oj hsj a oi.dst v h1] at h;rw[Oper.semAt_eq _ _ _ m9];generalize (execOp a.eval oj).run P w=r at*;cases r with
  |ok x w'=>
   cases x<;>simp only[Oper.uponIn] at h ⊢
   case value u=>exact⟨keep a hy u,by rw[<-Act.put_comm a v u h2];exact h⟩
   case skip=>exact⟨keep a hy _,by rw[<-Act.put_comm a v undef h2];exact h⟩
   case defer d=>
        refine⟨keep _ (aw6 d) _,?_⟩;rw[<-Act.put_comm _ v undef h2,<-Act.put_defers];exact h
   case enter f args=>
        refine⟨h.1,CallsIn.mono h.2 λe lX he=>?_⟩;cases e with
        |returned u=>exact⟨keep a hy u,by rw[<-Act.put_comm a v u h2];exact he⟩
        |panicked c=>exact hQ _ _ _ he
        |outgrown=>exact he
   case row row args=>exact⟨h.1,RowsIn.mono h.2 λu lX he=>⟨keep a hy u,by rw[<-Act.put_comm a v u h2];exact he⟩⟩
   case round l f tmps assign body=>
        refine⟨h.1,RoundIn.mono h.2 λe lX he=>?_⟩;cases e with
        |returned u=>exact⟨keep a hy u,by rw[<-Act.put_comm a v u h2];exact he⟩
        |panicked c=>exact hQ _ _ _ he
        |outgrown=>exact he
  |halt x w'=>
   cases x<;>simp only[Oper.uponIn] at h ⊢
   case panic u=>exact hQ _ _ _ h
 .rename_i hw;simp only[hw] at h;exact⟨h.1,keep a hy _,by rw[<-Act.put_comm a v undef h2];exact h.2⟩
def aHp {i:Nat}{oi:Oper}{v:Value}(bX:∀(j:Nat) (o:Oper),ops[j]?=some o->sZ o.op=true)(hi:ops[i]?=some oi)(xe:∀(j:Nat) (o:Oper) cs b,ops[j]?=some o->o.op≠.select cs b)
 (hQ:∀c a w,Q (.panic c) (a.put oi.dst v) w->Q (.panic c) a w):
 ∀(fuel:Nat) (listed:Array Bool) (a:Act) (w:World),
  (∀j oj,ops[j]?=some oj->j≠i->listed.getD j true=false->(∀e∈oj.after,Region.binds md e=true->e.on≠i)->oi.apart ops oj=true)->
  i∈Region.ready md ops listed->YieldsFenced P ops oi v a->
  wpAnyIn F n P md ops Q fuel (listed.setIfInBounds i true) (a.put oi.dst v) w->wpAnyIn F n P md ops Q (fuel+1) listed a w:=by
 intro fuel
 induction fuel with
 |zero=>
  intro listed a w _ hr hy zyz;refine⟨λh=>(by rw[h] at hr;cases hr),λj hj=>?_⟩;by_cases m5:j=i
  .subst m5;exact YF.wpOpIn (bX _ _ hi) hi hy zyz
  .have:=ready_mono hj m5;rw[zyz.1] at this;cases this
 |succ fuel ih=>
  intro listed a w sD hr hy zyz;refine⟨λh=>(by rw[h] at hr;cases hr),λj hj=>?_⟩;by_cases m5:j=i
  .subst m5;exact YF.wpOpIn (bX _ _ hi) hi hy zyz
  .have h1:=zyz.2 j (ready_mono hj m5);obtain⟨agO,oj,NR,bj⟩:=mem_ready.1 hj
   have U6:∀e∈oj.after,Region.binds md e=true->e.on≠i:=λe he hb heq=>by
        have h1:=bj e he hb;have h0:=(mem_ready.1 hr).1;rw[heq] at h1;rcases JZ i listed.size with h'|h'
        .simp[h'] at h0 h1;rw[h0] at h1;cases h1
        .simp[Array.getElem?_eq_none h'] at h1
   have h2:=aHq (bX _ _ NR) NR (sD j oj NR m5 agO U6) (λcs b=>xe i oi cs b hi) (λcs b=>xe j oj cs b NR) hQ hy h1;have auK:∀k ok,ops[k]?=some ok->k≠i->(listed.setIfInBounds j true).getD k true=false->
    (∀e∈ok.after,Region.binds md e=true->e.on≠i)->oi.apart ops ok=true:=λk ok hk hki mu eU=>by
        refine sD k ok hk hki ?_ eU;by_cases zH:j=k
        .subst zH;exact agO
        .rw[getD_set_ne true zH] at mu;exact mu
   refine wpOpIn_mono (λa' w' h3=>ih (listed.setIfInBounds j true) a' w' auK (ready_mono hr (vV m5)) h3.1 ?_) h2;rw[Array.setIfInBounds_comm _ _ m5];exact h3.2
end
end
def ui (P:Program)(ops:Array Oper):List (Option (List Nat)):=(List.range ops.size).map λi=>match ops[i]? with
 |some oi=>bif HK P oi.op then some ((List.range ops.size).filter λj=> !(Nat.beq j i||(match ops[j]? with|some oj=>(oj.after.toList.any λe=>Region.binds .any e&&Nat.beq e.on i)||oi.apart ops oj|none=>true))) else none
 |none=>none
def Ek (bad:List (Option (List Nat)))(E:Nat):List Nat->Option Nat
 |[]=>none
 |i::l=>match bad.getD i none with
  |some b=>bif b.all (aW E) then some i else Ek bad E l
  |none=>Ek bad E l
def V8 (ops:Array Oper):Bool:=ops.toList.all λo=>match o.op with|.select ..=>false|_=>true
def QM {bad:List (Option (List Nat))}{E:Nat}:∀{l:List Nat} {i:Nat},Ek bad E l=some i->i∈l/\∃b,bad.getD i none=some b/\b.all (aW E)=true
 |[],_,h=>by cases h
 |i::l,j,h=>by
  unfold Ek at h;split at h
  .rename_i b hb;cases hc:b.all (aW E) with
   |true=>
    rw[hc] at h;cases h;exact⟨gy ..,b,hb,hc⟩
   |false=>
    rw[hc] at h;obtain⟨h1,h2⟩:=QM h;exact⟨fY _ h1,h2⟩
  .obtain⟨h1,h2⟩:=QM h;exact⟨fY _ h1,h2⟩
def apT {P:Program}{ops:Array Oper}{i:Nat}{b:List Nat}(h:(ui P ops).getD i none=some b):∃oi,ops[i]?=some oi/\HK P oi.op=true/\
 ∀j oj,ops[j]?=some oj->j≠i->j∉b->(∀e∈oj.after,Region.binds .any e=true->e.on≠i)->oi.apart ops oj=true:=by
 unfold ui at h;rw[bn,dF] at h;by_cases hi:i<ops.size
 .rw[rZ hi] at h;simp only[ll,lj] at h;rw[kB hi] at h;dsimp only at h;cases hp:HK P ops[i].op<;>rw[hp] at h<;>simp only[zyv,zyu] at h
  .cases h
  injection h with h
  refine⟨ops[i],kB hi,hp,λj oj hj m5 NG eU=>?_⟩;have aq:j<ops.size:=(ij.1 hj).1;rw[<-h] at NG;have h2:¬(!(Nat.beq j i||(match ops[j]? with|some oj=>(oj.after.toList.any λe=>Region.binds .any e&&Nat.beq e.on i)||ops[i].apart ops oj|none=>true)))=true:=λhc=>NG (gz.2 ⟨gR.2 aq,hc⟩);rw[hj,gS m5] at h2;simp only[Bool.false_or,lY,Bool.not_eq_false,lZ] at h2;rcases h2 with h2|h2
  .obtain⟨e,he,hb⟩:=A7.1 h2;rw[aA] at hb;exact absurd (dP hb.2) (eU e (by simpa using he) hb.1)
  .exact h2
 .rw[tX (by simpa using hi)] at h;cases h
def Hg (E:Nat)(T:Snap):List (Nat×Snap)->Option (List (Nat×Snap))
 |[]=>some [(E,T)]
 |x::l=>bif Nat.beq x.1 E then(bif x.2.beq T then some (x::l) else none) else(Hg E T l).map (x::·)
def qu (ops:Array Oper)(E:Nat):List Nat:=
 (List.range ops.size).filter λi=> !aW E i&&(match ops[i]? with|some o=>o.after.toList.all λe=> !Region.binds .any e||aW E e.on|none=>false)
def Xg (C:Ctx)(ops:Array Oper)(n:Nat)(ids:List Nat)(X:List (List PI))(nc:List (List Nat))(E:Nat)(T:Snap)(i:Nat):Option (Nat×Snap):=
 match ops[i]? with
 |some o=>(zd C (T.stO ids) ops o).bind λr=>
  bif PI.beqs r.2 (X.getD i [])&&(nc.getD i []).all (aW E) then some (Nat.lor E (ir i),⟨Ei (lN r.1) r.1 T.rs o.dst.toList,ids.map λj=>jU r.1 (r.1.o j)⟩) else none
 |none=>none
def Jy (one:Nat->Option (Nat×Snap)):List Nat->List (Nat×Snap)->Option (List (Nat×Snap))
 |[],acc=>some acc
 |i::l,acc=>(one i).bind λx=>x.2.hard λT=>(Hg x.1 T acc).bind λacc=>Jy one l acc
def qJ (ops:Array Oper)(bad:List (Option (List Nat)))(E:Nat):List Nat:=
 match Ek bad E (qu ops E) with
 |some i=>[i]
 |none=>qu ops E
def Hn (ops:Array Oper)(bad:List (Option (List Nat)))(one:Nat->Snap->Nat->Option (Nat×Snap)):List (Nat×Snap)->List (Nat×Snap)->Option (List (Nat×Snap))
 |[],acc=>some acc
 |x::l,acc=>
  match qJ ops bad x.1 with
  |[]=>none
  |rs=>(Jy (one x.1 x.2) rs acc).bind λacc=>Hn ops bad one l acc
def Jv (ops:Array Oper)(bad:List (Option (List Nat)))(one:Nat->Snap->Nat->Option (Nat×Snap)):Nat->List (Nat×Snap)->Option Snap
 |0,L=>
  match L with
  |[x]=>bif (List.range ops.size).all (aW x.1) then some x.2 else none
  |_=>none
 |k+1,L=>(Hn ops bad one L []).bind λL=>Jv ops bad one k L
def ahH {E:Nat}{T:Snap}:∀{l l':List (Nat×Snap)},Hg E T l=some l'->(E,T)∈l'/\∀x,x∈l->x∈l'
 |[],l',h=>by simp only[Hg,bx] at h;subst h;simp
 |x::l,l',h=>by
  simp only[Hg] at h;cases hb:Nat.beq x.1 E<;>simp only[hb,zyv,zyu] at h
  .simp only[aT] at h;obtain⟨l2,h2,rfl⟩:=h;obtain⟨h3,h4⟩:=ahH h2;exact⟨fY _ h3,λy hy=>(dG.1 hy).elim (λe=>e▸gy ..) λhm=>fY _ (h4 y hm)⟩
  .cases hs:x.2.beq T<;>simp only[hs,zyv,zyu] at h
   .cases h
   .cases h;refine⟨?_,λy hy=>hy⟩;have e1:=dP hb;have e2:=Snap.beq_eq _ _ hs;subst e1;subst e2;simp
def anE {one:Nat->Option (Nat×Snap)}:∀{rs:List Nat} {acc EX:List (Nat×Snap)},Jy one rs acc=some EX->(∀x,x∈acc->x∈EX)/\∀i,i∈rs->∃x,one i=some x/\x∈EX
 |[],acc,EX,h=>by simp only[Jy,bx] at h;subst h;simp
 |i::rs,acc,EX,h=>by
  simp only[Jy,Snap.hard_eq,aJ] at h;obtain⟨x,hx,api,h1,h2⟩:=h;obtain⟨h3,h4⟩:=ahH h1;obtain⟨h5,h6⟩:=anE h2;refine⟨λy hy=>h5 y (h4 y hy),λj hj=>?_⟩;rcases dG.1 hj with e|hm
  .subst e;exact⟨x,hx,h5 _ h3⟩
  .exact h6 j hm
def ah6 {ops:Array Oper}{bad:List (Option (List Nat))}{one:Nat->Snap->Nat->Option (Nat×Snap)}:∀{L acc L':List (Nat×Snap)},Hn ops bad one L acc=some L'->
 (∀x,x∈acc->x∈L')/\∀x,x∈L->qJ ops bad x.1≠[]/\∀i,i∈qJ ops bad x.1->∃y,one x.1 x.2 i=some y/\y∈L'
 |[],acc,L',h=>by simp only[Hn,bx] at h;subst h;simp
 |x::L,acc,L',h=>by
  simp only[Hn] at h;split at h
  .cases h
  .rename_i aI;simp only[aJ] at h;obtain⟨api,h1,h2⟩:=h;obtain⟨h3,h4⟩:=anE h1;obtain⟨h5,h6⟩:=ah6 h2;refine⟨λy hy=>h5 y (h3 y hy),λy hy=>?_⟩;rcases dG.1 hy with e|hm
   .subst e;refine⟨λe=>aI e,λi hi=>?_⟩;obtain⟨z,hz,hm⟩:=h4 i hi;exact⟨z,hz,h5 z hm⟩
   .exact h6 y hm
def gw (X:List (List PI))(l:List Nat)(E:Nat):List PI:=l.flatMap λi=>bif aW E i then[] else X.getD i []
def ZM {X:List (List PI)}{E E':Nat}:∀(l:List Nat),(∀i,i∈l->aW E i=aW E' i)->gw X l E=gw X l E'
 |[],_=>rfl
 |i::l,h=>by
  have ih:=ZM (X:=X) l λj hj=>h j (fY _ hj);unfold gw at ih ⊢;simp only[EG];rw[ih,h i (gy ..)]
def Foot.comm_each {a b:List PI}(h:(iP a).comm (iP b)=true):∀p q,p∈a->q∈b->Comm p q:=by
 simp only[Foot.comm,aA] at h;obtain⟨h1,h2,h3,h4,h5,h6⟩:=h;intro p q hp hq;obtain⟨p1,p2,p3,p4⟩:=afS hp;obtain⟨q1,q2,q3,q4⟩:=afS hq;exact⟨λt x y=>VP h1 (p1 t x) (q1 t y),λt x y=>VP h2 (p1 t x) (q3 t y),λt x y=>VP h3 (q1 t x) (p3 t y),λt x y=>R1 h4 (p2 t x) (q2 t y),λt x y=>R1 h5 (p2 t x) (q4 t y),λt x y=>R1 h6 (q2 t x) (p4 t y)⟩
def DG (X:List (List PI))(N:Nat):List (List Nat):=
 (List.range N).map λi=>(List.range i).filter λj=> !(iP (X.getD j [])).comm (iP (X.getD i []))
def y2 (E i j:Nat):aW (Nat.lor E (ir i)) j=(aW E j||Nat.beq i j):=by
 rw[gT]
 congr 1
 rw[yZ];show(1<<<i).testBit j=_;rw[Nat.testBit_shiftLeft];by_cases h:i=j
 .subst h;simp
 .have h1:Nat.beq i j=false:=gS h;rw[h1];by_cases h2:i<=j
  .have:j-i≠0:=by omega
   cases hk:j-i with
   |zero=>omega
   |succ k=>
    have:(1:Nat).testBit (k+1)=false:=by simp[Nat.testBit_succ]
    simp[this]
  .simp[h2]
def aB8 {X:List (List PI)}{N E i:Nat}(hi:i<N)(hb:aW E i=false)(gG:((DG X N).getD i []).all (aW E)=true)(V:bf)(Z:Env):
 PI.runs V (gw X (List.range N) E) Z=(PI.runs V (X.getD i []) Z).bind (PI.runs V (gw X (List.range N) (Nat.lor E (ir i)))):=by
 obtain⟨l1,l2,hl⟩:=List.append_of_mem (gR.2 hi);have hp:=List.pairwise_lt_range (n:=N);rw[hl,List.pairwise_append] at hp;obtain⟨_,fS,hp3⟩:=hp;rw[aej] at fS;have lt1:∀j,j∈l1->j<i:=λj hj=>hp3 j hj i (gy ..);have lt2:∀j,j∈l2->i<j:=λj hj=>fS.1 j hj;have e0:∀E,gw X (l1++i::l2) E=gw X l1 E++((bif aW E i then[] else X.getD i [])++gw X l2 E):=λE=>by simp[gw]
 have e1:gw X l1 (Nat.lor E (ir i))=gw X l1 E:=ZM l1 λj hj=>by
  rw[y2,gS (by have:=lt1 j hj;omega),Rm]
 have e2:gw X l2 (Nat.lor E (ir i))=gw X l2 E:=ZM l2 λj hj=>by
  rw[y2,gS (by have:=lt2 j hj;omega),Rm]
 have e3:aW (Nat.lor E (ir i)) i=true:=by rw[y2,nO,tR]
 rw[hl,e0,e0,e1,e2,e3,hb];simp only[zyv,zyu,yN]
 have aut:PI.runs V (gw X l1 E++X.getD i [])=PI.runs V (X.getD i []++gw X l1 E):=funext λZ=>PI.comms _ _ (λp q hp hq=>by
  unfold gw at hp;obtain⟨j,hj,hp⟩:=JT.1 hp;cases hbj:aW E j<;>simp only[hbj,zyv,zyu] at hp
  case true=>cases hp
  have hc:(iP (X.getD j [])).comm (iP (X.getD i []))=true:=by
   cases jt:(iP (X.getD j [])).comm (iP (X.getD i [])) with
   |true=>rfl
   |false=>
    have wO:(DG X N).getD i []=(List.range i).filter λj=> !(iP (X.getD j [])).comm (iP (X.getD i [])):=by
     unfold DG;rw[bn,dF,rZ hi];rfl
    rw[wO] at gG;have:=fe.1 gG j (gz.2 ⟨gR.2 (lt1 j hj),by rw[jt];rfl⟩);rw[hbj] at this;cases this
  exact Foot.comm_each hc p q hp hq) Z
 rw[<-qD,vF,aut];have:=vF (V:=V) (a:=X.getD i []) (b:=gw X l1 E) (Z:=Z);rw[this,Option.bind_assoc]
 congr 1
 funext ρ1;rw[vF]
def fO (C:Ctx)(ops:Array Oper):List Nat->St->Option (List (List PI))
 |[],_=>some []
 |i::l,S=>
  match ops[i]? with
  |some o=>(zd C S ops o).bind λr=>(fO C ops l r.1).map λq=>r.2::q
  |none=>none
def afZ (ops:Array Oper):Bool:=(List.range ops.size).all λi=>match ops[i]? with
 |some o=>(match o.guard with|some (j,_)=>Nat.blt j i|none=>true)
 |none=>true
def Na (ops:Array Oper):Bool:=ops.toList.all λo=>match o.guard with
 |some (j,_)=>o.after.toList.any λe=>Region.binds .any e&&Nat.beq e.on j
 |none=>true
section
variable {C:Ctx} {S:St} {f:Nat->Sh} {gs:List (Nat×Bool)} {dst:Nat}
end
section
variable {C:Ctx} {S:St} {Z:Env} {H:Im} {own:Nat->Option Nat} {hv:Nat->Value} {w0:World} {σ0:Base} {A:Nat->Prop} {a:Act} {w:World} {n:Nat} {ids:List Nat} {V:bf}
def aN9 {ops:Array Oper}{listed:Array Bool}{E:Nat}(bp:listed.size=ops.size)(hl:∀i,listed.getD i false=aW E i)(i:Nat):i∈Region.ready .any ops listed↔i∈qu ops E:=by
 unfold Region.ready qu;simp only[gz,gR];refine and_congr_right λhi=>?_;have h1:listed.getD i true=aW E i:=by
  rw[<-hl i];simp only[iK];rw[kB (by omega)];rfl
 have h2:ops[i]?=some ops[i]:=kB hi;rw[h1,h2];simp only[ll,lj,<-Array.all_toList,hl]
end
def Qs (C:Ctx)(n:Nat)(ids:List Nat)(ops:Array Oper)(draw:Bool)(S:Snap):Option (Snap×List PI):=
 bif Ee n ops then
    bif draw then
     bif Na ops&&V8 ops&&C.P.follows .mixedOrders then
        (fO C ops (List.range ops.size) (S.st ids)).bind λX=>Gl X λX=>Gl (DG X ops.size) λnc=>
         (Snap.hard ⟨S.rs.map λs=>lN (S.st ids) (cW s),ids.map λj=>jU (S.st ids) ((S.st ids).o j)⟩ λT0=>Jv ops (ui C.P ops) (Xg C ops n ids X nc) ops.size [(0,T0)]).map λT=>(⟨T.rs.map (iy (T.stO ids)),ids.map λj=>jU (T.stO ids) ((T.stO ids).o j)⟩,X.flatten)
     else none
    else bif afZ ops then(wg C ops (List.range ops.size) (S.st ids)).map λr=>(⟨Ei (iy r.1) r.1 S.rs (ops.toList.filterMap (·.dst)),ids.map λj=>jU r.1 (r.1.o j)⟩,r.2) else none
 else none
def Qr (C:Ctx)(n:Nat)(ids:List Nat)(ops:Array Oper)(draw:Bool)(S:Snap):Option (Snap×List PI):=
 (Qs C n ids ops draw S).bind λr=>r.1.hard λT=>some (T,r.2)
def aB4 (C:Ctx)(n:Nat)(ids:List Nat)(ops:Array Oper)(draw:Bool)(S:Snap):Qr C n ids ops draw S=Qs C n ids ops draw S:=by
 unfold Qr;cases Qs C n ids ops draw S with
 |none=>rfl
 |some r=>rw[yP,Snap.hard_eq]
def AQ (ops:Array Oper)(E:Nat):Nat->Prop:=λt=>∃i o,aW E i=true/\ops[i]?=some o/\o.dst=some t
section
variable {C:Ctx} {S:St} {Z:Env} {H:Im} {own:Nat->Option Nat} {hv:Nat->Value} {w0:World} {σ0:Base} {A:Nat->Prop} {a:Act} {w:World} {n:Nat} {ids:List Nat} {V:bf}
def Qn {ops:Array Oper}{listed:Array Bool}{E:Nat}(bp:listed.size=ops.size)(hl:∀i,listed.getD i false=aW E i)(i:Nat):i∈Region.ready .any ops listed↔i∈qu ops E:=by
 unfold Region.ready qu;simp only[gz,gR];refine and_congr_right λhi=>?_;have h1:listed.getD i true=aW E i:=by
  rw[<-hl i];simp only[iK];rw[kB (by omega)];rfl
 have h2:ops[i]?=some ops[i]:=kB hi;rw[h1,h2];simp only[ll,lj,<-Array.all_toList,hl]
def aCr {rd:Option Nat}(hC:CtxOK C σ0)(bG:eB C)(hΦ:dS C V)(hY:ud C V w0 σ0){a0:Act}(U3:a0.tmps.size=n){ops:Array Oper}(aE:Ee n ops=true)(iS:Na ops=true){X:List (List PI)}{Q:Exit->Act->World->Prop}{Z':Env}(xe:V8 ops=true)(hQp:∀c a w,¬Q (.panic c) a w):
 ∀(k:Nat) {L:List (Nat×Snap)} {T:Snap},Jv ops (ui C.P ops) (Xg C ops n ids X (DG X ops.size)) k L=some T->
  (∀a' w',SameBut (CG ops) a0 a'->Good C w0 σ0 (T.stO ids) Z' (λt=>∃E,AQ ops E t) a' w'->Q .normal a' w')->
  ∀(E:Nat) (U:Snap),(E,U)∈L->∀(listed:Array Bool) (Z:Env) (a:Act) (w:World),listed.size=ops.size->(∀i,listed.getD i false=aW E i)->SameBut (CG ops) a0 a->
   Good C w0 σ0 (U.stO ids) Z (AQ ops E) a w->PI.runs V (gw X (List.range ops.size) E) Z=some Z'->wpAnyIn (FR rd) 0 C.P .any ops Q k listed a w:=by
 simp only[Ee,aA] at aE;have bX:=va aE.1;intro k
 induction k with
 |zero=>
  intro L T hs hQ E U hm listed Z a w bp hl hn hg az;simp only[Jv] at hs;split at hs
  case h_2=>cases hs
  rename_i x;cases bj:(List.range ops.size).all (aW x.1)<;>simp only[bj,zyv,zyu] at hs
  .cases hs
  cases hs;simp only[JU] at hm;subst hm;simp only at bj hg hQ az hl;have CV:=fe.1 bj;have auG:gw X (List.range ops.size) E=[]:=by
   unfold gw;rw[List.flatMap_eq_nil_iff];intro i hi;rw[CV i hi];rfl
  rw[auG] at az;simp only[PI.runs,bx] at az;subst az;refine⟨?_,hQ a w hn ?_⟩
  .rw[aoZ];intro i hi;rw[Qn bp hl] at hi;unfold qu at hi;simp only[gz,aA,lY] at hi;rw[CV i hi.1] at hi;cases hi.2.1
  .obtain⟨H,own,hv,h⟩:=hg;exact⟨H,own,hv,h.defers,h.ok,h.le,h.old,h.newc,h.newm,h.below,h.bw,h.owns,h.regs,h.objs,λt gs s e=>⟨λg hm=>⟨E,(h.opts t gs s e).1 g hm⟩,(h.opts t gs s e).2⟩,h.frame⟩
 |succ k ih=>
  intro L T hs hQ E U hm listed Z a w bp hl hn hg az;simp only[Jv,aJ] at hs;obtain⟨L',hL,hs⟩:=hs;obtain⟨_,cY⟩:=ah6 hL;obtain⟨aI,Vo⟩:=cY _ hm;have avv:qu ops E≠[]:=λe=>aI (by unfold qJ;rw[e];rfl)
  have cZ:∀i,i∈qJ ops (ui C.P ops) E->i∈qu ops E:=λi hi=>by
   unfold qJ at hi;split at hi
   .rename_i i' hp;rw[JU.1 hi];exact(QM hp).1
   .exact hi
  have step:∀i,i∈qJ ops (ui C.P ops) E->∀Q':Exit->Act->World->Prop,wpOpIn (FR rd) 0 C.P ops Q' i (wpAnyIn (FR rd) 0 C.P .any ops Q k (listed.setIfInBounds i true)) a w:=by
   intro i hi Q';obtain⟨y,hy,hyL⟩:=Vo i hi;have hi:=cZ i hi;unfold qu at hi;simp only[gz,gR,aA,lY] at hi;obtain⟨cj,eJ,UB⟩:=hi;simp only[Xg] at hy;split at hy
   case h_2=>cases hy
   rename_i o ho;simp only[aJ] at hy;obtain⟨r,hr,hy⟩:=hy;cases hc:(PI.beqs r.2 (X.getD i [])&&((DG X ops.size).getD i []).all (aW E))<;>simp only[hc,zyv,zyu] at hy
   .cases hy
   cases hy;simp only[aA] at hc;have hX:=PI.beqs_eq _ _ hc.1;rw[aB8 cj eJ hc.2,aJ] at az;obtain⟨ρ1,hρ1,hρ2⟩:=az;rw[<-hX] at hρ1;rw[ho] at UB;simp only at UB;have UA:∀d,o.dst=some d->¬AQ ops E d/\d<a.tmps.size:=by
        intro d hd;refine⟨λ⟨i',o',gi,gj,fo⟩=>?_,?_⟩
        .have aI:i'≠i:=λe=>by subst e;rw[eJ] at gi;cases gi
         exact MU.dst_once bX gj ho fo hd aI
        .have:=fe.1 aE.2 o (by simpa using qA ho);simp only[hd,aA] at this;rw[hn.size,U3];simpa [qF] using this.2
   have m9:sZ o.op=true:=by
        have:=fe.1 aE.2 o (by simpa using qA ho);simp only[aA] at this;exact this.1
   have hj:∀j want t,o.guard=some (j,want)->(ops[j]?).bind (·.dst)=some t->AQ ops E t:=by
        intro j want t oF ht;rw[aJ] at ht;obtain⟨oj,h1,h2⟩:=ht;have Nz:=fe.1 iS o (by simpa using qA ho);simp only[oF] at Nz;obtain⟨e,qX,Gr⟩:=A7.1 Nz;simp only[aA] at Gr;have h3:=fe.1 UB e qX;rw[Gr.1] at h3;simp only[Bool.not_true,Bool.false_or] at h3;exact⟨j,oj,by rw[<-dP Gr.2];exact h3,h1,h2⟩
   have main:=afc (rd:=rd) (K:=wpAnyIn (FR rd) 0 C.P .any ops Q k (listed.setIfInBounds i true)) (Q:=Q') hg hC bG hΦ hY m9 UA hj hr hρ1 (λa' w' lG xh=>by
        have hA:(λu=>AQ ops E u\/o.dst=some u)=AQ ops (Nat.lor E (ir i)):=by
         funext u;apply propext;constructor
         .rintro(⟨i',o',h1,h2,h3⟩|h1)
          .exact⟨i',o',by rw[y2,h1,Ez],h2,h3⟩
          .exact⟨i,o,by rw[y2,nO,tR],ho,h1⟩
         .rintro⟨i',o',h1,h2,h3⟩;rw[y2,lZ] at h1;rcases h1 with h1|h1
          .exact .inl ⟨i',o',h1,h2,h3⟩
          .rw[<-dP h1,ho] at h2;cases h2;exact .inr h3
        rw[hA] at lG
        refine ih hs hQ _ _ hyL _ ρ1 a' w' (by simpa using bp) (λj=>?_) (hn.trans (xh.mono λt e=>⟨o,by simpa using qA ho,e⟩)) (by
         have:=lG.snapO U.rs.length ids
         rw[show r.1.snapO U.rs.length ids=⟨Ei (lN r.1) r.1 U.rs o.dst.toList,ids.map λj=>jU r.1 (r.1.o j)⟩ from by
          unfold St.snapO;rw[QI λt ht=>?_];rw[afb hr t (λe=>ht (by rw[e];simp))];rfl] at this
         exact this) hρ2
        rw[y2];simp only[iK,Ew];by_cases oG:i=j
        .subst oG;simp[bp,cj]
        .rw[if_neg oG,gS oG,Rm,<-hl j];simp only[iK])
   simp only[wpOpIn,ho];split
   .rename_i hw;rw[if_pos hw] at main;exact main
   .rename_i hw;rw[if_neg hw] at main;exact⟨λ_ _=>trivial,main⟩
  cases Vb:Ek (ui C.P ops) E (qu ops E) with
  |none=>
   have lF:qJ ops (ui C.P ops) E=qu ops E:=by unfold qJ;rw[Vb]
   refine⟨λhe=>?_,λi hi=>step i (by rw[lF];exact(Qn bp hl i).1 hi) Q⟩;exfalso;refine avv ?_;rw[aoZ];intro i hi;rw[<-Qn bp hl,he] at hi;cases hi
  |some i=>
   have lF:qJ ops (ui C.P ops) E=[i]:=by unfold qJ;rw[Vb]
   obtain⟨hir,b,hb,aup⟩:=QM Vb;obtain⟨oi,hoi,Vc,Ui⟩:=apT hb;obtain⟨v,hv,hK⟩:=aAN hoi Vc (step i (by rw[lF];simp) _);refine aHp (λj o ho=>?_) hoi (λj o cs b' ho e=>?_) (λc a' w' h=>(hQp _ _ _ h).elim) k listed a w (λj oj hj m5 mu eU=>Ui j oj hj m5 (λNG=>?_) eU) ((Qn bp hl i).2 hir) hv hK
   .have:=fe.1 aE.2 o (by simpa using qA ho);simp only[aA] at this;exact this.1
   .have:=fe.1 xe o (by simpa using qA ho);rw[e] at this;cases this
   .have h1:=fe.1 aup j NG;have h2:=hl j;rw[h1] at h2;simp only[iK] at h2 mu;cases C6:listed[j]? with
    |none=>rw[C6] at h2;cases h2
    |some x=>
     rw[C6] at h2 mu;simp only[lj] at h2 mu;rw[h2] at mu;cases mu
def ant {ops:Array Oper}:∀{l:List Nat} {S:St} {X:List (List PI)},fO C ops l S=some X->X.length=l.length
 |[],S,X,h=>by simp only[fO,bx] at h;subst h;rfl
 |i::l,S,X,h=>by
  simp only[fO] at h;split at h
  case h_2=>cases h
  simp only[aJ,aT] at h;obtain⟨r,_,q,hq,rfl⟩:=h;simp[ant hq]
def aB9 (X:List (List PI)):gw X (List.range X.length) 0=X.flatten:=by
 have h0:∀i,aW 0 i=false:=λi=>by rw[yZ];simp
 have key:∀(Y zzt:List (List PI)),gw (Y++zzt) (List.range' Y.length zzt.length) 0=zzt.flatten:=by
  intro Y zzt
  induction zzt generalizing Y with
  |nil=>rfl
  |cons z zzt ih=>
   have:=ih (Y++[z]);simp only[qD,List.singleton_append,nL,nM,sc,jh] at this;rw[nM,Rz];have e:gw (Y++z::zzt) (Y.length::List.range' (Y.length+1) zzt.length) 0=(Y++z::zzt).getD Y.length []++gw (Y++z::zzt) (List.range' (Y.length+1) zzt.length) 0:=by
        unfold gw;rw[EG,h0];rfl
   rw[e,this,aeb]
   congr 1
   simp[bn]
 have:=key [] X;simp only[yN,sc] at this;rw[RA];exact this
def aB5 (bG:eB C)(hΦ:dS C V):RK C n ids V (Qr C n ids):=by
 intro id ops draw S r hr rd w0 σ0 Z Z' a w Q hC hY hn hg az hQ;rw[aB4] at hr;unfold Qs at hr;cases aE:Ee n ops<;>simp only[aE,zyv,zyu] at hr
 .cases hr
 cases draw with
 |false=>
  simp only[zyu] at hr;cases hgb:afZ ops<;>simp only[hgb,zyv,zyu] at hr
  .cases hr
  simp only[aT] at hr;obtain⟨q,hq,rfl⟩:=hr;refine wpIn_region ?_
  have sL:AP ops []=λ_=>False:=by
   funext t;apply propext;constructor
   .rintro⟨i,o,h,_⟩;cases h
   .intro h;exact h.elim
  refine MU hC bG hΦ hY aE (List.range ops.size) [] (by simpa using aei) (λp i q o j want hl ho oF=>?_) hn (by rw[sL];exact hg) hq az (λa' w' jw lG=>hQ a' w' jw (by
   have:=lG.snapF S.rs.length ids
   rw[show q.1.snap S.rs.length ids=⟨Ei (iy q.1) q.1 S.rs (ops.toList.filterMap (·.dst)),ids.map λj=>jU q.1 (q.1.o j)⟩ from by
        unfold St.snap;rw[QI λt ht=>?_];rw[afd hq t (λi o hi ho e=>ht (Bb.2 ⟨o,by simpa using qA ho,e⟩))];show _=iy q.1 (cW (S.rs.getD t .none));cases S.rs.getD t .none<;>rfl] at this
   exact this))
  have hi:i<ops.size:=by
   have:i∈List.range ops.size:=by rw[hl];simp
   exact gR.1 this
  have hb:=fe.1 hgb i (gR.2 hi);rw[ho] at hb;simp only[oF,qF] at hb;have hp:=List.pairwise_lt_range (n:=ops.size);have wQ:j∈List.range ops.size:=gR.2 (by omega);rw[hl,List.pairwise_append] at hp;obtain⟨_,fS,_⟩:=hp;rw[aej] at fS;rw[hl,dT] at wQ;simp only[yN];rcases wQ with hm|hm
  .exact hm
  .rcases dG.1 hm with e|hm
   .omega
   .have:=fS.1 j hm;omega
 |true=>
  simp only[zyv] at hr;cases iS:(Na ops&&V8 ops&&C.P.follows .mixedOrders)<;>simp only[iS,zyv,zyu] at hr
  .cases hr
  simp only[aA] at iS;have xe:=iS.1.2
  replace iS:Na ops=true/\C.P.follows .mixedOrders=true:=⟨iS.1.1,iS.2⟩
  have h0:∀i,aW 0 i=false:=λi=>by rw[yZ];simp
  simp only[agh,Snap.hard_eq,aJ,aT] at hr;obtain⟨X,hX,T,hT,rfl⟩:=hr;refine wpIn_mono (Q:=λe a w=>(∀c,e≠.panic c)/\Q e a w) ?_ λe a w h=>h.2;refine wpIn_region_any iS.2 ?_
  have sL:AQ ops 0=λ_=>False:=by
   funext t;apply propext;constructor
   .rintro⟨i,o,h,_⟩;rw[h0] at h;cases h
   .intro h;exact h.elim
  have hlen:=ant hX;rw[List.length_range] at hlen
  refine aCr (w0:=w0) hC bG hΦ hY hn aE iS.1 (Z':=Z') xe (λc a w h=>h.1 c rfl) ops.size hT (λa' w' jw lG=>⟨λc e=>(by cases e),hQ a' w' jw (by
   have:=lG.snapF T.rs.length ids
   rw[show(T.stO ids).snap T.rs.length ids=⟨T.rs.map (iy (T.stO ids)),ids.map λj=>jU (T.stO ids) ((T.stO ids).o j)⟩ from by
        unfold St.snap;have:=QI (g:=iy (T.stO ids)) (S:=T.stO ids) (rs:=T.rs) (ds:=[]) (λt _=>rfl);rw[<-this];rfl] at this
   exact this)⟩) 0 _ (JU.2 rfl) _ Z a _ (by simp) (λi=>?_) (.refl _ _) ?_ ?_
  .rw[h0];simp only[iK,Array.getElem?_replicate];split<;>rfl
  .rw[sL];have:=(hg.drew).snapO S.rs.length ids
   rw[show(S.st ids).snapO S.rs.length ids=⟨S.rs.map λs=>lN (S.st ids) (cW s),ids.map λj=>jU (S.st ids) ((S.st ids).o j)⟩ from by
        unfold St.snapO
        have:=QI (g:=λs=>lN (S.st ids) (cW s)) (S:=S.st ids) (rs:=S.rs) (ds:=[]) (λt _=>by
         show lN _ (cW (S.rs.getD t .none))=lN _ (cW (cW (S.rs.getD t .none)));cases S.rs.getD t .none<;>rfl)
        have h2:(λt=>lN (S.st ids) (cW ((S.st ids).r t)))=λt=>lN (S.st ids) ((S.st ids).r t):=by
         funext t;show lN _ (cW (cW (S.rs.getD t .none)))=lN _ (cW (S.rs.getD t .none));cases S.rs.getD t .none<;>rfl
        rw[h2] at this;rw[<-this];rfl] at this
   exact this
  .rw[<-hlen,aB9];exact az
end
def afF (m:Nat)(s:Sig):Snap:=⟨s.args.map .dat++List.replicate (m-s.args.length) .none,[]⟩
def ou (ds:List D):Env:=⟨λt=>ds.getD t .none,λ_=>.none⟩
def CE (C:Ctx)(fn:Func)(s:Sig)(ids:List Nat)(S0:Snap):Option PC:=
 match fn.body with
 |some c=>
  (comp C fn s fn.ntmps ids (Qr C fn.ntmps ids) false c S0).bind λr=>
    match r.out with
    |none=>some r.pc
    |some S=>(AN C fn s (S.st ids)).map λe=>.seq r.pc (.ret e)
 |none=>none
def mV (C:Ctx)(fn:Func)(s:Sig)(ids:List Nat):Option PC:=
 match C.yl with
 |none=>
  match s.mode with
  |.ob _ _=>none
  |_=>bif Nat.ble s.args.length fn.ntmps then CE C fn s ids (afF fn.ntmps s) else none
 |some _=>none
def aic:∀(ids:List Nat) (j:Nat),eX ids [] j=.dead
 |[],_=>rfl
 |_::_,_=>rfl
def afa {C:Ctx}{V:bf}(bG:eB C)(hΦ:dS C V)(gC:gP C V){fn:Func}{s:Sig}{ids:List Nat}{S0:Snap}{pc:PC}{c:Code}(hb:fn.body=some c)(hc:CE C fn s ids S0=some pc){w0:World}{σ0:Base}(qY:σ0.fin)(hC:CtxOK C σ0)(hY:ud C V w0 σ0)
 {N:Nat} {Z:Env} {d:D} {a:Act} {w:World} (hn:a.tmps.size=fn.ntmps) (hg:Good C w0 σ0 (S0.st ids) Z (λ_=>False) a w) (he:pc.ev V N Z=some (.ret d)):
 c.wpIn (FR none) 0 C.P (λe a' w'=>(e=.normal\/e=.ret)/\ub C w0 σ0 fn s d a'.tmps a'.defers w'/\SameBut (λt=>t∈cX c) a a') a w:=by
 unfold CE at hc;rw[hb] at hc;simp only[aJ] at hc;obtain⟨r,hr,hc⟩:=hc;have Vn:=λx hx=>aqz (fn:=fn) (s:=s) (N:=N) gC (aB5 (n:=fn.ntmps) (ids:=ids) bG hΦ) c false S0 r hr none w0 σ0 (λt=>t∈cX c) Z x a w (λ_=>⟨rfl,qY⟩) hC hY (λ_ h=>h) hn hg hx;split at hc
 .rename_i kL;cases hc;refine wpIn_mono (Vn (.ret d) he) λe a' w' ho=>?_;cases e with
  |normal=>obtain⟨_,_,h,_⟩:=ho;cases h
  |exit id=>obtain⟨_,_,h,_⟩:=ho;cases h
  |ret=>obtain⟨d',h,h2⟩:=ho;cases h;exact⟨.inr rfl,h2⟩
  |_=>exact ho.elim
 .rename_i S kL;simp only[aT] at hc;obtain⟨pe,wX,rfl⟩:=hc;simp only[PC.ev] at he;split at he
  .rename_i ρ1 h1;cases he;refine wpIn_mono (Vn (.next ρ1) h1) λe a' w' ho=>?_;cases e with
   |normal=>
    obtain⟨ρ2,S2,e1,e2,zK,iv⟩:=ho;cases e1;rw[kL] at e2;cases e2;obtain⟨σ2,own,hv,hi⟩:=iv;exact⟨.inl rfl,Inv.retD hC (λ_=>rfl) qY wX _ hi rfl,zK⟩
   |exit id=>obtain⟨_,_,h,_⟩:=ho;cases h
   |ret=>obtain⟨d',h,h2⟩:=ho;cases h
   |_=>exact ho.elim
  .rename_i aI;refine wpIn_mono (Vn (.ret d) he) λe a' w' ho=>?_;cases e with
   |normal=>obtain⟨_,_,h,_⟩:=ho;cases h
   |exit id=>obtain⟨_,_,h,_⟩:=ho;cases h
   |ret=>obtain⟨d',h,h2⟩:=ho;cases h;exact⟨.inr rfl,h2⟩
   |_=>exact ho.elim
def ub.leaves {C:Ctx}{w0:World}{σ0:Base}{fn:Func}{s:Sig}{d:D}{tmps:Array Value}{R:Ending->World->Prop}(hR:∀w',RM C w0 σ0 fn s d {tmps:=tmps,defers:=[]} w'->∃v,(results fn tmps).run C.P w'=.ok v w'/\R (.returned v) w'):
 ∀(ds:List Deferred) (w:World),ub C w0 σ0 fn s d tmps ds w->LeavesInM (FR none) 0 C.P fn tmps R ds .returning w
 |[],w,h=>hR w h
 |x::ds,w,⟨D,h1,h2,h3⟩=>⟨by simp,.inl ⟨D,_,h1,run_takeDeferred h2,ub.leaves hR ds _ h3⟩⟩
def arL {C:Ctx}{H:Im}{w:World}{args:Array Value}{ds:List D}{s:Sig}{m:Nat}{ids:List Nat}(aE:H.ok w)(ha:rV C H s.args args.toList ds):
 Good C w (Base.mk0 H w.heap.size) ((afF m s).st ids) (ou ds) (λ_=>False) {tmps:=args++Array.replicate (m-args.size) undef,defers:=[]} w:=by
 obtain⟨h1,h2,h3⟩:=ha;have bp:args.size=s.args.length:=by simpa using h1
 refine⟨H,λ_=>none,λ_=>undef,trivial,aE,.refl H,λ_ k e=>(aE.m k _ e).lt,λ_ _ _ h=>.inl h,λ_ _ h=>.inl h,.refl _ _,bL _,(λk j h=>by cases h),λt=>?_,λj=>?_,λt gs s' e=>absurd e (Snap.noOpt _ _ t gs s'),
  .none,λ_=>False,λ_=>False,⟨⟨λ_=>id,λ_=>id⟩,(λk j h=>by cases h),λ_ _ _ _=>id,λ_ _ _=>id,λ_ _ _=>id⟩,λj hj=>?_⟩
 .show ba C _ _ H _ (cW ((s.args.map Sh.dat++List.replicate (m-s.args.length) Sh.none).getD t .none)) _ _;rw[bn];by_cases ht:t<s.args.length
  .rw[tW (by simpa using ht),dF,cd ht];simp only[ll,lj,cW];have:=h3 t _ (cd ht);have e1:(args++Array.replicate (m-args.size) undef).getD t undef=args.toList.getD t undef:=by
        simp only[iK,bn];rw[Array.getElem?_append_left (by omega)];simp
   show ba C _ _ H _ (.dat _) ((args++Array.replicate (m-args.size) undef).getD t undef) (ds.getD t .none);rw[e1];exact this
  .rw[rY (by simpa using ht),ao0];split<;>trivial
 .show eD C _ _ H _ _ w _ j (eX ids [] j);rw[aic];trivial
 .change eX ids [] j=.tr at hj;rw[aic] at hj;cases hj
def Tv {C:Ctx}{V:bf}(bG:eB C)(hΦ:dS C V)(gC:gP C V){f:Nat}{fn:Func}{s:Sig}{ids:List Nat}{pc:PC}(hf:C.P.funcs[f]?=some fn)(hc:mV C fn s ids=some pc){N:Nat}{ds:List D}{d:D}(dr:Ae s.mode=false)
 (he:pc.ev V N (ou ds)=some (.ret d)):mL C f s ds d:=by
 intro H w args aE hC ha;unfold mV at hc;split at hc
 case h_2=>cases hc
 rename_i oP;split at hc
 case h_1=>rename_i e;rw[e] at dr;cases dr
 cases hle:Nat.ble s.args.length fn.ntmps<;>simp only[hle,zyv,zyu] at hc
 .cases hc
 have NJ:=mO hle;have bp:args.size=s.args.length:=by simpa using ha.1
 cases hb:fn.body with
 |none=>unfold CE at hc;rw[hb] at hc;cases hc
 |some c=>
 refine(callsIn_wide (n:=0)).1 (callsIn_of_wp_marks (F:=FR none) hf hb trivial ?_);have hg:=arL (C:=C) (m:=fn.ntmps) (ids:=ids) aE ha;have hn:(args++Array.replicate (fn.ntmps-args.size) undef).size=fn.ntmps:=by simp;omega
 refine wpIn_mono (afa bG hΦ gC hb hc (σ0:=Base.mk0 H w.heap.size) trivial hC (λJ ys e=>by rw[oP] at e;cases e) hn hg he) λe a' w' ho=>?_
 have main:=ub.leaves (R:=λe w'=>∃v H',e=.returned v/\H.le H'/\H'.ok w'/\Below w.heap.size w w'/\
  (∀k o x,H'.c k o=some x->H.c k o=some x\/w.heap.size<=k)/\(∀k x,H'.m k=some x->H.m k=some x\/w.heap.size<=k)/\ua C s H' w w' v d) (λw2 Vi=>by
  obtain⟨v,H',_,h2,h3,h4,h5,h6,h7,h8⟩:=Vi;exact⟨v,h2,v,H',rfl,h3,h4,h5,h6,h7,h8⟩) _ _ ho.2.1
 rcases ho.1 with rfl|rfl<;>exact main
def aqt {C:Ctx}{V:bf}(bG:eB C)(hΦ:dS C V)(gC:gP C V){f:Nat}{fn:Func}{s:Sig}{ids:List Nat}{pc:PC}(hf:C.P.funcs[f]?=some fn)(hc:mV C fn s ids=some pc){N:Nat}{ds:List D}{d:D}{aP:List Sh}{dQ:List (Nat×Ob)}(dr:s.mode=.ob aP dQ)
 (he:pc.ev V N (ou ds)=some (.ret d)):mM C f aP dQ s.res ds d:=by
 unfold mV at hc;split at hc
 case h_2=>cases hc
 rw[dr] at hc;cases hc
def afE (m:Nat)(cts:List Ty)(J:Nat)(ids:List Nat):Snap:=⟨.yv::(cts.map .dat++List.replicate (m-(cts.length+1)) .none),ids.map λj=>bif Nat.beq j J then .tr else .dead⟩
def CL (J:Nat)(ds:List D):Env:=⟨λt=>(D.none::ds).getD t .none,λj=>bif Nat.beq j J then .list [] else .none⟩
def FJ (C:Ctx)(fn:Func)(cts ys:List Ty)(J:Nat)(ids:List Nat):Option PC:=
 match C.yl,C.sig nH,C.cap nH with
 |none,none,none=>bif Nat.ble (cts.length+1) fn.ntmps then CE {C with yl:=some (J,ys)} fn ⟨[],.tup [],.it J⟩ ids (afE fn.ntmps cts J ids) else none
 |_,_,_=>none
open Classical in
def yldΦ (V:bf)(xs:List D)(m:Nat):bf:=λf ds=>
 if f=nH then(match ds with|[.list l]=>if 0<l.length/\l.length<=m+1/\l=xs.take l.length then some (.v (.bool (decide (l.length<=m)))) else none|_=>none)
 else V f ds
def yldΦ_at {V:bf}{xs l ds:List D}{d:D}{m:Nat}(h:yldΦ V xs m nH [.list (l++[.tup ds])]=some d):l.length<=m/\l=xs.take l.length/\xs[l.length]?=some (.tup ds)/\l++[.tup ds]=xs.take (l.length+1)/\d=.v (.bool (decide (l.length<m))):=by
 simp only[yldΦ,if_true] at h;split at h
 .rename_i hc;obtain⟨h1,h2,h3⟩:=hc;simp only[nL,nM,sc,jh] at h2 h3 h;have hx:xs[l.length]?=some (.tup ds):=by
   have:(xs.take (l.length+1))[l.length]?=some (.tup ds):=by rw[<-h3];simp
   rw[iL] at this;simpa using this
  have hl:l=xs.take l.length:=by
   have:=congrArg (List.take l.length) h3;simpa [List.take_take] using this
  refine⟨by omega,hl,hx,h3,?_⟩;cases h
  congr 2
 .cases h
def dS.yl {C:Ctx}{V:bf}(h:dS C V){y:Option (Nat×List Ty)}{v:Value}{xs:List D}{m:Nat}(hs:C.sig nH=none):dS {C with yl:=y,yv:=v} (yldΦ V xs m):=by
 intro f ds d e s ei;have aI:f≠nH:=λe'=>by subst e';change C.sig nH=some s at ei;rw[hs] at ei;cases ei
 simp only[yldΦ,if_neg aI] at e;obtain⟨h1,h2⟩:=h f ds d e s ei;exact⟨λhm H w args aE hC ha=>h1 hm H w args aE ⟨hC.glob⟩ ha,λaP dQ hm=>(h2 aP dQ hm).ctx rfl rfl rfl⟩
def mN.yl {C:Ctx}{y:Option (Nat×List Ty)}{v:Value}{f:Nat}{cts ys:List Ty}{ds xs:List D}(h:mN C f cts ys ds xs):mN {C with yl:=y,yv:=v} f cts ys ds xs:=
 λH w yv vs F fx cx m aE hC=>h H w yv vs F fx cx m aE ⟨hC.glob⟩
def gP.yl {C:Ctx}{V:bf}(h:gP C V){y:Option (Nat×List Ty)}{v:Value}{xs:List D}{m:Nat}(hs:C.cap nH=none):gP {C with yl:=y,yv:=v} (yldΦ V xs m):=by
 intro f cs ys hc hi;have aI:f≠nH:=λe'=>by subst e';change C.cap nH=some cs at hc;rw[hs] at hc;cases hc
 obtain⟨h1,h2⟩:=h f cs ys hc hi;refine⟨h1,λds d e=>?_⟩;simp only[yldΦ,if_neg aI] at e;obtain⟨xs,e1,e2,e3⟩:=h2 ds d e;exact⟨xs,e1,e2,e3.yl⟩
def ad6 (V:bf)(pc:PC)(J:Nat)(ds xs:List D):Prop:=∀m,m<=xs.length->∃N,pc.ev (yldΦ V xs m) N (CL J ds)=some (.ret (.list (xs.take (m+1))))
def arK {C:Ctx}{H:Im}{σ0:Base}{w:World}{yv:Value}{vs:List Value}{ds:List D}{cts ys:List Ty}{J m:Nat}{ids:List Nat}(aE:H.ok w)(ha:rV C H cts vs ds)(hm:cts.length+1<=m)(oP:C.yl=some (J,ys))(Hd:C.yv=yv)
 (h0:σ0.toIm=H) (hB:σ0.B=0) {fx cx:Nat->Prop} (hF:σ0.F (.list []) fx cx w) (jt:∀k o x,H.c k o=some x->¬cx k) (kJ:∀k x,H.m k=some x->¬cx k):
 Good C w σ0 ((afE m cts J ids).st ids) (CL J ds) (λ_=>False) {tmps:=#[yv]++vs.toArray++Array.replicate (m-(vs.length+1)) undef,defers:=[]} w:=by
 obtain⟨h1,h2,h3⟩:=ha
 refine⟨H,λ_=>none,λ_=>undef,trivial,aE,by rw[h0];exact .refl H,λ_ k e=>by rw[h0] at e;exact(aE.m k _ e).lt,λ_ _ _ h=>by rw[h0];exact .inl h,λ_ _ h=>by rw[h0];exact .inl h,.refl _ _,by omega,(λk j h=>by cases h),λt=>?_,λj=>?_,λt gs s' e=>absurd e (Snap.noOpt _ _ t gs s'),
  .list [],fx,cx,⟨hF,(λk j h=>by cases h),jt,kJ,λk e hk=>by have:=(aE.m k _ e).lt;omega⟩,λj hj=>?_⟩
 .show ba C _ _ H _ (cW ((Sh.yv::(cts.map Sh.dat++List.replicate (m-(cts.length+1)) Sh.none)).getD t .none)) ((#[yv]++vs.toArray++Array.replicate (m-(vs.length+1)) undef).getD t undef) ((D.none::ds).getD t .none);have ea:((#[yv]++vs.toArray++Array.replicate (m-(vs.length+1)) undef).getD t undef)=(yv::(vs++List.replicate (m-(vs.length+1)) undef)).getD t undef:=by
   rw[iK,<-Ex,bn];simp
  rw[ea];cases t with
  |zero=>simp only[yM,cW];exact Hd.symm
  |succ t=>
   simp only[JR];rw[bn];by_cases ht:t<cts.length
   .rw[tW (by simpa using ht),dF,cd ht];simp only[ll,lj,cW];have:=h3 t _ (cd ht);have e1:(vs++List.replicate (m-(vs.length+1)) undef).getD t undef=vs.getD t undef:=by
     simp only[bn];rw[tW (by omega)]
    show ba C _ _ H _ (.dat _) _ (ds.getD t .none);rw[e1];exact this
   .rw[rY (by simpa using ht),ao0];split<;>trivial
 .show eD C _ _ H _ _ w _ j (eX ids (ids.map λj=>bif Nat.beq j J then .tr else .dead) j);refine Am _ (λob=>eD C _ _ H _ _ w _ j ob) trivial j ?_ ids;cases Nat.beq j J<;>trivial
 .change eX ids (ids.map λj=>bif Nat.beq j J then .tr else .dead) j=.tr at hj
  have hb:=Am (λj=>bif Nat.beq j J then Ob.tr else .dead) (λob=>ob=.tr->Nat.beq j J=true) (λe=>by cases e) j (λe=>by
   cases hb:Nat.beq j J
   .rw[hb] at e;cases e
   .rfl) ids hj
  have:=aK hb;subst this;refine⟨⟨ys,oP⟩,?_⟩;show(bif Nat.beq j j then D.list [] else .none)=_;rw[nO];rfl
def aqu {C:Ctx}{V:bf}(bG:eB C)(hΦ:dS C V)(gC:gP C V){f:Nat}{fn:Func}{cts ys:List Ty}{J:Nat}{ids:List Nat}{pc:PC}(hf:C.P.funcs[f]?=some fn)(hc:∀yv,FJ {C with yv:=yv} fn cts ys J ids=some pc){ds xs:List D}
 (hr:ad6 V pc J ds xs):mN C f cts ys ds xs:=by
 intro H w yv vs F fx cx m aE hC ha hm aq cZ ava hF jt kJ VI;have hc:=hc yv;unfold FJ at hc;split at hc
 case h_2=>cases hc
 rename_i oP hsy hcy;cases hle:Nat.ble (cts.length+1) fn.ntmps<;>simp only[hle,zyv,zyu] at hc
 .cases hc
 have NJ:=mO hle;obtain⟨N,he⟩:=hr m hm;cases hb:fn.body with
 |none=>unfold CE at hc;rw[hb] at hc;cases hc
 |some c=>
 refine(callsIn_wide (n:=0)).1 (callsIn_of_wp_marks (F:=FR none) hf hb trivial ?_);obtain⟨σ0,hσ0⟩:∃σ0:Base,σ0={H with B:=0,fin:=True,F:=λt fx cx w=>(∃l,t=.list l)/\F t fx cx w,lt:=λt fx cx w h=>aq t fx cx w h.2,sub:=λt fx cx w h=>cZ t fx cx w h.2,keep:=λt fx cx w w' h hb hs=>⟨h.1,ava t fx cx w w' h.2 hb hs⟩}:=⟨_,rfl⟩
 have e1:σ0.toIm=H:=by rw[hσ0]
 have e2:σ0.B=0:=by rw[hσ0]
 have e3:σ0.fin:=by rw[hσ0];trivial
 have e4:∀t fx cx w,σ0.F t fx cx w↔(∃l,t=.list l)/\F t fx cx w:=λt fx cx w=>by rw[hσ0]
 have hg:=arK (C:={C with yl:=some (J,ys),yv:=yv}) (σ0:=σ0) (w:=w) (yv:=yv) (vs:=vs) (ds:=ds) (cts:=cts) (ys:=ys) (J:=J) (m:=fn.ntmps) (ids:=ids) aE ha NJ rfl rfl e1 e2 ((e4 _ _ _ _).2 ⟨⟨_,rfl⟩,hF⟩) jt kJ;have bp:(#[yv]++vs.toArray).size=vs.length+1:=by simp<;>omega
 have NZ:vs.length=cts.length:=ha.1;have hY:ud {C with yl:=some (J,ys),yv:=yv} (yldΦ V xs m) w σ0:=by
  intro J' ys' e;cases e;refine⟨e2,λt fx cx w h=>((e4 _ _ _ _).1 h).1,λRh cO d hd fx cx w1 H1 args CS avH zw hc1 zJ gG eK=>?_⟩;obtain⟨g1,g2,g3,g4,rfl⟩:=yldΦ_at hd;rw[e1] at gG eK;have:=VI Rh.length fx cx w1 H1 args cO g1 g3 (by rw[<-g2];exact((e4 _ _ _ _).1 CS).2) avH zw hc1 zJ gG eK;intro rd o a x aa ts K Q dB hv has hK;refine this rd o a x aa ts K Q dB hv has λu w2 hu=>hK u w2 ?_;obtain⟨u1,u2,u3,oy,nW,u4,u5,u6⟩:=hu;refine⟨_,rfl,u1,u2,u3,oy,nW,(e4 _ _ _ _).2 ⟨⟨_,rfl⟩,?_⟩,u5,u6⟩;rw[g4];exact u4
 have hn:(#[yv]++vs.toArray++Array.replicate (fn.ntmps-(vs.length+1)) undef).size=fn.ntmps:=by simp;omega
 rw[bp];refine wpIn_mono (afa (C:={C with yl:=some (J,ys),yv:=yv}) bG (hΦ.yl hsy) (gC.yl hcy) hb hc (σ0:=σ0) e3 (by rw[e1];exact⟨hC.glob⟩) hY hn hg he) λe a' w' ho=>?_
 have main:=ub.leaves (R:=λe w'=>(∃v,e=.returned v)/\∃fx cx,F (.list (xs.take (m+1))) fx cx w') (λw2 Vi=>by
  obtain⟨v,H',⟨own,t,fx,cx,h1,ht,_⟩,h2,_⟩:=Vi;refine⟨v,h2,⟨v,rfl⟩,fx,cx,?_⟩;rw[ht J rfl];exact((e4 _ _ _ _).1 h1.F).2) _ _ ho.2.1
 rcases ho.1 with rfl|rfl<;>exact main
def eE (tab:Nat->Option PC)(ext:Nat->Option (bf->List D->Option D)):Nat->bf
 |0=>λ_ _=>none
 |n+1=>λf ds=>
  match ext f with
  |some g=>g (eE tab ext n) ds
  |none=>
   match tab f with
   |some pc=>(match pc.ev (eE tab ext n) n (ou ds) with|some (.ret d)=>some d|_=>none)
   |none=>none
def mL.hint {C:Ctx}{fr nh:List Nat}{f:Nat}{s:Sig}{ds:List D}{d:D}(h:mL C f s ds d):mL {C with fr:=fr,nh:=nh} f s ds d:=
 λH w args aE hC ha=>h H w args aE ⟨hC.glob⟩ ha
def mL.unhint {C:Ctx}{fr nh:List Nat}{f:Nat}{s:Sig}{ds:List D}{d:D}(h:mL {C with fr:=fr,nh:=nh} f s ds d):mL C f s ds d:=
 λH w args aE hC ha=>h H w args aE ⟨hC.glob⟩ ha
def mN.hint {C:Ctx}{fr nh:List Nat}{f:Nat}{cts ys:List Ty}{ds xs:List D}(h:mN C f cts ys ds xs):mN {C with fr:=fr,nh:=nh} f cts ys ds xs:=
 λH w yv vs F fx cx m aE hC=>h H w yv vs F fx cx m aE ⟨hC.glob⟩
def mN.unhint {C:Ctx}{fr nh:List Nat}{f:Nat}{cts ys:List Ty}{ds xs:List D}(h:mN {C with fr:=fr,nh:=nh} f cts ys ds xs):mN C f cts ys ds xs:=
 λH w yv vs F fx cx m aE hC=>h H w yv vs F fx cx m aE ⟨hC.glob⟩
def mM.hint {C:Ctx}{fr nh:List Nat}{f:Nat}{aP:List Sh}{dQ:List (Nat×Ob)}{res:Ty}{ds:List D}{d:D}(h:mM C f aP dQ res ds d):mM {C with fr:=fr,nh:=nh} f aP dQ res ds d:=h.ctx rfl rfl rfl
def mM.unhint {C:Ctx}{fr nh:List Nat}{f:Nat}{aP:List Sh}{dQ:List (Nat×Ob)}{res:Ty}{ds:List D}{d:D}(h:mM {C with fr:=fr,nh:=nh} f aP dQ res ds d):mM C f aP dQ res ds d:=mM.ctx (C':=C) h rfl rfl rfl
def dS.hint {C:Ctx}{fr nh:List Nat}{V:bf}(h:dS C V):dS {C with fr:=fr,nh:=nh} V:=
 λf ds d e s hs=>⟨λhm=>((h f ds d e s hs).1 hm).hint,λaP dQ hm=>((h f ds d e s hs).2 aP dQ hm).hint⟩
def gP.hint {C:Ctx}{fr nh:List Nat}{V:bf}(h:gP C V):gP {C with fr:=fr,nh:=nh} V:=
 λf cs ys hc hi=>let⟨h1,h2⟩:=h f cs ys hc hi;⟨h1,λds d e=>let⟨xs,e1,e2,e3⟩:=h2 ds d e;⟨xs,e1,e2,e3.hint⟩⟩
def eB.hint {C:Ctx}{fr nh:List Nat}(h:eB C):eB {C with fr:=fr,nh:=nh}:=h
def Ro (C:Ctx)(f:Nat)(s:Sig)(ds:List D)(d:D):Prop:=(Ae s.mode=false->mL C f s ds d)/\∀aP dQ,s.mode=.ob aP dQ->mM C f aP dQ s.res ds d
structure TabOK (C:Ctx) (tab:Nat->Option PC) (ext:Nat->Option (bf->List D->Option D)):Prop where
 clos:eB C
 its:∀f cs ys,C.cap f=some cs->oT cs.args cs.res=some ys->tab f=none/\∃fn,C.P.funcs[f]?=some fn/\fn.body.isSome=true/\(fn.name== "runtime.NumGoroutine")=false
 tab:∀f pc,ext f=none->tab f=some pc->∃fn s ids fr nh,C.P.funcs[f]?=some fn/\C.sig f=some s/\mV {C with fr:=fr,nh:=nh} fn s ids=some pc
 ext:∀f g,ext f=some g->∀V,dS C V->gP C V->∀ds d,g V ds=some d->(∀s,C.sig f=some s->Ro C f s ds d)/\
  ∀cs ys,C.cap f=some cs->oT cs.args cs.res=some ys->∃xs,d=.list xs/\(∀x,x∈xs->∃cO,x=.tup cO/\cO.length=ys.length)/\mN C f cs.caps ys ds xs
def aev {C:Ctx}{tab:Nat->Option PC}{ext:Nat->Option (bf->List D->Option D)}(h:TabOK C tab ext):∀n,dS C (eE tab ext n)/\gP C (eE tab ext n)
 |0=>⟨λf ds d e=>by simp[eE] at e,λf cs ys hc hi=>⟨(h.its f cs ys hc hi).2,λds d e=>by simp[eE] at e⟩⟩
 |n+1=>by
  obtain⟨ih,p9⟩:=aev h n;refine⟨λf ds d e=>?_,λf cs ys hc hi=>⟨(h.its f cs ys hc hi).2,λds d e=>?_⟩⟩
  .simp only[eE] at e;split at e
   .rename_i g hg;exact(h.ext f g hg _ ih p9 ds d e).1
   .rename_i hx;split at e
    .rename_i pc ab;split at e
     .rename_i d' he;cases e;obtain⟨fn,s,ids,fr,nh,h1,h2,h3⟩:=h.tab f pc hx ab;intro s' ei;rw[h2] at ei;cases ei
      exact⟨λhm=>(Tv (C:={C with fr:=fr,nh:=nh}) (eB.hint h.clos) (dS.hint ih) (gP.hint p9) h1 h3 hm he).unhint,
       λaP dQ hm=>(aqt (C:={C with fr:=fr,nh:=nh}) (eB.hint h.clos) (dS.hint ih) (gP.hint p9) h1 h3 hm he).unhint⟩
     .cases e
    .cases e
  .simp only[eE] at e;split at e
   .rename_i g hg;exact(h.ext f g hg _ ih p9 ds d e).2 cs ys hc hi
   .rw[(h.its f cs ys hc hi).1] at e;cases e
def aoW (V:bf)(pc:PC)(J k:Nat)(ds xs:List D):Prop:=ad6 V pc J ds xs/\∀x,x∈xs->∃cO,x=.tup cO/\cO.length=k
open Classical in
def Hh (pc:PC)(J k:Nat)(spec:List D->List D):bf->List D->Option D:=λV ds=>if aoW V pc J k ds (spec ds) then some (.list (spec ds)) else none
def awX {C:Ctx}{V:bf}(bG:eB C)(hΦ:dS C V)(gC:gP C V){f:Nat}{fn:Func}{cts ys:List Ty}{J k:Nat}{ids fr nh:List Nat}{pc:PC}(hf:C.P.funcs[f]?=some fn)(hc:∀yv,FJ {C with fr:=fr,nh:=nh,yv:=yv} fn cts ys J ids=some pc){spec:List D->List D}
 {ds:List D} {d:D} (h:Hh pc J k spec V ds=some d) (hk:k=ys.length):∃xs,d=.list xs/\(∀x,x∈xs->∃cO,x=.tup cO/\cO.length=ys.length)/\mN C f cts ys ds xs:=by
 unfold Hh at h;split at h
 .rename_i hs;cases h;subst hk;exact⟨_,rfl,hs.2,(aqu (C:={C with fr:=fr,nh:=nh}) (eB.hint bG) (dS.hint hΦ) (gP.hint gC) hf hc hs.1).unhint⟩
 .cases h
def bV {α:Type}:List (Nat×α)->Nat->Option α
 |[],_=>none
 |x::l,f=>bif Nat.beq x.1 f then some x.2 else bV l f
def JJ {α:Type}(R:Nat->α->Prop):List (Nat×α)->Prop
 |[]=>True
 |x::l=>R x.1 x.2/\JJ R l
def VY {α:Type}{R:Nat->α->Prop}:∀{l:List (Nat×α)},JJ R l->∀f x,bV l f=some x->R f x
 |[],_,f,x,h=>by cases h
 |y::l,⟨h1,h2⟩,f,x,h=>by
  simp only[bV] at h;cases hb:Nat.beq y.1 f<;>simp only[hb,zyv,zyu] at h
  .exact VY h2 f x h
  .cases h;rw[<-dP hb];exact h1
def aaa (P:Program):List (Nat×Sig)->Bool
 |[]=>true
 |x::l=>(match P.funcs[x.1]? with|some fn=>fn.body.isSome&& !(fn.name== "runtime.NumGoroutine")|none=>false)&&aaa P l
def anL {P:Program}:∀{l:List (Nat×Sig)},aaa P l=true->∀f s,bV l f=some s->∃fn,P.funcs[f]?=some fn/\fn.body.isSome=true/\(fn.name== "runtime.NumGoroutine")=false
 |[],_,f,s,h=>by cases h
 |y::l,hl,f,s,h=>by
  simp only[aaa,aA] at hl;simp only[bV] at h;cases hb:Nat.beq y.1 f<;>simp only[hb,zyv,zyu] at h
  .exact anL hl.2 f s h
  .rw[<-dP hb];have h1:=hl.1;split at h1
   .rename_i fn e;simp only[aA,lY] at h1;exact⟨fn,e,h1.1,h1.2⟩
   .cases h1
def Z0 (a b:Sig):Bool:=Ty.beqs a.args b.args&&Ty.beq a.res b.res&&(match a.mode,b.mode with|.dat,.dat=>true|_,_=>false)
def aCI {a b:Sig}(h:Z0 a b=true):a=b:=by
 obtain⟨a1,a2,a3⟩:=a;obtain⟨b1,b2,b3⟩:=b;simp only[Z0,aA] at h;rw[Ty.beqs_eq _ _ h.1.1,Ty.beq_eq _ _ h.1.2];cases a3<;>cases b3<;>first|rfl|(have:=h.2;cases this)
def JA (P:Program)(f:Nat):Bool:=match P.funcs[f]? with|some fn=>fn.body.isSome&& !(fn.name== "runtime.NumGoroutine")|none=>false
def aDh {P:Program}{f:Nat}(h:JA P f=true):∃fn,P.funcs[f]?=some fn/\fn.body.isSome=true/\(fn.name== "runtime.NumGoroutine")=false:=by
 unfold JA at h;split at h
 .rename_i fn e;simp only[aA,lY] at h;exact⟨fn,e,h.1,h.2⟩
 .cases h
def To (P:Program)(sig:List (Nat×Sig))(pcs:List Nat):List (Nat×CSig)->Bool
 |[]=>true
 |x::l=>(match oT x.2.args x.2.res with
   |none=>(match bV sig x.1 with|some s=>Z0 s ⟨x.2.args++x.2.caps,x.2.res,.dat⟩|none=>false)
   |some _=> !gp pcs x.1&&JA P x.1)&&To P sig pcs l
def ae0 {P:Program}{sig:List (Nat×Sig)}{pcs:List Nat}:∀{l:List (Nat×CSig)},To P sig pcs l=true->∀f cs,bV l f=some cs->
 (oT cs.args cs.res=none->bV sig f=some ⟨cs.args++cs.caps,cs.res,.dat⟩)/\∀ys,oT cs.args cs.res=some ys->gp pcs f=false/\JA P f=true
 |[],_,f,cs,h=>by cases h
 |x::l,hl,f,cs,h=>by
  simp only[To,aA] at hl;simp only[bV] at h;cases hb:Nat.beq x.1 f<;>simp only[hb,zyv,zyu] at h
  .exact ae0 hl.2 f cs h
  .cases h;rw[<-dP hb];have h1:=hl.1;refine⟨λe=>?_,λys e=>?_⟩
   .rw[e] at h1;simp only at h1;split at h1
    .rename_i s hs;rw[hs,aCI h1]
    .cases h1
   .rw[e] at h1;simpa using h1
def ah9 {α:Type}:∀{l:List (Nat×α)} {f:Nat},gp (l.map (·.1)) f=false->bV l f=none
 |[],f,_=>rfl
 |x::l,f,h=>by
  simp only[j6,gp,List.any_cons,ad1] at h;simp only[bV];have hb:Nat.beq x.1 f=false:=by
   cases e:Nat.beq x.1 f
   .rfl
   .rw[aK e,nO] at h;cases h.1
  rw[hb];exact ah9 (l:=l) h.2
def apb (V:bf)(pa pb:PC)(ds:List D)(d:D):Prop:=(∃N xs,pa.ev V N (ou ds)=some (.ret (.list xs))/\xs≠[]/\d=.list xs)\/∃N,pb.ev V N (ou ds)=some (.ret (.list []))/\d=.list []
open Classical in
def DH (pa pb:PC)(spec:List D->D):bf->List D->Option D:=λV ds=>if apb V pa pb ds (spec ds) then some (spec ds) else none
def azN {C:Ctx}{V:bf}(bG:eB C)(hΦ:dS C V)(gC:gP C V){f:Nat}{fn:Func}{args:List Ty}{e:Ty}{ids awN fr nh frb nhb:List Nat}{pa pb:PC}(hf:C.P.funcs[f]?=some fn)(ha:mV {C with fr:=fr,nh:=nh} fn ⟨args,.slice e,.dat⟩ ids=some pa)
 (hb:mV {C with fr:=frb,nh:=nhb} fn ⟨args,.nils .bool,.dat⟩ awN=some pb) {spec:List D->D} {ds:List D} {d:D} (h:DH pa pb spec V ds=some d):mL C f ⟨args,.nsl e,.dat⟩ ds d:=by
 unfold DH at h;split at h
 case isFalse=>cases h
 rename_i hs;cases h;rcases hs with⟨N,xs,h1,h2,h3⟩|⟨N,h1,h2⟩
 .rw[h3];have:=(Tv (C:={C with fr:=fr,nh:=nh}) (eB.hint bG) (dS.hint hΦ) (gP.hint gC) hf ha (N:=N) rfl h1).unhint;intro H w aa aE hC mg;refine(this H w aa aE hC mg).mono λen w' hh=>?_;obtain⟨v,H',g1,g2,g3,g4,g5,g6,g7⟩:=hh;refine⟨v,H',g1,g2,g3,g4,g5,g6,?_⟩;change Rep C.cap H' (.slice e) v (.list xs) at g7;show Rep C.cap H' (.nsl e) v (.list xs);generalize hd:D.list xs=dd at g7;cases g7 with
  |nil=>injection hd with hd;exact absurd hd h2
  |emp=>injection hd with hd;exact absurd hd h2
  |slice _ k o n c Rh vs a1 a2 a3 a4 a5=>exact .nsl e k o n c Rh (.slice e k o n c Rh vs a1 a2 a3 a4 a5) (by injection hd with hd;rw[<-hd];exact h2)
 .rw[h2];have:=(Tv (C:={C with fr:=frb,nh:=nhb}) (eB.hint bG) (dS.hint hΦ) (gP.hint gC) hf hb (N:=N) rfl h1).unhint;intro H w aa aE hC mg;refine(this H w aa aE hC mg).mono λen w' hh=>?_;obtain⟨v,H',g1,g2,g3,g4,g5,g6,g7⟩:=hh;refine⟨v,H',g1,g2,g3,g4,g5,g6,?_⟩;change Rep C.cap H' (.nils .bool) v (.list []) at g7;show Rep C.cap H' (.nsl e) v (.list []);generalize D.list []=dd at g7;cases g7;exact .nsl0 e
end Cx
