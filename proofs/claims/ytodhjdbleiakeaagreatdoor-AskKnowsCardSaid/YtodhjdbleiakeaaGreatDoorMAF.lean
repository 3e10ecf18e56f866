/-
  Code: sequences, choices, blocks, loops.
-/
import Derived.LoopNIn
import Derived.Test.YtodhjdbleiakeaaGreatDoorMAE
import Derived.LoopN
set_option linter.unusedSimpArgs false
set_option linter.unusedVariables false
namespace Cx
open Go Go.RowKit
def aw (m t:Nat):Bool:= !Nat.beq (Nat.land 1 (Nat.shiftRight m t)) 0
theorem rl (m t:Nat):aw m t=m.testBit t:=by
 unfold aw Nat.testBit;show(!Nat.beq (1&&& (m>>>t)) 0)=((1&&& (m>>>t))!=0)
 generalize 1&&& (m>>>t)=x;cases x<;>rfl
def dD (t:Nat):Nat:=Nat.shiftLeft 1 t
theorem qe (t:Nat):aw (dD t) t=true:=by
 rw[rl];show(1<<<t).testBit t=true;simp[Nat.testBit_shiftLeft]
theorem eQ (m k t:Nat):aw (Nat.lor m k) t=(aw m t||aw k t):=by
 simp only[rl];exact Nat.testBit_or m k t
def PI.mask:PI→Nat
 |.setR t _=>dD t|.call _ t _ _=>dD t|.callc _ t _ _=>dD t|_=>0
def IC:List PI→Nat
 |[]=>0
 |p::l=>Nat.lor p.mask (IC l)
def PI.objs:PI→List Nat
 |.setO j _=>[j]|.mcall j _ _=>[j]|_=>[]
def fb (l:List Nat)(x:Nat):Bool:=l.any (Nat.beq x)
def iZ (a b:List Nat):List Nat:=a.foldl (fun acc x=>bif fb acc x then acc else x::acc) b
def aeJ (l:List PI):List Nat:=l.foldl (fun acc p=>iZ p.objs acc) []
theorem px (l:List Nat)(x:Nat):fb l x=true↔x∈l:=by
 unfold fb;rw[uG];constructor
 ·rintro⟨y,hy,h⟩;rw[aL h];exact hy
 ·intro h;exact⟨x,h,gV x⟩
theorem py {x:Nat}:∀{a b:List Nat},x∈iZ a b↔x∈a∨x∈b
 |[],b=>by simp[iZ]
 |y::a,b=>by
  have ih:=@py x a (bif fb b y then b else y::b);have e:iZ (y::a) b=iZ a (bif fb b y then b else y::b):=rfl;rw[e,ih];cases hb:fb b y
  ·simp[or_assoc,or_left_comm]
  ·have:=(px b y).1 hb;simp only[cond_true,cX];constructor
   ·rintro(h|h)
    ·exact .inl (.inr h)
    ·exact .inr h
   ·rintro((h|h)|h)
    ·subst h;exact .inr this
    ·exact .inl h
    ·exact .inr h
theorem ay9 {x:Nat}(l:List PI)(h:x∈l.flatMap PI.modO):x∈aeJ l:=by
 have key:∀(l:List PI) (acc:List Nat),(x∈l.flatMap PI.modO∨x∈acc)→x∈l.foldl (fun acc p=>iZ p.objs acc) acc:=by
  intro l
  induction l with
  |nil=>intro acc h;simpa using h
  |cons p l ih=>
   intro acc h;refine ih _ ?_;rw[uI,dj] at h;rcases h with(h|h)|h
   ·refine .inr (py.2 (.inl ?_));cases p<;>simp_all [PI.modO,PI.objs]
   ·exact .inl h
   ·exact .inr (py.2 (.inr h))
 exact key l [] (.inl h)
theorem acE {t:Nat}:∀(l:List PI),t∈l.flatMap PI.modR→aw (IC l) t=true
 |[],h=>by simp at h
 |p::l,h=>by
  rw[uI,dj] at h;simp only[IC,eQ,gA];rcases h with h|h
  ·left;cases p<;>simp[PI.modR] at h<;>subst h<;>exact qe _
  ·exact .inr (acE l h)
structure Res2 where
 pc:PC
 out:Option Snap
 ex:List (Nat×Snap)
 mr:Nat
 mo:List Nat
 deriving Inhabited
def lT:Option Snap→Option Snap→Option Snap
 |none,x=>x
 |x,none=>x
 |some a,some b=>some (a.meet b)
def nK (id:Nat):List (Nat×Snap)→Option Snap→Option Snap
 |[],acc=>acc
 |x::l,acc=>nK id l (bif Nat.beq x.1 id then lT acc (some x.2) else acc)
def iter (step:Snap→Option Res2):Nat→Snap→Option (Snap×Res2)
 |0,_=>none
 |k+1,S=>(step S).bind fun r=>
  match r.out with
  |none=>some (S,r)
  |some T=>bif (S.meet T).beq S then some (S,r) else iter step k (S.meet T)
def jU (S:Snap)(m:Nat):List Nat:=(List.range S.rs.length).filter fun t=>aw m t&& !isNone (cr (S.rs.getD t .none))
def iV (ids:List Nat)(S:Snap)(l:List Nat):List Nat:=l.filter fun j=> !nI (dh ids S.os j)
def gm:Res2:=⟨.is [Fb],none,[],0,[]⟩
theorem l6 (Φ:aV)(N:Nat)(ρ:Env)(x:Out):gm.pc.ev Φ N ρ≠some x:=by
 intro h;simp[gm,PC.ev,PI.runs,PI.run,Fb,PE.ev,D.b_bool] at h
theorem l7:(∀t,t∈gm.pc.modR→aw gm.mr t=true)∧∀j,j∈gm.pc.modO→j∈gm.mo:=by
 constructor<;>intro t h<;>simp[gm,PC.modR,PC.modO,PI.modR,PI.modO,Fb] at h
def cm:Code→List Nat
 |.region _ ops _=>ops.toList.filterMap (·.dst)
 |.seq a b=>cm a++cm b
 |.cond _ a b=>cm a++cm b
 |.block _ a=>cm a
 |.loop a=>cm a
 |_=>[]
def vV (l:List Nat):Nat:=l.foldr (fun t m=>Nat.lor (dD t) m) 0
def rT (m:Nat):Nat→List Sh→List Sh
 |_,[]=>[]
 |t,s::l=>(bif aw m t then .none else s)::rT m (t+1) l
def Snap.mask (m:Nat)(S:Snap):Snap:=⟨rT m 0 S.rs,S.os⟩
def rH:Sh→Sh
 |.yv=>.none
 |s=>s
def qW:List Nat→List Ty→List Sh→List Sh
 |p::ps,y::ys,l=>qW ps ys (l.set p (.dat y))
 |_,_,l=>l
def Snap.start (ps:List Nat)(ys:List Ty)(S:Snap):Snap:=⟨qW ps ys (S.rs.map rH),S.os⟩
def acx (ids:List Nat)(l:List Snap)(mo:List Nat):List Nat:=mo.filter fun j=>l.any fun S=> !nI (dh ids S.os j)
def aBR (wm:Nat)(ra rb:Res2):Res2:=
 let m:=Nat.lor wm (Nat.lor ra.mr rb.mr)
 ⟨.seq ra.pc rb.pc,rb.out.map (Snap.mask m),rb.ex.map (fun x=>(x.1,x.2.mask m)),m,iZ ra.mo rb.mo⟩
def fV (ids:List Nat)(id:Nat)(r:Res2):Res2:=
    match nK id r.ex r.out with
    |some M=>⟨.block id (jU M r.mr) (iV ids M r.mo) r.pc,some M,r.ex.filter fun x=> !Nat.beq x.1 id,r.mr,r.mo⟩
    |none=>⟨.block id [] [] r.pc,none,r.ex.filter fun x=> !Nat.beq x.1 id,r.mr,r.mo⟩
def tK:List (Nat×Nat)→Nat→Option Nat
 |[],_=>none
 |x::l,t=>bif Nat.beq x.1 t then some x.2 else tK l t
def kj (pr:Nat):List Oper→List (Nat×Nat)→Option (List (Nat×Nat))
 |[],acc=>some acc
 |o::l,acc=>
  match o.dst,o.guard with
  |some d,none=>
   bif Nat.beq d pr||(tK acc d).isSome then none else
   match o.op with
   |.extract (.tmp t) i=>bif Nat.beq t pr&&Nat.ble i 1 then kj pr l (acc++[(d,i)]) else none
   |.assign (.tmp t)=>(tK acc t).bind fun i=>kj pr l (acc++[(d,i)])
   |.move (.tmp t)=>(tK acc t).bind fun i=>kj pr l (acc++[(d,i)])
   |_=>none
  |_,_=>none
structure MP where
 it:Nat
 nx:Nat
 mo:Nat
 out:Nat
 next:Nat
 pr:Nat
 ops1:Array Oper
 ops2:Array Oper
 aa:List (Nat×Nat)
 deriving Inhabited
def yy (x y:Code)(k:Nat)(z:Code):Option MP:=
 match x,y,z with
 |.region _ ops1 false,.cond (.tmp mo) .skip (.exit out),.region _ ops2 false=>
  match ops1.toList,ops2.toList with
  |[o1,o2],o3::l=>
   match o1.dst,o1.guard,o1.op,o2.dst,o2.guard,o2.op,o3.dst,o3.guard,o3.op with
   |some nx,none,.next (.tmp it) false,some mo',none,.extract (.tmp nx') 0,some pr,none,.entry (.tmp it')=>
    bif Nat.beq mo mo'&&Nat.beq nx nx'&&Nat.beq it it'&& !Nat.beq it nx&& !Nat.beq it mo&& !Nat.beq it pr&& !Nat.beq nx mo&& !Nat.beq out cB&& !Nat.beq k cB then
     (kj pr l []).map fun aa=>⟨it,nx,mo,out,k,pr,ops1,ops2,aa⟩
    else none
   |_,_,_,_,_,_,_,_,_=>none
  |_,_=>none
 |_,_,_=>none
def vN:List Nat→Nat→List Ob→List Ob
 |i::is,J,o::os=>(bif Nat.beq i J then .dead else o)::vN is J os
 |_,_,os=>os
def Snap.kill (ids:List Nat)(J:Nat)(S:Snap):Snap:=⟨S.rs,vN ids J S.os⟩
def ab0 (J:Nat)(kt et:Ty)(ids:List Nat)(p:MP)(m:Nat)(S:Snap):Bool:=
 Sh.beq (S.rs.getD p.it .none) (.obj J 0)&&Ob.beq (dh ids S.os J) (.it kt et)&& !aw m p.it
def yz (ids:List Nat)(n:Nat)(p:MP)(ws:List Nat)(f:Snap→Option Res2)(S:Snap):Option Res2:=
 match cr (S.rs.getD p.it .none) with
 |.obj J 0=>
  match dh ids S.os J with
  |.it kt et=>
   let ps:=p.aa.map (·.1)
   let ys:=p.aa.map fun x=>bif Nat.beq x.2 0 then kt else et
   let m:=vV ws
   match iter (fun S=>(f ((S.mask m).start ps ys)).map (fV ids p.next)) 8 S with
   |some r=>
    bif r.2.ex.isEmpty&& !fb r.2.mo J&&ab0 J kt et ids p m r.1&&jx ps&&ps.all (fun t=>Nat.blt t n)&&Nat.blt p.nx n&&Nat.blt p.mo n&&Nat.blt p.pr n&&Nat.beq (Nat.lor m r.2.mr) m then
       some ⟨.seq (.meach J ps (p.aa.map (·.2)) (iV ids r.1 r.2.mo) r.2.pc) (.exit p.out),none,[(p.out,(r.1.mask m).kill ids J)],0,r.2.mo⟩
    else some gm
   |none=>some gm
  |_=>some gm
 |_=>some gm
def comp (C:Ctx)(fn:Func)(s:Sig)(n:Nat)(ids:List Nat)(R:Array Oper→Bool→Snap→Option (Snap×List PI)):Bool→Code→Snap→Option Res2
 |_,.skip,S=>some ⟨.skip,some S,[],0,[]⟩
 |_,.region _ ops draw,S=>(R ops draw S).map fun r=>⟨.is r.2,some r.1,[],IC r.2,aeJ r.2⟩
 |rm,.seq a b,S=>(comp C fn s n ids R rm a S).bind fun r=>
  match r.out with
  |none=>some r
  |some S1=>(comp C fn s n ids R rm b S1).map fun q=>⟨.seq r.pc q.pc,q.out,r.ex++q.ex,Nat.lor r.mr q.mr,iZ r.mo q.mo⟩
 |rm,.cond c a b,S=>
  match use C (S.st ids) [] c with
  |some (.bool,e)=>
   (comp C fn s n ids R rm a S).bind fun r=>(comp C fn s n ids R rm b S).map fun q=>
     match lT r.out q.out with
     |some M=>⟨.ite e (jU M (Nat.lor r.mr q.mr)) (iV ids M (iZ r.mo q.mo)) r.pc q.pc,some M,r.ex++q.ex,Nat.lor r.mr q.mr,iZ r.mo q.mo⟩
     |none=>⟨.ite e [] [] r.pc q.pc,none,r.ex++q.ex,Nat.lor r.mr q.mr,iZ r.mo q.mo⟩
  |_=>some gm
 |rm,.block id a,S=>bif Nat.beq id cB then some gm else(comp C fn s n ids R rm a S).map (fV ids id)
 |rm,.loop (.seq x (.seq y (.block k (.seq z code)))),S=>
  (match yy x y k z with
  |some p=>yz ids n p (cm x++(cm y++(cm z++cm code))) (fun S=>comp C fn s n ids R rm code S) S
  |none=>
  match iter (fun S=>comp C fn s n ids R rm (.seq x (.seq y (.block k (.seq z code)))) S) 8 S with
  |some r=>some ⟨.loop (jU r.1 r.2.mr) (iV ids r.1 r.2.mo) r.2.pc,none,r.2.ex,r.2.mr,r.2.mo⟩
  |none=>some gm)
 |rm,.loop a,S=>
  match iter (fun S=>comp C fn s n ids R rm a S) 8 S with
  |some r=>some ⟨.loop (jU r.1 r.2.mr) (iV ids r.1 r.2.mo) r.2.pc,none,r.2.ex,r.2.mr,r.2.mo⟩
  |none=>some gm
 |_,.exit id,S=>bif Nat.beq id cB then some gm else some ⟨.exit id,none,[(id,S)],0,[]⟩
 |rm,.ret,S=>
  bif rm then some ⟨.exit cB,none,[(cB,S)],0,[]⟩ else
  match wH C fn s (S.st ids) with
  |some e=>some ⟨.ret e,none,[],0,[]⟩
  |none=>some gm
 |rm,.rangeFunc g ps a b,S=>
  match rm,C.yl,use C (S.st ids) [] g with
  |false,none,some (.fn aa r,e)=>
   match lQ aa r with
   |some ys=>
    match iter (fun S=>(comp C fn s n ids R true a (S.start ps.toList ys)).bind fun ra=>
          match ra.out,ra.ex with
          |some S1,[]=>(comp C fn s n ids R true b S1).map (aBR (vV (ps.toList++cm a++cm b)) ra)
          |_,_=>none) 8 S with
    |some r=>
     bif Nat.beq ys.length ps.size&&jx ps.toList&&ps.toList.all (fun p=>Nat.blt p n)&&Nat.ble r.1.rs.length n then
           some ⟨.seq (.is [.callc [] n e []]) (.each (.r n) ps.toList (acx ids (r.1::r.2.ex.map (·.2)) r.2.mo) ((nK cB r.2.ex none).bind fun M=>wH C fn s (M.st ids)) r.2.pc),
            some r.1,r.2.ex.filter (fun x=> !Nat.beq x.1 cB),dD n,r.2.mo⟩
     else some gm
    |none=>some gm
   |none=>some gm
  |_,_,_=>some gm
 |_,_,_=>some gm
termination_by structural _ c=>c
def vT:Code→Option (MP×Code×List Nat)
 |.seq x (.seq y (.block k (.seq z code)))=>(yy x y k z).map fun p=>(p,code,cm x++(cm y++(cm z++cm code)))
 |_=>none
theorem ZC (C:Ctx)(fn:Func)(s:Sig)(n:Nat)(ids:List Nat)(R:Array Oper→Bool→Snap→Option (Snap×List PI))(rm:Bool)(a:Code)(S:Snap):comp C fn s n ids R rm (.loop a) S=
 match vT a with
 |some q=>yz ids n q.1 q.2.2 (fun S=>comp C fn s n ids R rm q.2.1 S) S
 |none=>
  match iter (fun S=>comp C fn s n ids R rm a S) 8 S with
  |some r=>some ⟨.loop (jU r.1 r.2.mr) (iV ids r.1 r.2.mo) r.2.pc,none,r.2.ex,r.2.mr,r.2.mo⟩
  |none=>some gm:=by
 by_cases h:∃x y k z code,a=.seq x (.seq y (.block k (.seq z code)))
 ·obtain⟨x,y,k,z,code,rfl⟩:=h
  conv=>lhs;unfold comp
  simp only[vT];cases yy x y k z<;>rfl
 ·have e:vT a=none:=by
   unfold vT;split
   ·rename_i x y k z code;exact absurd ⟨x,y,k,z,code,rfl⟩ h
   ·rfl
  rw[e];rw[comp];intro x y k z code e;exact h ⟨x,y,k,z,code,e⟩
def subs:Code→List Code
 |.seq a b=>.seq a b::(subs a++subs b)
 |.cond c a b=>.cond c a b::(subs a++subs b)
 |.block i a=>.block i a::subs a
 |.loop a=>.loop a::subs a
 |.rangeFunc g ps a b=>.rangeFunc g ps a b::(subs a++subs b)
 |c=>[c]
theorem aCm (c:Code):c∈subs c:=by cases c<;>simp[subs]
theorem aKw {a code:Code}{p:MP}{ws:List Nat}(h:vT a=some (p,code,ws)):code∈subs a:=by
 unfold vT at h;split at h
 ·simp only[aG] at h;obtain⟨q,_,e⟩:=h;cases e;simp[subs,aCm]
 ·cases h
def Nd (C:Ctx)(n:Nat)(ids:List Nat)(Φ:aV)(R:Array Oper→Bool→Snap→Option (Snap×List PI)):Prop:=
 ∀(id:Nat) (ops:Array Oper) (draw:Bool) (S:Snap) (r:Snap×List PI),R ops draw S=some r→
  ∀(rd:Option Nat) (w0:World) (σ0:Base) (ρ ρ':Env) (a:Act) (w:World) (Q:Exit→Act→World→Prop),CtxOK C σ0→oG C Φ w0 σ0→a.tmps.size=n→Good C w0 σ0 (S.st ids) ρ (fun _=>False) a w→PI.runs Φ r.2 ρ=some ρ'→
   (∀a' w',SameBut (qg ops) a a'→Good C w0 σ0 (r.1.st ids) ρ' (fun _=>False) a' w'→Q .normal a' w')→(Code.region id ops draw).wpIn (FR rd) 0 C.P Q a w
section
variable {C:Ctx} {ρ ρ':Env} {σ:Im} {own:Nat→Option Nat} {hv:Nat→Value} {w0:World} {σ0:Base} {A:Nat→Prop} {a:Act} {w:World} {Φ:aV} {n:Nat} {ids:List Nat} {fn:Func} {s:Sig}
 {R:Array Oper→Bool→Snap→Option (Snap×List PI)}
def gp (C:Ctx)(w0:World)(σ0:Base)(ids:List Nat)(fn:Func)(s:Sig)(rm:Bool)(wr:Nat→Prop)(a0:Act)(out:Option Snap)(ex:List (Nat×Snap))(x:Out):Exit→Act→World→Prop
 |.normal,a,w=>∃ρ S,x=.next ρ∧out=some S∧SameBut wr a0 a∧Good C w0 σ0 (S.st ids) ρ (fun _=>False) a w
 |.exit id,a,w=>∃ρ S,x=.exit id ρ∧id≠cB∧(id,S)∈ex∧SameBut wr a0 a∧Good C w0 σ0 (S.st ids) ρ (fun _=>False) a w
 |.ret,a,w=>match rm with
  |false=>∃d,x=.ret d∧p9 C w0 σ0 fn s d a.tmps a.defers w∧SameBut wr a0 a
  |true=>∃ρ S,x=.exit cB ρ∧(cB,S)∈ex∧SameBut wr a0 a∧Good C w0 σ0 (S.st ids) ρ (fun _=>False) a w
 |_,_,_=>False
theorem Good.meet1 {x y:Snap}(h:Good C w0 σ0 (x.st ids) ρ A a w):Good C w0 σ0 ((x.meet y).st ids) ρ (fun _=>False) a w:=by
 obtain⟨σ,own,hv,h⟩:=h;exact⟨σ,own,hv,Snap.meet_ok1 h⟩
theorem Good.meet2 {x y:Snap}(h:Good C w0 σ0 (y.st ids) ρ A a w):Good C w0 σ0 ((x.meet y).st ids) ρ (fun _=>False) a w:=by
 obtain⟨σ,own,hv,h⟩:=h;exact⟨σ,own,hv,Snap.meet_ok2 h⟩
theorem acL {x:Snap}{y:Option Snap}{M:Snap}(h:Good C w0 σ0 (x.st ids) ρ (fun _=>False) a w)(hm:lT (some x) y=some M):Good C w0 σ0 (M.st ids) ρ (fun _=>False) a w:=by
 cases y<;>simp[lT] at hm<;>subst hm
 ·exact h
 ·exact h.meet1
theorem acM {x:Option Snap}{y:Snap}{M:Snap}(h:Good C w0 σ0 (y.st ids) ρ (fun _=>False) a w)(hm:lT x (some y)=some M):Good C w0 σ0 (M.st ids) ρ (fun _=>False) a w:=by
 cases x<;>simp[lT] at hm<;>subst hm
 ·exact h
 ·exact h.meet2
theorem acN {x:Snap}{y:Option Snap}:∃M,lT (some x) y=some M:=by cases y<;>simp[lT]
theorem acO {x:Option Snap}{y:Snap}:∃M,lT x (some y)=some M:=by cases x<;>simp[lT]
theorem ID {id:Nat}:∀(l:List (Nat×Snap)) {x:Snap},Good C w0 σ0 (x.st ids) ρ (fun _=>False) a w→∃M,nK id l (some x)=some M∧Good C w0 σ0 (M.st ids) ρ (fun _=>False) a w
 |[],x,h=>⟨x,rfl,h⟩
 |y::l,x,h=>by
  simp only[nK];cases Nat.beq y.1 id
  ·exact ID l h
  ·obtain⟨M,hM⟩:=@acN x (some y.2);simp only[cond_true,hM];exact ID l (acL h hM)
theorem Rv {id:Nat}{S:Snap}(h:Good C w0 σ0 (S.st ids) ρ (fun _=>False) a w):∀(l:List (Nat×Snap)) (x:Option Snap),(id,S)∈l→∃M,nK id l x=some M∧Good C w0 σ0 (M.st ids) ρ (fun _=>False) a w
 |y::l,x,hm=>by
  simp only[nK];rcases cX.1 hm with e|hm
  ·subst e;simp only[gV,cond_true];obtain⟨M,hM⟩:=@acO x S;rw[hM];exact ID l (acM h hM)
  ·exact Rv h l _ hm
theorem Dk {step:Snap→Option Res2}:∀(k:Nat) {S:Snap} {r:Snap×Res2},iter step k S=some r→
 step r.1=some r.2∧(∀T,r.2.out=some T→r.1.meet T=r.1)∧∀{ρ:Env} {a:Act} {w:World},Good C w0 σ0 (S.st ids) ρ (fun _=>False) a w→Good C w0 σ0 (r.1.st ids) ρ (fun _=>False) a w
 |0,S,r,h=>by simp[iter] at h
 |k+1,S,r,h=>by
  simp only[iter,az] at h;obtain⟨q,hq,h⟩:=h;split at h
  ·rename_i ho;cases h;exact⟨hq,fun T hT=>by simp[ho] at hT,fun g=>g⟩
  ·rename_i T ho;cases hb:(S.meet T).beq S<;>simp only[hb,cond_true,cond_false] at h
   ·obtain⟨h1,h2,h3⟩:=Dk k h;exact⟨h1,h2,fun g=>h3 g.meet1⟩
   ·cases h;refine⟨hq,fun T' hT=>?_,fun g=>g⟩;simp only[ho,bf] at hT;subst hT;exact Snap.beq_eq _ _ hb
theorem ab4 {step:Snap→Option Res2}{hv:Nat→Value}:∀(k:Nat) {S:Snap} {r:Snap×Res2},iter step k S=some r→Inv C (S.st ids) ρ σ own hv w0 σ0 (fun _=>False) a w→Inv C (r.1.st ids) ρ σ own hv w0 σ0 (fun _=>False) a w
 |0,S,r,h,_=>by simp[iter] at h
 |k+1,S,r,h,i=>by
  simp only[iter,az] at h;obtain⟨q,hq,h⟩:=h;split at h
  ·cases h;exact i
  ·rename_i T ho;cases hb:(S.meet T).beq S<;>simp only[hb,cond_true,cond_false] at h
   ·exact ab4 k h (Snap.meet_ok1 i)
   ·cases h;exact i
theorem Good.joined {M:Snap}{m:Nat}{mo mr' mo':List Nat}(h:Good C w0 σ0 (M.st ids) ρ' (fun _=>False) a w)(hb:ρ.but ρ' mr' mo')(h1:∀t,t∈mr'→aw m t=true)(h2:∀j,j∈mo'→j∈mo):
 Good C w0 σ0 (M.st ids) (ρ.join (jU M m) (iV ids M mo) ρ') (fun _=>False) a w:=by
 obtain⟨σ,own,hv,h⟩:=h;refine⟨σ,own,hv,h.env (Snap.noOpt _ _) (fun t ht=>?_) (fun j hj=>?_)⟩
 ·simp only[Env.join,Env.put,sc];split
  ·rfl
  ·rename_i hm;refine(hb.r t fun CS=>hm ?_).symm;have ah:t<M.rs.length:=by
        refine XU fun hle=>?_;simp only[Snap.st,aT,rf hle,Option.getD_none,cr,isNone] at ht;cases ht
   exact dm.2 ⟨cj.2 ah,by rw[h1 t CS];simpa [Snap.st] using ht⟩
 ·simp only[Env.join,Env.put,sc];split
  ·rfl
  ·rename_i hm;refine(hb.o j fun CS=>hm ?_).symm;exact dm.2 ⟨h2 j CS,by simpa [Snap.st] using hj⟩
theorem IE {S:Snap}{m t:Nat}(h:t∈jU S m):aw m t=true:=by
 have:=(dm.1 h).2;simp only[ar] at this;exact this.1
theorem yA {S:Snap}{l:List Nat}{j:Nat}(h:j∈iV ids S l):j∈l:=(dm.1 h).1
theorem YC {id:Nat}{q:Res2}(h:(∀t,t∈q.pc.modR→aw q.mr t=true)∧∀j,j∈q.pc.modO→j∈q.mo):(∀t,t∈(fV ids id q).pc.modR→aw (fV ids id q).mr t=true)∧∀j,j∈(fV ids id q).pc.modO→j∈(fV ids id q).mo:=by
 unfold fV;cases hm:nK id q.ex q.out<;>simp only
 ·simpa [PC.modR,PC.modO] using h
 ·refine⟨fun t ht=>?_,fun j hj=>?_⟩
  ·simp only[PC.modR,dj] at ht;exact ht.elim IE (h.1 t)
  ·simp only[PC.modO,dj] at hj;exact hj.elim yA (h.2 j)
theorem ay2 {p:MP}{ws:List Nat}{f:Snap→Option Res2}{S:Snap}{r:Res2}(h:yz ids n p ws f S=some r):(∀t,t∈r.pc.modR→aw r.mr t=true)∧∀j,j∈r.pc.modO→j∈r.mo:=by
 unfold yz at h;split at h
 case h_2=>cases h;exact l7
 split at h
 case h_2=>cases h;exact l7
 simp only at h;split at h
 case h_2=>cases h;exact l7
 rw[ot] at h;split at h
 ·cases h;refine⟨fun t ht=>by simp[PC.modR] at ht,fun j hj=>?_⟩;simp only[PC.modO,mf] at hj;exact yA hj
 ·cases h;exact l7
theorem sP:∀(c:Code) {rm:Bool} {S:Snap} {r:Res2},comp C fn s n ids R rm c S=some r→(∀t,t∈r.pc.modR→aw r.mr t=true)∧∀j,j∈r.pc.modO→j∈r.mo:=by
 intro c
 induction c with
 |skip=>intro rm S r h;simp only[comp,bf] at h;subst h;simp[PC.modR,PC.modO]
 |region id ops draw=>
  intro rm S r h;simp only[comp,aG] at h;obtain⟨q,_,rfl⟩:=h;exact⟨fun t ht=>acE _ ht,fun j hj=>ay9 _ hj⟩
 |seq x y iU vL=>
  intro rm S r h;simp only[comp,az] at h;obtain⟨q,hq,h⟩:=h;split at h
  ·cases h;exact iU hq
  ·simp only[aG] at h;obtain⟨p,hp,rfl⟩:=h;refine⟨fun t ht=>?_,fun j hj=>?_⟩
   ·simp only[PC.modR,dj] at ht;rw[eQ,gA];exact ht.imp ((iU hq).1 t) ((vL hp).1 t)
   ·simp only[PC.modO,dj] at hj;rw[py];exact hj.imp ((iU hq).2 j) ((vL hp).2 j)
 |cond c x y iU vL=>
  intro rm S r h;simp only[comp] at h;split at h
  case h_2=>cases h;exact l7
  rename_i e _;simp only[az,aG] at h;obtain⟨q,hq,p,hp,rfl⟩:=h;cases hm:lT q.out p.out<;>simp only[hm]
  ·refine⟨fun t ht=>?_,fun j hj=>?_⟩
   ·simp only[PC.modR,dj,sG] at ht;rw[eQ,gA];exact ht.imp ((iU hq).1 t) ((vL hp).1 t)
   ·simp only[PC.modO,dj,sG] at hj;rw[py];exact hj.imp ((iU hq).2 j) ((vL hp).2 j)
  ·refine⟨fun t ht=>?_,fun j hj=>?_⟩
   ·simp only[PC.modR,dj] at ht;rw[eQ,gA];rcases ht with(ht|ht)|ht
    ·have:=IE ht;rw[eQ,gA] at this;exact this
    ·exact .inl ((iU hq).1 t ht)
    ·exact .inr ((vL hp).1 t ht)
   ·simp only[PC.modO,dj] at hj;rcases hj with(hj|hj)|hj
    ·exact yA hj
    ·exact py.2 (.inl ((iU hq).2 j hj))
    ·exact py.2 (.inr ((vL hp).2 j hj))
 |block id x iU=>
  intro rm S r h;simp only[comp] at h;cases cv:Nat.beq id cB<;>simp only[cv,cond_true,cond_false] at h
  case true=>cases h;exact l7
  simp only[aG] at h;obtain⟨q,hq,rfl⟩:=h;exact YC (iU hq)
 |loop x iU=>
  intro rm S r h;rw[ZC] at h;split at h
  ·exact ay2 h
  split at h
  case h_2=>cases h;exact l7
  rename_i q hq;cases h;have hs:=(Dk (C:=C) (w0:=default) (σ0:=Base.mk0 ⟨fun _ _=>none,fun _=>none⟩ 0) (ids:=ids) 8 hq).1;refine⟨fun t ht=>?_,fun j hj=>?_⟩
  ·simp only[PC.modR,dj] at ht;exact ht.elim IE ((iU hs).1 t)
  ·simp only[PC.modO,dj] at hj;exact hj.elim yA ((iU hs).2 j)
 |exit id=>
  intro rm S r h;simp only[comp] at h;cases cv:Nat.beq id cB<;>simp only[cv,cond_true,cond_false] at h<;>cases h
  ·simp[PC.modR,PC.modO]
  ·exact l7
 |ret=>
  intro rm S r h;simp only[comp] at h;cases rm<;>simp only[cond_true,cond_false] at h
  case true=>cases h;simp[PC.modR,PC.modO]
  split at h
  ·cases h;simp[PC.modR,PC.modO]
  ·cases h;exact l7
 |rangeFunc g ps x y _ _=>
  intro rm S r h;simp only[comp] at h;split at h
  case h_2=>cases h;exact l7
  split at h
  case h_2=>cases h;exact l7
  split at h
  case h_2=>cases h;exact l7
  rename_i q hq;rw[ot] at h;split at h
  ·cases h;refine⟨fun t ht=>?_,fun j hj=>?_⟩
   ·simp[PC.modR,PI.modR] at ht;subst ht;exact qe _
   ·simp only[PC.modO,PI.modO,uI,XL,mf,sG] at hj;exact(dm.1 hj).1
  ·cases h;exact l7
 |_=>intro rm S r h;simp only[comp,bf] at h;subst h;exact l7
theorem gp.mono {rm:Bool}{wr:Nat→Prop}{a0 a1:Act}{out aga:Option Snap}{ex ZZ:List (Nat×Snap)}{x:Out}{e:Exit}(h:gp C w0 σ0 ids fn s rm wr a0 out ex x e a w)(he:∀y,y∈ex→y∈ZZ)(hs:SameBut wr a1 a0)
 (ho:e=.normal→aga=out):gp C w0 σ0 ids fn s rm wr a1 aga ZZ x e a w:=by
 cases e with
 |normal=>obtain⟨ρ,S,h1,h2,h3,h4⟩:=h;exact⟨ρ,S,h1,by rw[ho rfl];exact h2,hs.trans h3,h4⟩
 |exit id=>obtain⟨ρ,S,h1,h2,h3,h4,h5⟩:=h;exact⟨ρ,S,h1,h2,he _ h3,hs.trans h4,h5⟩
 |ret=>
  cases rm with
  |false=>obtain⟨d,h1,h2,h3⟩:=h;exact⟨d,h1,h2,hs.trans h3⟩
  |true=>obtain⟨ρ,S,h1,h3,h4,h5⟩:=h;exact⟨ρ,S,h1,he _ h3,hs.trans h4,h5⟩
 |_=>exact h.elim
theorem ZQ {body:Env→Option Out}{ρ:Env}{ps lo:List Nat}{rt:Option PE}{x:Out}:∀{xs vo:List D},fX body ρ ps lo rt xs vo=some x→
 ∃(m:Nat) (ma:Nat→List D),m≤xs.length∧ma 0=vo∧
  (∀i,i<m→∃y ρ',xs[i]?=some y∧body (ρ.put ps (partsOf ps y) lo (ma i))=some (.next ρ')∧lo.map ρ'.o=ma (i+1))∧
  ((m=xs.length∧x=.next (ρ.put [] [] lo (ma m)))∨
   (m<xs.length∧∃y id ρ',xs[m]?=some y∧body (ρ.put ps (partsOf ps y) lo (ma m))=some (.exit id ρ')∧
    ((id≠cB∧x=.exit id (ρ.put [] [] lo (lo.map ρ'.o)))∨(id=cB∧∃e,rt=some e∧x=.ret (e.ev (ρ.put [] [] lo (lo.map ρ'.o)))))))
 |[],vo,h=>by
  simp only[fX,bf] at h;exact⟨0,fun _=>vo,bk _,rfl,fun i hi=>by omega,.inl ⟨rfl,h.symm⟩⟩
 |y::xs,vo,h=>by
  simp only[fX] at h;split at h
  ·rename_i ρ' hb;obtain⟨m,ma,h1,h2,h3,h4⟩:=ZQ h;refine⟨m+1,fun i=>match i with|0=>vo|i+1=>ma i,by simp;omega,rfl,fun i hi=>?_,?_⟩
   ·cases i with
    |zero=>exact⟨y,ρ',rfl,hb,h2.symm⟩
    |succ i=>simpa using h3 i (by omega)
   ·rcases h4 with⟨e1,e2⟩|⟨e1,z,id,ρ2,e2,e3,e4⟩
    ·exact .inl ⟨by simp[e1],e2⟩
    ·exact .inr ⟨by simp;omega,z,id,ρ2,by simpa using e2,e3,e4⟩
  ·rename_i id ρ' hb;refine⟨0,fun _=>vo,oE _,rfl,fun i hi=>by omega,.inr ⟨by simp,y,id,ρ',rfl,hb,?_⟩⟩;cases cv:Nat.beq id cB<;>simp only[cv,cond_true,cond_false] at h
   ·refine .inl ⟨fun e=>?_,(Ah h).symm⟩;subst e;simp at cv
   ·simp only[aG] at h;obtain⟨e,he,e2⟩:=h;exact .inr ⟨aL cv,e,he,e2.symm⟩
  ·cases h
theorem YA {l:List Nat}{t:Nat}(h:t∈l):aw (vV l) t=true:=by
 induction l with
 |nil=>cases h
 |cons x l ih=>
  have e:vV (x::l)=Nat.lor (dD x) (vV l):=rfl;rw[e,eQ];rcases cX.1 h with e|e
  ·subst e;rw[qe];rfl
  ·rw[ih e];simp
theorem Rt (m:Nat):∀(l:List Sh) (k t:Nat),(rT m k l).getD t .none=if aw m (k+t)=true then .none else l.getD t .none
 |[],k,t=>by simp[rT]
 |s::l,k,0=>by
  simp only[rT,sE,oB];cases aw m k<;>rfl
 |s::l,k,t+1=>by
  simp only[rT,Ab];rw[Rt m l (k+1) t,show k+1+t=k+(t+1) by omega]
theorem Dt (m:Nat)(S:Snap)(t:Nat):((S.mask m).st ids).r t=if aw m t=true then .none else(S.st ids).r t:=by
 show cr ((rT m 0 S.rs).getD t .none)=if aw m t=true then .none else cr (S.rs.getD t .none);rw[Rt,lq];split<;>rfl
theorem ay8 {m:Nat}{x S:Snap}{t:Nat}(h:aw m t=true):((x.meet (S.mask m)).st ids).r t=.none:=by
 show cr ((List.zipWith iW x.rs (rT m 0 S.rs)).getD t .none)=.none;rcases MZ (f:=iW) x.rs (rT m 0 S.rs) t with h0|⟨s,u,h1,h2,h3⟩
 ·rw[h0];rfl
 ·rw[Rt,lq,if_pos h] at h2;subst h2;rw[h3];cases s<;>rfl
theorem Inv.maskR {S:Snap}{hv:Nat→Value}(h:Inv C (S.st ids) ρ σ own hv w0 σ0 A a w)(m:Nat):Inv C ((S.mask m).st ids) ρ σ own hv w0 σ0 (fun _=>False) a w:=by
 have hc:Compat (S.st ids) hv ((S.mask m).st ids) hv:=⟨fun _=>bk _,fun _ _=>rfl⟩
 refine h.weaken (fun t=>?_) (fun j=>?_) (Snap.noOpt _ _) (fun j hj=>⟨hj,rfl⟩)
 ·refine aQ.mono' (ρ:=ρ) (.refl σ) hc (Snap.noOpt _ _ t) ?_;rw[Dt];split
  ·trivial
  ·exact h.regs t
 ·exact(h.objs j).mono (.refl σ) hc rfl rfl (fun k hk=>⟨hk,rfl⟩)
theorem UL:∀(ps:List Nat) (ys:List Ty) (l:List Sh),ps.length=ys.length→jx ps=true→∀t,(qW ps ys l).getD t .none=.none∨(t∉ps∧(qW ps ys l).getD t .none=l.getD t .none)∨∃(i:Nat) (y:Ty),ps[i]?=some t∧ys[i]?=some y∧(qW ps ys l).getD t .none=.dat y
 |[],ys,l,_,_,t=>.inr (.inl ⟨by simp,by cases ys<;>rfl⟩)
 |p::ps,[],l,h,_,t=>by simp at h
 |p::ps,y::ys,l,h,hn,t=>by
  have iP:=mQ hn;rw[ng] at iP;have da:jx ps=true:=by
   simp only[jx,ar] at hn;exact hn.2
  show(qW ps ys (l.set p (.dat y))).getD t .none=_∨_∨_;rcases UL ps ys (l.set p (.dat y)) (by simpa using h) da t with e|⟨e1,e2⟩|⟨i,z,e1,e2,e3⟩
  ·exact .inl e
  ·by_cases hp:t=p
   ·subst hp;by_cases ah:t<l.length
    ·exact .inr (.inr ⟨0,y,rfl,rfl,by show(qW ps ys (l.set t (.dat y))).getD t .none=_;rw[e2];simp[aT,ah]⟩)
    ·left;rw[e2];simp[aT,ah]
   ·refine .inr (.inl ⟨by simp[hp,e1],?_⟩);show(qW ps ys (l.set p (.dat y))).getD t .none=_;rw[e2];simp only[aT,Ac];rw[if_neg (fun e=>hp e.symm)]
  ·exact .inr (.inr ⟨i+1,z,by simpa using e1,by simpa using e2,e3⟩)
def l0:List Nat→List Value→Array Value→Array Value
 |p::ps,v::vs,T=>l0 ps vs (T.setIfInBounds p v)
 |_,_,T=>T
theorem aCa (ps:Array Nat)(vs:Array Value)(T:Array Value):(ps.zip vs).foldl (fun T x=>T.setIfInBounds x.1 x.2) T=l0 ps.toList vs.toList T:=by
 rw[←Array.foldl_toList,Array.toList_zip];generalize ps.toList=l;generalize vs.toList=k
 induction l generalizing k T with
 |nil=>rfl
 |cons p l ih=>
  cases k with
  |nil=>rfl
  |cons v k=>simpa [l0] using ih (T.setIfInBounds p v) k
theorem ahP:∀(ps:List Nat) (vs:List Value) (T:Array Value),(l0 ps vs T).size=T.size
 |[],vs,T=>by cases vs<;>rfl
 |p::ps,[],T=>rfl
 |p::ps,v::vs,T=>by simp[l0,ahP ps vs]
theorem Ms:∀(ps:List Nat) (vs:List Value) (T:Array Value) (t:Nat),t∉ps→(l0 ps vs T).getD t undef=T.getD t undef
 |[],vs,T,t,_=>by cases vs<;>rfl
 |p::ps,[],T,t,_=>rfl
 |p::ps,v::vs,T,t,h=>by
  simp only[cX,not_or] at h;simp only[l0];rw[Ms ps vs _ t h.2];simp only[dL,uA];rw[if_neg (fun e=>h.1 e.symm)]
theorem ahO:∀(ps:List Nat) (vs:List Value) (T:Array Value) (i t:Nat),ps.Nodup→ps.length=vs.length→(∀p,p∈ps→p<T.size)→ps[i]?=some t→(l0 ps vs T).getD t undef=vs.getD i undef
 |p::ps,v::vs,T,0,t,hn,hl,ah,h=>by
  simp at h;subst h;rw[ng] at hn;simp only[l0];rw[Ms ps vs _ p hn.1];simp[uA,ah p (dv ..)]
 |p::ps,v::vs,T,i+1,t,hn,hl,ah,h=>by
  rw[ng] at hn;simp only[l0];have:=ahO ps vs (T.setIfInBounds p v) i t hn.2 (by simpa using hl) (fun q hq=>by simpa using ah q (dk _ hq)) (by simpa using h);simpa using this
 |p::ps,[],T,i,t,hn,hl,ah,h=>by simp at hl
 |[],vs,T,i,t,hn,hl,ah,h=>by simp at h
theorem yY (f:Nat→D):∀(ps:List Nat) (vs:List D) (t:Nat),t∉ps→putL f ps vs t=f t
 |[],vs,t,_=>by cases vs<;>rfl
 |p::ps,[],t,_=>rfl
 |p::ps,v::vs,t,h=>by
  simp only[cX,not_or] at h;simp only[putL,bA _ _ h.1];exact yY f ps vs t h.2
theorem Tc (f:Nat→D):∀(ps:List Nat) (vs:List D) (i t:Nat),ps.Nodup→ps.length=vs.length→ps[i]?=some t→putL f ps vs t=vs.getD i .none
 |p::ps,v::vs,0,t,hn,hl,h=>by
  simp at h;subst h;simp[putL,aW]
 |p::ps,v::vs,i+1,t,hn,hl,h=>by
  rw[ng] at hn;have ht:t∈ps:=mh (by simpa using h);have aJ:t≠p:=fun e=>hn.1 (e▸ht);simp only[putL,bA _ _ aJ];have:=Tc f ps vs i t hn.2 (by simpa using hl) (by simpa using h);simpa using this
 |p::ps,[],i,t,hn,hl,h=>by simp at hl
 |[],vs,i,t,hn,hl,h=>by simp at h
theorem aAJ (ps:List Nat)(ds:List D)(i:Nat)(h:i<ps.length):(partsOf ps (.tup ds)).getD i .none=ds.getD i .none:=by
 simp[partsOf,aT,h,D.tget]
theorem aAI (ps:List Nat)(x:D):(partsOf ps x).length=ps.length:=by simp[partsOf]
theorem Inv.startR {S:Snap}{hv:Nat→Value}(h:Inv C (S.st ids) ρ σ own hv w0 σ0 A a w){ps:List Nat}{ys:List Ty}{args:List Value}{ds:List D}{lo:List Nat}{vo:List D}(hl:ps.length=ys.length)(bo:jx ps=true)(ah:∀p,p∈ps→p<a.tmps.size)(ha:pX C σ ys args ds)
 (hρ:ρ=ρ'.put [] [] lo vo):Inv C ((S.start ps ys).st ids) (ρ'.put ps (partsOf ps (.tup ds)) lo vo) σ own hv w0 σ0 (fun _=>False) {tmps:=l0 ps args a.tmps,defers:=[]} w:=by
 obtain⟨a1,a2,a3⟩:=ha;have hn:=mQ bo;have hc:Compat (S.st ids) hv ((S.start ps ys).st ids) hv:=⟨fun _=>bk _,fun _ _=>rfl⟩
 have ho:∀j,(ρ'.put ps (partsOf ps (.tup ds)) lo vo).o j=ρ.o j:=fun j=>by rw[hρ];rfl
 refine⟨trivial,h.ok,h.le,h.old,h.newc,h.newm,h.below,h.bw,h.owns,fun t=>?_,fun j=>(h.objs j).mono (.refl σ) hc rfl (ho j) (fun k hk=>⟨hk,rfl⟩),fun t gs s e=>absurd e (Snap.noOpt _ _ t gs s),?_⟩
 ·show aQ C _ _ σ hv (cr ((qW ps ys (S.rs.map rH)).getD t .none)) ((l0 ps args a.tmps).getD t undef) (putL ρ'.r ps (partsOf ps (.tup ds)) t);rcases UL ps ys (S.rs.map rH) hl bo t with e|⟨e1,e2⟩|⟨i,y,e1,e2,e3⟩
  ·rw[e];trivial
  ·rw[e2,Ms _ _ _ _ e1,yY _ _ _ _ e1];have hr:=h.regs t;change aQ C _ ρ σ hv (cr (S.rs.getD t .none)) _ _ at hr;have hρr:ρ.r t=ρ'.r t:=by rw[hρ];show putL ρ'.r [] [] t=_;rfl
   rw[hρr] at hr;have e3:(S.rs.map rH).getD t .none=rH (S.rs.getD t .none):=by
        simp only[aT,cS];cases S.rs[t]?<;>rfl
   rw[e3];generalize S.rs.getD t .none=s at hr;cases s with
   |yv=>trivial
   |opt gs s=>trivial
   |none=>trivial
   |fclo f c=>exact aQ.mono' (.refl σ) hc (fun _ _ e=>by cases e) hr
   |dat t=>exact hr
   |obj j v=>exact aQ.mono' (.refl σ) hc (fun _ _ e=>by cases e) hr
   |ptr j v o=>exact aQ.mono' (.refl σ) hc (fun _ _ e=>by cases e) hr
   |eptr j v o q=>exact aQ.mono' (.refl σ) hc (fun _ _ e=>by cases e) hr
  ·rw[e3];have hi:i<ps.length:=(fo.1 e1).1;rw[ahO ps args a.tmps i t hn (by omega) ah e1,Tc _ ps _ i t hn (by rw[aAI]) e1,aAJ _ _ _ hi];exact a3 i y e2
 ·obtain⟨t,fx,cx,h1,h2⟩:=h.frame;exact⟨t,fx,cx,h1,fun j hj=>⟨(h2 j hj).1,by rw[ho j];exact(h2 j hj).2⟩⟩
def uL (C:Ctx)(Φ:aV)(fn:Func)(s:Sig)(n:Nat)(ids:List Nat)(R:Array Oper→Bool→Snap→Option (Snap×List PI))(N:Nat)(c:Code):Prop:=
 ∀(rm:Bool) (S:Snap) (r:Res2),comp C fn s n ids R rm c S=some r→∀(rd:Option Nat) (w0:World) (σ0:Base) (wr:Nat→Prop) (ρ:Env) (x:Out) (a:Act) (w:World),(rm=false→rd=none∧σ0.fin)→CtxOK C σ0→oG C Φ w0 σ0→(∀t,t∈cm c→wr t)→a.tmps.size=n→
  Good C w0 σ0 (S.st ids) ρ (fun _=>False) a w→r.pc.ev Φ N ρ=some x→c.wpIn (FR rd) 0 C.P (gp C w0 σ0 ids fn s rm wr a r.out r.ex x) a w
structure Seg (σ:Im) (own:Nat→Option Nat) (w:World) (σ':Im) (own':Nat→Option Nat) (w':World):Prop where
 le:σ.le σ'
 below:Below 0 w w'
 same:∀k,k<w.heap.size→own k=none→w'.heap[k]?=w.heap[k]?
 ow:∀k j,own' k=some j→(∃i,own k=some i)∨w.heap.size≤k
 imm:∀k,((∃o x,σ'.c k o=some x)∨∃x,σ'.m k=some x)→(∃o x,σ.c k o=some x)∨(∃x,σ.m k=some x)∨(∃i,own k=some i)∨w.heap.size≤k
structure Free (L:Nat) (σ:Im) (own:Nat→Option Nat):Prop where
 own:own L=none
 c:∀o,σ.c L o=none
 m:σ.m L=none
theorem Free.seg {L:Nat}{σ':Im}{own':Nat→Option Nat}{w':World}(h:Free L σ own)(hL:L<w.heap.size)(k:Seg σ own w σ' own' w'):Free L σ' own':=by
 have CI:¬((∃o x,σ'.c L o=some x)∨∃x,σ'.m L=some x):=fun e=>by
  rcases k.imm L e with⟨o,x,e⟩|⟨x,e⟩|⟨i,e⟩|e
  ·rw[h.c o] at e;cases e
  ·rw[h.m] at e;cases e
  ·rw[h.own] at e;cases e
  ·omega
 refine⟨?_,fun o=>?_,?_⟩
 ·cases e:own' L with
  |none=>rfl
  |some j=>
   rcases k.ow L j e with⟨i,e⟩|e
   ·rw[h.own] at e;cases e
   ·omega
 ·cases e:σ'.c L o with
  |none=>rfl
  |some x=>exact absurd (.inl ⟨o,x,e⟩) CI
 ·cases e:σ'.m L with
  |none=>rfl
  |some x=>exact absurd (.inr ⟨x,e⟩) CI
def ajB (C:Ctx)(w0:World)(σ0:Base)(ids:List Nat)(wr:Nat→Prop)(a0:Act)(σ:Im)(own:Nat→Option Nat)(w:World)(out:Option Snap)(ex:List (Nat×Snap))(x:Out)(e:Exit)(a':Act)(w':World):Prop:=
 ∃ρ' S' σ' own' hv',Inv C (S'.st ids) ρ' σ' own' hv' w0 σ0 (fun _=>False) a' w'∧Seg σ own w σ' own' w'∧SameBut wr a0 a'∧
  match e with
  |.normal=>x=.next ρ'∧out=some S'
  |.exit id=>x=.exit id ρ'∧id≠cB∧(id,S')∈ex
  |.ret=>x=.exit cB ρ'∧(cB,S')∈ex
  |_=>False
theorem ahJ {N:Nat}{c:Code}(hc:uL C Φ fn s n ids R N c){S:Snap}{r:Res2}(hr:comp C fn s n ids R true c S=some r)(jR:C.yl=none)(hC:CtxOK C σ0){wr:Nat→Prop}{ρ:Env}{x:Out}{hv:Nat→Value}(h:Inv C (S.st ids) ρ σ own hv w0 σ0 (fun _=>False) a w)
 (gM:∀t,t∈cm c→wr t) (hn:a.tmps.size=n) (he:r.pc.ev Φ N ρ=some x) (L:Nat):c.wpIn (FR (some L)) 0 C.P (ajB C w0 σ0 ids wr a σ own w r.out r.ex x) a w:=by
 obtain⟨t,fx,cx,cY,ht⟩:=h.frame;have h1:=h.toRnd (X:=fun _=>False) ht;refine wpIn_mono (hc true S r hr (some L) w0 (σ0.rnd σ own w t fun _=>False) wr ρ x a w (fun e=>by cases e) (hC.mono h.le) (fun J ys e=>by rw[jR] at e;cases e) gM hn ⟨_,_,_,h1⟩ he) fun e a' w' ho=>?_
 have main:∀{S':Snap} {ρ':Env},SameBut wr a a'→Good C w0 (σ0.rnd σ own w t fun _=>False) (S'.st ids) ρ' (fun _=>False) a' w'→∃σ' own' hv',Inv C (S'.st ids) ρ' σ' own' hv' w0 σ0 (fun _=>False) a' w'∧Seg σ own w σ' own' w'∧SameBut wr a a':=by
  intro S' ρ' hs hg;obtain⟨σ',own',hv',h2⟩:=hg;exact⟨σ',own',hv',h.ofRnd cY (fun _ _=>id) h2,⟨h2.le,h.rndBelow h2,fun k hk ho=>Inv.rndSame h.ok h2 hk ho id,fun k j e=>Inv.rndOwn h2 e id,fun k e=>Inv.rndC h2 e id⟩,hs⟩
 cases e with
 |normal=>
  obtain⟨ρ',S',e1,e2,e3,e4⟩:=ho;obtain⟨σ',own',hv',g1,g2,g3⟩:=main e3 e4;exact⟨ρ',S',σ',own',hv',g1,g2,g3,e1,e2⟩
 |exit id=>
  obtain⟨ρ',S',e1,e0,e2,e3,e4⟩:=ho;obtain⟨σ',own',hv',g1,g2,g3⟩:=main e3 e4;exact⟨ρ',S',σ',own',hv',g1,g2,g3,e1,e0,e2⟩
 |ret=>
  obtain⟨ρ',S',e1,e2,e3,e4⟩:=ho;obtain⟨σ',own',hv',g1,g2,g3⟩:=main e3 e4;exact⟨ρ',S',σ',own',hv',g1,g2,g3,e1,e2⟩
 |_=>exact ho.elim
theorem Inv.putL {L:Nat}{hv:Nat→Value}{S:St}{ρ:Env}(h:Inv C S ρ σ own hv w0 σ0 A a w)(hL:w0.heap.size≤L)(hf:Free L σ own)(hx:∀t fx cx,FrOK σ own w0.heap.size σ0 w t fx cx→¬fx L)(o:Obj):Inv C S ρ σ own hv w0 σ0 A a (w.putObj L o):=
 h.keep (X:=fun k=>k≠L) ⟨rfl,rfl,rfl,by simp,fun k hk=>by omega⟩ (fun k hk=>World.putObj_heap_other hk) (fun k hk=>by omega) (fun k j e1 e2=>by subst e2;rw[hf.own] at e1;cases e1) (fun k o v e1 e2=>by subst e2;rw[hf.c] at e1;cases e1)
  (fun k v e1 e2=>by subst e2;rw[hf.m] at e1;cases e1) (fun t fx cx cY k hk e=>by subst e;exact hx t fx cx cY hk)
theorem aFA {o:Oper}{L:Nat}{x:Operand}{aa:Array Operand}{ts:Array TypeId}{r:Loop}(bO:o.op=.call {callee:=.value x,args:=aa,argTypes:=ts})(hx:a.eval x=.func (.yield L) #[] #[])(hL:w.heap[L]?=some (.loop r))(hs:aa.size=r.params.size):
 (execOp a.eval o).run C.P w=.ok (.round L r.fn ((r.params.zip (aa.map a.eval)).foldl (fun tmps (t,v)=>tmps.setIfInBounds t v) r.tmps) r.assign r.body) w:=by
 have hy:=run_yield (P:=C.P) (args:=aa.map a.eval) hL (by simpa using hs);simp[execOp,bO,resolve,hx,Deferred.ofValue,invoke,hy]
theorem aBh {g:Operand}{f:Nat}{vs:List Value}{L:Nat}(hf:∃fn,C.P.funcs[f]?=some fn∧fn.body.isSome=true∧(fn.name== "runtime.NumGoroutine")=false)(hg:a.eval g=.func (.func f) #[] vs.toArray):
 (resolve a.eval (rangeCall g L) 0).run C.P w=.ok {target:=.fn (.func f) vs.toArray,args:=#[.func (.yield L) #[] #[]]} w∧
 (invoke (.fn (.func f) vs.toArray) #[.func (.yield L) #[] #[]]).run C.P w=.ok (.enter f (#[.func (.yield L) #[] #[]]++vs.toArray)) w:=by
 obtain⟨fn,h1,h2,h3⟩:=hf;obtain⟨bd,kI⟩:=XV.1 h2;have h4:¬fn.name= "runtime.NumGoroutine" :=by simpa using h3
 constructor
 ·simp only[resolve,hg];simp[go_sem]
 ·simp[invoke,callFunc,h1,kI,h4]
theorem FrOK.enter {hv:Nat→Value}{S:St}{ρ:Env}(h:Inv C S ρ σ own hv w0 σ0 A a w){t:D}{fx cx:Nat→Prop}(hf:FrOK σ own w0.heap.size σ0 w t fx cx)(r:Loop):FrOK (σ.mark w.heap.size) own w0.heap.size σ0 ((w.alloc (.deferred (some []))).alloc (.loop r)) t fx cx:=by
 have hb:=ZS w (.deferred (some [])) (.loop r);have ah:=σ0.lt _ _ _ _ hf.F;have cl:=σ0.sub _ _ _ _ hf.F;have vw:∀k x,(σ.mark w.heap.size).m k=some x→σ.m k=some x∨k=w.heap.size:=by
  intro k x e;simp only[Im.mark] at e;split at e
  ·rename_i e2;exact .inr e2
  ·exact .inl e
 refine⟨σ0.keep _ _ _ _ _ hf.F (hb.mono (oE _)) fun k hk=>hb.block k (ah k hk),hf.own,hf.c,fun k x e hc=>?_,fun k e hB hk=>?_⟩
 ·rcases vw k x e with e|e
  ·exact hf.m k x e hc
  ·have:=ah k (cl k hc);omega
 ·rcases vw k _ e with e|e
  ·exact hf.d k e hB hk
  ·have:=ah k hk;omega
structure RSt (C:Ctx) (w0:World) (σR:Base) (ids:List Nat) (ρ1:Env) (lo:List Nat) (aM:Act) (L:Nat) (W1:World) (σ1:Im) (rec:LoopState→Option Code→Loop) (xs:List D) (P:Nat→List D→Snap→LoopState→Option Code→Prop) (t:D) (fx cx:Nat→Prop) (w:World):Prop where
 lt:∀k,fx k→k<w.heap.size
 sub:∀k,cx k→fx k
 old:∀k,k<W1.heap.size→fx k
 ex:∃(i:Nat) (vo:List D) (Sx:Snap) (st:LoopState) (pe:Option Code) (σ:Im) (own:Nat→Option Nat) (hv:Nat→Value),t=.list (xs.take i)∧P i vo Sx st pe∧Inv C (Sx.st ids) (ρ1.put [] [] lo vo) σ own hv w0 σR (fun _=>False) aM w∧
  σ1.le σ∧Free L σ own∧w.heap[L]?=some (.loop (rec st pe))∧(∀k j,own k=some j→fx k)∧(∀k o x,σ.c k o=some x→fx k)∧(∀k x,σ.m k=some x→fx k)∧∀k,cx k↔((∃j,own k=some j)∨k=L)
theorem RSt.keep {σR:Base}{ρ1:Env}{lo:List Nat}{aM:Act}{L:Nat}{W1:World}{σ1:Im}{rec:LoopState→Option Code→Loop}{xs:List D}{P:Nat→List D→Snap→LoopState→Option Code→Prop}{t:D}{fx cx:Nat→Prop}{w w':World}
 (h0:w0.heap.size≤W1.heap.size) (hL:L<W1.heap.size) (hR:∀t f c w,σR.F t f c w→∀k,f k→k<W1.heap.size) (h:RSt C w0 σR ids ρ1 lo aM L W1 σ1 rec xs P t fx cx w) (hb:Below 0 w w') (hs:∀k,fx k→w'.heap[k]?=w.heap[k]?):
 RSt C w0 σR ids ρ1 lo aM L W1 σ1 rec xs P t fx cx w':=by
 obtain⟨i,vo,Sx,st,pe,σ,own,hv,e1,e2,e3,e4,e5,e6,e7,e8,e9,e10⟩:=h.ex;refine⟨fun k hk=>uK (h.lt k hk) hb.size,h.sub,h.old,i,vo,Sx,st,pe,σ,own,hv,e1,e2,?_,e4,e5,(hs L (h.old L hL)).trans e6,e7,e8,e9,e10⟩;exact e3.keep (X:=fx) hb hs (fun k hk=>h.old k (by omega)) e7 e8 e9 (fun t f c hf k hk=>h.old k (hR _ _ _ _ hf.F k hk))
theorem Im.noM_m {σ:Im}{k:Nat}{v:List (Value×Value)}(h:σ.noM.m k=some v):σ.m k=some v∧v≠cM:=by
 simp only[Im.noM] at h;split at h
 ·cases h
 ·rename_i aJ;exact⟨h,fun e=>aJ (by rw[h,e])⟩
structure SegL (L:Nat) (σ:Im) (own:Nat→Option Nat) (w:World) (σ':Im) (own':Nat→Option Nat) (w':World):Prop where
 le:σ.le σ'
 below:Below 0 w w'
 same:∀k,k<w.heap.size→own k=none→k≠L→w'.heap[k]?=w.heap[k]?
 ow:∀k j,own' k=some j→(∃i,own k=some i)∨w.heap.size≤k
 imm:∀k,((∃o x,σ'.c k o=some x)∨∃x,σ'.m k=some x)→(∃o x,σ.c k o=some x)∨(∃x,σ.m k=some x)∨(∃i,own k=some i)∨w.heap.size≤k
theorem agq (w:World)(L:Nat)(o:Obj):Below 0 w (w.putObj L o):=⟨rfl,rfl,rfl,by simp,fun k hk=>by omega⟩
theorem Seg.round {L:Nat}{σ' σ'':Im}{own' agb:Nat→Option Nat}{w' jX:World}{o o':Obj}(h:Seg σ own w σ' own' w')(k:Seg σ' own' (w'.putObj L o) σ'' agb jX):SegL L σ own w σ'' agb (jX.putObj L o'):=by
 have aS:=h.below.size;have Ij:=k.below.size;simp only[World.putObj_size] at Ij;refine⟨h.le.trans k.le,h.below.trans ((agq _ _ _).trans (k.below.trans (agq _ _ _))),fun q hq ho hL=>?_,fun q j e=>?_,fun q e=>?_⟩
 ·have h1:own' q=none:=by
   cases e:own' q with
   |none=>rfl
   |some j=>
    rcases h.ow q j e with⟨i,e⟩|e
    ·rw[ho] at e;cases e
    ·omega
  rw[World.putObj_heap_other hL,k.same q (by simp;omega) h1,World.putObj_heap_other hL,h.same q hq ho]
 ·rcases k.ow q j e with⟨i,e⟩|e
  ·exact h.ow q i e
  ·simp only[World.putObj_size] at e;exact .inr (by omega)
 ·rcases k.imm q e with e|e|⟨i,e⟩|e
  ·exact h.imm q (.inl e)
  ·exact h.imm q (.inr e)
  ·rcases h.ow q i e with e|e
   ·exact .inr (.inr (.inl e))
   ·exact .inr (.inr (.inr e))
  ·simp only[World.putObj_size] at e;exact .inr (.inr (.inr (by omega)))
theorem Env.put_self (ρ:Env)(lo:List Nat):ρ.put [] [] lo (lo.map ρ.o)=ρ:=by
 have h2:∀u,putL ρ.o lo (lo.map ρ.o) u=ρ.o u:=fun u=>by rw[sc];split<;>rfl
 show Env.mk ρ.r (putL ρ.o lo (lo.map ρ.o))=ρ;rw[funext h2]
theorem aBi {N:Nat}(fp:fU C Φ){g:Operand}{ps:Array Tmp}{ca cb:Code}(bm:uL C Φ fn s n ids R N ca)(dt:uL C Φ fn s n ids R N cb):uL C Φ fn s n ids R N (.rangeFunc g ps ca cb):=by
 intro rm S r hr rd w0 σ0 wr ρ x a w gf hC hY gM hn hg he;simp only[comp] at hr;split at hr
 case h_2=>cases hr;exact absurd he (l6 _ _ _ _)
 rename_i aa rr e jR hu;split at hr
 case h_2=>cases hr;exact absurd he (l6 _ _ _ _)
 rename_i ys vJ;split at hr
 case h_2=>cases hr;exact absurd he (l6 _ _ _ _)
 rename_i q hq;rw[ot] at hr;split at hr
 case isFalse=>cases hr;exact absurd he (l6 _ _ _ _)
 rename_i vg;cases hr;simp only[ar] at vg;obtain⟨⟨⟨hl,bo⟩,ah⟩,vz⟩:=vg;have hl:=aL hl;have vz:=kE vz;obtain⟨hrd,mz⟩:=gf rfl;subst hrd;obtain⟨hs,xZ,_⟩:=Dk (C:=C) (w0:=w0) (σ0:=σ0) (ids:=ids) 8 hq;simp only[az] at hs;obtain⟨ra,Qh,hs⟩:=hs;split at hs
 case h_2=>cases hs
 rename_i S1 hao hax;simp only[aG] at hs;obtain⟨rb,hrb,iS⟩:=hs;have hma:=sP ca Qh;have hmb:=sP cb hrb;obtain⟨q1,q2⟩:=q;simp only at Qh iS vz xZ he ⊢;generalize vq:acx ids (q1::q2.ex.map (·.2)) q2.mo=lo at he;generalize tz:((nK cB q2.ex none).bind fun M=>wH C fn s (M.st ids))=rt at he;have C2:∃f caps d,e.ev ρ=.clo f caps∧Φ f caps=some d∧fX (q2.pc.ev Φ N) (ρ.setR n d) ps.toList lo rt d.l (lo.map ρ.o)=some x:=by
  simp only[PC.ev,PI.runs,PI.run,holds,List.all_nil,cond_true] at he;cases bN:e.ev ρ with
  |clo f caps=>
   rw[bN] at he;simp only[PE.evs,sG] at he;cases hΦ:Φ f caps with
   |none=>rw[hΦ] at he;simp at he
   |some d=>
    rw[hΦ] at he;simp only[jF,kF,PE.ev,Env.setR,aW] at he;exact⟨f,caps,d,rfl,hΦ,he⟩
  |_=>rw[bN] at he;simp at he
 obtain⟨f,caps,d,bN,hΦ,he⟩:=C2;obtain⟨σ,own,hv,i⟩:=hg;have hx:=bZ (gs:=[]) i hC rfl hu;rw[bN] at hx;generalize hgv:a.eval g=gv at hx;generalize bj:Ty.fn aa rr=ty at hx;cases hx with
 |fn f cs vs ds j4 h1 h2 aX=>
 cases bj;obtain⟨hfn,auP⟩:=fp f cs ys j4 vJ;obtain⟨xs,rfl,aKc,PA⟩:=auP caps d hΦ;simp only[D.l_list] at he;obtain⟨m,ma,hm,vF,H8,ka⟩:=ZQ he;have iq0:=ab4 8 hq i
 have iq:Inv C (q1.st ids) (ρ.setR n (.list xs)) σ own hv w0 σ0 (fun _=>False) a w:=by
  refine iq0.env (Snap.noOpt _ _) (fun t ht=>?_) (fun _ _=>rfl);have ah:t<q1.rs.length:=by
   refine XU fun hle=>?_;simp only[Snap.st,aT,rf hle,Option.getD_none,cr,isNone] at ht;cases ht
  simp[Env.setR,bA _ _ (show t≠n by omega)]
 obtain⟨ρ1,hρ1⟩:∃ρ1,ρ.setR n (.list xs)=ρ1:=⟨_,rfl⟩
 rw[hρ1] at he iq H8 ka;have jr:ρ.o=ρ1.o:=by rw[←hρ1];rfl
 rw[jr] at vF;refine wpIn_rangeFunc ?_;intro OZ aJP;obtain⟨L,aaz⟩:∃L,w.heap.size+1=L:=⟨_,rfl⟩
 obtain⟨rec,ia⟩:∃rec:LoopState→Option Code→Loop,rec=fun st pe=>{state:=st,pending:=pe,fn:=OZ,tmps:=a.tmps,params:=ps,assign:=ca,body:=cb,defers:=w.heap.size}:=⟨_,rfl⟩
 have i1:=iq.enter (rec .ready none);obtain⟨t,fx0,cx0,aaY,ht0⟩:=iq.frame;have auv:=σ0.lt _ _ _ _ aaY.F;have Pv:=FrOK.enter iq aaY (rec .ready none);have aKa:=iq.below.size;have xO:Free L (σ.mark w.heap.size) own:=by
  refine⟨?_,fun o=>?_,?_⟩
  ·cases e:own L with
   |none=>rfl
   |some j=>have:=(iq.owns L j e).2.1;omega
  ·cases e:σ.c L o with
   |none=>exact e
   |some x=>have:=iq.lt e;omega
  ·simp only[Im.mark,show L≠w.heap.size by omega,if_false];cases e:σ.m L with
   |none=>rfl
   |some x=>have:=iq.ltm e;omega
 have lJ:σ.le (σ.mark w.heap.size):=by
  refine⟨fun _ _ _ e=>e,fun k x e=>?_⟩;have:k≠w.heap.size:=by have:=iq.ltm e;omega
  simp[Im.mark,this,e]
 have hL1:((w.alloc (.deferred (some []))).alloc (.loop (rec .ready none))).heap[L]?=some (.loop (rec .ready none)):=by
  have:=World.alloc_heap_new (w.alloc (.deferred (some []))) (.loop (rec .ready none));rw[World.size_alloc,aaz] at this;exact this
 obtain⟨W1,Pa⟩:∃W1,(w.alloc (.deferred (some []))).alloc (.loop (rec .ready none))=W1:=⟨_,rfl⟩
 have aJI:W1.heap.size=w.heap.size+2:=by rw[←Pa];simp
 rw[Pa] at i1 Pv hL1;have Pt:(Instr.enterLoop OZ a.tmps ps ca cb none).run C.P w=.ok (L,[{target:=.collected w.heap.size,args:=#[]}]) W1:=by
  rw[←Pa,ia,←aaz];exact run_enterLoop_outer _ _ _ _ _
 obtain⟨σ1,hσ1⟩:∃σ1,σ.mark w.heap.size=σ1:=⟨_,rfl⟩
 rw[hσ1] at i1 Pv xO lJ;obtain⟨aM,Pb⟩:∃aM:Act,{a with defers:={target:=.collected w.heap.size,args:=#[]}::a.defers}=aM:=⟨_,rfl⟩
 have Cq:aM.tmps=a.tmps:=by rw[←Pb]
 rw[Pb] at i1;have iR:=i1.toRnd (t:=t) (X:=fun k=>k=L) ht0;obtain⟨σR,hσR⟩:∃σR,σ0.rnd σ1 own W1 t (fun k=>k=L)=σR:=⟨_,rfl⟩
 have sZ:∀t' f c w',σR.F t' f c w'→(∀k,f k→k<W1.heap.size∧k≠L)∧∀k,c k→f k∧(∀o,σ1.c k o=none)∧σ1.m k=none:=by
  rw[←hσR];rintro t' f c w' ⟨_,h2,h3,_⟩;exact⟨fun k hk=>⟨((h2 k).1 hk).1,((h2 k).1 hk).2.2.2⟩,fun k hk=>(h3 k).1 hk⟩
 have hRC:CtxOK C σR:=by rw[←hσR];exact hC.mono i1.le
 rw[hσR] at iR
 obtain⟨P,hP⟩:∃P:Nat→List D→Snap→LoopState→Option Code→Prop,P=fun i vo Sx st pe=>(i≤m∧vo=ma i∧Sx=q1∧st=.ready∧pe=none)∨
  (i=m+1∧m<xs.length∧st=.done∧∃y id ρ',xs[m]?=some y∧q2.pc.ev Φ N (ρ1.put ps.toList (partsOf ps.toList y) lo (ma m))=some (.exit id ρ')∧vo=lo.map ρ'.o∧(id,Sx)∈q2.ex∧((id≠cB∧pe=some (.exit id))∨(id=cB∧pe=some .ret))):=⟨_,rfl⟩
 obtain⟨c1,c2⟩:=aBh (C:=C) (w:=W1) (L:=L) hfn hgv;refine⟨L,[{target:=.collected w.heap.size,args:=#[]}],W1,_,W1,f,_,W1,Pt,c1,fun _ _=>trivial,c2,(fun e=>by cases e),?_⟩
 refine YK ((PA σ1 W1 (.func (.yield L) #[] #[]) vs (RSt C w0 σR ids ρ1 lo aM L W1 σ1 rec xs P) (fun k=>k<W1.heap.size) (fun k=>(∃j,own k=some j)∨k=L) m i1.ok (hC.mono i1.le) ⟨h1,h2,fun j t e=>(aX j t e).mono lJ⟩ hm
  (fun t f c w h=>h.lt) (fun t f c w h=>h.sub) (fun t f c w w' h hb hs=>h.keep (by omega) (by omega) (fun t f c w hF k hk=>((sZ t f c w hF).1 k hk).1) hb hs) ?_ ?_ ?_ ?_).mono ?_)
 ·refine⟨fun k hk=>hk,fun k hk=>?_,fun k hk=>hk,0,ma 0,q1,.ready,none,σ1,own,hv,by simp,by rw[hP];exact .inl ⟨oE _,rfl,rfl,rfl,rfl⟩,?_,.refl σ1,xO,hL1,fun k j e=>(iR.owns k j e).2.1,fun k o x e=>iR.lt e,fun k x e=>iR.ltm e,fun k=>.rfl⟩
  ·rcases hk with⟨j,e⟩|e
   ·exact(iR.owns k j e).2.1
   ·show k<W1.heap.size;omega
  ·rw[vF,Env.put_self];exact iR
 ·rintro k o x e (⟨j,hj⟩|rfl)
  ·have:=(iR.owns k j hj).2.2.1 o;rw[e] at this;cases this
  ·rw[xO.c] at e;cases e
 ·rintro k x e (⟨j,hj⟩|rfl)
  ·have:=(iR.owns k j hj).2.2.2;rw[e] at this;cases this
  ·rw[xO.m] at e;cases e
 ·intro i fx cx w1 σx args ds' hi dA hF hσx jk gZ my dq cO rd' o a' x' aa ts K Q bO cA aaI hK;have aJR:i<xs.length:=(fo.1 dA).1;obtain⟨i',vo,Sx,st,pe,σa,wc,hva,e1,e2,iA,H0,Co,Hy,PZ,hcA,CQ,xX⟩:=hF.ex;have hii:i'=i:=by
   have h9:=congrArg List.length (congrArg D.l e1);simp only[D.l_list,dW] at h9;omega
  subst hii;rw[hP] at e2;rcases e2 with⟨_,rfl,Cp,rfl,rfl⟩|⟨e2,_⟩
  case inr=>omega
  rw[Cp] at iA;have aaA:L<w1.heap.size:=hF.lt L (hF.old L (by omega));have HI:cx L:=(xX L).2 (.inr rfl)
  have avb:∀k o v,σx.c k o=some v→wc k=none:=fun k o v e=>by
   cases e2:wc k with
   |none=>rfl
   |some j=>exact absurd ((xX k).2 (.inl ⟨j,e2⟩)) (gZ k o v e)
  have CU:∀k v,σx.m k=some v→wc k=none:=fun k v e=>by
   cases e2:wc k with
   |none=>rfl
   |some j=>exact absurd ((xX k).2 (.inl ⟨j,e2⟩)) (my k v e)
  have hτok:σx.noM.ok w1:=⟨hσx.c,fun k v e=>hσx.m k v (Im.noM_m e).1⟩
  have iB:=iA.joinIm (τ:=σx.noM) hτok (fun k e=>(Im.noM_m e).2 rfl) avb (fun k v e=>CU k v (Im.noM_m e).1)
   (fun k o v e=>(dq k o v e).imp (fun e=>H0.c k o v e) fun e=>by omega) (fun k v e=>(cO k v (Im.noM_m e).1).imp (fun e=>H0.m k v e) fun e=>by omega)
   (fun t' f c hf=>⟨fun k o v e hc=>by
        obtain⟨g1,g2,g3⟩:=(sZ _ _ _ _ hf.F).2 k hc;rcases dq k o v e with e|e
        ·rw[g2 o] at e;cases e
        ·have:=((sZ _ _ _ _ hf.F).1 k g1).1;omega,fun k v e hc=>by
        obtain⟨g1,g2,g3⟩:=(sZ _ _ _ _ hf.F).2 k hc;rcases cO k v (Im.noM_m e).1 with e|e
        ·rw[g3] at e;cases e
        ·have:=((sZ _ _ _ _ hf.F).1 k g1).1;omega⟩)
  have hFB:Free L (σa.plus σx.noM) wc:=by
   refine⟨Co.own,fun o=>?_,?_⟩
   ·cases e:(σa.plus σx.noM).c L o with
    |none=>rfl
    |some v=>
     rcases Im.plus_c e with e|e
     ·rw[Co.c] at e;cases e
     ·exact absurd HI (gZ L o v e)
   ·cases e:(σa.plus σx.noM).m L with
    |none=>rfl
    |some v=>
     rcases Im.plus_m e with e|e
     ·rw[Co.m] at e;cases e
     ·exact absurd HI (my L v (Im.noM_m e).1)
  have rK:ps.toList.length=ys.length:=by rw[zX];exact hl.symm
  have atT:pX C (σa.plus σx.noM) ys args ds':=⟨jk.1,jk.2.1,fun j t e=>((jk.2.2 j t e).noM).mono (Im.plus_le2 iA.ok hτok)⟩
  have iC:=iB.startR (ρ':=ρ1) rK bo (fun p hp=>by
   have:=bK.1 ah p hp;rw[Cq,hn];simpa [ix] using this) atT rfl
  have Qc:∃xi,q2.pc.ev Φ N (ρ1.put ps.toList (partsOf ps.toList (.tup ds')) lo (ma i'))=some xi∧((i'<m∧∃ρ',xi=.next ρ'∧lo.map ρ'.o=ma (i'+1))∨(i'=m∧m<xs.length∧∃id ρ',xi=.exit id ρ')):=by
   by_cases j9:i'<m
   ·obtain⟨y,ρ',g1,g2,g3⟩:=H8 i' j9;rw[dA] at g1;cases g1;exact⟨_,g2,.inl ⟨j9,ρ',rfl,g3⟩⟩
   ·obtain rfl:i'=m:=by omega
    rcases ka with⟨g1,_⟩|⟨g1,y,id,ρ',g2,g3,_⟩
    ·omega
    ·rw[dA] at g2;cases g2;exact⟨_,g3,.inr ⟨rfl,g1,id,ρ',rfl⟩⟩
  obtain⟨xi,rO,QG⟩:=Qc;have aA:q2.pc=.seq ra.pc rb.pc:=by rw[←iS];rfl
  rw[aA] at rO;have aS:(l0 ps.toList args aM.tmps).size=n:=by rw[ahP,Cq,hn]
  refine⟨fun _ _=>trivial,?_⟩;rw[Oper.semAt_eq _ _ _ (fun c e=>by rw[bO] at e;cases e)];have atU:aa.size=ps.size:=by
   have:=jk.1;rw[←aaI,iw,zX] at this;omega
  have ak:=aFA (C:=C) bO cA Hy (by rw[ia];exact atU);have avB:(rec .ready none).fn=OZ∧(rec .ready none).tmps=a.tmps∧(rec .ready none).params=ps∧(rec .ready none).assign=ca∧(rec .ready none).body=cb:=by rw[ia];exact⟨rfl,rfl,rfl,rfl,rfl⟩
  obtain⟨r1,r2,r3,r4,r5⟩:=avB;rw[r1,r2,r3,r4,r5] at ak
  have pq:(ps.zip (aa.map a'.eval)).foldl (fun tmps (t,v)=>tmps.setIfInBounds t v) a.tmps=l0 ps.toList args aM.tmps:=by
   rw[Cq,←aaI,←zY];exact aCa ps (aa.map a'.eval) a.tmps
  rw[pq] at ak;rw[ak];refine⟨(fun e=>by cases e),?_⟩;refine roundIn_of_wpIn (F:=FR rd') trivial ?_;show ca.wpIn (FR (some L)) 0 C.P _ _ _;cases lM:ra.pc.ev Φ N (ρ1.put ps.toList (partsOf ps.toList (.tup ds')) lo (ma i')) with
  |none=>simp only[PC.ev,lM] at rO;cases rO
  |some xa=>
  refine wpIn_mono (ahJ bm Qh jR hRC iC (wr:=fun t=>t∈cm ca) (fun _ h=>h) aS lM L) fun e2 a1 Xl avL=>?_;obtain⟨ρ2,S2,σ2,ij,gK,iD,rL,ec,jN⟩:=avL;cases e2 with
  |normal=>
   obtain⟨rfl,xP⟩:=jN;rw[hao] at xP;cases xP;simp only[PC.ev,lM] at rO;have hL2:Xl.heap[L]?=some (.loop (rec .ready none)):=(rL.same L aaA hFB.own).trans Hy;have O7:=hFB.seg aaA rL;have O8:L<Xl.heap.size:=(fT.1 hL2).1;have hL0:w0.heap.size≤L:=by omega
   refine⟨_,run_beginRound hL2 (by rw[ia]),?_⟩;have iE:=iD.putL hL0 O7 (fun t' f c hf CD=>((sZ _ _ _ _ hf.F).1 L CD).2 rfl) (.loop {rec .ready none with state:=.busy});have hL3:(Xl.putObj L (.loop {rec .ready none with state:=.busy})).heap[L]?=some (.loop {rec .ready none with state:=.busy}):=World.putObj_heap_same O8;show cb.wpIn (FR (some L)) 0 C.P _ _ _;refine wpIn_mono (ahJ dt hrb jR hRC iE (wr:=fun t=>t∈cm cb) (fun _ h=>h) (ec.size.trans aS) rO L) fun e3 a3 w3 avM=>?_;obtain⟨ρ3,S3,σ3,v9,Da,iF,Ii,avJ,nF⟩:=avM;have hL4:w3.heap[L]?=some (.loop {rec .ready none with state:=.busy}):=(Ii.same L (by simpa using O8) O7.own).trans hL3;have hF3:=O7.seg (by simpa using O8) Ii;have atu:L<w3.heap.size:=(fT.1 hL4).1;obtain⟨mk,H5⟩:∃mk,Nat.lor (vV (ps.toList++cm ca++cm cb)) (Nat.lor ra.mr rb.mr)=mk:=⟨_,rfl⟩
   have au4:∀t,aw mk t=false→t∉ps.toList∧t∉cm ca∧t∉cm cb∧aw ra.mr t=false∧aw rb.mr t=false:=by
        intro t ht;rw[←H5,eQ,eQ,Xy,Xy] at ht;obtain⟨t1,t2,t3⟩:=ht;have:t∉ps.toList++cm ca++cm cb:=fun hm=>by rw[YA hm] at t1;cases t1
        simp only[dj,not_or] at this;exact⟨this.1.1,this.1.2,this.2,t2,t3⟩
   have Qj:∀t,aw mk t=false→aM.tmps.getD t undef=a3.tmps.getD t undef∧(ρ1.put [] [] lo (lo.map ρ3.o)).r t=ρ3.r t:=by
        intro t ht;obtain⟨t1,t2,t3,t4,t5⟩:=au4 t ht;refine⟨?_,?_⟩
        ·rw[avJ.get t t3,ec.get t t2];exact(Ms _ _ _ _ t1).symm
        ·have hb3:∀ρ',xi=.next ρ'∨(∃id,xi=.exit id ρ')→ρ'.r t=ρ2.r t:=fun ρ' h=>by
          have vj:xi.env?=some ρ':=by rcases h with h|⟨id,h⟩<;>rw[h]<;>rfl
          exact(PC.ev_but rb.pc _ _ ρ' rO vj).r t fun hm=>by rw[hmb.1 t hm] at t5;cases t5
         have dx:ρ2.r t=putL ρ1.r ps.toList (partsOf ps.toList (.tup ds')) t:=(PC.ev_but ra.pc _ _ ρ2 lM rfl).r t fun hm=>by rw[hma.1 t hm] at t4;cases t4
         rw[yY _ _ _ _ t1] at dx;show ρ1.r t=ρ3.r t;rw[hb3 ρ3 (by
          cases e3 with
          |normal=>exact .inl nF.1
          |exit id=>exact .inr ⟨id,nF.1⟩
          |ret=>exact .inr ⟨_,nF.1⟩
          |_=>exact nF.elim),dx]
   have PM:q2.mo=iZ ra.mo rb.mo:=by rw[←iS];rfl
   have P2:∀j,j∉q2.mo→ρ3.o j=ρ1.o j:=by
        intro j hj;rw[PM,py,not_or] at hj;have vj:xi.env?=some ρ3:=by
         cases e3 with
         |normal=>rw[nF.1];rfl
         |exit id=>rw[nF.1];rfl
         |ret=>rw[nF.1];rfl
         |_=>exact nF.elim
        rw[(PC.ev_but rb.pc _ _ ρ3 rO vj).o j fun hm=>hj.2 (hmb.2 j hm),(PC.ev_but ra.pc _ _ ρ2 lM rfl).o j fun hm=>hj.1 (hma.2 j hm)]
        exact yY _ _ _ _ fun hm=>by
         rw[←vq] at hm;have:=(dm.1 hm).1;rw[PM,py] at this;exact this.elim hj.1 hj.2
   have P1:∀(S:Snap),S∈(q1::q2.ex.map (·.2))→∀j,nI ((S.st ids).o j)=false→(ρ1.put [] [] lo (lo.map ρ3.o)).o j=ρ3.o j:=by
        intro S hS j hj;show putL ρ1.o lo (lo.map ρ3.o) j=ρ3.o j;rw[sc];split
        ·rfl
        ·rename_i fL;refine(P2 j fun tn=>fL ?_).symm;rw[←vq];exact dm.2 ⟨tn,uG.2 ⟨S,hS,by simpa [Snap.st] using hj⟩⟩
   have fin:∀(jump:Option Code) (Sx:Snap),Inv C (Sx.st ids) (ρ1.put [] [] lo (lo.map ρ3.o)) σ3 v9 Da w0 σR (fun _=>False) aM w3→P (i'+1) (lo.map ρ3.o) Sx (if jump.isNone then .ready else .done) jump→jump.isNone=decide (i'<m)→
        ∃v w',(Instr.endRound L jump).run C.P w3=.ok v w'∧K (a'.put o.dst v) w':=by
        intro jump Sx iG hPn tn;refine⟨_,_,run_endRound jump hL4,?_⟩;have avA:({{rec .ready none with state:=.busy} with state:=if jump.isNone then .ready else .done,pending:=jump}:Loop)=rec (if jump.isNone then .ready else .done) jump:=by rw[ia]
        rw[avA];have aX:=rL.round (L:=L) (o':=.loop (rec (if jump.isNone then .ready else .done) jump)) Ii;have iH:=iG.putL hL0 hF3 (fun t' f c hf CD=>((sZ _ _ _ _ hf.F).1 L CD).2 rfl) (.loop (rec (if jump.isNone then .ready else .done) jump));obtain⟨w4,QC⟩:∃w4,w3.putObj L (.loop (rec (if jump.isNone then .ready else .done) jump))=w4:=⟨_,rfl⟩
        have hL5:w4.heap[L]?=some (.loop (rec (if jump.isNone then .ready else .done) jump)):=by rw[←QC];exact World.putObj_heap_same atu
        have aKf:w4.heap.size=w3.heap.size:=by rw[←QC];simp
        rw[QC] at aX iH ⊢;have aJH:W1.heap.size≤w1.heap.size:=by
         have:=hF.lt (W1.heap.size-1) (hF.old _ (by omega));omega
        have aKb:=aX.below.size
        refine hK _ _ ⟨by rw[tn],aX.below,fun k hk hc=>aX.same k hk (by
         cases e:wc k with
         |none=>rfl
         |some j=>exact absurd ((xX k).2 (.inl ⟨j,e⟩)) hc) (fun e=>hc (by rw[e];exact HI)),(fun k=>k<w4.heap.size∧(k<W1.heap.size∨(∃j,v9 k=some j)∨(∃o x,σ3.c k o=some x)∨∃x,σ3.m k=some x)),(fun k=>(∃j,v9 k=some j)∨k=L),?_,?_,?_⟩
        ·refine⟨fun k hk=>hk.1,fun k hk=>?_,fun k hk=>⟨by omega,.inl hk⟩,i'+1,lo.map ρ3.o,Sx,_,jump,σ3,v9,Da,rfl,hPn,iH,H0.trans ((Im.plus_le1 _ _).trans aX.le),hF3,hL5,fun k j e=>⟨(iH.owns k j e).2.1,.inr (.inl ⟨j,e⟩)⟩,fun k o x e=>⟨iH.lt e,.inr (.inr (.inl ⟨o,x,e⟩))⟩,fun k x e=>⟨iH.ltm e,.inr (.inr (.inr ⟨x,e⟩))⟩,fun k=>.rfl⟩;rcases hk with⟨j,e⟩|e
         ·exact⟨(iH.owns k j e).2.1,.inr (.inl ⟨j,e⟩)⟩
         ·exact⟨by omega,.inl (by omega)⟩
        ·rintro k ⟨_,hk⟩ bF
         have CI:((∃o x,σ3.c k o=some x)∨∃x,σ3.m k=some x)→fx k∨(∃o x,σx.c k o=some x)∨(∃x,σx.m k=some x∧x≠cM):=fun h=>by
          rcases aX.imm k h with⟨o,x,e⟩|⟨x,e⟩|⟨j,e⟩|e
          ·rcases Im.plus_c e with e|e
           ·exact .inl (hcA k o x e)
           ·exact .inr (.inl ⟨o,x,e⟩)
          ·rcases Im.plus_m e with e|e
           ·exact .inl (CQ k x e)
           ·exact .inr (.inr ⟨x,(Im.noM_m e).1,(Im.noM_m e).2⟩)
          ·exact .inl (PZ k j e)
          ·omega
         rcases hk with hk|⟨j,e⟩|e|e
         ·exact .inl (hF.old k hk)
         ·rcases aX.ow k j e with⟨j',e⟩|e
          ·exact .inl (PZ k j' e)
          ·omega
         ·exact CI (.inl e)
         ·exact CI (.inr e)
        ·rintro k (⟨j,e⟩|e) bF
         ·rcases aX.ow k j e with⟨j',e⟩|e
          ·exact(xX k).2 (.inl ⟨j',e⟩)
          ·omega
         ·rw[e];exact HI
   have ny:jY σ3 w0.heap.size aM.defers:=iA.defers.mono ((Im.plus_le1 _ _).trans (rL.le.trans Ii.le));have Qd:q2.out=rb.out.map (Snap.mask mk)∧q2.ex=rb.ex.map (fun x=>(x.1,x.2.mask mk)):=by rw[←iS,←H5];exact⟨rfl,rfl⟩
   cases e3 with
   |normal=>
    obtain⟨e4,e5⟩:=nF;have hT:q2.out=some (S3.mask mk):=by rw[Qd.1,e5];rfl
    have aaZ:=xZ _ hT
    have iG:Inv C (q1.st ids) ρ3 σ3 v9 Da w0 σR (fun _=>False) a3 w3:=by
        have:=Snap.meet_ok2 (x:=q1) (iF.maskR mk)
        rwa [aaZ] at this
    have iH:=iG.restore (ρ':=ρ1.put [] [] lo (lo.map ρ3.o)) (a':=aM) (Snap.noOpt _ _) ny (fun t ht=>Qj t (by
        cases e:aw mk t with
        |false=>rfl
        |true=>
         have h9:=ay8 (x:=q1) (S:=S3) (ids:=ids) e;rw[aaZ] at h9;rw[h9] at ht;cases ht)) (fun j hj=>P1 q1 (dv ..) j hj)
    rcases QG with⟨j9,ρ',e6,e7⟩|⟨_,_,id,ρ',e6⟩
    ·rw[e4] at e6;cases e6;exact fin none q1 iH (by rw[hP];exact .inl ⟨by omega,e7,rfl,rfl,rfl⟩) (by simp[j9])
    ·rw[e4] at e6;cases e6
   |exit id=>
    obtain⟨e4,e5,e6⟩:=nF;have cU:(id,S3.mask mk)∈q2.ex:=by rw[Qd.2];exact ej.2 ⟨_,e6,rfl⟩
    have iH:=(iF.maskR mk).restore (ρ':=ρ1.put [] [] lo (lo.map ρ3.o)) (a':=aM) (Snap.noOpt _ _) ny (fun t ht=>Qj t (by
        cases e:aw mk t with
        |false=>rfl
        |true=>rw[Dt,if_pos e] at ht;cases ht)) (fun j hj=>P1 (S3.mask mk) (dk _ (ej.2 ⟨_,cU,rfl⟩)) j hj)
    rcases QG with⟨j9,ρ',e7,_⟩|⟨j9,rJ,bP,ρ',e7⟩
    ·rw[e4] at e7;cases e7
    ·subst j9;refine fin (some (.exit id)) (S3.mask mk) iH ?_ (by simp);rw[hP];refine .inr ⟨rfl,rJ,rfl,_,id,ρ3,dA,?_,rfl,cU,.inl ⟨e5,rfl⟩⟩;rw[aA];simp only[PC.ev,lM];rw[rO,e4]
   |ret=>
    obtain⟨e4,e6⟩:=nF;have cU:(cB,S3.mask mk)∈q2.ex:=by rw[Qd.2];exact ej.2 ⟨_,e6,rfl⟩
    have iH:=(iF.maskR mk).restore (ρ':=ρ1.put [] [] lo (lo.map ρ3.o)) (a':=aM) (Snap.noOpt _ _) ny (fun t ht=>Qj t (by
        cases e:aw mk t with
        |false=>rfl
        |true=>rw[Dt,if_pos e] at ht;cases ht)) (fun j hj=>P1 (S3.mask mk) (dk _ (ej.2 ⟨_,cU,rfl⟩)) j hj)
    rcases QG with⟨j9,ρ',e7,_⟩|⟨j9,rJ,bP,ρ',e7⟩
    ·rw[e4] at e7;cases e7
    ·subst j9;refine fin (some .ret) (S3.mask mk) iH ?_ (by simp);rw[hP];refine .inr ⟨rfl,rJ,rfl,_,cB,ρ3,dA,?_,rfl,cU,.inr ⟨rfl,rfl⟩⟩;rw[aA];simp only[PC.ev,lM];rw[rO,e4]
   |_=>exact nF.elim
  |exit id=>obtain⟨_,_,e6⟩:=jN;rw[hax] at e6;cases e6
  |ret=>obtain⟨_,e6⟩:=jN;rw[hax] at e6;cases e6
  |_=>exact jN.elim
 ·rintro e' w' ⟨⟨v,rfl⟩,fx,cx,hF⟩;rw[show({tmps:=a.tmps,defers:=[{target:=Target.collected w.heap.size,args:=#[]}]++a.defers}:Act)=aM from Pb];obtain⟨i',vo,Sx,st,pe,σa,wc,hva,e1,e2,iA,H0,Co,Hy,PZ,hcA,CQ,xX⟩:=hF.ex;have h9:=congrArg List.length (congrArg D.l e1);simp only[D.l_list,dW] at h9;have cP:(rec st pe).state≠.busy:=by
   rw[hP] at e2;rw[ia];rcases e2 with⟨_,_,_,e3,_⟩|⟨_,_,e3,_⟩<;>(rw[e3];intro e;cases e)
  have tq:(rec st pe).pending=pe:=by rw[ia]
  have Pu:(Instr.endLoop L).run C.P w'=.ok pe (w'.putObj L (.loop {rec st pe with state:=.exhausted})):=(run_endLoop (P:=C.P) Hy cP).trans (congrArg (fun z=>Result.ok z _) tq);have iF:=iA.putL (by omega:w0.heap.size≤L) Co (fun t' f c hf CD=>((sZ _ _ _ _ hf.F).1 L CD).2 rfl) (.loop {rec st pe with state:=.exhausted});rw[←hσR] at iF;have iG:=i1.ofRnd Pv (fun k hk e=>by have:=auv k hk;omega) iF;have jP:SameBut wr a aM:=⟨by rw[Cq],fun t _=>by rw[Cq]⟩
  refine⟨pe,_,Pu,?_⟩;rw[hP] at e2;rcases e2 with⟨e3,rfl,Cp,_,rfl⟩|⟨rfl,rJ,_,y,id,ρ',g1,g2,rfl,g4,g5⟩
  ·rcases ka with⟨g1,g2⟩|⟨g1,_⟩
   ·obtain rfl:i'=m:=by omega
    rw[Cp] at iG;exact⟨_,q1,g2,rfl,jP,_,_,_,iG⟩
   ·omega
  ·rcases ka with⟨g6,_⟩|⟨_,y',bP,ρ'',k1,k2,k3⟩
   ·omega
   ·rw[g1] at k1;cases k1;rw[g2] at k2;cases k2;rcases k3 with⟨k3,k4⟩|⟨k3,pe',k4,k5⟩
    ·rcases g5 with⟨_,rfl⟩|⟨g5,_⟩
     ·exact wpIn_exit ⟨_,Sx,k4,k3,dm.2 ⟨g4,by simp[ew k3]⟩,jP,_,_,_,iG⟩
     ·exact absurd g5 k3
    ·rcases g5 with⟨g5,_⟩|⟨_,rfl⟩
     ·exact absurd k3 g5
     ·subst k3;rw[←tz,az] at k4;obtain⟨M,hM,Qi⟩:=k4;obtain⟨M',hM',rG⟩:=Rv (⟨_,_,_,iG⟩:Good C w0 σ0 (Sx.st ids) _ (fun _=>False) aM _) q2.ex none g4;rw[hM] at hM';cases hM';obtain⟨σm,aLb,hvm,im⟩:=rG;exact wpIn_ret ⟨_,k5,Inv.retD hC (fun _=>rfl) mz Qi _ im rfl,jP⟩
theorem acB {arr:Array MapEntry}{clock:Nat}(hb:me arr clock){idx:List Nat}(hi:∀i,i∈idx→i<arr.size){i:Nat}{e:MapEntry}(he:arr[i]?=some e):(fR arr idx).contains e.born=true↔i∈idx:=by
 simp only[fR,List.contains_toArray,List.contains_iff_mem,ej];constructor
 ·rintro⟨j,hj,h⟩;have ah:=hi j hj;rw[fm ah] at h;simp only at h;have:=hb.2 j i arr[j] e (fm ah) he h;rw[←this];exact hj
 ·intro h;exact⟨i,h,by rw[he]⟩
theorem aB7 (arr:Array MapEntry)(idx:List Nat){i:Nat}{e:MapEntry}(he:arr[i]?=some e):(fR arr idx).push e.born=fR arr (idx++[i]):=by
 simp[fR,he]
theorem azt {P:Program}{w:World}{k m:Nat}{arr:Array MapEntry}{clock:Nat}{idx:List Nat}(hk:w.heap[k]?=some (.mapIter (some m) clock (fR arr idx) clock))(hm:w.heap[m]?=some (.map arr clock))(hb:me arr clock)(hi:∀i,i∈idx→i<arr.size)(T:TypeId):
 ∃w1:World,(w1=w∨w1=w.drew)∧(((∀i,i<arr.size→i∈idx)∧(Instr.next (.pointer (some ⟨k,0,none⟩)) false T).run P w=.ok (.tuple #[.bool false]) w1)∨
  ∃i e,arr[i]?=some e∧i∉idx∧(Instr.next (.pointer (some ⟨k,0,none⟩)) false T).run P w=.ok (.tuple #[.bool true,e.key,e.val]) {w1 with heap:=w1.heap.setIfInBounds k (.mapIter (some m) clock (fR arr (idx++[i])) clock)}):=by
 have cU:∀{e:MapEntry},e∈arr→∃i:Nat,arr[i]?=some e:=fun he=>by
  obtain⟨i,hi,rfl⟩:=Array.mem_iff_getElem.1 he;exact⟨i,fm hi⟩
 have hold:∀(l:Array MapEntry),(∀e,e∈l→e.born<clock)→l.filter (fun x=>decide (x.born<clock))=l:=fun l h=>by
  rw[Array.filter_eq_self];intro e he;simpa using h e he
 have kL:∀(l:Array MapEntry),(∀e,e∈l→e.born<clock)→l.filter (fun x=>decide (x.born≥clock))=#[]:=fun l h=>by
  rw[Array.filter_eq_empty_iff];intro e he;have:=h e he;simp;omega
 have hbc:∀e,e∈arr→e.born<clock:=fun e he=>by obtain⟨i,hi⟩:=cU he;exact hb.1 i e hi
 have j6:(!(fR arr idx).isEmpty&& !arr.isEmpty&&arr.all (fun x=>decide (x.born≥clock)))=false:=by
  cases ha:arr.isEmpty
  ·have aJ:arr.size≠0:=by simpa using ha
   have:arr.all (fun x=>decide (x.born≥clock))=false:=by
        rw[Xx];intro h;rw[Array.all_eq_true] at h;have h0:=h 0 (by omega);have h1:=hbc arr[0] (Xv _);simp at h0;omega
   rw[this,wV]
  ·simp
 let left:=arr.filter fun e=> !(fR arr idx).contains e.born
 have hl:∀e,e∈left→e.born<clock:=fun e he=>hbc e (Xw.1 he).1;by_cases hz:left.size=0
 ·refine⟨w,.inl rfl,.inl ⟨fun i ah=>?_,?_⟩⟩
  ·by_cases bI:i∈idx
   ·exact bI
   ·exfalso;have H3:arr[i]∈left:=Xw.2 ⟨Xv _,by
     have:=acB hb hi (fm ah);cases hc:(fR arr idx).contains arr[i].born with
     |false=>rfl
     |true=>exact absurd (this.1 hc) bI⟩
    have:left=#[]:=M0 hz;rw[this] at H3;simp at H3
  ·have he:left=#[]:=M0 hz;have kJ:arr.filter (fun e=> !(fR arr idx).contains e.born)=#[]:=he;simp only[Instr.next,getObj,Sem.run_bind,Sem.run,hk,hm,Result.andThen_ok,j6,kJ];simp[Question.forced,Sem.run]
 ·have hG:left.filter (fun x=>decide (x.born<clock))=left:=hold left hl;have jn:left.filter (fun x=>decide (x.born≥clock))=#[]:=kL left hl;have hem:left.isEmpty=false:=by simpa using hz
  have key:∀c,c<left.size→∃i e,arr[i]?=some e∧i∉idx∧left[c]?=some e:=fun c hc=>by
   have H3:left[c]∈left:=Xv _;obtain⟨h1,h2⟩:=Xw.1 H3;obtain⟨i,cZ⟩:=cU h1;refine⟨i,left[c],cZ,fun bI=>?_,fm hc⟩;rw[(acB hb hi cZ).2 bI] at h2;cases h2
  obtain⟨w1,c,iT,hc,lH⟩:∃w1 c,(w1=w∨w1=w.drew)∧c<left.size∧(choose (.mapNext left.size)).run P w=.ok c w1:=by
   by_cases h1:left.size≤1
   ·exact⟨w,0,.inl rfl,by omega,by simp[Question.forced,h1]⟩
   ·exact⟨w.drew,_,.inr rfl,Nat.mod_lt _ (by omega),by simp[Question.forced,h1,Question.cut];rfl⟩
  obtain⟨i,e,h1,h2,h3⟩:=key c hc;refine⟨w1,iT,.inr ⟨i,e,h1,h2,?_⟩⟩;have vp:arr.filter (fun e=> !(fR arr idx).contains e.born)=left:=rfl;have nA:(getObj k).run P w=.ok (.mapIter (some m) clock (fR arr idx) clock) w:=by simp[getObj,Sem.run,hk]
  have gq:(getObj m).run P w=.ok (.map arr clock) w:=by simp[getObj,Sem.run,hm]
  have bF:w1.heap[k]?=some (.mapIter (some m) clock (fR arr idx) clock):=by rcases iT with rfl|rfl<;>exact hk
  have hg3:(setObj k (.mapIter (some m) clock ((fR arr idx).push e.born) clock)).run P w1=.ok () {w1 with heap:=w1.heap.setIfInBounds k (.mapIter (some m) clock ((fR arr idx).push e.born) clock)}:=by simp[setObj,Sem.run,bF]
  have at1:((if false=true then #[none] else #[])++Array.map some (left++#[]):Array (Option MapEntry))=left.map some:=by simp
  have gZ:(left.map some)[c]?=some (some e):=by simp[h3]
  have aa2:∀(AG:Array (Option MapEntry)) (cc:Nat),(choose (.mapNext AG.size)).run P w=.ok cc w1→AG[cc]?=some (some e)→(do
        match AG[←choose (.mapNext AG.size)]? with
        |some (some e)=>
         setObj k (.mapIter (some m) clock ((fR arr idx).push e.born) clock)
         pure (.tuple #[.bool true,e.key,e.val])
        |some none=>(pure (.tuple #[.bool false]):Sem Value)
        |none=>stuck "Next: no such candidate" :Sem Value).run P w=.ok (.tuple #[.bool true,e.key,e.val]) {w1 with heap:=w1.heap.setIfInBounds k (.mapIter (some m) clock ((fR arr idx).push e.born) clock)}:=by
   intro AG cc h4 h5;rw[Sem.run_bind,h4];simp only[Result.andThen_ok,h5];rw[Sem.run_bind,hg3];rfl
  rw[aB7 arr idx h1] at aa2 hg3;have:=aa2 (left.map some) c (by rw[Array.size_map];exact lH) gZ;simp only[Instr.next];rw[Sem.run_bind,nA];simp only[Result.andThen_ok];rw[Sem.run_bind,gq];simp only[Result.andThen_ok,j6,vp,hG,jn,hem];rw[at1,if_neg (by decide)];exact this
theorem ap4 {P:Program}{w:World}{k m:Nat}{arr:Array MapEntry}{clock:Nat}{idx:List Nat}{i:Nat}{e:MapEntry}(hk:w.heap[k]?=some (.mapIter (some m) clock (fR arr (idx++[i])) clock))(hm:w.heap[m]?=some (.map arr clock))(hb:me arr clock)(he:arr[i]?=some e):
 (Instr.entry (.pointer (some ⟨k,0,none⟩))).run P w=.ok (.tuple #[e.key,e.val]) w:=by
 have atX:(fR arr (idx++[i])).back?=some e.born:=by simp[fR,he]
 have CE:arr.find? (fun x=>x.born==e.born)=some e:=by
  have ah:i<arr.size:=(fT.1 he).1;have hei:arr[i]=e:=(fT.1 he).2;rw[Array.find?_eq_some_iff_getElem];refine⟨by simp,i,ah,hei,fun j hj=>?_⟩;have fL:j<arr.size:=by omega
  cases hc:(arr[j].born==e.born) with
  |false=>rfl
  |true=>
   have:=hb.2 j i arr[j] e (fm fL) he (by simpa using hc);omega
 simp[Instr.entry,getObj,Sem.run_bind,Sem.run,hk,hm,atX,CE]
theorem ay1 {x y z:Code}{k:Nat}{p:MP}(h:yy x y k z=some p):∃i1 i2 o1 o2 o3 l,x=.region i1 p.ops1 false∧y=.cond (.tmp p.mo) .skip (.exit p.out)∧z=.region i2 p.ops2 false∧p.next=k∧p.ops1.toList=[o1,o2]∧p.ops2.toList=o3::l∧
 o1.dst=some p.nx∧o1.guard=none∧o1.op=.next (.tmp p.it) false∧o2.dst=some p.mo∧o2.guard=none∧o2.op=.extract (.tmp p.nx) 0∧o3.dst=some p.pr∧o3.guard=none∧o3.op=.entry (.tmp p.it)∧kj p.pr l []=some p.aa∧
 p.it≠p.nx∧p.it≠p.mo∧p.it≠p.pr∧p.nx≠p.mo∧p.out≠cB∧k≠cB:=by
 unfold yy at h;split at h
 case h_2=>cases h
 rename_i i1 ops1 mo out i2 ops2;split at h
 case h_2=>cases h
 rename_i o1 o2 o3 l e1 e2;split at h
 case h_2=>cases h
 rename_i nx it mo' nx' pr it' d1 g1 q1 d2 g2 q2 d3 g3 q3;rw[ot] at h;split at h
 case isFalse=>cases h
 rename_i hc;simp only[aG] at h;obtain⟨aa,h4,rfl⟩:=h;simp only[ar,iu] at hc;obtain⟨⟨⟨⟨⟨⟨⟨⟨c1,c2⟩,c3⟩,c4⟩,c5⟩,c6⟩,c7⟩,c8⟩,c9⟩:=hc;have ne:∀{a b:Nat},Nat.beq a b=false→a≠b:=fun h e=>by subst e;simp at h
 obtain rfl:=aL c1;obtain rfl:=aL c2;obtain rfl:=aL c3;exact⟨i1,i2,o1,o2,o3,l,rfl,rfl,rfl,rfl,e1,e2,d1,g1,q1,d2,g2,q2,d3,g3,q3,h4,ne c4,ne c5,ne c6,ne c7,ne c8,ne c9⟩
theorem Jb {pr:Nat}:∀(l:List Oper) {acc aa:List (Nat×Nat)},kj pr l acc=some aa→∀x,x∈acc→x∈aa
 |[],acc,aa,h,x,hx=>by simp only[kj,bf] at h;subst h;exact hx
 |o::l,acc,aa,h,x,hx=>by
  simp only[kj] at h;split at h
  case h_2=>cases h
  rw[ot] at h;split at h
  ·cases h
  split at h
  ·rw[ot] at h;split at h
   ·exact Jb l h x (jd _ hx)
   ·cases h
  ·simp only[az] at h;obtain⟨i,_,h⟩:=h;exact Jb l h x (jd _ hx)
  ·simp only[az] at h;obtain⟨i,_,h⟩:=h;exact Jb l h x (jd _ hx)
  ·cases h
theorem Dr:∀{l:List (Nat×Nat)} {t i:Nat},tK l t=some i→(t,i)∈l
 |x::l,t,i,h=>by
  simp only[tK] at h;cases hb:Nat.beq x.1 t<;>simp only[hb,cond_true,cond_false] at h
  ·exact dk _ (Dr h)
  ·cases h;have:=aL hb;subst this;exact dv ..
theorem acs:∀{l:List (Nat×Nat)} {t:Nat},(tK l t).isSome=false→∀x,x∈l→x.1≠t
 |y::l,t,h,x,hx=>by
  simp only[tK] at h;cases hb:Nat.beq y.1 t<;>simp only[hb,cond_true,cond_false] at h
  ·rcases cX.1 hx with e|hx
   ·subst e;intro e;subst e;simp at hb
   ·exact acs h x hx
  ·cases h
theorem SO {pr:Nat}:∀(l:List Oper) {acc aa:List (Nat×Nat)},kj pr l acc=some aa→(∀x,x∈acc→x.2≤1)→∀x,x∈aa→x∈acc∨(x.2≤1∧∃o,o∈l∧o.dst=some x.1)
 |[],acc,aa,h,_,x,hx=>by simp only[kj,bf] at h;subst h;exact .inl hx
 |o::l,acc,aa,h,ha,x,hx=>by
  simp only[kj] at h;split at h
  case h_2=>cases h
  rename_i d hd jM;rw[ot] at h;split at h
  ·cases h
  have go:∀(pt:Nat),pt≤1→kj pr l (acc++[(d,pt)])=some aa→x∈acc∨(x.2≤1∧∃o',o'∈o::l∧o'.dst=some x.1):=by
   intro pt tu hp
   rcases SO l hp (fun y hy=>by
        rcases dj.1 hy with h|h
        ·exact ha y h
        ·simp at h;subst h;exact tu) x hx with h|⟨h1,o',h2,h3⟩
   ·rcases dj.1 h with h|h
    ·exact .inl h
    ·simp at h;subst h;exact .inr ⟨tu,o,dv ..,hd⟩
   ·exact .inr ⟨h1,o',dk _ h2,h3⟩
  split at h
  ·rw[ot] at h;split at h
   case isFalse=>cases h
   rename_i gZ;simp only[ar] at gZ;exact go _ (kE gZ.2) h
  ·simp only[az] at h;obtain⟨i,hi,h⟩:=h;exact go i (ha _ (Dr hi)) h
  ·simp only[az] at h;obtain⟨i,hi,h⟩:=h;exact go i (ha _ (Dr hi)) h
  ·cases h
theorem yU {P:Program}{ops:Array Oper}{i:Nat}{rest:List Nat}{o:Oper}{rd:Option Nat}{a:Act}{w w':World}{Q:Exit→Act→World→Prop}{v:Value}(ho:ops[i]?=some o)(hg:o.guard=none)(bo:nL o.op=true)(hx:(execOp a.eval o).run P w=.ok (.value v) w')
 (k:wpOpsIn (FR rd) 0 P ops Q rest (a.put o.dst v) w'):wpOpsIn (FR rd) 0 P ops Q (i::rest) a w:=by
 simp only[wpOpsIn,ho];rw[if_pos (by simp[Region.wanted,hg])];exact af9 bo (by unfold Oper.wp;rw[hx];exact k)
theorem aB1 {ops:Array Oper}{o:Oper}(ho:o∈ops.toList)(a:Act)(v:Value):SameBut (qg ops) a (a.put o.dst v):=by
 have:=SameBut.put a o.dst v a.defers;exact this.mono fun t e=>⟨o,ho,e⟩
theorem yZ {a:Act}{d:Nat}{v:Value}(h:d<a.tmps.size):(a.put (some d) v).tmps.getD d undef=v:=by rw[Ff];simp[h]
theorem Lw {a:Act}{d t:Nat}{v:Value}(h:t≠d):(a.put (some d) v).tmps.getD t undef=a.tmps.getD t undef:=by rw[Ff];simp[h]
theorem put_defers (a:Act)(d:Option Nat)(v:Value):(a.put d v).defers=a.defers:=by cases d<;>rfl
def DF (kv vv:Value)(i:Nat):Value:=if i=0 then kv else vv
theorem agf {P:Program}{ops:Array Oper}{rd:Option Nat}{Q:Exit→Act→World→Prop}{pr:Nat}{kv vv:Value}{w:World}:∀(l:List Oper) (acc aa:List (Nat×Nat)) (i:Nat) (a:Act),kj pr l acc=some aa→ops.toList.drop i=l→(∀x,x∈aa→x.1<a.tmps.size)→a.tmps.getD pr undef=.tuple #[kv,vv]→
 (∀x,x∈acc→a.tmps.getD x.1 undef=DF kv vv x.2)→(∀a',SameBut (qg ops) a a'→a'.defers=a.defers→(∀x,x∈aa→a'.tmps.getD x.1 undef=DF kv vv x.2)→Q .normal a' w)→wpOpsIn (FR rd) 0 P ops Q (List.range' i (ops.size-i)) a w
 |[],acc,aa,i,a,h,hl,ah,po,Cr,hQ=>by
  simp only[kj,bf] at h;subst h;have:ops.size-i=0:=by
    have:=XG.1 hl;simp at this;omega
  rw[this];exact hQ a (.refl _ _) rfl Cr
 |o::l,acc,aa,i,a,h,hl,ah,po,Cr,hQ=>by
  have hi:i<ops.toList.length:=by
   refine XU fun hle=>?_;rw[XG.2 hle] at hl;cases hl
  rw[ajr hi] at hl;have ho:ops[i]?=some o:=by
   have:ops.toList[i]=o:=by injection hl
   rw[←this];simp at hi ⊢
  have vl:ops.toList.drop (i+1)=l:=by injection hl
  have aS:ops.size-i=(ops.size-(i+1))+1:=by simp at hi;omega
  rw[aS,Fz];have cU:o∈ops.toList:=by simpa using gz ho
  simp only[kj] at h;split at h
  case h_2=>cases h
  rename_i d hd jM;rw[ot] at h;split at h
  ·cases h
  rename_i hc;simp only[gA,not_or,Bool.not_eq_true] at hc;have hdp:pr≠d:=fun e=>by subst e;simp at hc
  have hda:∀x,x∈acc→x.1≠d:=acs hc.2;have go:∀(pt:Nat) (v:Value),kj pr l (acc++[(d,pt)])=some aa→nL o.op=true→v=DF kv vv pt→(execOp a.eval o).run P w=.ok (.value v) w→wpOpsIn (FR rd) 0 P ops Q (i::List.range' (i+1) (ops.size-(i+1))) a w:=by
   intro pt v hp bo hv hx;have Pp:d<a.tmps.size:=ah _ (Jb l hp (d,pt) (by simp));refine yU ho jM bo hx ?_;have jP:=aB1 cU a v;rw[hd] at jP ⊢;refine agf l _ aa (i+1) _ hp vl (fun x hx=>by rw[jP.size];exact ah x hx) (by rw[Lw hdp];exact po) (fun x hx=>?_) (fun a' h1 h2 h3=>hQ a' (jP.trans h1) (h2.trans (put_defers _ _ _)) h3);rcases dj.1 hx with hx|hx
   ·rw[Lw (hda x hx)];exact Cr x hx
   ·simp at hx;subst hx;rw[yZ Pp];exact hv
  split at h
  ·rename_i t pt e;rw[ot] at h;split at h
   case isFalse=>cases h
   rename_i gZ;simp only[ar] at gZ;have ht:=aL gZ.1;have tu:=kE gZ.2;subst ht;have bN:a.eval (.tmp t)=.tuple #[kv,vv]:=by simpa [Act.eval] using po
   refine go pt (DF kv vv pt) h (by rw[e];rfl) rfl ?_;rcases(by omega:pt=0∨pt=1) with rfl|rfl<;>simp[execOp,e,bN,Instr.extract,DF]
  ·rename_i t e;simp only[az] at h;obtain⟨pt,vp,h⟩:=h;have:=Cr _ (Dr vp);exact go pt (a.eval (.tmp t)) h (by rw[e];rfl) (by simpa [Act.eval] using this) (by simp[execOp,e])
  ·rename_i t e;simp only[az] at h;obtain⟨pt,vp,h⟩:=h;have:=Cr _ (Dr vp);exact go pt (a.eval (.tmp t)) h (by rw[e];rfl) (by simpa [Act.eval] using this) (by simp[execOp,e])
  ·cases h
theorem QP (ids:List Nat)(J j:Nat)(S:Snap):((S.kill ids J).st ids).o j=if j=J then .dead else(S.st ids).o j:=by
 show dh ids (vN ids J S.os) j=_;have:∀(is:List Nat) (os:List Ob),dh is (vN is J os) j=if j=J then .dead else dh is os j:=by
  intro is
  induction is with
  |nil=>intro os;simp[vN,dh]
  |cons i is ih=>
   intro os;cases os with
   |nil=>simp[vN,dh]
   |cons o os=>
    simp only[vN,dh];cases hb:Nat.beq i j
    ·simp only[cond_false];exact ih os
    ·have:=aL hb;subst this;simp only[cond_true];by_cases cN:i=J
     ·subst cN;simp
     ·simp[ew cN,cN]
 exact this ids S.os
theorem YD {N:Nat}{id:Nat}(HS:id≠cB){rm:Bool}{wr:Nat→Prop}{a:Act}{q:Res2}{x xi:Out}(qu:(∀t,t∈q.pc.modR→aw q.mr t=true)∧∀j,j∈q.pc.modO→j∈q.mo)(dA:q.pc.ev Φ N ρ=some xi)(bN:(fV ids id q).pc.ev Φ N ρ=some x){e:Exit}{a':Act}{w':World}
 (gd:gp C w0 σ0 ids fn s rm wr a q.out q.ex xi e a' w'):Exit.inBlock id (gp C w0 σ0 ids fn s rm wr a (fV ids id q).out (fV ids id q).ex x) e a' w':=by
 have aaX:∀bP S1,(bP,S1)∈q.ex→bP≠id→(bP,S1)∈q.ex.filter fun x=> !Nat.beq x.1 id:=fun bP S1 hm aJ=>dm.2 ⟨hm,by simp[ew aJ]⟩;have main:∀(o:Option Snap) (lr lo:List Nat),nK id q.ex q.out=o→(∀M,o=some M→lr=jU M q.mr∧lo=iV ids M q.mo)→(PC.block id lr lo q.pc).ev Φ N ρ=some x→
        Exit.inBlock id (gp C w0 σ0 ids fn s rm wr a o (q.ex.filter fun x=> !Nat.beq x.1 id) x) e a' w':=by
  intro o lr lo ho hl bN;simp only[PC.ev] at bN;rw[dA] at bN
  have fin:∀{ρ1:Env} {a':Act} {w':World},(∃M,o=some M∧Good C w0 σ0 (M.st ids) ρ1 (fun _=>False) a' w')→xi.env?=some ρ1→x=.next (ρ.join lr lo ρ1)→SameBut wr a a'→
   gp C w0 σ0 ids fn s rm wr a o (q.ex.filter fun x=> !Nat.beq x.1 id) x .normal a' w':=by
        intro ρ1 a' w' hM vj hx eB;obtain⟨M,hM,rG⟩:=hM;obtain⟨l1,l2⟩:=hl M hM;subst l1 l2;exact⟨_,M,hx,hM,eB,rG.joined (PC.ev_but q.pc ρ _ ρ1 dA vj) qu.1 qu.2⟩
  cases e with
  |normal=>
   obtain⟨ρ1,S2,e1,e2,eB,gq⟩:=gd;subst e1;simp only[bf] at bN;refine fin ?_ rfl bN.symm eB;rw[e2] at ho;obtain⟨M,h1,h2⟩:=ID (id:=id) q.ex gq;rw[ho] at h1;exact⟨M,h1,h2⟩
  |exit bP=>
   obtain⟨ρ1,S2,e1,e0,e2,eB,gq⟩:=gd;subst e1;simp only at bN;show if bP=id then _ else _;by_cases cv:bP=id
   ·subst cv;simp only[gV,cond_true,bf] at bN;simp only[if_true];refine fin ?_ rfl bN.symm eB;rw[←ho];exact Rv gq q.ex q.out e2
   ·simp only[ew cv,cond_false,bf] at bN;subst bN;simp only[cv,if_false];exact⟨ρ1,S2,rfl,e0,aaX _ _ e2 cv,eB,gq⟩
  |ret=>
   cases rm with
   |false=>
    have hy:=gd;obtain⟨d,e1,_⟩:=hy;subst e1;simp only[bf] at bN;subst bN;exact gd
   |true=>
    obtain⟨ρ1,S2,e1,e2,eB,gq⟩:=gd;subst e1;simp only[ew (fun e=>HS e.symm:cB≠id),cond_false,bf] at bN;subst bN;exact⟨ρ1,S2,rfl,aaX _ _ e2 (fun e=>HS e.symm),eB,gq⟩
  |_=>exact gd.elim
 unfold fV at bN ⊢;cases hm:nK id q.ex q.out with
 |none=>
  simp only[hm] at bN ⊢;exact main none [] [] hm (fun M e=>by cases e) bN
 |some M=>
  simp only[hm] at bN ⊢;exact main (some M) _ _ hm (fun M' e=>by cases e;exact⟨rfl,rfl⟩) bN
theorem YB {N id:Nat}{q:Res2}{x:Out}(bN:(fV ids id q).pc.ev Φ N ρ=some x):∃xi,q.pc.ev Φ N ρ=some xi:=by
 unfold fV at bN;cases hm:nK id q.ex q.out<;>simp only[hm,PC.ev] at bN<;>cases dA:q.pc.ev Φ N ρ<;>first|exact⟨_,rfl⟩|(rw[dA] at bN;cases bN)
theorem ahH {es:List (D×D)}{idx:List Nat}(hn:idx.Nodup)(ah:∀i,i∈idx→i<es.length)(aX:∀i,i<es.length→i∈idx):(gk es idx).Perm (gO (.map es)):=by
 have h1:idx.Perm (List.range es.length):=by
  rw[List.perm_ext_iff_of_nodup hn M7];intro i;rw[cj];exact⟨ah i,aX i⟩
 have h2:gk es (List.range es.length)=gO (.map es):=by
  refine List.ext_getElem (by simp[gk,gO,D.m]) fun i g1 g2=>?_;have hi:i<es.length:=by simpa [gk] using g1
  simp[gk,gO,D.m,bH hi]
 rw[←h2];exact h1.map _
theorem aB8 {es:List (D×D)}{idx:List Nat}(hn:idx.Nodup)(ah:∀i,i∈idx→i<es.length):∃rest,(gk es idx++rest).Perm (gO (.map es)):=by
 refine⟨gk es ((List.range es.length).filter fun i=> !idx.contains i),?_⟩;have e:gk es idx++gk es ((List.range es.length).filter fun i=> !idx.contains i)=gk es (idx++(List.range es.length).filter fun i=> !idx.contains i):=by simp[gk]
 rw[e];refine ahH ?_ (fun i hi=>?_) (fun i hi=>?_)
 ·rw[Ae];refine⟨hn,M7.filter _,fun a ha b hb e=>?_⟩;subst e;have:=(dm.1 hb).2;simp[ha] at this
 ·rcases dj.1 hi with h|h
  ·exact ah i h
  ·exact cj.1 (dm.1 h).1
 ·by_cases h:i∈idx
  ·exact jd _ h
  ·exact jC _ (dm.2 ⟨cj.2 hi,by simp[h]⟩)
theorem ahI (es:List (D×D))(idx:List Nat){i:Nat}{p:D×D}(h:es[i]?=some p):gk es (idx++[i])=gk es idx++[.tup [p.1,p.2]]:=by simp[gk,h]
theorem ay3 {N:Nat}{x y z code:Code}{k:Nat}{p:MP}(hp:yy x y k z=some p)(ihc:uL C Φ fn s n ids R N code){rm:Bool}{S:Snap}{r:Res2}
 (hr:yz ids n p (cm x++(cm y++(cm z++cm code))) (fun S=>comp C fn s n ids R rm code S) S=some r) {rd:Option Nat} {wr:Nat→Prop} {x0:Out} (gf:rm=false→rd=none∧σ0.fin) (hC:CtxOK C σ0) (hY:oG C Φ w0 σ0)
 (gM:∀t,t∈cm (.loop (.seq x (.seq y (.block k (.seq z code)))))→wr t) (hn:a.tmps.size=n) (hg:Good C w0 σ0 (S.st ids) ρ (fun _=>False) a w) (he:r.pc.ev Φ N ρ=some x0):
 (Code.loop (.seq x (.seq y (.block k (.seq z code))))).wpIn (FR rd) 0 C.P (gp C w0 σ0 ids fn s rm wr a r.out r.ex x0) a w:=by
 obtain⟨i1,i2,o1,o2,o3,l,rfl,rfl,rfl,hk,e1,e2,d1,g1,q1,d2,g2,q2,d3,g3,q3,mF,n1,n2,n3,n4,n5,n6⟩:=ay1 hp;subst hk;unfold yz at hr;split at hr
 case h_2=>cases hr;exact absurd he (l6 _ _ _ _)
 rename_i J hJ;split at hr
 case h_2=>cases hr;exact absurd he (l6 _ _ _ _)
 rename_i kt et HY;simp only at hr;split at hr
 case h_2=>cases hr;exact absurd he (l6 _ _ _ _)
 rename_i q hq;rw[ot] at hr;split at hr
 case isFalse=>cases hr;exact absurd he (l6 _ _ _ _)
 rename_i vg;cases hr;generalize Ip:cm (.region i1 p.ops1 false)++(cm (.cond (.tmp p.mo) .skip (.exit p.out))++(cm (.region i2 p.ops2 false)++cm code))=ws at*;simp only[ar,iu] at vg;obtain⟨⟨⟨⟨⟨⟨⟨⟨c1,c2⟩,c3⟩,c4⟩,c5⟩,c6⟩,c7⟩,c8⟩,c9⟩:=vg;have hex:q.2.ex=[]:=rh.1 c1;have aau:J∉q.2.mo:=fun h=>by rw[(px _ _).2 h] at c2;cases c2
 simp only[ab0,ar,iu] at c3;obtain⟨⟨c3a,c3b⟩,c3c⟩:=c3;have avD:q.1.rs.getD p.it .none=.obj J 0:=Sh.beq_eq _ _ c3a;have Ia:dh ids q.1.os J=.it kt et:=Ob.beq_eq _ _ c3b;have avv:∀t,t∈p.aa.map (·.1)→t<n:=fun t ht=>by have:=bK.1 c5 t ht;rwa [ix] at this
 have PY:p.nx<n:=by rwa [ix] at c6
 have PM:p.mo<n:=by rwa [ix] at c7
 have po:p.pr<n:=by rwa [ix] at c8
 have CS:=aL c9;obtain⟨hs,xZ,bI⟩:=Dk (C:=C) (w0:=w0) (σ0:=σ0) (ids:=ids) 8 hq;simp only[aG] at hs;obtain⟨q0,vx,iS⟩:=hs;obtain⟨qS,qR⟩:=q;simp only at*;subst iS;generalize hm:vV ws=m at*;generalize vq:iV ids qS (fV ids p.next q0).mo=lo at*;have PO:=YC (ids:=ids) (id:=p.next) (sP code vx);have auW:∀j,j∈lo→j∈(fV ids p.next q0).mo:=fun j hj=>by rw[←vq] at hj;exact yA hj
 have aJF:J∉lo:=fun h=>aau (auW J h);have C2:∃zP,Lq ((fV ids p.next q0).pc.ev Φ N) ρ J (p.aa.map (·.1)) (p.aa.map (·.2)) lo zP∧x0=.exit p.out (ρ.put [] [] lo zP):=by
  simp only[PC.ev] at he;cases po:Lr ((fV ids p.next q0).pc.ev Φ N) ρ J (p.aa.map (·.1)) (p.aa.map (·.2)) lo with
  |none=>rw[po] at he;cases he
  |some y=>
   obtain⟨zP,h1,rfl⟩:=wg.1 po;rw[po] at he;simp only[bf] at he;exact⟨zP,h1,he.symm⟩
 obtain⟨zP,⟨CY,atL⟩,hx0⟩:=C2;generalize iO:(ρ.o J).tget 1=es at*
 have iT:∀o,o∈p.ops1.toList→∀d,o.dst=some d→d∈ws:=fun o ho d hd=>by
  rw[←Ip];exact jd _ (sF.2 ⟨o,ho,hd⟩)
 have dz:∀o,o∈p.ops2.toList→∀d,o.dst=some d→d∈ws:=fun o ho d hd=>by
  rw[←Ip];exact jC _ (jC _ (jd _ (sF.2 ⟨o,ho,hd⟩)))
 have hwc:∀d,d∈cm code→d∈ws:=fun d hd=>by
  rw[←Ip];exact jC _ (jC _ (jC _ hd))
 have QD:∀t,t∈ws→wr t:=fun t ht=>gM t (by rw[←Ip] at ht;exact ht);have rN:∀t,t∈ws→aw m t=true:=fun t ht=>by rw[←hm];exact YA ht
 have PL:∀t,aw m t=true→((qS.mask m).st ids).r t=.none:=fun t ht=>by rw[Dt,if_pos ht]
 have au2:∀t,isNone (((qS.mask m).st ids).r t)=false→aw m t=false:=fun t ht=>by
  cases hb:aw m t with
  |false=>rfl
  |true=>rw[PL t hb] at ht;cases ht
 have kc:((qS.mask m).st ids).r p.it=.obj J 0:=by
  rw[Dt,c3c];show cr (qS.rs.getD p.it .none)=_;rw[avD];rfl
 have cF:((qS.mask m).st ids).o J=.it kt et:=Ia;have jr:p.ops1[0]?=some o1:=by rw[←zW,e1];rfl
 have ez:p.ops1[1]?=some o2:=by rw[←zW,e1];rfl
 have ho3:p.ops2[0]?=some o3:=by rw[←zW,e2];rfl
 have avZ:List.range p.ops1.size=[0,1]:=by
  have:p.ops1.size=2:=by rw[←zX,e1];rfl
  rw[this];rfl
 have Ij:List.range p.ops2.size=0::List.range' 1 (p.ops2.size-1):=by
  have:p.ops2.size=l.length+1:=by rw[←zX,e2];rfl
  rw[this,M8,Fz];rfl
 have key:∀(kk:Nat) (done vo:List D) (a':Act) (w':World),SameBut wr a a'→Good C w0 σ0 ((qS.mask m).st ids) ((ρ.put [] [] lo vo).setO J (.tup [.list done,es])) (fun _=>False) a' w'→
  (∀ys,(done++ys).Perm (gO es)→kQ ((fV ids p.next q0).pc.ev Φ N) ρ J es (p.aa.map (·.1)) (p.aa.map (·.2)) lo ys done vo=some zP)→done.length+kk=(gO es).length+1→
  Code.roundsIn (FR rd) 0 C.P (.seq (.region i1 p.ops1 false) (.seq (.cond (.tmp p.mo) .skip (.exit p.out)) (.block p.next (.seq (.region i2 p.ops2 false) code)))) (gp C w0 σ0 ids fn s rm wr a none [(p.out,(qS.mask m).kill ids J)] x0) kk a' w':=by
  intro kk
  induction kk with
  |zero=>
   intro done vo a' w' _ fu _ hlen;exfalso;obtain⟨σ,own,hv,h⟩:=fu;have bp:=h.objs J;rw[cF] at bp;obtain⟨kb,mb,arr,clock,fZ,idx,h1,h2,h3,aJ,h4,h5,h6,h7,h8,h9,nv,rE⟩:=bp;simp only[Env.setO,aW] at h6;injection h6 with h6;injection h6 with va vb;injection vb with vb _;injection va with va;subst va;subst vb;have hle:idx.length≤arr.size:=by
        have:=List.Nodup.length_le_of_subset h7 (l₂:=List.range arr.size) (fun i hi=>cj.2 (h8 i hi));simpa using this
   simp[gk,gO,D.m] at hlen;omega
  |succ kk ih=>
   intro done vo a' w' jP fu aX hlen;rw[roundsIn_succ];obtain⟨σ,own,hv,h⟩:=fu;have bp:=h.objs J;rw[cF] at bp;obtain⟨kb,mb,arr,clock,fZ,idx,h1,h2,h3,aJ,h4,h5,h6,h7,h8,h9,nv,rE⟩:=bp;simp only[Env.setO,aW] at h6;injection h6 with h6;injection h6 with va vb;injection vb with vb _;injection va with va;subst va;subst vb;have ju:=h.regs p.it;rw[kc] at ju;have HU:a'.eval (.tmp p.it)=.pointer (some ⟨kb,0,none⟩):=by
        have:=ju.2 rfl;simp only[Act.eval];rw[this];exact h1
   have qD:a'.tmps.size=n:=jP.size.trans hn;obtain⟨w1,abO,H8⟩:=azt (P:=C.P) h5 h4 nv h8 o1.type;have Dc:Below w'.heap.size w' w1:=by rcases abO with rfl|rfl;exact .refl _ _;exact⟨rfl,rfl,rfl,bk _,fun _ _=>rfl⟩
   have yo:w1.heap=w'.heap:=by rcases abO with rfl|rfl<;>rfl
   have hkl:kb<w'.heap.size:=(h.owns kb J h2).2.1;have rJ:mb<w'.heap.size:=(h.owns mb J h3).2.1;refine wpIn_seq (wpIn_region ?_);rw[avZ];rcases H8 with⟨Pw,ak⟩|⟨i,e,nB,vk,ak⟩
   ·
        refine yU jr g1 (by rw[q1];rfl) (v:=.tuple #[.bool false]) (w':=w1) (by simp only[execOp,q1,HU];simp[ak]) ?_;rw[d1]
        refine yU ez g2 (by rw[q2];rfl) (v:=.bool false) (w':=w1) (by
         have:(a'.put (some p.nx) (.tuple #[.bool false])).eval (.tmp p.nx)=.tuple #[.bool false]:=by simp only[Act.eval];exact yZ (by omega)
         simp only[execOp,q2,this];simp[Instr.extract]) ?_
        rw[d2];simp only[wpOpsIn]
        have vA:SameBut (fun t=>t∈ws) a' ((a'.put (some p.nx) (.tuple #[.bool false])).put (some p.mo) (.bool false)):=by
         have s1:=SameBut.put a' (some p.nx) (.tuple #[.bool false]) a'.defers;have s2:=SameBut.put (a'.put (some p.nx) (.tuple #[.bool false])) (some p.mo) (.bool false) (a'.put (some p.nx) (.tuple #[.bool false])).defers;exact(s1.mono fun t e=>by cases e;exact iT o1 (by rw[e1];simp) _ d1).trans (s2.mono fun t e=>by cases e;exact iT o2 (by rw[e1];simp) _ d2)
        generalize vd:(a'.put (some p.nx) (.tuple #[.bool false])).put (some p.mo) (.bool false)=a1 at vA;have PN:a1.eval (.tmp p.mo)=.bool false:=by
         rw[←vd];simp only[Act.eval];exact yZ (by rw[size_put];omega)
        have ny:a1.defers=a'.defers:=by rw[←vd,put_defers,put_defers]
        refine wpIn_seq (wpIn_cond_false PN (wpIn_exit ?_));have avq:(gk fZ idx++[]).Perm (gO (.map fZ)):=by
         rw[mf];exact ahH h7 (fun i hi=>by rw[h9];exact h8 i hi) (fun i hi=>Pw i (by omega))
        have abN:=aX [] avq;simp only[kQ,bf] at abN;subst abN;refine⟨_,_,hx0,n5,oz.2 rfl,jP.trans (vA.mono QD),?_⟩;refine⟨σ,own,hv,?_⟩
        refine h.step (S':=((qS.mask m).kill ids J).st ids) (ρ':=ρ.put [] [] lo vo) (A':=fun _=>False) (fun j=>j=J) ny (.refl σ) (h.ok.below Dc) (fun _ _ _ hx=>.inl hx) (fun _ _ hx=>.inl hx) (Dc.mono h.below.size) ⟨fun _=>bk _,fun _ _=>rfl⟩
         (fun j hj=>⟨by rw[QP,if_neg hj],by simp[Env.setO,bA _ _ hj],rfl,fun b hb=>⟨hb,by rw[yo]⟩⟩) (fun j hj=>?_) (fun b j hb=>?_) (fun _=>id) (fun t=>?_) (fun _ hf=>hf.elim) (fun b hb _=>by rw[yo]) (fun b j hb=>.inl ⟨j,hb⟩) (fun j hj=>?_)
        ·rw[QP,if_pos hj];trivial
        ·obtain⟨b1,b2,b3,b4⟩:=h.owns b j hb;exact⟨b1,by rw[yo];exact b2,b3,b4⟩
        ·by_cases ht:t∈ws
         ·refine .inr ⟨?_,fun gs s' e=>absurd e (Snap.noOpt _ _ t gs s')⟩;have:(((qS.mask m).kill ids J).st ids).r t=.none:=PL t (rN t ht);rw[this];trivial
         ·exact .inl ⟨rfl,vA.get t ht,rfl⟩
        ·rw[QP,if_pos hj];intro e;cases e
   ·
        obtain⟨pd,P9⟩:∃pd,fZ[i]?=some pd:=⟨_,bH (by rw[h9];exact(fT.1 nB).1)⟩
        obtain⟨bF,ct⟩:=rE i e pd nB P9;generalize yp:({w1 with heap:=w1.heap.setIfInBounds kb (.mapIter (some mb) clock (fR arr (idx++[i])) clock)}:World)=w2 at ak;have abP:w2.heap[kb]?=some (.mapIter (some mb) clock (fR arr (idx++[i])) clock):=by rw[←yp];simp[yo,hkl]
        have yq:∀b,b≠kb→w2.heap[b]?=w'.heap[b]?:=fun b hb=>by rw[←yp];simp only[yo];rw[Xu (xe hb)]
        have aKe:w2.heap.size=w'.heap.size:=by rw[←yp];simp[yo]
        have abQ:w2.heap[mb]?=some (.map arr clock):=by rw[yq mb (xe aJ)];exact h4
        refine yU jr g1 (by rw[q1];rfl) (v:=.tuple #[.bool true,e.key,e.val]) (w':=w2) (by simp only[execOp,q1,HU];simp[ak]) ?_;rw[d1]
        refine yU ez g2 (by rw[q2];rfl) (v:=.bool true) (w':=w2) (by
         have:(a'.put (some p.nx) (.tuple #[.bool true,e.key,e.val])).eval (.tmp p.nx)=.tuple #[.bool true,e.key,e.val]:=by simp only[Act.eval];exact yZ (by omega)
         simp only[execOp,q2,this];simp[Instr.extract]) ?_
        rw[d2];simp only[wpOpsIn]
        have vA:SameBut (fun t=>t∈ws) a' ((a'.put (some p.nx) (.tuple #[.bool true,e.key,e.val])).put (some p.mo) (.bool true)):=by
         have s1:=SameBut.put a' (some p.nx) (.tuple #[.bool true,e.key,e.val]) a'.defers;have s2:=SameBut.put (a'.put (some p.nx) (.tuple #[.bool true,e.key,e.val])) (some p.mo) (.bool true) (a'.put (some p.nx) (.tuple #[.bool true,e.key,e.val])).defers;exact(s1.mono fun t e=>by cases e;exact iT o1 (by rw[e1];simp) _ d1).trans (s2.mono fun t e=>by cases e;exact iT o2 (by rw[e1];simp) _ d2)
        have aba:(((a'.put (some p.nx) (.tuple #[.bool true,e.key,e.val])).put (some p.mo) (.bool true))).eval (.tmp p.it)=.pointer (some ⟨kb,0,none⟩):=by
         simp only[Act.eval] at HU ⊢;rw[Lw n2,Lw n1];exact HU
        generalize vd:(a'.put (some p.nx) (.tuple #[.bool true,e.key,e.val])).put (some p.mo) (.bool true)=a1 at vA aba;have PN:a1.eval (.tmp p.mo)=.bool true:=by
         rw[←vd];simp only[Act.eval];exact yZ (by rw[size_put];omega)
        have ny:a1.defers=a'.defers:=by rw[←vd,put_defers,put_defers]
        refine wpIn_seq (wpIn_cond_true PN (wpIn_skip ?_));refine wpIn_block (wpIn_seq (wpIn_region ?_));rw[Ij];refine yU ho3 g3 (by rw[q3];rfl) (v:=.tuple #[e.key,e.val]) (w':=w2) (by simp only[execOp,q3,aba];simp[ap4 abP abQ nv nB]) ?_;rw[d3]
        have hs3:SameBut (fun t=>t∈ws) a1 (a1.put (some p.pr) (.tuple #[e.key,e.val])):=
         (SameBut.put a1 (some p.pr) (.tuple #[e.key,e.val]) a1.defers).mono fun t e=>by cases e;exact dz o3 (by rw[e2];simp) _ d3
        have abH:a1.tmps.size=n:=vA.size.trans qD;refine agf (kv:=e.key) (vv:=e.val) l [] p.aa 1 _ mF (by rw[e2];rfl) (fun x hx=>by rw[hs3.size,abH];exact avv _ (ej.2 ⟨x,hx,rfl⟩)) (yZ (by rw[abH];exact po)) (fun x hx=>by cases hx) (fun a2 eB cT avo=>?_);have Qk:SameBut (fun t=>t∈ws) a' a2:=(vA.trans hs3).trans (eB.mono fun t ⟨o,ho,hd⟩=>dz o ho t hd);have aui:a2.defers=a'.defers:=by rw[cT,put_defers,ny]
        have avW:Good C w0 σ0 (((qS.mask m).start (p.aa.map (·.1)) (p.aa.map fun x=>bif Nat.beq x.2 0 then kt else et)).st ids) ((ρ.put (p.aa.map (·.1)) ((p.aa.map (·.2)).map (D.tup [pd.1,pd.2]).tget) lo vo).setO J (.tup [.list (gk fZ idx++[.tup [pd.1,pd.2]]),.map fZ])) (fun _=>False) a2 w2:=by
         have Cu:Below w0.heap.size w' w2:=⟨by rw[←yp];exact Dc.os,by rw[←yp];exact Dc.tape,by rw[←yp];exact Dc.output,by omega,fun b hb=>yq b (fun e=>by subst e;have:=(h.owns b J h2).1;omega)⟩
         have jt:σ.ok w2:=by
          refine⟨fun b o v hc=>?_,fun b es hc=>?_⟩
          ·have Pj:b≠kb:=fun e=>by subst e;rw[(h.owns b J h2).2.2.1 o] at hc;cases hc
           have:=h.ok.c b o v hc;simp only[World.cell?] at this ⊢;rw[yq b Pj];exact this
          ·have Pj:b≠kb:=fun e=>by subst e;rw[(h.owns b J h2).2.2.2] at hc;cases hc
           exact(h.ok.m b es hc).keep (yq b Pj)
         have gd:∀j,((ρ.put (p.aa.map (·.1)) ((p.aa.map (·.2)).map (D.tup [pd.1,pd.2]).tget) lo vo).setO J (.tup [.list (gk fZ idx++[.tup [pd.1,pd.2]]),.map fZ])).o j=if j=J then .tup [.list (gk fZ idx++[.tup [pd.1,pd.2]]),.map fZ] else putL ρ.o lo vo j:=fun j=>by
          simp only[Env.setO,fS];rfl
         refine⟨σ,own,hv,h.step (fun j=>j=J) aui (.refl σ) jt (fun _ _ _ hx=>.inl hx) (fun _ _ hx=>.inl hx) Cu ⟨fun _=>bk _,fun _ _=>rfl⟩
          (fun j hj=>⟨rfl,by rw[gd,if_neg hj];simp[Env.setO,bA _ _ hj,Env.put],rfl,fun b hb=>⟨hb,yq b (fun e=>by subst e;rw[h2] at hb;cases hb;exact hj rfl)⟩⟩) (fun j hj=>?_) (fun b j hb=>?_) (fun _=>id) (fun t=>?_) (fun _ hf=>hf.elim)
          (fun b hb ho=>yq b (fun e=>by subst e;rw[h2] at ho;cases ho)) (fun b j hb=>.inl ⟨j,hb⟩) (fun j hj=>?_)⟩
         ·subst hj;have:(((qS.mask m).start (p.aa.map (·.1)) (p.aa.map fun x=>bif Nat.beq x.2 0 then kt else et)).st ids).o j=.it kt et:=Ia;rw[this];refine⟨kb,mb,arr,clock,fZ,idx++[i],h1,h2,h3,aJ,abQ,abP,by rw[gd,if_pos rfl,ahI fZ idx P9],?_,?_,h9,nv,rE⟩
          ·rw[Ae];exact⟨h7,by simp,fun a ha b hb e=>by simp at hb;subst hb;subst e;exact vk ha⟩
          ·intro i' cZ;rcases dj.1 cZ with h|h
           ·exact h8 i' h
           ·simp at h;subst h;exact(fT.1 nB).1
         ·obtain⟨b1,b2,b3,b4⟩:=h.owns b j hb;exact⟨b1,by omega,b3,b4⟩
         ·have hc:Compat ((qS.mask m).st ids) hv (((qS.mask m).start (p.aa.map (·.1)) (p.aa.map fun x=>bif Nat.beq x.2 0 then kt else et)).st ids) hv:=⟨fun _=>bk _,fun _ _=>rfl⟩
          refine .inr ⟨?_,fun gs s' e=>absurd e (Snap.noOpt _ _ t gs s')⟩;show aQ C _ _ σ hv (cr ((qW (p.aa.map (·.1)) (p.aa.map fun x=>bif Nat.beq x.2 0 then kt else et) ((qS.mask m).rs.map rH)).getD t .none)) (a2.tmps.getD t undef) (putL ρ.r (p.aa.map (·.1)) ((p.aa.map (·.2)).map (D.tup [pd.1,pd.2]).tget) t);rcases UL (p.aa.map (·.1)) (p.aa.map fun x=>bif Nat.beq x.2 0 then kt else et) ((qS.mask m).rs.map rH) (by simp) c4 t with e|⟨xB,sQ⟩|⟨i',y,xB,sQ,Oy⟩
          ·rw[e];trivial
          ·rw[sQ,yY _ _ _ _ xB];have e3:((qS.mask m).rs.map rH).getD t .none=rH ((qS.mask m).rs.getD t .none):=by
            simp only[aT,cS];cases(qS.mask m).rs[t]?<;>rfl
           rw[e3];by_cases htw:t∈ws
           ·have yf:=PL t (rN t htw);change cr ((qS.mask m).rs.getD t .none)=.none at yf;generalize (qS.mask m).rs.getD t .none=s' at yf;cases s'<;>simp[cr] at yf<;>trivial
           ·have hr:=h.regs t;change aQ C _ _ σ hv (cr ((qS.mask m).rs.getD t .none)) _ (ρ.r t) at hr;rw[Qk.get t htw];generalize (qS.mask m).rs.getD t .none=s' at hr;cases s' with
            |yv=>trivial
            |opt gs s=>trivial
            |none=>trivial
            |fclo f c=>exact aQ.mono' (.refl σ) hc (fun _ _ e=>by cases e) hr
            |dat t=>exact hr
            |obj j v=>exact aQ.mono' (.refl σ) hc (fun _ _ e=>by cases e) hr
            |ptr j v o=>exact aQ.mono' (.refl σ) hc (fun _ _ e=>by cases e) hr
            |eptr j v o q=>exact aQ.mono' (.refl σ) hc (fun _ _ e=>by cases e) hr
          ·rw[Oy];have auH:i'<p.aa.length:=by have:=(fo.1 xB).1;simpa using this
           rw[Tc _ (p.aa.map (·.1)) _ i' t (mQ c4) (by simp) xB];obtain⟨xa,lM⟩:∃xa,p.aa[i']?=some xa:=⟨_,bH auH⟩
           simp only[cS,lM,jF,bf] at xB sQ;subst xB;subst sQ;rw[avo xa (mh lM)];have hd:((p.aa.map (·.2)).map (D.tup [pd.1,pd.2]).tget).getD i' .none=(D.tup [pd.1,pd.2]).tget xa.2:=by simp[aT,lM]
           rw[hd];have h2x:xa.2≤1:=by
            rcases SO l mF (fun x hx=>by cases hx) xa (mh lM) with h|h
            ·cases h
            ·exact h.1
           rcases(by omega:xa.2=0∨xa.2=1) with e0|e0<;>rw[e0]
           ·exact bF
           ·exact ct
         ·have:(((qS.mask m).start (p.aa.map (·.1)) (p.aa.map fun x=>bif Nat.beq x.2 0 then kt else et)).st ids).o j=.it kt et:=by rw[hj];exact Ia
          rw[this];intro e;cases e
        have avp:=ahI fZ idx P9;obtain⟨rest,tw⟩:∃rest,(gk fZ idx++(D.tup [pd.1,pd.2])::rest).Perm (gO (.map fZ)):=by
         obtain⟨rest,hr⟩:=aB8 (es:=fZ) (idx:=idx++[i]) (by rw[Ae];exact⟨h7,by simp,fun a ha b hb e=>by simp at hb;subst hb;subst e;exact vk ha⟩) (fun i' cZ=>by
          rcases dj.1 cZ with h|h
          ·rw[h9];exact h8 i' h
          ·simp at h;subst h;rw[h9];exact(fT.1 nB).1)
         rw[avp] at hr;exact⟨rest,by simpa using hr⟩
        have jm:=aX _ tw;simp only[kQ] at jm;split at jm
        case h_2=>cases jm
        rename_i ρ2 HG;obtain⟨xi,dA⟩:=YB HG;refine wpIn_mono (ihc rm _ q0 vx rd w0 σ0 wr _ xi a2 w2 gf hC hY (fun t ht=>QD t (hwc t ht)) (Qk.size.trans qD) avW dA) fun ee a3 w3 gd=>?_;have jO:=YD n6 (sP code vx) dA HG gd;have conv:∀ee a3 w3,gp C w0 σ0 ids fn s rm wr a2 (fV ids p.next q0).out (fV ids p.next q0).ex (.next ρ2) ee a3 w3→Exit.then (Code.roundsIn (FR rd) 0 C.P (.seq (.region i1 p.ops1 false) (.seq (.cond (.tmp p.mo) .skip (.exit p.out)) (.block p.next (.seq (.region i2 p.ops2 false) code)))) (gp C w0 σ0 ids fn s rm wr a none [(p.out,(qS.mask m).kill ids J)] x0) kk) (gp C w0 σ0 ids fn s rm wr a none [(p.out,(qS.mask m).kill ids J)] x0) ee a3 w3:=by
         intro ee a3 w3 ho;cases ee with
         |normal=>
          obtain⟨ρ3,T,f1,f2,f3,f4⟩:=ho;cases f1;refine ih (gk fZ idx++[.tup [pd.1,pd.2]]) (lo.map ρ2.o) a3 w3 (jP.trans ((Qk.mono QD).trans f3)) ?_ (fun ys vJ=>?_) (by simp at hlen ⊢;omega)
          ·have rG:Good C w0 σ0 (qS.st ids) ρ2 (fun _=>False) a3 w3:=by
            have:=f4.meet2 (x:=qS)
            rwa [xZ T f2] at this
           obtain⟨σ3,v9,Da,eW⟩:=rG;have Pl:=PC.ev_but _ _ _ ρ2 HG rfl;refine⟨σ3,v9,Da,(eW.maskR m).env (Snap.noOpt _ _) (fun t ht=>?_) (fun j hj=>?_)⟩
           ·have yf:=au2 t ht
            have cO:t∉(fV ids p.next q0).pc.modR:=fun eZ=>by
                 have:=PO.1 t eZ;have h2:aw (Nat.lor m (fV ids p.next q0).mr) t=true:=by rw[eQ,this,m8]
                 rw[CS,yf] at h2;cases h2
            rw[Pl.r t cO]
            have qw:t∉p.aa.map (·.1):=fun ba=>by
                 have:aw m t=true:=by
                  refine rN t ?_;obtain⟨xa,lM,rfl⟩:=ej.1 ba;rcases SO l mF (fun x hx=>by cases hx) xa lM with h|⟨_,o,ho,hd⟩
                  ·cases h
                  ·exact dz o (by rw[e2];exact dk _ ho) _ hd
                 rw[yf] at this;cases this
            show ρ.r t=putL ρ.r (p.aa.map (·.1)) _ t;rw[yY _ _ _ _ qw]
           ·have hjd:nI (dh ids qS.os j)=false:=hj;show bY (putL ρ.o lo (lo.map ρ2.o)) J _ j=ρ2.o j;by_cases yc:j=J
            ·subst yc;rw[aW,Pl.o j (fun eZ=>aau (PO.2 j eZ))];simp[Env.setO,aW]
            ·rw[bA _ _ yc,sc];split
             ·rfl
             ·rename_i fL;have cO:j∉(fV ids p.next q0).pc.modO:=fun eZ=>fL (by rw[←vq];exact dm.2 ⟨PO.2 j eZ,by rw[hjd];rfl⟩);rw[Pl.o j cO];simp only[Env.setO,bA _ _ yc];exact(Td _ _ _ _ fL).symm
          ·have:=aX ((D.tup [pd.1,pd.2])::ys) (by simpa using vJ);simp only[kQ,HG] at this;exact this
         |exit id=>obtain⟨ρ3,T,f1,_⟩:=ho;cases f1
         |ret=>
          cases rm with
          |false=>obtain⟨d,f1,_⟩:=ho;cases f1
          |true=>obtain⟨ρ3,T,f1,_⟩:=ho;cases f1
         |_=>exact ho.elim
        cases ee with
        |exit id=>
         simp only[Exit.inBlock] at jO;show if id=p.next then _ else _;split
         ·rename_i cv;rw[if_pos cv] at jO;exact conv .normal a3 w3 jO
         ·rename_i cv;rw[if_neg cv] at jO;exact conv (.exit id) a3 w3 jO
        |normal=>exact conv .normal a3 w3 jO
        |ret=>exact conv .ret a3 w3 jO
        |panic c=>exact gd.elim
        |goto l=>exact gd.elim
        |_=>exact gd.elim
 have hgq:Good C w0 σ0 (qS.st ids) ρ (fun _=>False) a w:=bI hg;obtain⟨σ,own,hv,h⟩:=hgq;have bp:=h.objs J;have:(qS.st ids).o J=.it kt et:=Ia;rw[this] at bp;obtain⟨kb,mb,arr,clock,fZ,idx,h1,h2,h3,aJ,h4,h5,h6,h7,h8,h9,nv,rE⟩:=bp;have hρJ:ρ.o J=.tup [.list [],es]:=by
  rw[h6] at CY iO;simp[D.tget] at CY iO;rw[h6,CY,←iO]
 have vj:(ρ.put [] [] lo (lo.map ρ.o)).setO J (.tup [.list [],es])=ρ:=by
  rw[Env.put_self];show Env.mk _ _=_;have:bY ρ.o J (.tup [.list [],es])=ρ.o:=by
   funext j;rw[fS];split
   ·rename_i e;rw[e];exact hρJ.symm
   ·rfl
  rw[this]
 exact wpIn_loop_rounds _ (key ((gO es).length+1) [] (lo.map ρ.o) a w (.refl _ _) (by rw[vj];exact⟨σ,own,hv,h.maskR m⟩) (fun ys vJ=>atL ys vJ) (by simp))
theorem aoY {N:Nat}(fp:fU C Φ)(hR:Nd C n ids Φ R):∀(k:Nat) (c:Code),sizeOf c<k→uL C Φ fn s n ids R N c:=by
 intro k;refine Nat.rec (fun c h=>absurd h (Nat.not_lt_zero _)) (fun k IH=>?_) k;intro c hc;cases c with
 |skip=>
  intro rm S r h rd w0 σ0 wr ρ x a w gf hC hY gM hn hg he;simp only[comp,bf] at h;subst h;simp only[PC.ev,bf] at he;subst he;exact wpIn_skip ⟨ρ,S,rfl,rfl,.refl _ _,hg⟩
 |region id ops draw=>
  intro rm S r h rd w0 σ0 wr ρ x a w gf hC hY gM hn hg he;simp only[comp,aG] at h;obtain⟨q,hq,rfl⟩:=h;simp only[PC.ev,aG] at he;obtain⟨ρ',hr,rfl⟩:=he;exact hR id ops draw S q hq rd w0 σ0 ρ ρ' a w _ hC hY hn hg hr (fun a' w' eA fu=>⟨ρ',q.1,rfl,rfl,eA.mono (fun t ⟨o,h1,h2⟩=>gM t (sF.2 ⟨o,h1,h2⟩)),fu⟩)
 |seq c1 c2=>
  have tE:=IH c1 (by simp at hc;omega);have lP:=IH c2 (by simp at hc;omega);intro rm S r h rd w0 σ0 wr ρ x a w gf hC hY gM hn hg he;have iT:∀t,t∈cm c1→wr t:=fun t ht=>gM t (jd _ ht);have dz:∀t,t∈cm c2→wr t:=fun t ht=>gM t (jC _ ht);simp only[comp,az] at h;obtain⟨q,hq,h⟩:=h;split at h
  ·rename_i jN;cases h;refine wpIn_seq (wpIn_mono (tE rm S _ hq rd w0 σ0 wr ρ x a w gf hC hY iT hn hg he) fun e a' w' ho=>?_);cases e with
   |normal=>obtain⟨_,_,_,h2,_⟩:=ho;rw[jN] at h2;cases h2
   |_=>exact ho
  ·rename_i S1 jN;simp only[aG] at h;obtain⟨p,hp,rfl⟩:=h;simp only[PC.ev] at he
   have key:∀x1,q.pc.ev Φ N ρ=some x1→(match some x1 with|some (.next ρ')=>p.pc.ev Φ N ρ'|y=>y)=some x→(Code.seq c1 c2).wpIn (FR rd) 0 C.P (gp C w0 σ0 ids fn s rm wr a p.out (q.ex++p.ex) x) a w:=by
      intro x1 h1 h2;refine wpIn_seq (wpIn_mono (tE rm S _ hq rd w0 σ0 wr ρ x1 a w gf hC hY iT hn hg h1) fun e a' w' ho=>?_);have other:∀{e:Exit},e≠.normal→gp C w0 σ0 ids fn s rm wr a q.out q.ex x1 e a' w'→x1=x→gp C w0 σ0 ids fn s rm wr a p.out (q.ex++p.ex) x e a' w':=by
       intro e aJ ho hx;subst hx;exact ho.mono (fun y hy=>jd _ hy) (.refl _ _) (fun e=>absurd e aJ)
      cases e with
      |normal=>
       obtain⟨ρ1,S2,e1,e2,eB,gq⟩:=ho;subst e1;rw[jN] at e2;cases e2;simp only at h2;refine wpIn_mono (lP rm S1 _ hp rd w0 σ0 wr ρ1 x a' w' gf hC hY dz (eB.size.trans hn) gq h2) fun e a2 w2 ez=>?_;exact ez.mono (fun y hy=>jC _ hy) eB (fun _=>rfl)
      |exit id=>
       refine other (by simp) ho ?_;obtain⟨ρ1,S2,e1,_⟩:=ho;subst e1;simpa using h2
      |ret=>
       refine other (by simp) ho ?_;cases rm with
       |false=>obtain⟨d,e1,_⟩:=ho;subst e1;simpa using h2
       |true=>obtain⟨ρ1,S2,e1,_⟩:=ho;subst e1;simpa using h2
      |_=>exact ho.elim
   cases h1:q.pc.ev Φ N ρ with
   |none=>rw[h1] at he;simp at he
   |some x1=>rw[h1] at he;exact key x1 h1 he
 |cond c c1 c2=>
  have tE:=IH c1 (by simp at hc;omega);have lP:=IH c2 (by simp at hc;omega);intro rm S r h rd w0 σ0 wr ρ x a w gf hC hY gM hn hg he;have iT:∀t,t∈cm c1→wr t:=fun t ht=>gM t (jd _ ht);have dz:∀t,t∈cm c2→wr t:=fun t ht=>gM t (jC _ ht);simp only[comp] at h;split at h
  case h_2=>cases h;exact absurd he (l6 _ _ _ _)
  rename_i e hu;simp only[az,aG] at h;obtain⟨q,hq,p,hp,rfl⟩:=h;have hb:∃b,a.eval c=.bool b∧e.ev ρ=.v (.bool b):=by
   obtain⟨σ,own,hv,hi⟩:=hg;have:=bZ (gs:=[]) hi hC rfl hu;generalize a.eval c=v at this;generalize e.ev ρ=d at this;cases this with|bool b=>exact⟨b,rfl,rfl⟩
  obtain⟨b,jm,dx⟩:=hb;have qu:=sP c1 hq;have CR:=sP c2 hp;have main:∀(o:Option Snap) (lr lo:List Nat) (rx:Res2),rx=⟨.ite e lr lo q.pc p.pc,o,q.ex++p.ex,Nat.lor q.mr p.mr,iZ q.mo p.mo⟩→
        (∀M,o=some M→lr=jU M (Nat.lor q.mr p.mr)∧lo=iV ids M (iZ q.mo p.mo))→
        (∀S1 ρ1 a w,q.out=some S1→Good C w0 σ0 (S1.st ids) ρ1 (fun _=>False) a w→∃M,o=some M∧Good C w0 σ0 (M.st ids) ρ1 (fun _=>False) a w)→
        (∀S1 ρ1 a w,p.out=some S1→Good C w0 σ0 (S1.st ids) ρ1 (fun _=>False) a w→∃M,o=some M∧Good C w0 σ0 (M.st ids) ρ1 (fun _=>False) a w)→
        rx.pc.ev Φ N ρ=some x→(Code.cond c c1 c2).wpIn (FR rd) 0 C.P (gp C w0 σ0 ids fn s rm wr a rx.out rx.ex x) a w:=by
   intro o lr lo rx hrx hl qz mF bN;subst hrx;simp only[PC.ev,dx,D.b_bool] at bN;have fin:∀(ci:Code) (qi:Res2) (xi:Out),(∀y,y∈qi.ex→y∈q.ex++p.ex)→(∀t,t∈qi.pc.modR→aw (Nat.lor q.mr p.mr) t=true)→(∀j,j∈qi.pc.modO→j∈iZ q.mo p.mo)→
    (∀S1 ρ1 a w,qi.out=some S1→Good C w0 σ0 (S1.st ids) ρ1 (fun _=>False) a w→∃M,o=some M∧Good C w0 σ0 (M.st ids) ρ1 (fun _=>False) a w)→
    qi.pc.ev Φ N ρ=some xi→(match some xi with|some (.next ρ')=>some (Out.next (ρ.join lr lo ρ'))|y=>y)=some x→
    ci.wpIn (FR rd) 0 C.P (gp C w0 σ0 ids fn s rm wr a qi.out qi.ex xi) a w→ci.wpIn (FR rd) 0 C.P (gp C w0 σ0 ids fn s rm wr a o (q.ex++p.ex) x) a w:=by
        intro ci qi xi hex hZ qA jN dA hx hwp;refine wpIn_mono hwp fun ee a' w' ho=>?_;have other:ee≠.normal→xi=x→gp C w0 σ0 ids fn s rm wr a o (q.ex++p.ex) x ee a' w':=by
         intro aJ jQ;subst jQ;exact ho.mono hex (.refl _ _) (fun e=>absurd e aJ)
        cases ee with
        |normal=>
         obtain⟨ρ1,S2,e1,e2,eB,gq⟩:=ho;subst e1;simp only[bf] at hx;subst hx;obtain⟨M,hM,rG⟩:=jN S2 ρ1 a' w' e2 gq;obtain⟨l1,l2⟩:=hl M hM;subst l1 l2;exact⟨_,M,rfl,hM,eB,rG.joined (PC.ev_but qi.pc ρ _ ρ1 dA rfl) hZ qA⟩
        |exit id=>
         refine other (by simp) ?_;obtain⟨ρ1,S2,e1,_⟩:=ho;subst e1;simpa using hx
        |ret=>
         refine other (by simp) ?_;cases rm with
         |false=>obtain⟨d,e1,_⟩:=ho;subst e1;simpa using hx
         |true=>obtain⟨ρ1,S2,e1,_⟩:=ho;subst e1;simpa using hx
        |_=>exact ho.elim
   refine wpIn_cond jm ?_;cases b with
   |true=>
    simp only[cond_true] at bN;cases dA:q.pc.ev Φ N ρ with
    |none=>rw[dA] at bN;simp at bN
    |some xi=>
     rw[dA] at bN;refine fin c1 q xi (fun y hy=>jd _ hy) (fun t ht=>?_) (fun j hj=>py.2 (.inl (qu.2 j hj))) qz dA bN (tE rm S _ hq rd w0 σ0 wr ρ xi a w gf hC hY iT hn hg dA);rw[eQ,qu.1 t ht];rfl
   |false=>
    simp only[cond_false] at bN;cases dA:p.pc.ev Φ N ρ with
    |none=>rw[dA] at bN;simp at bN
    |some xi=>
     rw[dA] at bN;refine fin c2 p xi (fun y hy=>jC _ hy) (fun t ht=>?_) (fun j hj=>py.2 (.inr (CR.2 j hj))) mF dA bN (lP rm S _ hp rd w0 σ0 wr ρ xi a w gf hC hY dz hn hg dA);rw[eQ,CR.1 t ht,m8]
  have qz:∀S1 ρ1 a w,q.out=some S1→Good C w0 σ0 (S1.st ids) ρ1 (fun _=>False) a w→∃M,lT q.out p.out=some M∧Good C w0 σ0 (M.st ids) ρ1 (fun _=>False) a w:=by
   intro S1 ρ1 a w e1 g1;rw[e1];obtain⟨M,hM⟩:=@acN S1 p.out;exact⟨M,hM,acL g1 hM⟩
  have mF:∀S1 ρ1 a w,p.out=some S1→Good C w0 σ0 (S1.st ids) ρ1 (fun _=>False) a w→∃M,lT q.out p.out=some M∧Good C w0 σ0 (M.st ids) ρ1 (fun _=>False) a w:=by
   intro S1 ρ1 a w e1 g1;rw[e1];obtain⟨M,hM⟩:=@acO q.out S1;exact⟨M,hM,acM g1 hM⟩
  cases hm:lT q.out p.out with
  |none=>
   rw[hm] at qz mF;simp only[hm] at he ⊢;exact main none [] [] _ rfl (fun M e=>by cases e) qz mF he
  |some M=>
   rw[hm] at qz mF;simp only[hm] at he ⊢;exact main (some M) _ _ _ rfl (fun M' e=>by cases e;exact⟨rfl,rfl⟩) qz mF he
 |block id c1=>
  have tE:=IH c1 (by simp at hc;omega);intro rm S r h rd w0 σ0 wr ρ x a w gf hC hY gM hn hg he;simp only[comp] at h;cases cv:Nat.beq id cB<;>simp only[cv,cond_true,cond_false] at h
  case true=>cases h;exact absurd he (l6 _ _ _ _)
  have HS:id≠cB:=fun e=>by subst e;simp at cv
  simp only[aG] at h;obtain⟨q,hq,rfl⟩:=h;obtain⟨xi,dA⟩:=YB he;exact wpIn_block (wpIn_mono (tE rm S _ hq rd w0 σ0 wr ρ xi a w gf hC hY gM hn hg dA) fun e a' w' gd=>YD HS (sP c1 hq) dA he gd)
 |loop c1=>
  have tE:=IH c1 (by simp at hc;omega);intro rm S r h rd w0 σ0 wr ρ x a w gf hC hY gM hn hg he;rw[ZC] at h;split at h
  ·rename_i qb C3;obtain⟨p,code,ws⟩:=qb;unfold vT at C3;split at C3
   case h_2=>cases C3
   rename_i cx cy ck cz cc;simp only[aG] at C3;obtain⟨p',ba,ep⟩:=C3;cases ep;exact ay3 ba (IH _ (by simp at hc;omega)) h gf hC hY gM hn hg he
  split at h
  case h_2=>cases h;exact absurd he (l6 _ _ _ _)
  rename_i q hq;cases h;obtain⟨hs,xZ,bI⟩:=Dk (C:=C) (w0:=w0) (σ0:=σ0) (ids:=ids) 8 hq;have qu:=sP c1 hs;simp only[PC.ev] at he
  have x9:Good C w0 σ0 (q.1.st ids) (ρ.put (jU q.1 q.2.mr) ((jU q.1 q.2.mr).map ρ.r) (iV ids q.1 q.2.mo) ((iV ids q.1 q.2.mo).map ρ.o)) (fun _=>False) a w:=by
   exact Good.joined (bI hg) (.refl ρ q.2.pc.modR q.2.pc.modO) qu.1 qu.2
  have key:∀(k:Nat) (ρ1:Env) (a':Act) (w:World),SameBut wr a a'→fA (q.2.pc.ev Φ N) ρ (jU q.1 q.2.mr) (iV ids q.1 q.2.mo) k ((jU q.1 q.2.mr).map ρ1.r) ((iV ids q.1 q.2.mo).map ρ1.o)=some x→
        Good C w0 σ0 (q.1.st ids) (ρ.join (jU q.1 q.2.mr) (iV ids q.1 q.2.mo) ρ1) (fun _=>False) a' w→Code.roundsIn (FR rd) 0 C.P c1 (gp C w0 σ0 ids fn s rm wr a none q.2.ex x) k a' w:=by
   intro k
   induction k with
   |zero=>intro ρ1 a' w hn hl hg;simp[fA] at hl
   |succ k ih=>
    intro ρ1 a' w jP hl hg;rw[roundsIn_succ];simp only[fA] at hl;change (match q.2.pc.ev Φ N (ρ.join (jU q.1 q.2.mr) (iV ids q.1 q.2.mo) ρ1) with|some (.next ρ')=>_|y=>y)=some x at hl;cases dA:q.2.pc.ev Φ N (ρ.join (jU q.1 q.2.mr) (iV ids q.1 q.2.mo) ρ1) with
    |none=>rw[dA] at hl;simp at hl
    |some xi=>
     rw[dA] at hl;refine wpIn_mono (tE rm _ _ hs rd w0 σ0 wr _ xi a' w gf hC hY gM (jP.size.trans hn) hg dA) fun e a2 w' gd=>?_;have other:e≠.normal→xi=x→gp C w0 σ0 ids fn s rm wr a none q.2.ex x e a2 w':=by
         intro aJ jQ;subst jQ;exact gd.mono (fun y hy=>hy) jP (fun e=>absurd e aJ)
     cases e with
     |normal=>
      obtain⟨ρ2,S2,e1,e2,eB,gq⟩:=gd;subst e1;simp only at hl;refine ih ρ2 a2 w' (jP.trans eB) hl ?_
      have rG:Good C w0 σ0 (q.1.st ids) ρ2 (fun _=>False) a2 w':=by
       have:=gq.meet2 (x:=q.1)
       rwa [xZ S2 e2] at this
      refine rG.joined (mr':=jU q.1 q.2.mr++q.2.pc.modR) (mo':=iV ids q.1 q.2.mo++q.2.pc.modO) ?_ (fun t ht=>?_) (fun j hj=>?_)
      ·exact((Env.but.join ρ ρ1 _ _).mono (fun t ht=>jd _ ht) (fun t ht=>jd _ ht)).trans
        ((PC.ev_but q.2.pc _ _ ρ2 dA rfl).mono (fun t ht=>jC _ ht) (fun t ht=>jC _ ht))
      ·exact(dj.1 ht).elim IE (qu.1 t)
      ·exact(dj.1 hj).elim yA (qu.2 j)
     |exit id=>
      refine other (by simp) ?_;obtain⟨ρ1,S2,e1,_⟩:=gd;subst e1;simpa using hl
     |ret=>
      refine other (by simp) ?_;cases rm with
      |false=>obtain⟨d,e1,_⟩:=gd;subst e1;simpa using hl
      |true=>obtain⟨ρ1,S2,e1,_⟩:=gd;subst e1;simpa using hl
     |_=>exact gd.elim
  exact wpIn_loop_rounds N (key N ρ a w (.refl _ _) he x9)
 |exit id=>
  intro rm S r h rd w0 σ0 wr ρ x a w gf hC hY gM hn hg he;simp only[comp] at h;cases cv:Nat.beq id cB<;>simp only[cv,cond_true,cond_false] at h
  case true=>cases h;exact absurd he (l6 _ _ _ _)
  cases h;simp only[PC.ev,bf] at he;subst he;exact wpIn_exit ⟨ρ,S,rfl,fun e=>by subst e;simp at cv,by simp,.refl _ _,hg⟩
 |ret=>
  intro rm S r h rd w0 σ0 wr ρ x a w gf hC hY gM hn hg he;simp only[comp] at h;cases rm<;>simp only[cond_true,cond_false] at h
  case true=>
   cases h;simp only[PC.ev,bf] at he;subst he;exact wpIn_ret ⟨ρ,S,rfl,by simp,.refl _ _,hg⟩
  split at h
  ·rename_i e Qi;cases h;simp only[PC.ev,bf] at he;subst he;obtain⟨σ,own,hv,hi⟩:=hg;exact wpIn_ret ⟨_,rfl,Inv.retD hC (fun _=>rfl) (gf rfl).2 Qi _ hi rfl,.refl _ _⟩
  ·cases h;exact absurd he (l6 _ _ _ _)
 |rangeFunc g ps ca cb=>exact aBi fp (IH ca (by simp at hc;omega)) (IH cb (by simp at hc;omega))
 |_=>intro rm S r h rd w0 σ0 wr ρ x a w gf hC hY gM hn hg he;simp only[comp,bf] at h;subst h;exact absurd he (l6 _ _ _ _)
theorem aoX {N:Nat}(fp:fU C Φ)(hR:Nd C n ids Φ R)(c:Code):uL C Φ fn s n ids R N c:=aoY fp hR _ c (Nat.lt_succ_self _)
end
end Cx
