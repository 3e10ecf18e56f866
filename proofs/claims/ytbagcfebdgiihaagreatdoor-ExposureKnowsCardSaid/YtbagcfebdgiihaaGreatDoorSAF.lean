/-
  Code: sequences, choices, blocks, loops.
-/
import Derived.LoopNIn
import Derived.Test.YtbagcfebdgiihaaGreatDoorSAE
import Derived.LoopN
set_option linter.unusedSimpArgs false
set_option linter.unusedVariables false
namespace Cx
open Go Go.RowKit
def aO (m t:Nat):Bool:= !Nat.beq (Nat.land 1 (Nat.shiftRight m t)) 0
theorem uc (m t:Nat):aO m t=m.testBit t:=by
 unfold aO Nat.testBit;show(!Nat.beq (1&&& (m>>>t)) 0)=((1&&& (m>>>t))!=0)
 generalize 1&&& (m>>>t)=x;cases x<;>rfl
def fU (t:Nat):Nat:=Nat.shiftLeft 1 t
theorem oR (t:Nat):aO (fU t) t=true:=by
 rw[uc];show(1<<<t).testBit t=true;simp[Nat.testBit_shiftLeft]
theorem fC (m k t:Nat):aO (Nat.lor m k) t=(aO m t||aO k t):=by
 simp only[uc];exact Nat.testBit_or m k t
def PI.mask:PI→Nat
 |.setR t _=>fU t|.call _ t _ _=>fU t|.callc _ t _ _=>fU t|_=>0
def Ho:List PI→Nat
 |[]=>0
 |p::l=>Nat.lor p.mask (Ho l)
def PI.objs:PI→List Nat
 |.setO j _=>[j]|.mcall j _ _=>[j]|_=>[]
def eJ (l:List Nat)(x:Nat):Bool:=l.any (Nat.beq x)
def ic (a b:List Nat):List Nat:=a.foldl (fun acc x=>bif eJ acc x then acc else x::acc) b
def XN (l:List PI):List Nat:=l.foldl (fun acc p=>ic p.objs acc) []
theorem nX (l:List Nat)(x:Nat):eJ l x=true↔x∈l:=by
 unfold eJ;rw[zZ];constructor
 ·rintro⟨y,hy,h⟩;rw[aw h];exact hy
 ·intro h;exact⟨x,h,jC x⟩
theorem nY {x:Nat}:∀{a b:List Nat},x∈ic a b↔x∈a∨x∈b
 |[],b=>by simp[ic]
 |y::a,b=>by
  have ih:=@nY x a (bif eJ b y then b else y::b);have e:ic (y::a) b=ic a (bif eJ b y then b else y::b):=rfl;rw[e,ih];cases hb:eJ b y
  ·simp[or_assoc,or_left_comm]
  ·have:=(nX b y).1 hb;simp only[cond_true,cG];constructor
   ·rintro(h|h)
    ·exact .inl (.inr h)
    ·exact .inr h
   ·rintro((h|h)|h)
    ·subst h;exact .inr this
    ·exact .inl h
    ·exact .inr h
theorem aml {x:Nat}(l:List PI)(h:x∈l.flatMap PI.modO):x∈XN l:=by
 have key:∀(l:List PI) (acc:List Nat),(x∈l.flatMap PI.modO∨x∈acc)→x∈l.foldl (fun acc p=>ic p.objs acc) acc:=by
  intro l
  induction l with
  |nil=>intro acc h;simpa using h
  |cons p l ih=>
   intro acc h;refine ih _ ?_;rw[z8,dg] at h;rcases h with(h|h)|h
   ·refine .inr (nY.2 (.inl ?_));cases p<;>simp_all [PI.modO,PI.objs]
   ·exact .inl h
   ·exact .inr (nY.2 (.inr h))
 exact key l [] (.inl h)
theorem Xp {t:Nat}:∀(l:List PI),t∈l.flatMap PI.modR→aO (Ho l) t=true
 |[],h=>by simp at h
 |p::l,h=>by
  rw[z8,dg] at h;simp only[Ho,fC,jy];rcases h with h|h
  ·left;cases p<;>simp[PI.modR] at h<;>subst h<;>exact oR _
  ·exact .inr (Xp l h)
structure Res2 where
 pc:PC
 out:Option Snap
 ex:List (Nat×Snap)
 mr:Nat
 mo:List Nat
 deriving Inhabited
def kT:Option Snap→Option Snap→Option Snap
 |none,x=>x
 |x,none=>x
 |some a,some b=>some (a.meet b)
def mN (id:Nat):List (Nat×Snap)→Option Snap→Option Snap
 |[],acc=>acc
 |x::l,acc=>mN id l (bif Nat.beq x.1 id then kT acc (some x.2) else acc)
def iter (step:Snap→Option Res2):Nat→Snap→Option (Snap×Res2)
 |0,_=>none
 |k+1,S=>(step S).bind fun r=>
  match r.out with
  |none=>some (S,r)
  |some T=>bif (S.meet T).beq S then some (S,r) else iter step k (S.meet T)
def jr (S:Snap)(m:Nat):List Nat:=(List.range S.rs.length).filter fun t=>aO m t&& !isNone (ct (S.rs.getD t .none))
def gY (ids:List Nat)(S:Snap)(l:List Nat):List Nat:=l.filter fun j=> !mL (cW ids S.os j)
def fQ:Res2:=⟨.is [DV],none,[],0,[]⟩
theorem ld (Φ:aJ)(N:Nat)(ρ:Env)(x:Out):fQ.pc.ev Φ N ρ≠some x:=by
 intro h;simp[fQ,PC.ev,PI.runs,PI.run,DV,PE.ev,D.b_bool] at h
theorem lf:(∀t,t∈fQ.pc.modR→aO fQ.mr t=true)∧∀j,j∈fQ.pc.modO→j∈fQ.mo:=by
 constructor<;>intro t h<;>simp[fQ,PC.modR,PC.modO,PI.modR,PI.modO,DV] at h
def cm:Code→List Nat
 |.region _ ops _=>ops.toList.filterMap (·.dst)
 |.seq a b=>cm a++cm b
 |.cond _ a b=>cm a++cm b
 |.block _ a=>cm a
 |.loop a=>cm a
 |_=>[]
def vy (l:List Nat):Nat:=l.foldr (fun t m=>Nat.lor (fU t) m) 0
def rh (m:Nat):Nat→List Sh→List Sh
 |_,[]=>[]
 |t,s::l=>(bif aO m t then .none else s)::rh m (t+1) l
def Snap.mask (m:Nat)(S:Snap):Snap:=⟨rh m 0 S.rs,S.os⟩
def qW:Sh→Sh
 |.yv=>.none
 |s=>s
def p7:List Nat→List Ty→List Sh→List Sh
 |p::ps,y::ys,l=>p7 ps ys (l.set p (.dat y))
 |_,_,l=>l
def Snap.start (ps:List Nat)(ys:List Ty)(S:Snap):Snap:=⟨p7 ps ys (S.rs.map qW),S.os⟩
def Xi (ids:List Nat)(l:List Snap)(mo:List Nat):List Nat:=mo.filter fun j=>l.any fun S=> !mL (cW ids S.os j)
def aoI (wm:Nat)(ra rb:Res2):Res2:=
 let m:=Nat.lor wm (Nat.lor ra.mr rb.mr)
 ⟨.seq ra.pc rb.pc,rb.out.map (Snap.mask m),rb.ex.map (fun x=>(x.1,x.2.mask m)),m,ic ra.mo rb.mo⟩
def fD (ids:List Nat)(id:Nat)(r:Res2):Res2:=
    match mN id r.ex r.out with
    |some M=>⟨.block id (jr M r.mr) (gY ids M r.mo) r.pc,some M,r.ex.filter fun x=> !Nat.beq x.1 id,r.mr,r.mo⟩
    |none=>⟨.block id [] [] r.pc,none,r.ex.filter fun x=> !Nat.beq x.1 id,r.mr,r.mo⟩
def sT:List (Nat×Nat)→Nat→Option Nat
 |[],_=>none
 |x::l,t=>bif Nat.beq x.1 t then some x.2 else sT l t
def jT (pr:Nat):List Oper→List (Nat×Nat)→Option (List (Nat×Nat))
 |[],acc=>some acc
 |o::l,acc=>
  match o.dst,o.guard with
  |some d,none=>
   bif Nat.beq d pr||(sT acc d).isSome then none else
   match o.op with
   |.extract (.tmp t) i=>bif Nat.beq t pr&&Nat.ble i 1 then jT pr l (acc++[(d,i)]) else none
   |.assign (.tmp t)=>(sT acc t).bind fun i=>jT pr l (acc++[(d,i)])
   |.move (.tmp t)=>(sT acc t).bind fun i=>jT pr l (acc++[(d,i)])
   |_=>none
  |_,_=>none
structure MP where
 it:Nat
 nx:Nat
 mo:Nat
 out:Nat
 next:Nat
 pr:Nat
 ops1:Array Oper
 ops2:Array Oper
 aa:List (Nat×Nat)
 deriving Inhabited
def yU (x y:Code)(k:Nat)(z:Code):Option MP:=
 match x,y,z with
 |.region _ ops1 false,.cond (.tmp mo) .skip (.exit out),.region _ ops2 false=>
  match ops1.toList,ops2.toList with
  |[o1,o2],o3::l=>
   match o1.dst,o1.guard,o1.op,o2.dst,o2.guard,o2.op,o3.dst,o3.guard,o3.op with
   |some nx,none,.next (.tmp it) false,some mo',none,.extract (.tmp XK) 0,some pr,none,.entry (.tmp WE)=>
    bif Nat.beq mo mo'&&Nat.beq nx XK&&Nat.beq it WE&& !Nat.beq it nx&& !Nat.beq it mo&& !Nat.beq it pr&& !Nat.beq nx mo&& !Nat.beq out cD&& !Nat.beq k cD then
     (jT pr l []).map fun aa=>⟨it,nx,mo,out,k,pr,ops1,ops2,aa⟩
    else none
   |_,_,_,_,_,_,_,_,_=>none
  |_,_=>none
 |_,_,_=>none
def vl:List Nat→Nat→List Ob→List Ob
 |i::is,J,o::os=>(bif Nat.beq i J then .dead else o)::vl is J os
 |_,_,os=>os
def Snap.kill (ids:List Nat)(J:Nat)(S:Snap):Snap:=⟨S.rs,vl ids J S.os⟩
def WB (J:Nat)(kt et:Ty)(ids:List Nat)(p:MP)(m:Nat)(S:Snap):Bool:=
 Sh.beq (S.rs.getD p.it .none) (.obj J 0)&&Ob.beq (cW ids S.os J) (.it kt et)&& !aO m p.it
def yV (ids:List Nat)(n:Nat)(p:MP)(ws:List Nat)(f:Snap→Option Res2)(S:Snap):Option Res2:=
 match ct (S.rs.getD p.it .none) with
 |.obj J 0=>
  match cW ids S.os J with
  |.it kt et=>
   let ps:=p.aa.map (·.1)
   let ys:=p.aa.map fun x=>bif Nat.beq x.2 0 then kt else et
   let m:=vy ws
   match iter (fun S=>(f ((S.mask m).start ps ys)).map (fD ids p.next)) 8 S with
   |some r=>
    bif r.2.ex.isEmpty&& !eJ r.2.mo J&&WB J kt et ids p m r.1&&iS ps&&ps.all (fun t=>Nat.blt t n)&&Nat.blt p.nx n&&Nat.blt p.mo n&&Nat.blt p.pr n&&Nat.beq (Nat.lor m r.2.mr) m then
       some ⟨.seq (.meach J ps (p.aa.map (·.2)) (gY ids r.1 r.2.mo) r.2.pc) (.exit p.out),none,[(p.out,(r.1.mask m).kill ids J)],0,r.2.mo⟩
    else some fQ
   |none=>some fQ
  |_=>some fQ
 |_=>some fQ
def comp (C:Ctx)(fn:Func)(s:Sig)(n:Nat)(ids:List Nat)(R:Array Oper→Bool→Snap→Option (Snap×List PI)):Bool→Code→Snap→Option Res2
 |_,.skip,S=>some ⟨.skip,some S,[],0,[]⟩
 |_,.region _ ops draw,S=>(R ops draw S).map fun r=>⟨.is r.2,some r.1,[],Ho r.2,XN r.2⟩
 |rm,.seq a b,S=>(comp C fn s n ids R rm a S).bind fun r=>
  match r.out with
  |none=>some r
  |some S1=>(comp C fn s n ids R rm b S1).map fun q=>⟨.seq r.pc q.pc,q.out,r.ex++q.ex,Nat.lor r.mr q.mr,ic r.mo q.mo⟩
 |rm,.cond c a b,S=>
  match use C (S.st ids) [] c with
  |some (.bool,e)=>
   (comp C fn s n ids R rm a S).bind fun r=>(comp C fn s n ids R rm b S).map fun q=>
     match kT r.out q.out with
     |some M=>⟨.ite e (jr M (Nat.lor r.mr q.mr)) (gY ids M (ic r.mo q.mo)) r.pc q.pc,some M,r.ex++q.ex,Nat.lor r.mr q.mr,ic r.mo q.mo⟩
     |none=>⟨.ite e [] [] r.pc q.pc,none,r.ex++q.ex,Nat.lor r.mr q.mr,ic r.mo q.mo⟩
  |_=>some fQ
 |rm,.block id a,S=>bif Nat.beq id cD then some fQ else(comp C fn s n ids R rm a S).map (fD ids id)
 |rm,.loop (.seq x (.seq y (.block k (.seq z code)))),S=>
  (match yU x y k z with
  |some p=>yV ids n p (cm x++(cm y++(cm z++cm code))) (fun S=>comp C fn s n ids R rm code S) S
  |none=>
  match iter (fun S=>comp C fn s n ids R rm (.seq x (.seq y (.block k (.seq z code)))) S) 8 S with
  |some r=>some ⟨.loop (jr r.1 r.2.mr) (gY ids r.1 r.2.mo) r.2.pc,none,r.2.ex,r.2.mr,r.2.mo⟩
  |none=>some fQ)
 |rm,.loop a,S=>
  match iter (fun S=>comp C fn s n ids R rm a S) 8 S with
  |some r=>some ⟨.loop (jr r.1 r.2.mr) (gY ids r.1 r.2.mo) r.2.pc,none,r.2.ex,r.2.mr,r.2.mo⟩
  |none=>some fQ
 |_,.exit id,S=>bif Nat.beq id cD then some fQ else some ⟨.exit id,none,[(id,S)],0,[]⟩
 |rm,.ret,S=>
  bif rm then some ⟨.exit cD,none,[(cD,S)],0,[]⟩ else
  match we C fn s (S.st ids) with
  |some e=>some ⟨.ret e,none,[],0,[]⟩
  |none=>some fQ
 |rm,.rangeFunc g ps a b,S=>
  match rm,C.yl,use C (S.st ids) [] g with
  |false,none,some (.fn aa r,e)=>
   match lW aa r with
   |some ys=>
    match iter (fun S=>(comp C fn s n ids R true a (S.start ps.toList ys)).bind fun ra=>
          match ra.out,ra.ex with
          |some S1,[]=>(comp C fn s n ids R true b S1).map (aoI (vy (ps.toList++cm a++cm b)) ra)
          |_,_=>none) 8 S with
    |some r=>
     bif Nat.beq ys.length ps.size&&iS ps.toList&&ps.toList.all (fun p=>Nat.blt p n)&&Nat.ble r.1.rs.length n then
           some ⟨.seq (.is [.callc [] n e []]) (.each (.r n) ps.toList (Xi ids (r.1::r.2.ex.map (·.2)) r.2.mo) ((mN cD r.2.ex none).bind fun M=>we C fn s (M.st ids)) r.2.pc),
            some r.1,r.2.ex.filter (fun x=> !Nat.beq x.1 cD),fU n,r.2.mo⟩
     else some fQ
    |none=>some fQ
   |none=>some fQ
  |_,_,_=>some fQ
 |_,_,_=>some fQ
termination_by structural _ c=>c
def vw:Code→Option (MP×Code×List Nat)
 |.seq x (.seq y (.block k (.seq z code)))=>(yU x y k z).map fun p=>(p,code,cm x++(cm y++(cm z++cm code)))
 |_=>none
theorem Ua (C:Ctx)(fn:Func)(s:Sig)(n:Nat)(ids:List Nat)(R:Array Oper→Bool→Snap→Option (Snap×List PI))(rm:Bool)(a:Code)(S:Snap):comp C fn s n ids R rm (.loop a) S=
 match vw a with
 |some q=>yV ids n q.1 q.2.2 (fun S=>comp C fn s n ids R rm q.2.1 S) S
 |none=>
  match iter (fun S=>comp C fn s n ids R rm a S) 8 S with
  |some r=>some ⟨.loop (jr r.1 r.2.mr) (gY ids r.1 r.2.mo) r.2.pc,none,r.2.ex,r.2.mr,r.2.mo⟩
  |none=>some fQ:=by
 by_cases h:∃x y k z code,a=.seq x (.seq y (.block k (.seq z code)))
 ·obtain⟨x,y,k,z,code,rfl⟩:=h
  conv=>lhs;unfold comp
  simp only[vw];cases yU x y k z<;>rfl
 ·have e:vw a=none:=by
   unfold vw;split
   ·rename_i x y k z code;exact absurd ⟨x,y,k,z,code,rfl⟩ h
   ·rfl
  rw[e];rw[comp];intro x y k z code e;exact h ⟨x,y,k,z,code,e⟩
def subs:Code→List Code
 |.seq a b=>.seq a b::(subs a++subs b)
 |.cond c a b=>.cond c a b::(subs a++subs b)
 |.block i a=>.block i a::subs a
 |.loop a=>.loop a::subs a
 |.rangeFunc g ps a b=>.rangeFunc g ps a b::(subs a++subs b)
 |c=>[c]
theorem apq (c:Code):c∈subs c:=by cases c<;>simp[subs]
theorem axN {a code:Code}{p:MP}{ws:List Nat}(h:vw a=some (p,code,ws)):code∈subs a:=by
 unfold vw at h;split at h
 ·simp only[ax] at h;obtain⟨q,_,e⟩:=h;cases e;simp[subs,apq]
 ·cases h
def JN (C:Ctx)(n:Nat)(ids:List Nat)(Φ:aJ)(R:Array Oper→Bool→Snap→Option (Snap×List PI)):Prop:=
 ∀(id:Nat) (ops:Array Oper) (draw:Bool) (S:Snap) (r:Snap×List PI),R ops draw S=some r→
  ∀(rd:Option Nat) (w0:World) (σ0:Base) (ρ ρ':Env) (a:Act) (w:World) (Q:Exit→Act→World→Prop),CtxOK C σ0→qn C Φ w0 σ0→a.tmps.size=n→Good C w0 σ0 (S.st ids) ρ (fun _=>False) a w→PI.runs Φ r.2 ρ=some ρ'→
   (∀a' w',SameBut (xO ops) a a'→Good C w0 σ0 (r.1.st ids) ρ' (fun _=>False) a' w'→Q .normal a' w')→(Code.region id ops draw).wpIn (FR rd) 0 C.P Q a w
section
variable {C:Ctx} {ρ ρ':Env} {σ:Im} {own:Nat→Option Nat} {hv:Nat→Value} {w0:World} {σ0:Base} {A:Nat→Prop} {a:Act} {w:World} {Φ:aJ} {n:Nat} {ids:List Nat} {fn:Func} {s:Sig}
 {R:Array Oper→Bool→Snap→Option (Snap×List PI)}
def fS (C:Ctx)(w0:World)(σ0:Base)(ids:List Nat)(fn:Func)(s:Sig)(rm:Bool)(wr:Nat→Prop)(a0:Act)(out:Option Snap)(ex:List (Nat×Snap))(x:Out):Exit→Act→World→Prop
 |.normal,a,w=>∃ρ S,x=.next ρ∧out=some S∧SameBut wr a0 a∧Good C w0 σ0 (S.st ids) ρ (fun _=>False) a w
 |.exit id,a,w=>∃ρ S,x=.exit id ρ∧id≠cD∧(id,S)∈ex∧SameBut wr a0 a∧Good C w0 σ0 (S.st ids) ρ (fun _=>False) a w
 |.ret,a,w=>match rm with
  |false=>∃d,x=.ret d∧oM C w0 σ0 fn s d a.tmps a.defers w∧SameBut wr a0 a
  |true=>∃ρ S,x=.exit cD ρ∧(cD,S)∈ex∧SameBut wr a0 a∧Good C w0 σ0 (S.st ids) ρ (fun _=>False) a w
 |_,_,_=>False
theorem Good.meet1 {x y:Snap}(h:Good C w0 σ0 (x.st ids) ρ A a w):Good C w0 σ0 ((x.meet y).st ids) ρ (fun _=>False) a w:=by
 obtain⟨σ,own,hv,h⟩:=h;exact⟨σ,own,hv,Snap.meet_ok1 h⟩
theorem Good.meet2 {x y:Snap}(h:Good C w0 σ0 (y.st ids) ρ A a w):Good C w0 σ0 ((x.meet y).st ids) ρ (fun _=>False) a w:=by
 obtain⟨σ,own,hv,h⟩:=h;exact⟨σ,own,hv,Snap.meet_ok2 h⟩
theorem Xw {x:Snap}{y:Option Snap}{M:Snap}(h:Good C w0 σ0 (x.st ids) ρ (fun _=>False) a w)(hm:kT (some x) y=some M):Good C w0 σ0 (M.st ids) ρ (fun _=>False) a w:=by
 cases y<;>simp[kT] at hm<;>subst hm
 ·exact h
 ·exact h.meet1
theorem Xx {x:Option Snap}{y:Snap}{M:Snap}(h:Good C w0 σ0 (y.st ids) ρ (fun _=>False) a w)(hm:kT x (some y)=some M):Good C w0 σ0 (M.st ids) ρ (fun _=>False) a w:=by
 cases x<;>simp[kT] at hm<;>subst hm
 ·exact h
 ·exact h.meet2
theorem Xy {x:Snap}{y:Option Snap}:∃M,kT (some x) y=some M:=by cases y<;>simp[kT]
theorem Xz {x:Option Snap}{y:Snap}:∃M,kT x (some y)=some M:=by cases x<;>simp[kT]
theorem Hp {id:Nat}:∀(l:List (Nat×Snap)) {x:Snap},Good C w0 σ0 (x.st ids) ρ (fun _=>False) a w→∃M,mN id l (some x)=some M∧Good C w0 σ0 (M.st ids) ρ (fun _=>False) a w
 |[],x,h=>⟨x,rfl,h⟩
 |y::l,x,h=>by
  simp only[mN];cases Nat.beq y.1 id
  ·exact Hp l h
  ·obtain⟨M,hM⟩:=@Xy x (some y.2);simp only[cond_true,hM];exact Hp l (Xw h hM)
theorem Ny {id:Nat}{S:Snap}(h:Good C w0 σ0 (S.st ids) ρ (fun _=>False) a w):∀(l:List (Nat×Snap)) (x:Option Snap),(id,S)∈l→∃M,mN id l x=some M∧Good C w0 σ0 (M.st ids) ρ (fun _=>False) a w
 |y::l,x,hm=>by
  simp only[mN];rcases cG.1 hm with e|hm
  ·subst e;simp only[jC,cond_true];obtain⟨M,hM⟩:=@Xz x S;rw[hM];exact Hp l (Xx h hM)
  ·exact Ny h l _ hm
theorem Cr {step:Snap→Option Res2}:∀(k:Nat) {S:Snap} {r:Snap×Res2},iter step k S=some r→
 step r.1=some r.2∧(∀T,r.2.out=some T→r.1.meet T=r.1)∧∀{ρ:Env} {a:Act} {w:World},Good C w0 σ0 (S.st ids) ρ (fun _=>False) a w→Good C w0 σ0 (r.1.st ids) ρ (fun _=>False) a w
 |0,S,r,h=>by simp[iter] at h
 |k+1,S,r,h=>by
  simp only[iter,ar] at h;obtain⟨q,hq,h⟩:=h;split at h
  ·rename_i ho;cases h;exact⟨hq,fun T hT=>by simp[ho] at hT,fun g=>g⟩
  ·rename_i T ho;cases hb:(S.meet T).beq S<;>simp only[hb,cond_true,cond_false] at h
   ·obtain⟨h1,h2,h3⟩:=Cr k h;exact⟨h1,h2,fun g=>h3 g.meet1⟩
   ·cases h;refine⟨hq,fun T' hT=>?_,fun g=>g⟩;simp only[ho,aT] at hT;subst hT;exact Snap.beq_eq _ _ hb
theorem WG {step:Snap→Option Res2}{hv:Nat→Value}:∀(k:Nat) {S:Snap} {r:Snap×Res2},iter step k S=some r→Inv C (S.st ids) ρ σ own hv w0 σ0 (fun _=>False) a w→Inv C (r.1.st ids) ρ σ own hv w0 σ0 (fun _=>False) a w
 |0,S,r,h,_=>by simp[iter] at h
 |k+1,S,r,h,i=>by
  simp only[iter,ar] at h;obtain⟨q,hq,h⟩:=h;split at h
  ·cases h;exact i
  ·rename_i T ho;cases hb:(S.meet T).beq S<;>simp only[hb,cond_true,cond_false] at h
   ·exact WG k h (Snap.meet_ok1 i)
   ·cases h;exact i
theorem Good.joined {M:Snap}{m:Nat}{mo mr' mo':List Nat}(h:Good C w0 σ0 (M.st ids) ρ' (fun _=>False) a w)(hb:ρ.but ρ' mr' mo')(h1:∀t,t∈mr'→aO m t=true)(h2:∀j,j∈mo'→j∈mo):
 Good C w0 σ0 (M.st ids) (ρ.join (jr M m) (gY ids M mo) ρ') (fun _=>False) a w:=by
 obtain⟨σ,own,hv,h⟩:=h;refine⟨σ,own,hv,h.env (Snap.noOpt _ _) (fun t ht=>?_) (fun j hj=>?_)⟩
 ·simp only[Env.join,Env.put,rq];split
  ·rfl
  ·rename_i hm;refine(hb.r t fun BW=>hm ?_).symm;have af:t<M.rs.length:=by
        refine S9 fun hle=>?_;simp only[Snap.st,aI,ls hle,Option.getD_none,ct,isNone] at ht;cases ht
   exact eO.2 ⟨gf.2 af,by rw[h1 t BW];simpa [Snap.st] using ht⟩
 ·simp only[Env.join,Env.put,rq];split
  ·rfl
  ·rename_i hm;refine(hb.o j fun BW=>hm ?_).symm;exact eO.2 ⟨h2 j BW,by simpa [Snap.st] using hj⟩
theorem Hq {S:Snap}{m t:Nat}(h:t∈jr S m):aO m t=true:=by
 have:=(eO.1 h).2;simp only[aq] at this;exact this.1
theorem yX {S:Snap}{l:List Nat}{j:Nat}(h:j∈gY ids S l):j∈l:=(eO.1 h).1
theorem TI {id:Nat}{q:Res2}(h:(∀t,t∈q.pc.modR→aO q.mr t=true)∧∀j,j∈q.pc.modO→j∈q.mo):(∀t,t∈(fD ids id q).pc.modR→aO (fD ids id q).mr t=true)∧∀j,j∈(fD ids id q).pc.modO→j∈(fD ids id q).mo:=by
 unfold fD;cases hm:mN id q.ex q.out<;>simp only
 ·simpa [PC.modR,PC.modO] using h
 ·refine⟨fun t ht=>?_,fun j hj=>?_⟩
  ·simp only[PC.modR,dg] at ht;exact ht.elim Hq (h.1 t)
  ·simp only[PC.modO,dg] at hj;exact hj.elim yX (h.2 j)
theorem amb {p:MP}{ws:List Nat}{f:Snap→Option Res2}{S:Snap}{r:Res2}(h:yV ids n p ws f S=some r):(∀t,t∈r.pc.modR→aO r.mr t=true)∧∀j,j∈r.pc.modO→j∈r.mo:=by
 unfold yV at h;split at h
 case h_2=>cases h;exact lf
 split at h
 case h_2=>cases h;exact lf
 simp only at h;split at h
 case h_2=>cases h;exact lf
 rw[ng] at h;split at h
 ·cases h;refine⟨fun t ht=>by simp[PC.modR] at ht,fun j hj=>?_⟩;simp only[PC.modO,rL] at hj;exact yX hj
 ·cases h;exact lf
theorem rW:∀(c:Code) {rm:Bool} {S:Snap} {r:Res2},comp C fn s n ids R rm c S=some r→(∀t,t∈r.pc.modR→aO r.mr t=true)∧∀j,j∈r.pc.modO→j∈r.mo:=by
 intro c
 induction c with
 |skip=>intro rm S r h;simp only[comp,aT] at h;subst h;simp[PC.modR,PC.modO]
 |region id ops draw=>
  intro rm S r h;simp only[comp,ax] at h;obtain⟨q,_,rfl⟩:=h;exact⟨fun t ht=>Xp _ ht,fun j hj=>aml _ hj⟩
 |seq x y gW vi=>
  intro rm S r h;simp only[comp,ar] at h;obtain⟨q,hq,h⟩:=h;split at h
  ·cases h;exact gW hq
  ·simp only[ax] at h;obtain⟨p,hp,rfl⟩:=h;refine⟨fun t ht=>?_,fun j hj=>?_⟩
   ·simp only[PC.modR,dg] at ht;rw[fC,jy];exact ht.imp ((gW hq).1 t) ((vi hp).1 t)
   ·simp only[PC.modO,dg] at hj;rw[nY];exact hj.imp ((gW hq).2 j) ((vi hp).2 j)
 |cond c x y gW vi=>
  intro rm S r h;simp only[comp] at h;split at h
  case h_2=>cases h;exact lf
  rename_i e _;simp only[ar,ax] at h;obtain⟨q,hq,p,hp,rfl⟩:=h;cases hm:kT q.out p.out<;>simp only[hm]
  ·refine⟨fun t ht=>?_,fun j hj=>?_⟩
   ·simp only[PC.modR,dg,tV] at ht;rw[fC,jy];exact ht.imp ((gW hq).1 t) ((vi hp).1 t)
   ·simp only[PC.modO,dg,tV] at hj;rw[nY];exact hj.imp ((gW hq).2 j) ((vi hp).2 j)
  ·refine⟨fun t ht=>?_,fun j hj=>?_⟩
   ·simp only[PC.modR,dg] at ht;rw[fC,jy];rcases ht with(ht|ht)|ht
    ·have:=Hq ht;rw[fC,jy] at this;exact this
    ·exact .inl ((gW hq).1 t ht)
    ·exact .inr ((vi hp).1 t ht)
   ·simp only[PC.modO,dg] at hj;rcases hj with(hj|hj)|hj
    ·exact yX hj
    ·exact nY.2 (.inl ((gW hq).2 j hj))
    ·exact nY.2 (.inr ((vi hp).2 j hj))
 |block id x gW=>
  intro rm S r h;simp only[comp] at h;cases cu:Nat.beq id cD<;>simp only[cu,cond_true,cond_false] at h
  case true=>cases h;exact lf
  simp only[ax] at h;obtain⟨q,hq,rfl⟩:=h;exact TI (gW hq)
 |loop x gW=>
  intro rm S r h;rw[Ua] at h;split at h
  ·exact amb h
  split at h
  case h_2=>cases h;exact lf
  rename_i q hq;cases h;have hs:=(Cr (C:=C) (w0:=default) (σ0:=Base.mk0 ⟨fun _ _=>none,fun _=>none⟩ 0) (ids:=ids) 8 hq).1;refine⟨fun t ht=>?_,fun j hj=>?_⟩
  ·simp only[PC.modR,dg] at ht;exact ht.elim Hq ((gW hs).1 t)
  ·simp only[PC.modO,dg] at hj;exact hj.elim yX ((gW hs).2 j)
 |exit id=>
  intro rm S r h;simp only[comp] at h;cases cu:Nat.beq id cD<;>simp only[cu,cond_true,cond_false] at h<;>cases h
  ·simp[PC.modR,PC.modO]
  ·exact lf
 |ret=>
  intro rm S r h;simp only[comp] at h;cases rm<;>simp only[cond_true,cond_false] at h
  case true=>cases h;simp[PC.modR,PC.modO]
  split at h
  ·cases h;simp[PC.modR,PC.modO]
  ·cases h;exact lf
 |rangeFunc g ps x y _ _=>
  intro rm S r h;simp only[comp] at h;split at h
  case h_2=>cases h;exact lf
  split at h
  case h_2=>cases h;exact lf
  split at h
  case h_2=>cases h;exact lf
  rename_i q hq;rw[ng] at h;split at h
  ·cases h;refine⟨fun t ht=>?_,fun j hj=>?_⟩
   ·simp[PC.modR,PI.modR] at ht;subst ht;exact oR _
   ·simp only[PC.modO,PI.modO,z8,List.flatMap_nil,rL,tV] at hj;exact(eO.1 hj).1
  ·cases h;exact lf
 |_=>intro rm S r h;simp only[comp,aT] at h;subst h;exact lf
theorem fS.mono {rm:Bool}{wr:Nat→Prop}{a0 a1:Act}{out Zm:Option Snap}{ex Uy:List (Nat×Snap)}{x:Out}{e:Exit}(h:fS C w0 σ0 ids fn s rm wr a0 out ex x e a w)(he:∀y,y∈ex→y∈Uy)(hs:SameBut wr a1 a0)
 (ho:e=.normal→Zm=out):fS C w0 σ0 ids fn s rm wr a1 Zm Uy x e a w:=by
 cases e with
 |normal=>obtain⟨ρ,S,h1,h2,h3,h4⟩:=h;exact⟨ρ,S,h1,by rw[ho rfl];exact h2,hs.trans h3,h4⟩
 |exit id=>obtain⟨ρ,S,h1,h2,h3,h4,h5⟩:=h;exact⟨ρ,S,h1,h2,he _ h3,hs.trans h4,h5⟩
 |ret=>
  cases rm with
  |false=>obtain⟨d,h1,h2,h3⟩:=h;exact⟨d,h1,h2,hs.trans h3⟩
  |true=>obtain⟨ρ,S,h1,h3,h4,h5⟩:=h;exact⟨ρ,S,h1,he _ h3,hs.trans h4,h5⟩
 |_=>exact h.elim
theorem Up {body:Env→Option Out}{ρ:Env}{ps lo:List Nat}{rt:Option PE}{x:Out}:∀{xs vo:List D},fF body ρ ps lo rt xs vo=some x→
 ∃(m:Nat) (ll:Nat→List D),m≤xs.length∧ll 0=vo∧
  (∀i,i<m→∃y ρ',xs[i]?=some y∧body (ρ.put ps (partsOf ps y) lo (ll i))=some (.next ρ')∧lo.map ρ'.o=ll (i+1))∧
  ((m=xs.length∧x=.next (ρ.put [] [] lo (ll m)))∨
   (m<xs.length∧∃y id ρ',xs[m]?=some y∧body (ρ.put ps (partsOf ps y) lo (ll m))=some (.exit id ρ')∧
    ((id≠cD∧x=.exit id (ρ.put [] [] lo (lo.map ρ'.o)))∨(id=cD∧∃e,rt=some e∧x=.ret (e.ev (ρ.put [] [] lo (lo.map ρ'.o)))))))
 |[],vo,h=>by
  simp only[fF,aT] at h;exact⟨0,fun _=>vo,aU _,rfl,fun i hi=>by omega,.inl ⟨rfl,h.symm⟩⟩
 |y::xs,vo,h=>by
  simp only[fF] at h;split at h
  ·rename_i ρ' hb;obtain⟨m,ll,h1,h2,h3,h4⟩:=Up h;refine⟨m+1,fun i=>match i with|0=>vo|i+1=>ll i,by simp;omega,rfl,fun i hi=>?_,?_⟩
   ·cases i with
    |zero=>exact⟨y,ρ',rfl,hb,h2.symm⟩
    |succ i=>simpa using h3 i (by omega)
   ·rcases h4 with⟨e1,e2⟩|⟨e1,z,id,ρ2,e2,e3,e4⟩
    ·exact .inl ⟨by simp[e1],e2⟩
    ·exact .inr ⟨by simp;omega,z,id,ρ2,by simpa using e2,e3,e4⟩
  ·rename_i id ρ' hb;refine⟨0,fun _=>vo,np _,rfl,fun i hi=>by omega,.inr ⟨by simp,y,id,ρ',rfl,hb,?_⟩⟩;cases cu:Nat.beq id cD<;>simp only[cu,cond_true,cond_false] at h
   ·refine .inl ⟨fun e=>?_,(Ek h).symm⟩;subst e;simp at cu
   ·simp only[ax] at h;obtain⟨e,he,e2⟩:=h;exact .inr ⟨aw cu,e,he,e2.symm⟩
  ·cases h
theorem TG {l:List Nat}{t:Nat}(h:t∈l):aO (vy l) t=true:=by
 induction l with
 |nil=>cases h
 |cons x l ih=>
  have e:vy (x::l)=Nat.lor (fU x) (vy l):=rfl;rw[e,fC];rcases cG.1 h with e|e
  ·subst e;rw[oR];rfl
  ·rw[ih e];simp
theorem Nw (m:Nat):∀(l:List Sh) (k t:Nat),(rh m k l).getD t .none=if aO m (k+t)=true then .none else l.getD t .none
 |[],k,t=>by simp[rh]
 |s::l,k,0=>by
  simp only[rh,qg,ml];cases aO m k<;>rfl
 |s::l,k,t+1=>by
  simp only[rh,Aa];rw[Nw m l (k+1) t,show k+1+t=k+(t+1) by omega]
theorem Cz (m:Nat)(S:Snap)(t:Nat):((S.mask m).st ids).r t=if aO m t=true then .none else(S.st ids).r t:=by
 show ct ((rh m 0 S.rs).getD t .none)=if aO m t=true then .none else ct (S.rs.getD t .none);rw[Nw,jD];split<;>rfl
theorem amj {m:Nat}{x S:Snap}{t:Nat}(h:aO m t=true):((x.meet (S.mask m)).st ids).r t=.none:=by
 show ct ((List.zipWith gZ x.rs (rh m 0 S.rs)).getD t .none)=.none;rcases Jx (f:=gZ) x.rs (rh m 0 S.rs) t with h0|⟨s,u,h1,h2,h3⟩
 ·rw[h0];rfl
 ·rw[Nw,jD,if_pos h] at h2;subst h2;rw[h3];cases s<;>rfl
theorem Inv.maskR {S:Snap}{hv:Nat→Value}(h:Inv C (S.st ids) ρ σ own hv w0 σ0 A a w)(m:Nat):Inv C ((S.mask m).st ids) ρ σ own hv w0 σ0 (fun _=>False) a w:=by
 have hc:Compat (S.st ids) hv ((S.mask m).st ids) hv:=⟨fun _=>aU _,fun _ _=>rfl⟩
 refine h.weaken (fun t=>?_) (fun j=>?_) (Snap.noOpt _ _) (fun j hj=>⟨hj,rfl⟩)
 ·refine aF.mono' (ρ:=ρ) (.refl σ) hc (Snap.noOpt _ _ t) ?_;rw[Cz];split
  ·trivial
  ·exact h.regs t
 ·exact(h.objs j).mono (.refl σ) hc rfl rfl (fun k hk=>⟨hk,rfl⟩)
theorem Qd:∀(ps:List Nat) (ys:List Ty) (l:List Sh),ps.length=ys.length→iS ps=true→∀t,(p7 ps ys l).getD t .none=.none∨(t∉ps∧(p7 ps ys l).getD t .none=l.getD t .none)∨∃(i:Nat) (y:Ty),ps[i]?=some t∧ys[i]?=some y∧(p7 ps ys l).getD t .none=.dat y
 |[],ys,l,_,_,t=>.inr (.inl ⟨by simp,by cases ys<;>rfl⟩)
 |p::ps,[],l,h,_,t=>by simp at h
 |p::ps,y::ys,l,h,hn,t=>by
  have ke:=oa hn;rw[nj] at ke;have dP:iS ps=true:=by
   simp only[iS,aq] at hn;exact hn.2
  show(p7 ps ys (l.set p (.dat y))).getD t .none=_∨_∨_;rcases Qd ps ys (l.set p (.dat y)) (by simpa using h) dP t with e|⟨e1,e2⟩|⟨i,z,e1,e2,e3⟩
  ·exact .inl e
  ·by_cases hp:t=p
   ·subst hp;by_cases af:t<l.length
    ·exact .inr (.inr ⟨0,y,rfl,rfl,by show(p7 ps ys (l.set t (.dat y))).getD t .none=_;rw[e2];simp[aI,af]⟩)
    ·left;rw[e2];simp[aI,af]
   ·refine .inr (.inl ⟨by simp[hp,e1],?_⟩);show(p7 ps ys (l.set p (.dat y))).getD t .none=_;rw[e2];simp only[aI,Ab];rw[if_neg (fun e=>hp e.symm)]
  ·exact .inr (.inr ⟨i+1,z,by simpa using e1,by simpa using e2,e3⟩)
def la:List Nat→List Value→Array Value→Array Value
 |p::ps,v::vs,T=>la ps vs (T.setIfInBounds p v)
 |_,_,T=>T
theorem ao5 (ps:Array Nat)(vs:Array Value)(T:Array Value):(ps.zip vs).foldl (fun T x=>T.setIfInBounds x.1 x.2) T=la ps.toList vs.toList T:=by
 rw[←Array.foldl_toList,Array.toList_zip];generalize ps.toList=l;generalize vs.toList=k
 induction l generalizing k T with
 |nil=>rfl
 |cons p l ih=>
  cases k with
  |nil=>rfl
  |cons v k=>simpa [la] using ih (T.setIfInBounds p v) k
theorem aaV:∀(ps:List Nat) (vs:List Value) (T:Array Value),(la ps vs T).size=T.size
 |[],vs,T=>by cases vs<;>rfl
 |p::ps,[],T=>rfl
 |p::ps,v::vs,T=>by simp[la,aaV ps vs]
theorem I3:∀(ps:List Nat) (vs:List Value) (T:Array Value) (t:Nat),t∉ps→(la ps vs T).getD t undef=T.getD t undef
 |[],vs,T,t,_=>by cases vs<;>rfl
 |p::ps,[],T,t,_=>rfl
 |p::ps,v::vs,T,t,h=>by
  simp only[cG,not_or] at h;simp only[la];rw[I3 ps vs _ t h.2];simp only[fi,zT];rw[if_neg (fun e=>h.1 e.symm)]
theorem aaU:∀(ps:List Nat) (vs:List Value) (T:Array Value) (i t:Nat),ps.Nodup→ps.length=vs.length→(∀p,p∈ps→p<T.size)→ps[i]?=some t→(la ps vs T).getD t undef=vs.getD i undef
 |p::ps,v::vs,T,0,t,hn,hl,af,h=>by
  simp at h;subst h;rw[nj] at hn;simp only[la];rw[I3 ps vs _ p hn.1];simp[zT,af p (eC ..)]
 |p::ps,v::vs,T,i+1,t,hn,hl,af,h=>by
  rw[nj] at hn;simp only[la];have:=aaU ps vs (T.setIfInBounds p v) i t hn.2 (by simpa using hl) (fun q hq=>by simpa using af q (ef _ hq)) (by simpa using h);simpa using this
 |p::ps,[],T,i,t,hn,hl,af,h=>by simp at hl
 |[],vs,T,i,t,hn,hl,af,h=>by simp at h
theorem y8 (f:Nat→D):∀(ps:List Nat) (vs:List D) (t:Nat),t∉ps→putL f ps vs t=f t
 |[],vs,t,_=>by cases vs<;>rfl
 |p::ps,[],t,_=>rfl
 |p::ps,v::vs,t,h=>by
  simp only[cG,not_or] at h;simp only[putL,bq _ _ h.1];exact y8 f ps vs t h.2
theorem OL (f:Nat→D):∀(ps:List Nat) (vs:List D) (i t:Nat),ps.Nodup→ps.length=vs.length→ps[i]?=some t→putL f ps vs t=vs.getD i .none
 |p::ps,v::vs,0,t,hn,hl,h=>by
  simp at h;subst h;simp[putL,aL]
 |p::ps,v::vs,i+1,t,hn,hl,h=>by
  rw[nj] at hn;have ht:t∈ps:=jB (by simpa using h);have az:t≠p:=fun e=>hn.1 (e▸ht);simp only[putL,bq _ _ az];have:=OL f ps vs i t hn.2 (by simpa using hl) (by simpa using h);simpa using this
 |p::ps,[],i,t,hn,hl,h=>by simp at hl
 |[],vs,i,t,hn,hl,h=>by simp at h
theorem anr (ps:List Nat)(ds:List D)(i:Nat)(h:i<ps.length):(partsOf ps (.tup ds)).getD i .none=ds.getD i .none:=by
 simp[partsOf,aI,h,D.tget]
theorem anq (ps:List Nat)(x:D):(partsOf ps x).length=ps.length:=by simp[partsOf]
theorem Inv.startR {S:Snap}{hv:Nat→Value}(h:Inv C (S.st ids) ρ σ own hv w0 σ0 A a w){ps:List Nat}{ys:List Ty}{args:List Value}{ds:List D}{lo:List Nat}{vo:List D}(hl:ps.length=ys.length)(bm:iS ps=true)(af:∀p,p∈ps→p<a.tmps.size)(ha:na C σ ys args ds)
 (hρ:ρ=ρ'.put [] [] lo vo):Inv C ((S.start ps ys).st ids) (ρ'.put ps (partsOf ps (.tup ds)) lo vo) σ own hv w0 σ0 (fun _=>False) {tmps:=la ps args a.tmps,defers:=[]} w:=by
 obtain⟨a1,a2,a3⟩:=ha;have hn:=oa bm;have hc:Compat (S.st ids) hv ((S.start ps ys).st ids) hv:=⟨fun _=>aU _,fun _ _=>rfl⟩
 have ho:∀j,(ρ'.put ps (partsOf ps (.tup ds)) lo vo).o j=ρ.o j:=fun j=>by rw[hρ];rfl
 refine⟨trivial,h.ok,h.le,h.old,h.newc,h.newm,h.below,h.bw,h.owns,fun t=>?_,fun j=>(h.objs j).mono (.refl σ) hc rfl (ho j) (fun k hk=>⟨hk,rfl⟩),fun t gs s e=>absurd e (Snap.noOpt _ _ t gs s),?_⟩
 ·show aF C _ _ σ hv (ct ((p7 ps ys (S.rs.map qW)).getD t .none)) ((la ps args a.tmps).getD t undef) (putL ρ'.r ps (partsOf ps (.tup ds)) t);rcases Qd ps ys (S.rs.map qW) hl bm t with e|⟨e1,e2⟩|⟨i,y,e1,e2,e3⟩
  ·rw[e];trivial
  ·rw[e2,I3 _ _ _ _ e1,y8 _ _ _ _ e1];have hr:=h.regs t;change aF C _ ρ σ hv (ct (S.rs.getD t .none)) _ _ at hr;have hρr:ρ.r t=ρ'.r t:=by rw[hρ];show putL ρ'.r [] [] t=_;rfl
   rw[hρr] at hr;have e3:(S.rs.map qW).getD t .none=qW (S.rs.getD t .none):=by
        simp only[aI,cl];cases S.rs[t]?<;>rfl
   rw[e3];generalize S.rs.getD t .none=s at hr;cases s with
   |yv=>trivial
   |opt gs s=>trivial
   |none=>trivial
   |fclo f c=>exact aF.mono' (.refl σ) hc (fun _ _ e=>by cases e) hr
   |agg l=>exact aF.mono' (.refl σ) hc (fun _ _ e=>by cases e) hr
   |dat t=>exact hr
   |obj j v=>exact aF.mono' (.refl σ) hc (fun _ _ e=>by cases e) hr
   |ptr j v o=>exact aF.mono' (.refl σ) hc (fun _ _ e=>by cases e) hr
   |eptr j v o q=>exact aF.mono' (.refl σ) hc (fun _ _ e=>by cases e) hr
  ·rw[e3];have hi:i<ps.length:=(ed.1 e1).1;rw[aaU ps args a.tmps i t hn (by omega) af e1,OL _ ps _ i t hn (by rw[anq]) e1,anr _ _ _ hi];exact a3 i y e2
 ·obtain⟨t,fx,cx,h1,h2⟩:=h.frame;exact⟨t,fx,cx,h1,fun j hj=>⟨(h2 j hj).1,by rw[ho j];exact(h2 j hj).2⟩⟩
def tX (C:Ctx)(Φ:aJ)(fn:Func)(s:Sig)(n:Nat)(ids:List Nat)(R:Array Oper→Bool→Snap→Option (Snap×List PI))(N:Nat)(c:Code):Prop:=
 ∀(rm:Bool) (S:Snap) (r:Res2),comp C fn s n ids R rm c S=some r→∀(rd:Option Nat) (w0:World) (σ0:Base) (wr:Nat→Prop) (ρ:Env) (x:Out) (a:Act) (w:World),(rm=false→rd=none∧σ0.fin)→CtxOK C σ0→qn C Φ w0 σ0→(∀t,t∈cm c→wr t)→a.tmps.size=n→
  Good C w0 σ0 (S.st ids) ρ (fun _=>False) a w→r.pc.ev Φ N ρ=some x→c.wpIn (FR rd) 0 C.P (fS C w0 σ0 ids fn s rm wr a r.out r.ex x) a w
structure Seg (σ:Im) (own:Nat→Option Nat) (w:World) (σ':Im) (own':Nat→Option Nat) (w':World):Prop where
 le:σ.le σ'
 below:Below 0 w w'
 same:∀k,k<w.heap.size→own k=none→w'.heap[k]?=w.heap[k]?
 ow:∀k j,own' k=some j→(∃i,own k=some i)∨w.heap.size≤k
 imm:∀k,((∃o x,σ'.c k o=some x)∨∃x,σ'.m k=some x)→(∃o x,σ.c k o=some x)∨(∃x,σ.m k=some x)∨(∃i,own k=some i)∨w.heap.size≤k
structure Free (L:Nat) (σ:Im) (own:Nat→Option Nat):Prop where
 own:own L=none
 c:∀o,σ.c L o=none
 m:σ.m L=none
theorem Free.seg {L:Nat}{σ':Im}{own':Nat→Option Nat}{w':World}(h:Free L σ own)(hL:L<w.heap.size)(k:Seg σ own w σ' own' w'):Free L σ' own':=by
 have BK:¬((∃o x,σ'.c L o=some x)∨∃x,σ'.m L=some x):=fun e=>by
  rcases k.imm L e with⟨o,x,e⟩|⟨x,e⟩|⟨i,e⟩|e
  ·rw[h.c o] at e;cases e
  ·rw[h.m] at e;cases e
  ·rw[h.own] at e;cases e
  ·omega
 refine⟨?_,fun o=>?_,?_⟩
 ·cases e:own' L with
  |none=>rfl
  |some j=>
   rcases k.ow L j e with⟨i,e⟩|e
   ·rw[h.own] at e;cases e
   ·omega
 ·cases e:σ'.c L o with
  |none=>rfl
  |some x=>exact absurd (.inl ⟨o,x,e⟩) BK
 ·cases e:σ'.m L with
  |none=>rfl
  |some x=>exact absurd (.inr ⟨x,e⟩) BK
def abP (C:Ctx)(w0:World)(σ0:Base)(ids:List Nat)(wr:Nat→Prop)(a0:Act)(σ:Im)(own:Nat→Option Nat)(w:World)(out:Option Snap)(ex:List (Nat×Snap))(x:Out)(e:Exit)(a':Act)(w':World):Prop:=
 ∃ρ' S' σ' own' hv',Inv C (S'.st ids) ρ' σ' own' hv' w0 σ0 (fun _=>False) a' w'∧Seg σ own w σ' own' w'∧SameBut wr a0 a'∧
  match e with
  |.normal=>x=.next ρ'∧out=some S'
  |.exit id=>x=.exit id ρ'∧id≠cD∧(id,S')∈ex
  |.ret=>x=.exit cD ρ'∧(cD,S')∈ex
  |_=>False
theorem aaP {N:Nat}{c:Code}(hc:tX C Φ fn s n ids R N c){S:Snap}{r:Res2}(hr:comp C fn s n ids R true c S=some r)(ko:C.yl=none)(hC:CtxOK C σ0){wr:Nat→Prop}{ρ:Env}{x:Out}{hv:Nat→Value}(h:Inv C (S.st ids) ρ σ own hv w0 σ0 (fun _=>False) a w)
 (gp:∀t,t∈cm c→wr t) (hn:a.tmps.size=n) (he:r.pc.ev Φ N ρ=some x) (L:Nat):c.wpIn (FR (some L)) 0 C.P (abP C w0 σ0 ids wr a σ own w r.out r.ex x) a w:=by
 obtain⟨t,fx,cx,dB,ht⟩:=h.frame;have h1:=h.toRnd (X:=fun _=>False) ht;refine wpIn_mono (hc true S r hr (some L) w0 (σ0.rnd σ own w t fun _=>False) wr ρ x a w (fun e=>by cases e) (hC.mono h.le) (fun J ys e=>by rw[ko] at e;cases e) gp hn ⟨_,_,_,h1⟩ he) fun e a' w' ho=>?_
 have main:∀{S':Snap} {ρ':Env},SameBut wr a a'→Good C w0 (σ0.rnd σ own w t fun _=>False) (S'.st ids) ρ' (fun _=>False) a' w'→∃σ' own' hv',Inv C (S'.st ids) ρ' σ' own' hv' w0 σ0 (fun _=>False) a' w'∧Seg σ own w σ' own' w'∧SameBut wr a a':=by
  intro S' ρ' hs hg;obtain⟨σ',own',hv',h2⟩:=hg;exact⟨σ',own',hv',h.ofRnd dB (fun _ _=>id) h2,⟨h2.le,h.rndBelow h2,fun k hk ho=>Inv.rndSame h.ok h2 hk ho id,fun k j e=>Inv.rndOwn h2 e id,fun k e=>Inv.rndC h2 e id⟩,hs⟩
 cases e with
 |normal=>
  obtain⟨ρ',S',e1,e2,e3,e4⟩:=ho;obtain⟨σ',own',hv',g1,g2,g3⟩:=main e3 e4;exact⟨ρ',S',σ',own',hv',g1,g2,g3,e1,e2⟩
 |exit id=>
  obtain⟨ρ',S',e1,e0,e2,e3,e4⟩:=ho;obtain⟨σ',own',hv',g1,g2,g3⟩:=main e3 e4;exact⟨ρ',S',σ',own',hv',g1,g2,g3,e1,e0,e2⟩
 |ret=>
  obtain⟨ρ',S',e1,e2,e3,e4⟩:=ho;obtain⟨σ',own',hv',g1,g2,g3⟩:=main e3 e4;exact⟨ρ',S',σ',own',hv',g1,g2,g3,e1,e2⟩
 |_=>exact ho.elim
theorem Inv.putL {L:Nat}{hv:Nat→Value}{S:St}{ρ:Env}(h:Inv C S ρ σ own hv w0 σ0 A a w)(hL:w0.heap.size≤L)(hf:Free L σ own)(hx:∀t fx cx,FrOK σ own w0.heap.size σ0 w t fx cx→¬fx L)(o:Obj):Inv C S ρ σ own hv w0 σ0 A a (w.putObj L o):=
 h.keep (X:=fun k=>k≠L) ⟨rfl,rfl,rfl,by simp,fun k hk=>by omega⟩ (fun k hk=>World.putObj_heap_other hk) (fun k hk=>by omega) (fun k j e1 e2=>by subst e2;rw[hf.own] at e1;cases e1) (fun k o v e1 e2=>by subst e2;rw[hf.c] at e1;cases e1)
  (fun k v e1 e2=>by subst e2;rw[hf.m] at e1;cases e1) (fun t fx cx dB k hk e=>by subst e;exact hx t fx cx dB hk)
theorem ase {o:Oper}{L:Nat}{x:Operand}{aa:Array Operand}{ts:Array TypeId}{r:Loop}(dD:o.op=.call {callee:=.value x,args:=aa,argTypes:=ts})(hx:a.eval x=.func (.yield L) #[] #[])(hL:w.heap[L]?=some (.loop r))(hs:aa.size=r.params.size):
 (execOp a.eval o).run C.P w=.ok (.round L r.fn ((r.params.zip (aa.map a.eval)).foldl (fun tmps (t,v)=>tmps.setIfInBounds t v) r.tmps) r.assign r.body) w:=by
 have hy:=run_yield (P:=C.P) (args:=aa.map a.eval) hL (by simpa using hs);simp[execOp,dD,resolve,hx,Deferred.ofValue,invoke,hy]
theorem anU {g:Operand}{f:Nat}{vs:List Value}{L:Nat}(hf:∃fn,C.P.funcs[f]?=some fn∧fn.body.isSome=true∧(fn.name== "runtime.NumGoroutine")=false)(hg:a.eval g=.func (.func f) #[] vs.toArray):
 (resolve a.eval (rangeCall g L) 0).run C.P w=.ok {target:=.fn (.func f) vs.toArray,args:=#[.func (.yield L) #[] #[]]} w∧
 (invoke (.fn (.func f) vs.toArray) #[.func (.yield L) #[] #[]]).run C.P w=.ok (.enter f (#[.func (.yield L) #[] #[]]++vs.toArray)) w:=by
 obtain⟨fn,h1,h2,h3⟩:=hf;obtain⟨bd,j7⟩:=Tb.1 h2;have h4:¬fn.name= "runtime.NumGoroutine" :=by simpa using h3
 constructor
 ·simp only[resolve,hg];simp[go_sem]
 ·simp[invoke,callFunc,h1,j7,h4]
theorem FrOK.enter {hv:Nat→Value}{S:St}{ρ:Env}(h:Inv C S ρ σ own hv w0 σ0 A a w){t:D}{fx cx:Nat→Prop}(hf:FrOK σ own w0.heap.size σ0 w t fx cx)(r:Loop):FrOK (σ.mark w.heap.size) own w0.heap.size σ0 ((w.alloc (.deferred (some []))).alloc (.loop r)) t fx cx:=by
 have hb:=Ur w (.deferred (some [])) (.loop r);have af:=σ0.lt _ _ _ _ hf.F;have bT:=σ0.sub _ _ _ _ hf.F;have uX:∀k x,(σ.mark w.heap.size).m k=some x→σ.m k=some x∨k=w.heap.size:=by
  intro k x e;simp only[Im.mark] at e;split at e
  ·rename_i e2;exact .inr e2
  ·exact .inl e
 refine⟨σ0.keep _ _ _ _ _ hf.F (hb.mono (np _)) fun k hk=>hb.block k (af k hk),hf.own,hf.c,fun k x e hc=>?_,fun k e hB hk=>?_⟩
 ·rcases uX k x e with e|e
  ·exact hf.m k x e hc
  ·have:=af k (bT k hc);omega
 ·rcases uX k _ e with e|e
  ·exact hf.d k e hB hk
  ·have:=af k hk;omega
structure RSt (C:Ctx) (w0:World) (σR:Base) (ids:List Nat) (ρ1:Env) (lo:List Nat) (aM:Act) (L:Nat) (W1:World) (σ1:Im) (rec:LoopState→Option Code→Loop) (xs:List D) (P:Nat→List D→Snap→LoopState→Option Code→Prop) (t:D) (fx cx:Nat→Prop) (w:World):Prop where
 lt:∀k,fx k→k<w.heap.size
 sub:∀k,cx k→fx k
 old:∀k,k<W1.heap.size→fx k
 ex:∃(i:Nat) (vo:List D) (Sx:Snap) (st:LoopState) (pe:Option Code) (σ:Im) (own:Nat→Option Nat) (hv:Nat→Value),t=.list (xs.take i)∧P i vo Sx st pe∧Inv C (Sx.st ids) (ρ1.put [] [] lo vo) σ own hv w0 σR (fun _=>False) aM w∧
  σ1.le σ∧Free L σ own∧w.heap[L]?=some (.loop (rec st pe))∧(∀k j,own k=some j→fx k)∧(∀k o x,σ.c k o=some x→fx k)∧(∀k x,σ.m k=some x→fx k)∧∀k,cx k↔((∃j,own k=some j)∨k=L)
theorem RSt.keep {σR:Base}{ρ1:Env}{lo:List Nat}{aM:Act}{L:Nat}{W1:World}{σ1:Im}{rec:LoopState→Option Code→Loop}{xs:List D}{P:Nat→List D→Snap→LoopState→Option Code→Prop}{t:D}{fx cx:Nat→Prop}{w w':World}
 (h0:w0.heap.size≤W1.heap.size) (hL:L<W1.heap.size) (hR:∀t f c w,σR.F t f c w→∀k,f k→k<W1.heap.size) (h:RSt C w0 σR ids ρ1 lo aM L W1 σ1 rec xs P t fx cx w) (hb:Below 0 w w') (hs:∀k,fx k→w'.heap[k]?=w.heap[k]?):
 RSt C w0 σR ids ρ1 lo aM L W1 σ1 rec xs P t fx cx w':=by
 obtain⟨i,vo,Sx,st,pe,σ,own,hv,e1,e2,e3,e4,e5,e6,e7,e8,e9,e10⟩:=h.ex;refine⟨fun k hk=>qj (h.lt k hk) hb.size,h.sub,h.old,i,vo,Sx,st,pe,σ,own,hv,e1,e2,?_,e4,e5,(hs L (h.old L hL)).trans e6,e7,e8,e9,e10⟩;exact e3.keep (X:=fx) hb hs (fun k hk=>h.old k (by omega)) e7 e8 e9 (fun t f c hf k hk=>h.old k (hR _ _ _ _ hf.F k hk))
theorem Im.noM_m {σ:Im}{k:Nat}{v:List (Value×Value)}(h:σ.noM.m k=some v):σ.m k=some v∧v≠cL:=by
 simp only[Im.noM] at h;split at h
 ·cases h
 ·rename_i az;exact⟨h,fun e=>az (by rw[h,e])⟩
structure SegL (L:Nat) (σ:Im) (own:Nat→Option Nat) (w:World) (σ':Im) (own':Nat→Option Nat) (w':World):Prop where
 le:σ.le σ'
 below:Below 0 w w'
 same:∀k,k<w.heap.size→own k=none→k≠L→w'.heap[k]?=w.heap[k]?
 ow:∀k j,own' k=some j→(∃i,own k=some i)∨w.heap.size≤k
 imm:∀k,((∃o x,σ'.c k o=some x)∨∃x,σ'.m k=some x)→(∃o x,σ.c k o=some x)∨(∃x,σ.m k=some x)∨(∃i,own k=some i)∨w.heap.size≤k
theorem Zx (w:World)(L:Nat)(o:Obj):Below 0 w (w.putObj L o):=⟨rfl,rfl,rfl,by simp,fun k hk=>by omega⟩
theorem Seg.round {L:Nat}{σ' σ'':Im}{own' Zn:Nat→Option Nat}{w' jw:World}{o o':Obj}(h:Seg σ own w σ' own' w')(k:Seg σ' own' (w'.putObj L o) σ'' Zn jw):SegL L σ own w σ'' Zn (jw.putObj L o'):=by
 have aN:=h.below.size;have G7:=k.below.size;simp only[World.putObj_size] at G7;refine⟨h.le.trans k.le,h.below.trans ((Zx _ _ _).trans (k.below.trans (Zx _ _ _))),fun q hq ho hL=>?_,fun q j e=>?_,fun q e=>?_⟩
 ·have h1:own' q=none:=by
   cases e:own' q with
   |none=>rfl
   |some j=>
    rcases h.ow q j e with⟨i,e⟩|e
    ·rw[ho] at e;cases e
    ·omega
  rw[World.putObj_heap_other hL,k.same q (by simp;omega) h1,World.putObj_heap_other hL,h.same q hq ho]
 ·rcases k.ow q j e with⟨i,e⟩|e
  ·exact h.ow q i e
  ·simp only[World.putObj_size] at e;exact .inr (by omega)
 ·rcases k.imm q e with e|e|⟨i,e⟩|e
  ·exact h.imm q (.inl e)
  ·exact h.imm q (.inr e)
  ·rcases h.ow q i e with e|e
   ·exact .inr (.inr (.inl e))
   ·exact .inr (.inr (.inr e))
  ·simp only[World.putObj_size] at e;exact .inr (.inr (.inr (by omega)))
theorem Env.put_self (ρ:Env)(lo:List Nat):ρ.put [] [] lo (lo.map ρ.o)=ρ:=by
 have h2:∀u,putL ρ.o lo (lo.map ρ.o) u=ρ.o u:=fun u=>by rw[rq];split<;>rfl
 show Env.mk ρ.r (putL ρ.o lo (lo.map ρ.o))=ρ;rw[funext h2]
theorem anV {N:Nat}(dW:fA C Φ){g:Operand}{ps:Array Tmp}{ca cb:Code}(aY:tX C Φ fn s n ids R N ca)(dc:tX C Φ fn s n ids R N cb):tX C Φ fn s n ids R N (.rangeFunc g ps ca cb):=by
 intro rm S r hr rd w0 σ0 wr ρ x a w fL hC hY gp hn hg he;simp only[comp] at hr;split at hr
 case h_2=>cases hr;exact absurd he (ld _ _ _ _)
 rename_i aa rr e ko hu;split at hr
 case h_2=>cases hr;exact absurd he (ld _ _ _ _)
 rename_i ys vg;split at hr
 case h_2=>cases hr;exact absurd he (ld _ _ _ _)
 rename_i q hq;rw[ng] at hr;split at hr
 case isFalse=>cases hr;exact absurd he (ld _ _ _ _)
 rename_i uN;cases hr;simp only[aq] at uN;obtain⟨⟨⟨hl,bm⟩,af⟩,u7⟩:=uN;have hl:=aw hl;have u7:=j3 u7;obtain⟨hrd,lL⟩:=fL rfl;subst hrd;obtain⟨hs,yq,_⟩:=Cr (C:=C) (w0:=w0) (σ0:=σ0) (ids:=ids) 8 hq;simp only[ar] at hs;obtain⟨ra,Ms,hs⟩:=hs;split at hs
 case h_2=>cases hs
 rename_i S1 hao Vl;simp only[ax] at hs;obtain⟨rb,V7,gV⟩:=hs;have VO:=rW ca Ms;have VP:=rW cb V7;obtain⟨q1,q2⟩:=q;simp only at Ms gV u7 yq he ⊢;generalize uU:Xi ids (q1::q2.ex.map (·.2)) q2.mo=lo at he;generalize sE:((mN cD q2.ex none).bind fun M=>we C fn s (M.st ids))=rt at he;have B6:∃f caps d,e.ev ρ=.clo f caps∧Φ f caps=some d∧fF (q2.pc.ev Φ N) (ρ.setR n d) ps.toList lo rt d.l (lo.map ρ.o)=some x:=by
  simp only[PC.ev,PI.runs,PI.run,holds,List.all_nil,cond_true] at he;cases bK:e.ev ρ with
  |clo f caps=>
   rw[bK] at he;simp only[PE.evs,tV] at he;cases hΦ:Φ f caps with
   |none=>rw[hΦ] at he;simp at he
   |some d=>
    rw[hΦ] at he;simp only[jE,oL,PE.ev,Env.setR,aL] at he;exact⟨f,caps,d,rfl,hΦ,he⟩
  |_=>rw[bK] at he;simp at he
 obtain⟨f,caps,d,bK,hΦ,he⟩:=B6;obtain⟨σ,own,hv,i⟩:=hg;have hx:=bZ (gs:=[]) i hC rfl hu;rw[bK] at hx;generalize hgv:a.eval g=gv at hx;generalize aV:Ty.fn aa rr=ty at hx;cases hx with
 |fn f cs vs ds eE h1 h2 aR=>
 cases aV;obtain⟨hfn,ah4⟩:=dW f cs ys eE vg;obtain⟨xs,rfl,axu,LV⟩:=ah4 caps d hΦ;simp only[D.l_list] at he;obtain⟨m,ll,hm,nU,GW,jL⟩:=Up he;have iq0:=WG 8 hq i
 have iq:Inv C (q1.st ids) (ρ.setR n (.list xs)) σ own hv w0 σ0 (fun _=>False) a w:=by
  refine iq0.env (Snap.noOpt _ _) (fun t ht=>?_) (fun _ _=>rfl);have af:t<q1.rs.length:=by
   refine S9 fun hle=>?_;simp only[Snap.st,aI,ls hle,Option.getD_none,ct,isNone] at ht;cases ht
  simp[Env.setR,bq _ _ (show t≠n by omega)]
 obtain⟨ρ1,hρ1⟩:∃ρ1,ρ.setR n (.list xs)=ρ1:=⟨_,rfl⟩
 rw[hρ1] at he iq GW jL;have iN:ρ.o=ρ1.o:=by rw[←hρ1];rfl
 rw[iN] at nU;refine wpIn_rangeFunc ?_;intro Lg aw6;obtain⟨L,U9⟩:∃L,w.heap.size+1=L:=⟨_,rfl⟩
 obtain⟨rec,gG⟩:∃rec:LoopState→Option Code→Loop,rec=fun st pe=>{state:=st,pending:=pe,fn:=Lg,tmps:=a.tmps,params:=ps,assign:=ca,body:=cb,defers:=w.heap.size}:=⟨_,rfl⟩
 have i1:=iq.enter (rec .ready none);obtain⟨t,fx0,cx0,Vx,ht0⟩:=iq.frame;have ahL:=σ0.lt _ _ _ _ Vx.F;have LO:=FrOK.enter iq Vx (rec .ready none);have axs:=iq.below.size;have yf:Free L (σ.mark w.heap.size) own:=by
  refine⟨?_,fun o=>?_,?_⟩
  ·cases e:own L with
   |none=>rfl
   |some j=>have:=(iq.owns L j e).2.1;omega
  ·cases e:σ.c L o with
   |none=>exact e
   |some x=>have:=iq.lt e;omega
  ·simp only[Im.mark,show L≠w.heap.size by omega,if_false];cases e:σ.m L with
   |none=>rfl
   |some x=>have:=iq.ltm e;omega
 have kN:σ.le (σ.mark w.heap.size):=by
  refine⟨fun _ _ _ e=>e,fun k x e=>?_⟩;have:k≠w.heap.size:=by have:=iq.ltm e;omega
  simp[Im.mark,this,e]
 have U6:((w.alloc (.deferred (some []))).alloc (.loop (rec .ready none))).heap[L]?=some (.loop (rec .ready none)):=by
  have:=World.alloc_heap_new (w.alloc (.deferred (some []))) (.loop (rec .ready none));rw[World.size_alloc,U9] at this;exact this
 obtain⟨W1,Lu⟩:∃W1,(w.alloc (.deferred (some []))).alloc (.loop (rec .ready none))=W1:=⟨_,rfl⟩
 have awY:W1.heap.size=w.heap.size+2:=by rw[←Lu];simp
 rw[Lu] at i1 LO U6;have LL:(Instr.enterLoop Lg a.tmps ps ca cb none).run C.P w=.ok (L,[{target:=.collected w.heap.size,args:=#[]}]) W1:=by
  rw[←Lu,gG,←U9];exact run_enterLoop_outer _ _ _ _ _
 obtain⟨σ1,hσ1⟩:∃σ1,σ.mark w.heap.size=σ1:=⟨_,rfl⟩
 rw[hσ1] at i1 LO yf kN;obtain⟨aM,Lv⟩:∃aM:Act,{a with defers:={target:=.collected w.heap.size,args:=#[]}::a.defers}=aM:=⟨_,rfl⟩
 have Bq:aM.tmps=a.tmps:=by rw[←Lv]
 rw[Lv] at i1;have iR:=i1.toRnd (t:=t) (X:=fun k=>k=L) ht0;obtain⟨σR,hσR⟩:∃σR,σ0.rnd σ1 own W1 t (fun k=>k=L)=σR:=⟨_,rfl⟩
 have sl:∀t' f c w',σR.F t' f c w'→(∀k,f k→k<W1.heap.size∧k≠L)∧∀k,c k→f k∧(∀o,σ1.c k o=none)∧σ1.m k=none:=by
  rw[←hσR];rintro t' f c w' ⟨_,h2,h3,_⟩;exact⟨fun k hk=>⟨((h2 k).1 hk).1,((h2 k).1 hk).2.2.2⟩,fun k hk=>(h3 k).1 hk⟩
 have Vc:CtxOK C σR:=by rw[←hσR];exact hC.mono i1.le
 rw[hσR] at iR
 obtain⟨P,hP⟩:∃P:Nat→List D→Snap→LoopState→Option Code→Prop,P=fun i vo Sx st pe=>(i≤m∧vo=ll i∧Sx=q1∧st=.ready∧pe=none)∨
  (i=m+1∧m<xs.length∧st=.done∧∃y id ρ',xs[m]?=some y∧q2.pc.ev Φ N (ρ1.put ps.toList (partsOf ps.toList y) lo (ll m))=some (.exit id ρ')∧vo=lo.map ρ'.o∧(id,Sx)∈q2.ex∧((id≠cD∧pe=some (.exit id))∨(id=cD∧pe=some .ret))):=⟨_,rfl⟩
 obtain⟨c1,c2⟩:=anU (C:=C) (w:=W1) (L:=L) hfn hgv;refine⟨L,[{target:=.collected w.heap.size,args:=#[]}],W1,_,W1,f,_,W1,LL,c1,fun _ _=>trivial,c2,(fun e=>by cases e),?_⟩
 refine TP ((LV σ1 W1 (.func (.yield L) #[] #[]) vs (RSt C w0 σR ids ρ1 lo aM L W1 σ1 rec xs P) (fun k=>k<W1.heap.size) (fun k=>(∃j,own k=some j)∨k=L) m i1.ok (hC.mono i1.le) ⟨h1,h2,fun j t e=>(aR j t e).mono kN⟩ hm
  (fun t f c w h=>h.lt) (fun t f c w h=>h.sub) (fun t f c w w' h hb hs=>h.keep (by omega) (by omega) (fun t f c w hF k hk=>((sl t f c w hF).1 k hk).1) hb hs) ?_ ?_ ?_ ?_).mono ?_)
 ·refine⟨fun k hk=>hk,fun k hk=>?_,fun k hk=>hk,0,ll 0,q1,.ready,none,σ1,own,hv,by simp,by rw[hP];exact .inl ⟨np _,rfl,rfl,rfl,rfl⟩,?_,.refl σ1,yf,U6,fun k j e=>(iR.owns k j e).2.1,fun k o x e=>iR.lt e,fun k x e=>iR.ltm e,fun k=>.rfl⟩
  ·rcases hk with⟨j,e⟩|e
   ·exact(iR.owns k j e).2.1
   ·show k<W1.heap.size;omega
  ·rw[nU,Env.put_self];exact iR
 ·rintro k o x e (⟨j,hj⟩|rfl)
  ·have:=(iR.owns k j hj).2.2.1 o;rw[e] at this;cases this
  ·rw[yf.c] at e;cases e
 ·rintro k x e (⟨j,hj⟩|rfl)
  ·have:=(iR.owns k j hj).2.2.2;rw[e] at this;cases this
  ·rw[yf.m] at e;cases e
 ·intro i fx cx w1 σx args ds' hi dp hF hσx gB gC lJ dz cR rd' o a' x' aa ts K Q dD cf Vj hK;have aw8:i<xs.length:=(ed.1 dp).1;obtain⟨i',vo,Sx,st,pe,σa,vJ,hva,e1,e2,iA,GP,Bo,Gk,Mc,Vq,BT,yo⟩:=hF.ex;have hii:i'=i:=by
   have h9:=congrArg List.length (congrArg D.l e1);simp only[D.l_list,gd] at h9;omega
  subst hii;rw[hP] at e2;rcases e2 with⟨_,rfl,Bp,rfl,rfl⟩|⟨e2,_⟩
  case inr=>omega
  rw[Bp] at iA;have Va:L<w1.heap.size:=hF.lt L (hF.old L (by omega));have Gv:cx L:=(yo L).2 (.inr rfl)
  have ait:∀k o v,σx.c k o=some v→vJ k=none:=fun k o v e=>by
   cases e2:vJ k with
   |none=>rfl
   |some j=>exact absurd ((yo k).2 (.inl ⟨j,e2⟩)) (gC k o v e)
  have BY:∀k v,σx.m k=some v→vJ k=none:=fun k v e=>by
   cases e2:vJ k with
   |none=>rfl
   |some j=>exact absurd ((yo k).2 (.inl ⟨j,e2⟩)) (lJ k v e)
  have hτok:σx.noM.ok w1:=⟨hσx.c,fun k v e=>hσx.m k v (Im.noM_m e).1⟩
  have iB:=iA.joinIm (τ:=σx.noM) hτok (fun k e=>(Im.noM_m e).2 rfl) ait (fun k v e=>BY k v (Im.noM_m e).1)
   (fun k o v e=>(dz k o v e).imp (fun e=>GP.c k o v e) fun e=>by omega) (fun k v e=>(cR k v (Im.noM_m e).1).imp (fun e=>GP.m k v e) fun e=>by omega)
   (fun t' f c hf=>⟨fun k o v e hc=>by
        obtain⟨g1,g2,g3⟩:=(sl _ _ _ _ hf.F).2 k hc;rcases dz k o v e with e|e
        ·rw[g2 o] at e;cases e
        ·have:=((sl _ _ _ _ hf.F).1 k g1).1;omega,fun k v e hc=>by
        obtain⟨g1,g2,g3⟩:=(sl _ _ _ _ hf.F).2 k hc;rcases cR k v (Im.noM_m e).1 with e|e
        ·rw[g3] at e;cases e
        ·have:=((sl _ _ _ _ hf.F).1 k g1).1;omega⟩)
  have U3:Free L (σa.plus σx.noM) vJ:=by
   refine⟨Bo.own,fun o=>?_,?_⟩
   ·cases e:(σa.plus σx.noM).c L o with
    |none=>rfl
    |some v=>
     rcases Im.plus_c e with e|e
     ·rw[Bo.c] at e;cases e
     ·exact absurd Gv (gC L o v e)
   ·cases e:(σa.plus σx.noM).m L with
    |none=>rfl
    |some v=>
     rcases Im.plus_m e with e|e
     ·rw[Bo.m] at e;cases e
     ·exact absurd Gv (lJ L v (Im.noM_m e).1)
  have q5:ps.toList.length=ys.length:=by rw[zV];exact hl.symm
  have ahc:na C (σa.plus σx.noM) ys args ds':=⟨gB.1,gB.2.1,fun j t e=>((gB.2.2 j t e).noM).mono (Im.plus_le2 iA.ok hτok)⟩
  have iC:=iB.startR (ρ':=ρ1) q5 bm (fun p hp=>by
   have:=df.1 af p hp;rw[Bq,hn];simpa [oK] using this) ahc rfl
  have Mn:∃xi,q2.pc.ev Φ N (ρ1.put ps.toList (partsOf ps.toList (.tup ds')) lo (ll i'))=some xi∧((i'<m∧∃ρ',xi=.next ρ'∧lo.map ρ'.o=ll (i'+1))∨(i'=m∧m<xs.length∧∃id ρ',xi=.exit id ρ')):=by
   by_cases po:i'<m
   ·obtain⟨y,ρ',g1,g2,g3⟩:=GW i' po;rw[dp] at g1;cases g1;exact⟨_,g2,.inl ⟨po,ρ',rfl,g3⟩⟩
   ·obtain rfl:i'=m:=by omega
    rcases jL with⟨g1,_⟩|⟨g1,y,id,ρ',g2,g3,_⟩
    ·omega
    ·rw[dp] at g2;cases g2;exact⟨_,g3,.inr ⟨rfl,g1,id,ρ',rfl⟩⟩
  obtain⟨xi,q8,MR⟩:=Mn;have ae:q2.pc=.seq ra.pc rb.pc:=by rw[←gV];rfl
  rw[ae] at q8;have aN:(la ps.toList args aM.tmps).size=n:=by rw[aaV,Bq,hn]
  refine⟨fun _ _=>trivial,?_⟩;rw[Oper.semAt_eq _ _ _ (fun c e=>by rw[dD] at e;cases e)];have ahe:aa.size=ps.size:=by
   have:=gB.1;rw[←Vj,eN,zV] at this;omega
  have aj:=ase (C:=C) dD cf Gk (by rw[gG];exact ahe);have aiS:(rec .ready none).fn=Lg∧(rec .ready none).tmps=a.tmps∧(rec .ready none).params=ps∧(rec .ready none).assign=ca∧(rec .ready none).body=cb:=by rw[gG];exact⟨rfl,rfl,rfl,rfl,rfl⟩
  obtain⟨r1,r2,r3,r4,r5⟩:=aiS;rw[r1,r2,r3,r4,r5] at aj
  have Ce:(ps.zip (aa.map a'.eval)).foldl (fun tmps (t,v)=>tmps.setIfInBounds t v) a.tmps=la ps.toList args aM.tmps:=by
   rw[Bq,←Vj,←wE];exact ao5 ps (aa.map a'.eval) a.tmps
  rw[Ce] at aj;rw[aj];refine⟨(fun e=>by cases e),?_⟩;refine roundIn_of_wpIn (F:=FR rd') trivial ?_;show ca.wpIn (FR (some L)) 0 C.P _ _ _;cases kQ:ra.pc.ev Φ N (ρ1.put ps.toList (partsOf ps.toList (.tup ds')) lo (ll i')) with
  |none=>simp only[PC.ev,kQ] at q8;cases q8
  |some xa=>
  refine wpIn_mono (aaP aY Ms ko Vc iC (wr:=fun t=>t∈cm ca) (fun _ h=>h) aN kQ L) fun e2 a1 SB ai3=>?_;obtain⟨ρ2,S2,σ2,gJ,gm,iD,km,gH,ji⟩:=ai3;cases e2 with
  |normal=>
   obtain⟨rfl,yg⟩:=ji;rw[hao] at yg;cases yg;simp only[PC.ev,kQ] at q8;have U7:SB.heap[L]?=some (.loop (rec .ready none)):=(km.same L Va U3.own).trans Gk;have Lq:=U3.seg Va km;have Ls:L<SB.heap.size:=(eA.1 U7).1;have U5:w0.heap.size≤L:=by omega
   refine⟨_,run_beginRound U7 (by rw[gG]),?_⟩;have iE:=iD.putL U5 Lq (fun t' f c hf BE=>((sl _ _ _ _ hf.F).1 L BE).2 rfl) (.loop {rec .ready none with state:=.busy});have hL3:(SB.putObj L (.loop {rec .ready none with state:=.busy})).heap[L]?=some (.loop {rec .ready none with state:=.busy}):=World.putObj_heap_same Ls;show cb.wpIn (FR (some L)) 0 C.P _ _ _;refine wpIn_mono (aaP dc V7 ko Vc iE (wr:=fun t=>t∈cm cb) (fun _ h=>h) (gH.size.trans aN) q8 L) fun e3 a3 w3 ai4=>?_;obtain⟨ρ3,S3,σ3,vI,Cg,iF,G5,ai1,mH⟩:=ai4;have U8:w3.heap[L]?=some (.loop {rec .ready none with state:=.busy}):=(G5.same L (by simpa using Ls) Lq.own).trans hL3;have U2:=Lq.seg (by simpa using Ls) G5;have agX:L<w3.heap.size:=(eA.1 U8).1;obtain⟨mk,GS⟩:∃mk,Nat.lor (vy (ps.toList++cm ca++cm cb)) (Nat.lor ra.mr rb.mr)=mk:=⟨_,rfl⟩
   have aij:∀t,aO mk t=false→t∉ps.toList∧t∉cm ca∧t∉cm cb∧aO ra.mr t=false∧aO rb.mr t=false:=by
        intro t ht;rw[←GS,fC,fC,SL,SL] at ht;obtain⟨t1,t2,t3⟩:=ht;have:t∉ps.toList++cm ca++cm cb:=fun hm=>by rw[TG hm] at t1;cases t1
        simp only[dg,not_or] at this;exact⟨this.1.1,this.1.2,this.2,t2,t3⟩
   have Mu:∀t,aO mk t=false→aM.tmps.getD t undef=a3.tmps.getD t undef∧(ρ1.put [] [] lo (lo.map ρ3.o)).r t=ρ3.r t:=by
        intro t ht;obtain⟨t1,t2,t3,t4,t5⟩:=aij t ht;refine⟨?_,?_⟩
        ·rw[ai1.get t t3,gH.get t t2];exact(I3 _ _ _ _ t1).symm
        ·have hb3:∀ρ',xi=.next ρ'∨(∃id,xi=.exit id ρ')→ρ'.r t=ρ2.r t:=fun ρ' h=>by
          have uO:xi.env?=some ρ':=by rcases h with h|⟨id,h⟩<;>rw[h]<;>rfl
          exact(PC.ev_but rb.pc _ _ ρ' q8 uO).r t fun hm=>by rw[VP.1 t hm] at t5;cases t5
         have fm:ρ2.r t=putL ρ1.r ps.toList (partsOf ps.toList (.tup ds')) t:=(PC.ev_but ra.pc _ _ ρ2 kQ rfl).r t fun hm=>by rw[VO.1 t hm] at t4;cases t4
         rw[y8 _ _ _ _ t1] at fm;show ρ1.r t=ρ3.r t;rw[hb3 ρ3 (by
          cases e3 with
          |normal=>exact .inl mH.1
          |exit id=>exact .inr ⟨id,mH.1⟩
          |ret=>exact .inr ⟨_,mH.1⟩
          |_=>exact mH.elim),fm]
   have BU:q2.mo=ic ra.mo rb.mo:=by rw[←gV];rfl
   have Mf:∀j,j∉q2.mo→ρ3.o j=ρ1.o j:=by
        intro j hj;rw[BU,nY,not_or] at hj;have uO:xi.env?=some ρ3:=by
         cases e3 with
         |normal=>rw[mH.1];rfl
         |exit id=>rw[mH.1];rfl
         |ret=>rw[mH.1];rfl
         |_=>exact mH.elim
        rw[(PC.ev_but rb.pc _ _ ρ3 q8 uO).o j fun hm=>hj.2 (VP.2 j hm),(PC.ev_but ra.pc _ _ ρ2 kQ rfl).o j fun hm=>hj.1 (VO.2 j hm)]
        exact y8 _ _ _ _ fun hm=>by
         rw[←uU] at hm;have:=(eO.1 hm).1;rw[BU,nY] at this;exact this.elim hj.1 hj.2
   have Me:∀(S:Snap),S∈(q1::q2.ex.map (·.2))→∀j,mL ((S.st ids).o j)=false→(ρ1.put [] [] lo (lo.map ρ3.o)).o j=ρ3.o j:=by
        intro S hS j hj;show putL ρ1.o lo (lo.map ρ3.o) j=ρ3.o j;rw[rq];split
        ·rfl
        ·rename_i fJ;refine(Mf j fun sy=>fJ ?_).symm;rw[←uU];exact eO.2 ⟨sy,zZ.2 ⟨S,hS,by simpa [Snap.st] using hj⟩⟩
   have fin:∀(jump:Option Code) (Sx:Snap),Inv C (Sx.st ids) (ρ1.put [] [] lo (lo.map ρ3.o)) σ3 vI Cg w0 σR (fun _=>False) aM w3→P (i'+1) (lo.map ρ3.o) Sx (if jump.isNone then .ready else .done) jump→jump.isNone=decide (i'<m)→
        ∃v w',(Instr.endRound L jump).run C.P w3=.ok v w'∧K (a'.put o.dst v) w':=by
        intro jump Sx iG hPn sy;refine⟨_,_,run_endRound jump U8,?_⟩;have aiR:({{rec .ready none with state:=.busy} with state:=if jump.isNone then .ready else .done,pending:=jump}:Loop)=rec (if jump.isNone then .ready else .done) jump:=by rw[gG]
        rw[aiR];have aR:=km.round (L:=L) (o':=.loop (rec (if jump.isNone then .ready else .done) jump)) G5;have iH:=iG.putL U5 U2 (fun t' f c hf BE=>((sl _ _ _ _ hf.F).1 L BE).2 rfl) (.loop (rec (if jump.isNone then .ready else .done) jump));obtain⟨w4,MM⟩:∃w4,w3.putObj L (.loop (rec (if jump.isNone then .ready else .done) jump))=w4:=⟨_,rfl⟩
        have hL5:w4.heap[L]?=some (.loop (rec (if jump.isNone then .ready else .done) jump)):=by rw[←MM];exact World.putObj_heap_same agX
        have axx:w4.heap.size=w3.heap.size:=by rw[←MM];simp
        rw[MM] at aR iH ⊢;have awX:W1.heap.size≤w1.heap.size:=by
         have:=hF.lt (W1.heap.size-1) (hF.old _ (by omega));omega
        have axt:=aR.below.size
        refine hK _ _ ⟨by rw[sy],aR.below,fun k hk hc=>aR.same k hk (by
         cases e:vJ k with
         |none=>rfl
         |some j=>exact absurd ((yo k).2 (.inl ⟨j,e⟩)) hc) (fun e=>hc (by rw[e];exact Gv)),(fun k=>k<w4.heap.size∧(k<W1.heap.size∨(∃j,vI k=some j)∨(∃o x,σ3.c k o=some x)∨∃x,σ3.m k=some x)),(fun k=>(∃j,vI k=some j)∨k=L),?_,?_,?_⟩
        ·refine⟨fun k hk=>hk.1,fun k hk=>?_,fun k hk=>⟨by omega,.inl hk⟩,i'+1,lo.map ρ3.o,Sx,_,jump,σ3,vI,Cg,rfl,hPn,iH,GP.trans ((Im.plus_le1 _ _).trans aR.le),U2,hL5,fun k j e=>⟨(iH.owns k j e).2.1,.inr (.inl ⟨j,e⟩)⟩,fun k o x e=>⟨iH.lt e,.inr (.inr (.inl ⟨o,x,e⟩))⟩,fun k x e=>⟨iH.ltm e,.inr (.inr (.inr ⟨x,e⟩))⟩,fun k=>.rfl⟩;rcases hk with⟨j,e⟩|e
         ·exact⟨(iH.owns k j e).2.1,.inr (.inl ⟨j,e⟩)⟩
         ·exact⟨by omega,.inl (by omega)⟩
        ·rintro k ⟨_,hk⟩ bQ
         have BK:((∃o x,σ3.c k o=some x)∨∃x,σ3.m k=some x)→fx k∨(∃o x,σx.c k o=some x)∨(∃x,σx.m k=some x∧x≠cL):=fun h=>by
          rcases aR.imm k h with⟨o,x,e⟩|⟨x,e⟩|⟨j,e⟩|e
          ·rcases Im.plus_c e with e|e
           ·exact .inl (Vq k o x e)
           ·exact .inr (.inl ⟨o,x,e⟩)
          ·rcases Im.plus_m e with e|e
           ·exact .inl (BT k x e)
           ·exact .inr (.inr ⟨x,(Im.noM_m e).1,(Im.noM_m e).2⟩)
          ·exact .inl (Mc k j e)
          ·omega
         rcases hk with hk|⟨j,e⟩|e|e
         ·exact .inl (hF.old k hk)
         ·rcases aR.ow k j e with⟨j',e⟩|e
          ·exact .inl (Mc k j' e)
          ·omega
         ·exact BK (.inl e)
         ·exact BK (.inr e)
        ·rintro k (⟨j,e⟩|e) bQ
         ·rcases aR.ow k j e with⟨j',e⟩|e
          ·exact(yo k).2 (.inl ⟨j',e⟩)
          ·omega
         ·rw[e];exact Gv
   have mB:jz σ3 w0.heap.size aM.defers:=iA.defers.mono ((Im.plus_le1 _ _).trans (km.le.trans G5.le));have Mo:q2.out=rb.out.map (Snap.mask mk)∧q2.ex=rb.ex.map (fun x=>(x.1,x.2.mask mk)):=by rw[←gV,←GS];exact⟨rfl,rfl⟩
   cases e3 with
   |normal=>
    obtain⟨e4,e5⟩:=mH;have hT:q2.out=some (S3.mask mk):=by rw[Mo.1,e5];rfl
    have Vy:=yq _ hT
    have iG:Inv C (q1.st ids) ρ3 σ3 vI Cg w0 σR (fun _=>False) a3 w3:=by
        have:=Snap.meet_ok2 (x:=q1) (iF.maskR mk)
        rwa [Vy] at this
    have iH:=iG.restore (ρ':=ρ1.put [] [] lo (lo.map ρ3.o)) (a':=aM) (Snap.noOpt _ _) mB (fun t ht=>Mu t (by
        cases e:aO mk t with
        |false=>rfl
        |true=>
         have h9:=amj (x:=q1) (S:=S3) (ids:=ids) e;rw[Vy] at h9;rw[h9] at ht;cases ht)) (fun j hj=>Me q1 (eC ..) j hj)
    rcases MR with⟨po,ρ',e6,e7⟩|⟨_,_,id,ρ',e6⟩
    ·rw[e4] at e6;cases e6;exact fin none q1 iH (by rw[hP];exact .inl ⟨by omega,e7,rfl,rfl,rfl⟩) (by simp[po])
    ·rw[e4] at e6;cases e6
   |exit id=>
    obtain⟨e4,e5,e6⟩:=mH;have cQ:(id,S3.mask mk)∈q2.ex:=by rw[Mo.2];exact cZ.2 ⟨_,e6,rfl⟩
    have iH:=(iF.maskR mk).restore (ρ':=ρ1.put [] [] lo (lo.map ρ3.o)) (a':=aM) (Snap.noOpt _ _) mB (fun t ht=>Mu t (by
        cases e:aO mk t with
        |false=>rfl
        |true=>rw[Cz,if_pos e] at ht;cases ht)) (fun j hj=>Me (S3.mask mk) (ef _ (cZ.2 ⟨_,cQ,rfl⟩)) j hj)
    rcases MR with⟨po,ρ',e7,_⟩|⟨po,qY,bM,ρ',e7⟩
    ·rw[e4] at e7;cases e7
    ·subst po;refine fin (some (.exit id)) (S3.mask mk) iH ?_ (by simp);rw[hP];refine .inr ⟨rfl,qY,rfl,_,id,ρ3,dp,?_,rfl,cQ,.inl ⟨e5,rfl⟩⟩;rw[ae];simp only[PC.ev,kQ];rw[q8,e4]
   |ret=>
    obtain⟨e4,e6⟩:=mH;have cQ:(cD,S3.mask mk)∈q2.ex:=by rw[Mo.2];exact cZ.2 ⟨_,e6,rfl⟩
    have iH:=(iF.maskR mk).restore (ρ':=ρ1.put [] [] lo (lo.map ρ3.o)) (a':=aM) (Snap.noOpt _ _) mB (fun t ht=>Mu t (by
        cases e:aO mk t with
        |false=>rfl
        |true=>rw[Cz,if_pos e] at ht;cases ht)) (fun j hj=>Me (S3.mask mk) (ef _ (cZ.2 ⟨_,cQ,rfl⟩)) j hj)
    rcases MR with⟨po,ρ',e7,_⟩|⟨po,qY,bM,ρ',e7⟩
    ·rw[e4] at e7;cases e7
    ·subst po;refine fin (some .ret) (S3.mask mk) iH ?_ (by simp);rw[hP];refine .inr ⟨rfl,qY,rfl,_,cD,ρ3,dp,?_,rfl,cQ,.inr ⟨rfl,rfl⟩⟩;rw[ae];simp only[PC.ev,kQ];rw[q8,e4]
   |_=>exact mH.elim
  |exit id=>obtain⟨_,_,e6⟩:=ji;rw[Vl] at e6;cases e6
  |ret=>obtain⟨_,e6⟩:=ji;rw[Vl] at e6;cases e6
  |_=>exact ji.elim
 ·rintro e' w' ⟨⟨v,rfl⟩,fx,cx,hF⟩;rw[show({tmps:=a.tmps,defers:=[{target:=Target.collected w.heap.size,args:=#[]}]++a.defers}:Act)=aM from Lv];obtain⟨i',vo,Sx,st,pe,σa,vJ,hva,e1,e2,iA,GP,Bo,Gk,Mc,Vq,BT,yo⟩:=hF.ex;have h9:=congrArg List.length (congrArg D.l e1);simp only[D.l_list,gd] at h9;have cS:(rec st pe).state≠.busy:=by
   rw[hP] at e2;rw[gG];rcases e2 with⟨_,_,_,e3,_⟩|⟨_,_,e3,_⟩<;>(rw[e3];intro e;cases e)
  have sB:(rec st pe).pending=pe:=by rw[gG]
  have LM:(Instr.endLoop L).run C.P w'=.ok pe (w'.putObj L (.loop {rec st pe with state:=.exhausted})):=(run_endLoop (P:=C.P) Gk cS).trans (congrArg (fun z=>Result.ok z _) sB);have iF:=iA.putL (by omega:w0.heap.size≤L) Bo (fun t' f c hf BE=>((sl _ _ _ _ hf.F).1 L BE).2 rfl) (.loop {rec st pe with state:=.exhausted});rw[←hσR] at iF;have iG:=i1.ofRnd LO (fun k hk e=>by have:=ahL k hk;omega) iF;have jk:SameBut wr a aM:=⟨by rw[Bq],fun t _=>by rw[Bq]⟩
  refine⟨pe,_,LM,?_⟩;rw[hP] at e2;rcases e2 with⟨e3,rfl,Bp,_,rfl⟩|⟨rfl,qY,_,y,id,ρ',g1,g2,rfl,g4,g5⟩
  ·rcases jL with⟨g1,g2⟩|⟨g1,_⟩
   ·obtain rfl:i'=m:=by omega
    rw[Bp] at iG;exact⟨_,q1,g2,rfl,jk,_,_,_,iG⟩
   ·omega
  ·rcases jL with⟨g6,_⟩|⟨_,y',bM,ρ'',k1,k2,k3⟩
   ·omega
   ·rw[g1] at k1;cases k1;rw[g2] at k2;cases k2;rcases k3 with⟨k3,k4⟩|⟨k3,pe',k4,k5⟩
    ·rcases g5 with⟨_,rfl⟩|⟨g5,_⟩
     ·exact wpIn_exit ⟨_,Sx,k4,k3,eO.2 ⟨g4,by simp[eQ k3]⟩,jk,_,_,_,iG⟩
     ·exact absurd g5 k3
    ·rcases g5 with⟨g5,_⟩|⟨_,rfl⟩
     ·exact absurd k3 g5
     ·subst k3;rw[←sE,ar] at k4;obtain⟨M,hM,Mt⟩:=k4;obtain⟨M',Vb,qV⟩:=Ny (⟨_,_,_,iG⟩:Good C w0 σ0 (Sx.st ids) _ (fun _=>False) aM _) q2.ex none g4;rw[hM] at Vb;cases Vb;obtain⟨σm,aym,Wj,im⟩:=qV;exact wpIn_ret ⟨_,k5,Inv.retD hC (fun _=>rfl) lL Mt _ im rfl,jk⟩
theorem Xm {arr:Array MapEntry}{clock:Nat}(hb:lq arr clock){idx:List Nat}(hi:∀i,i∈idx→i<arr.size){i:Nat}{e:MapEntry}(he:arr[i]?=some e):(fy arr idx).contains e.born=true↔i∈idx:=by
 simp only[fy,List.contains_toArray,List.contains_iff_mem,cZ];constructor
 ·rintro⟨j,hj,h⟩;have af:=hi j hj;rw[iY af] at h;simp only at h;have:=hb.2 j i arr[j] e (iY af) he h;rw[←this];exact hj
 ·intro h;exact⟨i,h,by rw[he]⟩
theorem ao0 (arr:Array MapEntry)(idx:List Nat){i:Nat}{e:MapEntry}(he:arr[i]?=some e):(fy arr idx).push e.born=fy arr (idx++[i]):=by
 simp[fy,he]
theorem amx {P:Program}{w:World}{k m:Nat}{arr:Array MapEntry}{clock:Nat}{idx:List Nat}(hk:w.heap[k]?=some (.mapIter (some m) clock (fy arr idx) clock))(hm:w.heap[m]?=some (.map arr clock))(hb:lq arr clock)(hi:∀i,i∈idx→i<arr.size)(T:TypeId):
 ∃w1:World,(w1=w∨w1=w.drew)∧(((∀i,i<arr.size→i∈idx)∧(Instr.next (.pointer (some ⟨k,0,none⟩)) false T).run P w=.ok (.tuple #[.bool false]) w1)∨
  ∃i e,arr[i]?=some e∧i∉idx∧(Instr.next (.pointer (some ⟨k,0,none⟩)) false T).run P w=.ok (.tuple #[.bool true,e.key,e.val]) {w1 with heap:=w1.heap.setIfInBounds k (.mapIter (some m) clock (fy arr (idx++[i])) clock)}):=by
 have cQ:∀{e:MapEntry},e∈arr→∃i:Nat,arr[i]?=some e:=fun he=>by
  obtain⟨i,hi,rfl⟩:=Array.mem_iff_getElem.1 he;exact⟨i,iY hi⟩
 have hold:∀(l:Array MapEntry),(∀e,e∈l→e.born<clock)→l.filter (fun x=>decide (x.born<clock))=l:=fun l h=>by
  rw[Array.filter_eq_self];intro e he;simpa using h e he
 have kg:∀(l:Array MapEntry),(∀e,e∈l→e.born<clock)→l.filter (fun x=>decide (x.born≥clock))=#[]:=fun l h=>by
  rw[Array.filter_eq_empty_iff];intro e he;have:=h e he;simp;omega
 have Vm:∀e,e∈arr→e.born<clock:=fun e he=>by obtain⟨i,hi⟩:=cQ he;exact hb.1 i e hi
 have nO:(!(fy arr idx).isEmpty&& !arr.isEmpty&&arr.all (fun x=>decide (x.born≥clock)))=false:=by
  cases ha:arr.isEmpty
  ·have az:arr.size≠0:=by simpa using ha
   have:arr.all (fun x=>decide (x.born≥clock))=false:=by
        rw[SK];intro h;rw[Array.all_eq_true] at h;have h0:=h 0 (by omega);have h1:=Vm arr[0] (SI _);simp at h0;omega
   rw[this,D7]
  ·simp
 let left:=arr.filter fun e=> !(fy arr idx).contains e.born
 have hl:∀e,e∈left→e.born<clock:=fun e he=>Vm e (SJ.1 he).1;by_cases hz:left.size=0
 ·refine⟨w,.inl rfl,.inl ⟨fun i af=>?_,?_⟩⟩
  ·by_cases cv:i∈idx
   ·exact cv
   ·exfalso;have GR:arr[i]∈left:=SJ.2 ⟨SI _,by
     have:=Xm hb hi (iY af);cases hc:(fy arr idx).contains arr[i].born with
     |false=>rfl
     |true=>exact absurd (this.1 hc) cv⟩
    have:left=#[]:=Jy hz;rw[this] at GR;simp at GR
  ·have he:left=#[]:=Jy hz;have qU:arr.filter (fun e=> !(fy arr idx).contains e.born)=#[]:=he;simp only[Instr.next,getObj,Sem.run_bind,Sem.run,hk,hm,Result.andThen_ok,nO,qU];simp[Question.forced,Sem.run]
 ·have lK:left.filter (fun x=>decide (x.born<clock))=left:=hold left hl;have BC:left.filter (fun x=>decide (x.born≥clock))=#[]:=kg left hl;have hem:left.isEmpty=false:=by simpa using hz
  have key:∀c,c<left.size→∃i e,arr[i]?=some e∧i∉idx∧left[c]?=some e:=fun c hc=>by
   have GR:left[c]∈left:=SI _;obtain⟨h1,h2⟩:=SJ.1 GR;obtain⟨i,dO⟩:=cQ h1;refine⟨i,left[c],dO,fun cv=>?_,iY hc⟩;rw[(Xm hb hi dO).2 cv] at h2;cases h2
  obtain⟨w1,c,dm,hc,kK⟩:∃w1 c,(w1=w∨w1=w.drew)∧c<left.size∧(choose (.mapNext left.size)).run P w=.ok c w1:=by
   by_cases h1:left.size≤1
   ·exact⟨w,0,.inl rfl,by omega,by simp[Question.forced,h1]⟩
   ·exact⟨w.drew,_,.inr rfl,Nat.mod_lt _ (by omega),by simp[Question.forced,h1,Question.cut];rfl⟩
  obtain⟨i,e,h1,h2,h3⟩:=key c hc;refine⟨w1,dm,.inr ⟨i,e,h1,h2,?_⟩⟩;have uT:arr.filter (fun e=> !(fy arr idx).contains e.born)=left:=rfl;have mD:(getObj k).run P w=.ok (.mapIter (some m) clock (fy arr idx) clock) w:=by simp[getObj,Sem.run,hk]
  have gE:(getObj m).run P w=.ok (.map arr clock) w:=by simp[getObj,Sem.run,hm]
  have bQ:w1.heap[k]?=some (.mapIter (some m) clock (fy arr idx) clock):=by rcases dm with rfl|rfl<;>exact hk
  have Vz:(setObj k (.mapIter (some m) clock ((fy arr idx).push e.born) clock)).run P w1=.ok () {w1 with heap:=w1.heap.setIfInBounds k (.mapIter (some m) clock ((fy arr idx).push e.born) clock)}:=by simp[setObj,Sem.run,bQ]
  have ahl:((if false=true then #[none] else #[])++Array.map some (left++#[]):Array (Option MapEntry))=left.map some:=by simp
  have gC:(left.map some)[c]?=some (some e):=by simp[h3]
  have VB:∀(Az:Array (Option MapEntry)) (cc:Nat),(choose (.mapNext Az.size)).run P w=.ok cc w1→Az[cc]?=some (some e)→(do
        match Az[←choose (.mapNext Az.size)]? with
        |some (some e)=>
         setObj k (.mapIter (some m) clock ((fy arr idx).push e.born) clock)
         pure (.tuple #[.bool true,e.key,e.val])
        |some none=>(pure (.tuple #[.bool false]):Sem Value)
        |none=>stuck "Next: no such candidate" :Sem Value).run P w=.ok (.tuple #[.bool true,e.key,e.val]) {w1 with heap:=w1.heap.setIfInBounds k (.mapIter (some m) clock ((fy arr idx).push e.born) clock)}:=by
   intro Az cc h4 h5;rw[Sem.run_bind,h4];simp only[Result.andThen_ok,h5];rw[Sem.run_bind,Vz];rfl
  rw[ao0 arr idx h1] at VB Vz;have:=VB (left.map some) c (by rw[Array.size_map];exact kK) gC;simp only[Instr.next];rw[Sem.run_bind,mD];simp only[Result.andThen_ok];rw[Sem.run_bind,gE];simp only[Result.andThen_ok,nO,uT,lK,BC,hem];rw[ahl,if_neg (by decide)];exact this
theorem aeU {P:Program}{w:World}{k m:Nat}{arr:Array MapEntry}{clock:Nat}{idx:List Nat}{i:Nat}{e:MapEntry}(hk:w.heap[k]?=some (.mapIter (some m) clock (fy arr (idx++[i])) clock))(hm:w.heap[m]?=some (.map arr clock))(hb:lq arr clock)(he:arr[i]?=some e):
 (Instr.entry (.pointer (some ⟨k,0,none⟩))).run P w=.ok (.tuple #[e.key,e.val]) w:=by
 have ahh:(fy arr (idx++[i])).back?=some e.born:=by simp[fy,he]
 have BF:arr.find? (fun x=>x.born==e.born)=some e:=by
  have af:i<arr.size:=(eA.1 he).1;have hei:arr[i]=e:=(eA.1 he).2;rw[Array.find?_eq_some_iff_getElem];refine⟨by simp,i,af,hei,fun j hj=>?_⟩;have fJ:j<arr.size:=by omega
  cases hc:(arr[j].born==e.born) with
  |false=>rfl
  |true=>
   have:=hb.2 j i arr[j] e (iY fJ) he (by simpa using hc);omega
 simp[Instr.entry,getObj,Sem.run_bind,Sem.run,hk,hm,ahh,BF]
theorem ama {x y z:Code}{k:Nat}{p:MP}(h:yU x y k z=some p):∃i1 i2 o1 o2 o3 l,x=.region i1 p.ops1 false∧y=.cond (.tmp p.mo) .skip (.exit p.out)∧z=.region i2 p.ops2 false∧p.next=k∧p.ops1.toList=[o1,o2]∧p.ops2.toList=o3::l∧
 o1.dst=some p.nx∧o1.guard=none∧o1.op=.next (.tmp p.it) false∧o2.dst=some p.mo∧o2.guard=none∧o2.op=.extract (.tmp p.nx) 0∧o3.dst=some p.pr∧o3.guard=none∧o3.op=.entry (.tmp p.it)∧jT p.pr l []=some p.aa∧
 p.it≠p.nx∧p.it≠p.mo∧p.it≠p.pr∧p.nx≠p.mo∧p.out≠cD∧k≠cD:=by
 unfold yU at h;split at h
 case h_2=>cases h
 rename_i i1 ops1 mo out i2 ops2;split at h
 case h_2=>cases h
 rename_i o1 o2 o3 l e1 e2;split at h
 case h_2=>cases h
 rename_i nx it mo' XK pr WE d1 g1 q1 d2 g2 q2 d3 g3 q3;rw[ng] at h;split at h
 case isFalse=>cases h
 rename_i hc;simp only[ax] at h;obtain⟨aa,h4,rfl⟩:=h;simp only[aq,jx] at hc;obtain⟨⟨⟨⟨⟨⟨⟨⟨c1,c2⟩,c3⟩,c4⟩,c5⟩,c6⟩,c7⟩,c8⟩,c9⟩:=hc;have ne:∀{a b:Nat},Nat.beq a b=false→a≠b:=fun h e=>by subst e;simp at h
 obtain rfl:=aw c1;obtain rfl:=aw c2;obtain rfl:=aw c3;exact⟨i1,i2,o1,o2,o3,l,rfl,rfl,rfl,rfl,e1,e2,d1,g1,q1,d2,g2,q2,d3,g3,q3,h4,ne c4,ne c5,ne c6,ne c7,ne c8,ne c9⟩
theorem HT {pr:Nat}:∀(l:List Oper) {acc aa:List (Nat×Nat)},jT pr l acc=some aa→∀x,x∈acc→x∈aa
 |[],acc,aa,h,x,hx=>by simp only[jT,aT] at h;subst h;exact hx
 |o::l,acc,aa,h,x,hx=>by
  simp only[jT] at h;split at h
  case h_2=>cases h
  rw[ng] at h;split at h
  ·cases h
  split at h
  ·rw[ng] at h;split at h
   ·exact HT l h x (jc _ hx)
   ·cases h
  ·simp only[ar] at h;obtain⟨i,_,h⟩:=h;exact HT l h x (jc _ hx)
  ·simp only[ar] at h;obtain⟨i,_,h⟩:=h;exact HT l h x (jc _ hx)
  ·cases h
theorem Cw:∀{l:List (Nat×Nat)} {t i:Nat},sT l t=some i→(t,i)∈l
 |x::l,t,i,h=>by
  simp only[sT] at h;cases hb:Nat.beq x.1 t<;>simp only[hb,cond_true,cond_false] at h
  ·exact ef _ (Cw h)
  ·cases h;have:=aw hb;subst this;exact eC ..
theorem W7:∀{l:List (Nat×Nat)} {t:Nat},(sT l t).isSome=false→∀x,x∈l→x.1≠t
 |y::l,t,h,x,hx=>by
  simp only[sT] at h;cases hb:Nat.beq y.1 t<;>simp only[hb,cond_true,cond_false] at h
  ·rcases cG.1 hx with e|hx
   ·subst e;intro e;subst e;simp at hb
   ·exact W7 h x hx
  ·cases h
theorem OC {pr:Nat}:∀(l:List Oper) {acc aa:List (Nat×Nat)},jT pr l acc=some aa→(∀x,x∈acc→x.2≤1)→∀x,x∈aa→x∈acc∨(x.2≤1∧∃o,o∈l∧o.dst=some x.1)
 |[],acc,aa,h,_,x,hx=>by simp only[jT,aT] at h;subst h;exact .inl hx
 |o::l,acc,aa,h,ha,x,hx=>by
  simp only[jT] at h;split at h
  case h_2=>cases h
  rename_i d hd lN;rw[ng] at h;split at h
  ·cases h
  have go:∀(pt:Nat),pt≤1→jT pr l (acc++[(d,pt)])=some aa→x∈acc∨(x.2≤1∧∃o',o'∈o::l∧o'.dst=some x.1):=by
   intro pt sC hp
   rcases OC l hp (fun y hy=>by
        rcases dg.1 hy with h|h
        ·exact ha y h
        ·simp at h;subst h;exact sC) x hx with h|⟨h1,o',h2,h3⟩
   ·rcases dg.1 h with h|h
    ·exact .inl h
    ·simp at h;subst h;exact .inr ⟨sC,o,eC ..,hd⟩
   ·exact .inr ⟨h1,o',ef _ h2,h3⟩
  split at h
  ·rw[ng] at h;split at h
   case isFalse=>cases h
   rename_i gC;simp only[aq] at gC;exact go _ (j3 gC.2) h
  ·simp only[ar] at h;obtain⟨i,hi,h⟩:=h;exact go i (ha _ (Cw hi)) h
  ·simp only[ar] at h;obtain⟨i,hi,h⟩:=h;exact go i (ha _ (Cw hi)) h
  ·cases h
theorem y4 {P:Program}{ops:Array Oper}{i:Nat}{rest:List Nat}{o:Oper}{rd:Option Nat}{a:Act}{w w':World}{Q:Exit→Act→World→Prop}{v:Value}(ho:ops[i]?=some o)(hg:o.guard=none)(bm:pM o.op=true)(hx:(execOp a.eval o).run P w=.ok (.value v) w')
 (k:wpOpsIn (FR rd) 0 P ops Q rest (a.put o.dst v) w'):wpOpsIn (FR rd) 0 P ops Q (i::rest) a w:=by
 simp only[wpOpsIn,ho];rw[if_pos (by simp[Region.wanted,hg])];exact Zl bm (by unfold Oper.wp;rw[hx];exact k)
theorem aoS {ops:Array Oper}{o:Oper}(ho:o∈ops.toList)(a:Act)(v:Value):SameBut (xO ops) a (a.put o.dst v):=by
 have:=SameBut.put a o.dst v a.defers;exact this.mono fun t e=>⟨o,ho,e⟩
theorem y9 {a:Act}{d:Nat}{v:Value}(h:d<a.tmps.size):(a.put (some d) v).tmps.getD d undef=v:=by rw[DX];simp[h]
theorem H3 {a:Act}{d t:Nat}{v:Value}(h:t≠d):(a.put (some d) v).tmps.getD t undef=a.tmps.getD t undef:=by rw[DX];simp[h]
theorem put_defers (a:Act)(d:Option Nat)(v:Value):(a.put d v).defers=a.defers:=by cases d<;>rfl
def CM (kv vv:Value)(i:Nat):Value:=if i=0 then kv else vv
theorem Zq {P:Program}{ops:Array Oper}{rd:Option Nat}{Q:Exit→Act→World→Prop}{pr:Nat}{kv vv:Value}{w:World}:∀(l:List Oper) (acc aa:List (Nat×Nat)) (i:Nat) (a:Act),jT pr l acc=some aa→ops.toList.drop i=l→(∀x,x∈aa→x.1<a.tmps.size)→a.tmps.getD pr undef=.tuple #[kv,vv]→
 (∀x,x∈acc→a.tmps.getD x.1 undef=CM kv vv x.2)→(∀a',SameBut (xO ops) a a'→a'.defers=a.defers→(∀x,x∈aa→a'.tmps.getD x.1 undef=CM kv vv x.2)→Q .normal a' w)→wpOpsIn (FR rd) 0 P ops Q (List.range' i (ops.size-i)) a w
 |[],acc,aa,i,a,h,hl,af,nT,Br,hQ=>by
  simp only[jT,aT] at h;subst h;have:ops.size-i=0:=by
    have:=SR.1 hl;simp at this;omega
  rw[this];exact hQ a (.refl _ _) rfl Br
 |o::l,acc,aa,i,a,h,hl,af,nT,Br,hQ=>by
  have hi:i<ops.toList.length:=by
   refine S9 fun hle=>?_;rw[SR.2 hle] at hl;cases hl
  rw[abH hi] at hl;have ho:ops[i]?=some o:=by
   have:ops.toList[i]=o:=by injection hl
   rw[←this];simp at hi ⊢
  have yA:ops.toList.drop (i+1)=l:=by injection hl
  have aN:ops.size-i=(ops.size-(i+1))+1:=by simp at hi;omega
  rw[aN,JG];have cQ:o∈ops.toList:=by simpa using nf ho
  simp only[jT] at h;split at h
  case h_2=>cases h
  rename_i d hd lN;rw[ng] at h;split at h
  ·cases h
  rename_i hc;simp only[jy,not_or,Bool.not_eq_true] at hc;have hdp:pr≠d:=fun e=>by subst e;simp at hc
  have hda:∀x,x∈acc→x.1≠d:=W7 hc.2;have go:∀(pt:Nat) (v:Value),jT pr l (acc++[(d,pt)])=some aa→pM o.op=true→v=CM kv vv pt→(execOp a.eval o).run P w=.ok (.value v) w→wpOpsIn (FR rd) 0 P ops Q (i::List.range' (i+1) (ops.size-(i+1))) a w:=by
   intro pt v hp bm hv hx;have Bz:d<a.tmps.size:=af _ (HT l hp (d,pt) (by simp));refine y4 ho lN bm hx ?_;have jk:=aoS cQ a v;rw[hd] at jk ⊢;refine Zq l _ aa (i+1) _ hp yA (fun x hx=>by rw[jk.size];exact af x hx) (by rw[H3 hdp];exact nT) (fun x hx=>?_) (fun a' h1 h2 h3=>hQ a' (jk.trans h1) (h2.trans (put_defers _ _ _)) h3);rcases dg.1 hx with hx|hx
   ·rw[H3 (hda x hx)];exact Br x hx
   ·simp at hx;subst hx;rw[y9 Bz];exact hv
  split at h
  ·rename_i t pt e;rw[ng] at h;split at h
   case isFalse=>cases h
   rename_i gC;simp only[aq] at gC;have ht:=aw gC.1;have sC:=j3 gC.2;subst ht;have bK:a.eval (.tmp t)=.tuple #[kv,vv]:=by simpa [Act.eval] using nT
   refine go pt (CM kv vv pt) h (by rw[e];rfl) rfl ?_;rcases(by omega:pt=0∨pt=1) with rfl|rfl<;>simp[execOp,e,bK,Instr.extract,CM]
  ·rename_i t e;simp only[ar] at h;obtain⟨pt,uT,h⟩:=h;have:=Br _ (Cw uT);exact go pt (a.eval (.tmp t)) h (by rw[e];rfl) (by simpa [Act.eval] using this) (by simp[execOp,e])
  ·rename_i t e;simp only[ar] at h;obtain⟨pt,uT,h⟩:=h;have:=Br _ (Cw uT);exact go pt (a.eval (.tmp t)) h (by rw[e];rfl) (by simpa [Act.eval] using this) (by simp[execOp,e])
  ·cases h
theorem M4 (ids:List Nat)(J j:Nat)(S:Snap):((S.kill ids J).st ids).o j=if j=J then .dead else(S.st ids).o j:=by
 show cW ids (vl ids J S.os) j=_;have:∀(is:List Nat) (os:List Ob),cW is (vl is J os) j=if j=J then .dead else cW is os j:=by
  intro is
  induction is with
  |nil=>intro os;simp[vl,cW]
  |cons i is ih=>
   intro os;cases os with
   |nil=>simp[vl,cW]
   |cons o os=>
    simp only[vl,cW];cases hb:Nat.beq i j
    ·simp only[cond_false];exact ih os
    ·have:=aw hb;subst this;simp only[cond_true];by_cases db:i=J
     ·subst db;simp
     ·simp[eQ db,db]
 exact this ids S.os
theorem TJ {N:Nat}{id:Nat}(GI:id≠cD){rm:Bool}{wr:Nat→Prop}{a:Act}{q:Res2}{x xi:Out}(pq:(∀t,t∈q.pc.modR→aO q.mr t=true)∧∀j,j∈q.pc.modO→j∈q.mo)(dp:q.pc.ev Φ N ρ=some xi)(bK:(fD ids id q).pc.ev Φ N ρ=some x){e:Exit}{a':Act}{w':World}
 (fK:fS C w0 σ0 ids fn s rm wr a q.out q.ex xi e a' w'):Exit.inBlock id (fS C w0 σ0 ids fn s rm wr a (fD ids id q).out (fD ids id q).ex x) e a' w':=by
 have Vw:∀bM S1,(bM,S1)∈q.ex→bM≠id→(bM,S1)∈q.ex.filter fun x=> !Nat.beq x.1 id:=fun bM S1 hm az=>eO.2 ⟨hm,by simp[eQ az]⟩;have main:∀(o:Option Snap) (lr lo:List Nat),mN id q.ex q.out=o→(∀M,o=some M→lr=jr M q.mr∧lo=gY ids M q.mo)→(PC.block id lr lo q.pc).ev Φ N ρ=some x→
        Exit.inBlock id (fS C w0 σ0 ids fn s rm wr a o (q.ex.filter fun x=> !Nat.beq x.1 id) x) e a' w':=by
  intro o lr lo ho hl bK;simp only[PC.ev] at bK;rw[dp] at bK
  have fin:∀{ρ1:Env} {a':Act} {w':World},(∃M,o=some M∧Good C w0 σ0 (M.st ids) ρ1 (fun _=>False) a' w')→xi.env?=some ρ1→x=.next (ρ.join lr lo ρ1)→SameBut wr a a'→
   fS C w0 σ0 ids fn s rm wr a o (q.ex.filter fun x=> !Nat.beq x.1 id) x .normal a' w':=by
        intro ρ1 a' w' hM uO hx dE;obtain⟨M,hM,qV⟩:=hM;obtain⟨l1,l2⟩:=hl M hM;subst l1 l2;exact⟨_,M,hx,hM,dE,qV.joined (PC.ev_but q.pc ρ _ ρ1 dp uO) pq.1 pq.2⟩
  cases e with
  |normal=>
   obtain⟨ρ1,S2,e1,e2,dE,gE⟩:=fK;subst e1;simp only[aT] at bK;refine fin ?_ rfl bK.symm dE;rw[e2] at ho;obtain⟨M,h1,h2⟩:=Hp (id:=id) q.ex gE;rw[ho] at h1;exact⟨M,h1,h2⟩
  |exit bM=>
   obtain⟨ρ1,S2,e1,e0,e2,dE,gE⟩:=fK;subst e1;simp only at bK;show if bM=id then _ else _;by_cases cu:bM=id
   ·subst cu;simp only[jC,cond_true,aT] at bK;simp only[if_true];refine fin ?_ rfl bK.symm dE;rw[←ho];exact Ny gE q.ex q.out e2
   ·simp only[eQ cu,cond_false,aT] at bK;subst bK;simp only[cu,if_false];exact⟨ρ1,S2,rfl,e0,Vw _ _ e2 cu,dE,gE⟩
  |ret=>
   cases rm with
   |false=>
    have hy:=fK;obtain⟨d,e1,_⟩:=hy;subst e1;simp only[aT] at bK;subst bK;exact fK
   |true=>
    obtain⟨ρ1,S2,e1,e2,dE,gE⟩:=fK;subst e1;simp only[eQ (fun e=>GI e.symm:cD≠id),cond_false,aT] at bK;subst bK;exact⟨ρ1,S2,rfl,Vw _ _ e2 (fun e=>GI e.symm),dE,gE⟩
  |_=>exact fK.elim
 unfold fD at bK ⊢;cases hm:mN id q.ex q.out with
 |none=>
  simp only[hm] at bK ⊢;exact main none [] [] hm (fun M e=>by cases e) bK
 |some M=>
  simp only[hm] at bK ⊢;exact main (some M) _ _ hm (fun M' e=>by cases e;exact⟨rfl,rfl⟩) bK
theorem TH {N id:Nat}{q:Res2}{x:Out}(bK:(fD ids id q).pc.ev Φ N ρ=some x):∃xi,q.pc.ev Φ N ρ=some xi:=by
 unfold fD at bK;cases hm:mN id q.ex q.out<;>simp only[hm,PC.ev] at bK<;>cases dp:q.pc.ev Φ N ρ<;>first|exact⟨_,rfl⟩|(rw[dp] at bK;cases bK)
theorem aaN {es:List (D×D)}{idx:List Nat}(hn:idx.Nodup)(af:∀i,i∈idx→i<es.length)(aR:∀i,i<es.length→i∈idx):(fP es idx).Perm (gr (.map es)):=by
 have h1:idx.Perm (List.range es.length):=by
  rw[List.perm_ext_iff_of_nodup hn S6];intro i;rw[gf];exact⟨af i,aR i⟩
 have h2:fP es (List.range es.length)=gr (.map es):=by
  refine SU (by simp[fP,gr,D.m]) fun i g1 g2=>?_;have hi:i<es.length:=by simpa [fP] using g1
  simp[fP,gr,D.m,be hi]
 rw[←h2];exact h1.map _
theorem ao1 {es:List (D×D)}{idx:List Nat}(hn:idx.Nodup)(af:∀i,i∈idx→i<es.length):∃rest,(fP es idx++rest).Perm (gr (.map es)):=by
 refine⟨fP es ((List.range es.length).filter fun i=> !idx.contains i),?_⟩;have e:fP es idx++fP es ((List.range es.length).filter fun i=> !idx.contains i)=fP es (idx++(List.range es.length).filter fun i=> !idx.contains i):=by simp[fP]
 rw[e];refine aaN ?_ (fun i hi=>?_) (fun i hi=>?_)
 ·rw[Eh];refine⟨hn,S6.filter _,fun a ha b hb e=>?_⟩;subst e;have:=(eO.1 hb).2;simp[ha] at this
 ·rcases dg.1 hi with h|h
  ·exact af i h
  ·exact gf.1 (eO.1 h).1
 ·by_cases h:i∈idx
  ·exact jc _ h
  ·exact jA _ (eO.2 ⟨gf.2 hi,by simp[h]⟩)
theorem aaO (es:List (D×D))(idx:List Nat){i:Nat}{p:D×D}(h:es[i]?=some p):fP es (idx++[i])=fP es idx++[.tup [p.1,p.2]]:=by simp[fP,h]
theorem amc {N:Nat}{x y z code:Code}{k:Nat}{p:MP}(hp:yU x y k z=some p)(ihc:tX C Φ fn s n ids R N code){rm:Bool}{S:Snap}{r:Res2}
 (hr:yV ids n p (cm x++(cm y++(cm z++cm code))) (fun S=>comp C fn s n ids R rm code S) S=some r) {rd:Option Nat} {wr:Nat→Prop} {x0:Out} (fL:rm=false→rd=none∧σ0.fin) (hC:CtxOK C σ0) (hY:qn C Φ w0 σ0)
 (gp:∀t,t∈cm (.loop (.seq x (.seq y (.block k (.seq z code)))))→wr t) (hn:a.tmps.size=n) (hg:Good C w0 σ0 (S.st ids) ρ (fun _=>False) a w) (he:r.pc.ev Φ N ρ=some x0):
 (Code.loop (.seq x (.seq y (.block k (.seq z code))))).wpIn (FR rd) 0 C.P (fS C w0 σ0 ids fn s rm wr a r.out r.ex x0) a w:=by
 obtain⟨i1,i2,o1,o2,o3,l,rfl,rfl,rfl,hk,e1,e2,d1,g1,q1,d2,g2,q2,d3,g3,q3,lR,n1,n2,n3,n4,n5,n6⟩:=ama hp;subst hk;unfold yV at hr;split at hr
 case h_2=>cases hr;exact absurd he (ld _ _ _ _)
 rename_i J hJ;split at hr
 case h_2=>cases hr;exact absurd he (ld _ _ _ _)
 rename_i kt et GN;simp only at hr;split at hr
 case h_2=>cases hr;exact absurd he (ld _ _ _ _)
 rename_i q hq;rw[ng] at hr;split at hr
 case isFalse=>cases hr;exact absurd he (ld _ _ _ _)
 rename_i uN;cases hr;generalize Ha:cm (.region i1 p.ops1 false)++(cm (.cond (.tmp p.mo) .skip (.exit p.out))++(cm (.region i2 p.ops2 false)++cm code))=ws at*;simp only[aq,jx] at uN;obtain⟨⟨⟨⟨⟨⟨⟨⟨c1,c2⟩,c3⟩,c4⟩,c5⟩,c6⟩,c7⟩,c8⟩,c9⟩:=uN;have hex:q.2.ex=[]:=SY.1 c1;have U4:J∉q.2.mo:=fun h=>by rw[(nX _ _).2 h] at c2;cases c2
 simp only[WB,aq,jx] at c3;obtain⟨⟨c3a,c3b⟩,c3c⟩:=c3;have aiU:q.1.rs.getD p.it .none=.obj J 0:=Sh.beq_eq _ _ c3a;have GY:cW ids q.1.os J=.it kt et:=Ob.beq_eq _ _ c3b;have aiM:∀t,t∈p.aa.map (·.1)→t<n:=fun t ht=>by have:=df.1 c5 t ht;rwa [oK] at this
 have Mb:p.nx<n:=by rwa [oK] at c6
 have BU:p.mo<n:=by rwa [oK] at c7
 have nT:p.pr<n:=by rwa [oK] at c8
 have BW:=aw c9;obtain⟨hs,yq,cv⟩:=Cr (C:=C) (w0:=w0) (σ0:=σ0) (ids:=ids) 8 hq;simp only[ax] at hs;obtain⟨q0,B7,gV⟩:=hs;obtain⟨qS,qR⟩:=q;simp only at*;subst gV;generalize hm:vy ws=m at*;generalize uU:gY ids qS (fD ids p.next q0).mo=lo at*;have L6:=TI (ids:=ids) (id:=p.next) (rW code B7);have aib:∀j,j∈lo→j∈(fD ids p.next q0).mo:=fun j hj=>by rw[←uU] at hj;exact yX hj
 have awV:J∉lo:=fun h=>U4 (aib J h);have B6:∃zN,HW ((fD ids p.next q0).pc.ev Φ N) ρ J (p.aa.map (·.1)) (p.aa.map (·.2)) lo zN∧x0=.exit p.out (ρ.put [] [] lo zN):=by
  simp only[PC.ev] at he;cases nT:HX ((fD ids p.next q0).pc.ev Φ N) ρ J (p.aa.map (·.1)) (p.aa.map (·.2)) lo with
  |none=>rw[nT] at he;cases he
  |some y=>
   obtain⟨zN,h1,rfl⟩:=vL.1 nT;rw[nT] at he;simp only[aT] at he;exact⟨zN,h1,he.symm⟩
 obtain⟨zN,⟨B2,ag6⟩,hx0⟩:=B6;generalize gR:(ρ.o J).tget 1=es at*
 have dm:∀o,o∈p.ops1.toList→∀d,o.dst=some d→d∈ws:=fun o ho d hd=>by
  rw[←Ha];exact jc _ (wO.2 ⟨o,ho,hd⟩)
 have eW:∀o,o∈p.ops2.toList→∀d,o.dst=some d→d∈ws:=fun o ho d hd=>by
  rw[←Ha];exact jA _ (jA _ (jc _ (wO.2 ⟨o,ho,hd⟩)))
 have hwc:∀d,d∈cm code→d∈ws:=fun d hd=>by
  rw[←Ha];exact jA _ (jA _ (jA _ hd))
 have MO:∀t,t∈ws→wr t:=fun t ht=>gp t (by rw[←Ha] at ht;exact ht);have q7:∀t,t∈ws→aO m t=true:=fun t ht=>by rw[←hm];exact TG ht
 have L4:∀t,aO m t=true→((qS.mask m).st ids).r t=.none:=fun t ht=>by rw[Cz,if_pos ht]
 have aii:∀t,isNone (((qS.mask m).st ids).r t)=false→aO m t=false:=fun t ht=>by
  cases hb:aO m t with
  |false=>rfl
  |true=>rw[L4 t hb] at ht;cases ht
 have mI:((qS.mask m).st ids).r p.it=.obj J 0:=by
  rw[Cz,c3c];show ct (qS.rs.getD p.it .none)=_;rw[aiU];rfl
 have cI:((qS.mask m).st ids).o J=.it kt et:=GY;have iN:p.ops1[0]?=some o1:=by rw[←zU,e1];rfl
 have kh:p.ops1[1]?=some o2:=by rw[←zU,e1];rfl
 have ho3:p.ops2[0]?=some o3:=by rw[←zU,e2];rfl
 have ajf:List.range p.ops1.size=[0,1]:=by
  have:p.ops1.size=2:=by rw[←zV,e1];rfl
  rw[this];rfl
 have G7:List.range p.ops2.size=0::List.range' 1 (p.ops2.size-1):=by
  have:p.ops2.size=l.length+1:=by rw[←zV,e2];rfl
  rw[this,JH,JG];rfl
 have key:∀(kk:Nat) (done vo:List D) (a':Act) (w':World),SameBut wr a a'→Good C w0 σ0 ((qS.mask m).st ids) ((ρ.put [] [] lo vo).setO J (.tup [.list done,es])) (fun _=>False) a' w'→
  (∀ys,(done++ys).Perm (gr es)→kr ((fD ids p.next q0).pc.ev Φ N) ρ J es (p.aa.map (·.1)) (p.aa.map (·.2)) lo ys done vo=some zN)→done.length+kk=(gr es).length+1→
  Code.roundsIn (FR rd) 0 C.P (.seq (.region i1 p.ops1 false) (.seq (.cond (.tmp p.mo) .skip (.exit p.out)) (.block p.next (.seq (.region i2 p.ops2 false) code)))) (fS C w0 σ0 ids fn s rm wr a none [(p.out,(qS.mask m).kill ids J)] x0) kk a' w':=by
  intro kk
  induction kk with
  |zero=>
   intro done vo a' w' _ jK _ hlen;exfalso;obtain⟨σ,own,hv,h⟩:=jK;have aX:=h.objs J;rw[cI] at aX;obtain⟨kb,mb,arr,clock,fG,idx,h1,h2,h3,az,h4,h5,h6,h7,h8,h9,gj,lI⟩:=aX;simp only[Env.setO,aL] at h6;injection h6 with h6;injection h6 with uH uI;injection uI with uI _;injection uH with uH;subst uH;subst uI;have hle:idx.length≤arr.size:=by
        have:=List.Nodup.length_le_of_subset h7 (l₂:=List.range arr.size) (fun i hi=>gf.2 (h8 i hi));simpa using this
   simp[fP,gr,D.m] at hlen;omega
  |succ kk ih=>
   intro done vo a' w' jk jK aR hlen;rw[roundsIn_succ];obtain⟨σ,own,hv,h⟩:=jK;have aX:=h.objs J;rw[cI] at aX;obtain⟨kb,mb,arr,clock,fG,idx,h1,h2,h3,az,h4,h5,h6,h7,h8,h9,gj,lI⟩:=aX;simp only[Env.setO,aL] at h6;injection h6 with h6;injection h6 with uH uI;injection uI with uI _;injection uH with uH;subst uH;subst uI;have iP:=h.regs p.it;rw[mI] at iP;have GK:a'.eval (.tmp p.it)=.pointer (some ⟨kb,0,none⟩):=by
        have:=iP.2 rfl;simp only[Act.eval];rw[this];exact h1
   have sI:a'.tmps.size=n:=jk.size.trans hn;obtain⟨w1,Wl,GW⟩:=amx (P:=C.P) h5 h4 gj h8 o1.type;have Ci:Below w'.heap.size w' w1:=by rcases Wl with rfl|rfl;exact .refl _ _;exact⟨rfl,rfl,rfl,aU _,fun _ _=>rfl⟩
   have yJ:w1.heap=w'.heap:=by rcases Wl with rfl|rfl<;>rfl
   have VI:kb<w'.heap.size:=(h.owns kb J h2).2.1;have qY:mb<w'.heap.size:=(h.owns mb J h3).2.1;refine wpIn_seq (wpIn_region ?_);rw[ajf];rcases GW with⟨LP,aj⟩|⟨i,e,yx,GH,aj⟩
   ·
        refine y4 iN g1 (by rw[q1];rfl) (v:=.tuple #[.bool false]) (w':=w1) (by simp only[execOp,q1,GK];simp[aj]) ?_;rw[d1]
        refine y4 kh g2 (by rw[q2];rfl) (v:=.bool false) (w':=w1) (by
         have:(a'.put (some p.nx) (.tuple #[.bool false])).eval (.tmp p.nx)=.tuple #[.bool false]:=by simp only[Act.eval];exact y9 (by omega)
         simp only[execOp,q2,this];simp[Instr.extract]) ?_
        rw[d2];simp only[wpOpsIn]
        have u9:SameBut (fun t=>t∈ws) a' ((a'.put (some p.nx) (.tuple #[.bool false])).put (some p.mo) (.bool false)):=by
         have s1:=SameBut.put a' (some p.nx) (.tuple #[.bool false]) a'.defers;have s2:=SameBut.put (a'.put (some p.nx) (.tuple #[.bool false])) (some p.mo) (.bool false) (a'.put (some p.nx) (.tuple #[.bool false])).defers;exact(s1.mono fun t e=>by cases e;exact dm o1 (by rw[e1];simp) _ d1).trans (s2.mono fun t e=>by cases e;exact dm o2 (by rw[e1];simp) _ d2)
        generalize uK:(a'.put (some p.nx) (.tuple #[.bool false])).put (some p.mo) (.bool false)=a1 at u9;have L5:a1.eval (.tmp p.mo)=.bool false:=by
         rw[←uK];simp only[Act.eval];exact y9 (by rw[size_put];omega)
        have mB:a1.defers=a'.defers:=by rw[←uK,put_defers,put_defers]
        refine wpIn_seq (wpIn_cond_false L5 (wpIn_exit ?_));have aiJ:(fP fG idx++[]).Perm (gr (.map fG)):=by
         rw[rL];exact aaN h7 (fun i hi=>by rw[h9];exact h8 i hi) (fun i hi=>LP i (by omega))
        have Wk:=aR [] aiJ;simp only[kr,aT] at Wk;subst Wk;refine⟨_,_,hx0,n5,tU.2 rfl,jk.trans (u9.mono MO),?_⟩;refine⟨σ,own,hv,?_⟩
        refine h.step (S':=((qS.mask m).kill ids J).st ids) (ρ':=ρ.put [] [] lo vo) (A':=fun _=>False) (fun j=>j=J) mB (.refl σ) (h.ok.below Ci) (fun _ _ _ hx=>.inl hx) (fun _ _ hx=>.inl hx) (Ci.mono h.below.size) ⟨fun _=>aU _,fun _ _=>rfl⟩
         (fun j hj=>⟨by rw[M4,if_neg hj],by simp[Env.setO,bq _ _ hj],rfl,fun b hb=>⟨hb,by rw[yJ]⟩⟩) (fun j hj=>?_) (fun b j hb=>?_) (fun _=>id) (fun t=>?_) (fun _ hf=>hf.elim) (fun b hb _=>by rw[yJ]) (fun b j hb=>.inl ⟨j,hb⟩) (fun j hj=>?_)
        ·rw[M4,if_pos hj];trivial
        ·obtain⟨b1,b2,b3,b4⟩:=h.owns b j hb;exact⟨b1,by rw[yJ];exact b2,b3,b4⟩
        ·by_cases ht:t∈ws
         ·refine .inr ⟨?_,fun gs s' e=>absurd e (Snap.noOpt _ _ t gs s')⟩;have:(((qS.mask m).kill ids J).st ids).r t=.none:=L4 t (q7 t ht);rw[this];trivial
         ·exact .inl ⟨rfl,u9.get t ht,rfl⟩
        ·rw[M4,if_pos hj];intro e;cases e
   ·
        obtain⟨pd,Mk⟩:∃pd,fG[i]?=some pd:=⟨_,be (by rw[h9];exact(eA.1 yx).1)⟩
        obtain⟨bQ,cq⟩:=lI i e pd yx Mk;generalize yK:({w1 with heap:=w1.heap.setIfInBounds kb (.mapIter (some mb) clock (fy arr (idx++[i])) clock)}:World)=w2 at aj;have Wm:w2.heap[kb]?=some (.mapIter (some mb) clock (fy arr (idx++[i])) clock):=by rw[←yK];simp[yJ,VI]
        have yL:∀b,b≠kb→w2.heap[b]?=w'.heap[b]?:=fun b hb=>by rw[←yK];simp only[yJ];rw[SH (rN hb)]
        have axw:w2.heap.size=w'.heap.size:=by rw[←yK];simp[yJ]
        have Wn:w2.heap[mb]?=some (.map arr clock):=by rw[yL mb (rN az)];exact h4
        refine y4 iN g1 (by rw[q1];rfl) (v:=.tuple #[.bool true,e.key,e.val]) (w':=w2) (by simp only[execOp,q1,GK];simp[aj]) ?_;rw[d1]
        refine y4 kh g2 (by rw[q2];rfl) (v:=.bool true) (w':=w2) (by
         have:(a'.put (some p.nx) (.tuple #[.bool true,e.key,e.val])).eval (.tmp p.nx)=.tuple #[.bool true,e.key,e.val]:=by simp only[Act.eval];exact y9 (by omega)
         simp only[execOp,q2,this];simp[Instr.extract]) ?_
        rw[d2];simp only[wpOpsIn]
        have u9:SameBut (fun t=>t∈ws) a' ((a'.put (some p.nx) (.tuple #[.bool true,e.key,e.val])).put (some p.mo) (.bool true)):=by
         have s1:=SameBut.put a' (some p.nx) (.tuple #[.bool true,e.key,e.val]) a'.defers;have s2:=SameBut.put (a'.put (some p.nx) (.tuple #[.bool true,e.key,e.val])) (some p.mo) (.bool true) (a'.put (some p.nx) (.tuple #[.bool true,e.key,e.val])).defers;exact(s1.mono fun t e=>by cases e;exact dm o1 (by rw[e1];simp) _ d1).trans (s2.mono fun t e=>by cases e;exact dm o2 (by rw[e1];simp) _ d2)
        have VF:(((a'.put (some p.nx) (.tuple #[.bool true,e.key,e.val])).put (some p.mo) (.bool true))).eval (.tmp p.it)=.pointer (some ⟨kb,0,none⟩):=by
         simp only[Act.eval] at GK ⊢;rw[H3 n2,H3 n1];exact GK
        generalize uK:(a'.put (some p.nx) (.tuple #[.bool true,e.key,e.val])).put (some p.mo) (.bool true)=a1 at u9 VF;have L5:a1.eval (.tmp p.mo)=.bool true:=by
         rw[←uK];simp only[Act.eval];exact y9 (by rw[size_put];omega)
        have mB:a1.defers=a'.defers:=by rw[←uK,put_defers,put_defers]
        refine wpIn_seq (wpIn_cond_true L5 (wpIn_skip ?_));refine wpIn_block (wpIn_seq (wpIn_region ?_));rw[G7];refine y4 ho3 g3 (by rw[q3];rfl) (v:=.tuple #[e.key,e.val]) (w':=w2) (by simp only[execOp,q3,VF];simp[aeU Wm Wn gj yx]) ?_;rw[d3]
        have Wa:SameBut (fun t=>t∈ws) a1 (a1.put (some p.pr) (.tuple #[e.key,e.val])):=
         (SameBut.put a1 (some p.pr) (.tuple #[e.key,e.val]) a1.defers).mono fun t e=>by cases e;exact eW o3 (by rw[e2];simp) _ d3
        have Wd:a1.tmps.size=n:=u9.size.trans sI;refine Zq (kv:=e.key) (vv:=e.val) l [] p.aa 1 _ lR (by rw[e2];rfl) (fun x hx=>by rw[Wa.size,Wd];exact aiM _ (cZ.2 ⟨x,hx,rfl⟩)) (y9 (by rw[Wd];exact nT)) (fun x hx=>by cases hx) (fun a2 dE dN aiH=>?_);have Mv:SameBut (fun t=>t∈ws) a' a2:=(u9.trans Wa).trans (dE.mono fun t ⟨o,ho,hd⟩=>eW o ho t hd);have ahy:a2.defers=a'.defers:=by rw[dN,put_defers,mB]
        have ajc:Good C w0 σ0 (((qS.mask m).start (p.aa.map (·.1)) (p.aa.map fun x=>bif Nat.beq x.2 0 then kt else et)).st ids) ((ρ.put (p.aa.map (·.1)) ((p.aa.map (·.2)).map (D.tup [pd.1,pd.2]).tget) lo vo).setO J (.tup [.list (fP fG idx++[.tup [pd.1,pd.2]]),.map fG])) (fun _=>False) a2 w2:=by
         have Bv:Below w0.heap.size w' w2:=⟨by rw[←yK];exact Ci.os,by rw[←yK];exact Ci.tape,by rw[←yK];exact Ci.output,by omega,fun b hb=>yL b (fun e=>by subst e;have:=(h.owns b J h2).1;omega)⟩
         have iO:σ.ok w2:=by
          refine⟨fun b o v hc=>?_,fun b es hc=>?_⟩
          ·have yn:b≠kb:=fun e=>by subst e;rw[(h.owns b J h2).2.2.1 o] at hc;cases hc
           have:=h.ok.c b o v hc;simp only[World.cell?] at this ⊢;rw[yL b yn];exact this
          ·have yn:b≠kb:=fun e=>by subst e;rw[(h.owns b J h2).2.2.2] at hc;cases hc
           exact(h.ok.m b es hc).keep (yL b yn)
         have fK:∀j,((ρ.put (p.aa.map (·.1)) ((p.aa.map (·.2)).map (D.tup [pd.1,pd.2]).tget) lo vo).setO J (.tup [.list (fP fG idx++[.tup [pd.1,pd.2]]),.map fG])).o j=if j=J then .tup [.list (fP fG idx++[.tup [pd.1,pd.2]]),.map fG] else putL ρ.o lo vo j:=fun j=>by
          simp only[Env.setO,fg];rfl
         refine⟨σ,own,hv,h.step (fun j=>j=J) ahy (.refl σ) iO (fun _ _ _ hx=>.inl hx) (fun _ _ hx=>.inl hx) Bv ⟨fun _=>aU _,fun _ _=>rfl⟩
          (fun j hj=>⟨rfl,by rw[fK,if_neg hj];simp[Env.setO,bq _ _ hj,Env.put],rfl,fun b hb=>⟨hb,yL b (fun e=>by subst e;rw[h2] at hb;cases hb;exact hj rfl)⟩⟩) (fun j hj=>?_) (fun b j hb=>?_) (fun _=>id) (fun t=>?_) (fun _ hf=>hf.elim)
          (fun b hb ho=>yL b (fun e=>by subst e;rw[h2] at ho;cases ho)) (fun b j hb=>.inl ⟨j,hb⟩) (fun j hj=>?_)⟩
         ·subst hj;have:(((qS.mask m).start (p.aa.map (·.1)) (p.aa.map fun x=>bif Nat.beq x.2 0 then kt else et)).st ids).o j=.it kt et:=GY;rw[this];refine⟨kb,mb,arr,clock,fG,idx++[i],h1,h2,h3,az,Wn,Wm,by rw[fK,if_pos rfl,aaO fG idx Mk],?_,?_,h9,gj,lI⟩
          ·rw[Eh];exact⟨h7,by simp,fun a ha b hb e=>by simp at hb;subst hb;subst e;exact GH ha⟩
          ·intro i' dO;rcases dg.1 dO with h|h
           ·exact h8 i' h
           ·simp at h;subst h;exact(eA.1 yx).1
         ·obtain⟨b1,b2,b3,b4⟩:=h.owns b j hb;exact⟨b1,by omega,b3,b4⟩
         ·have hc:Compat ((qS.mask m).st ids) hv (((qS.mask m).start (p.aa.map (·.1)) (p.aa.map fun x=>bif Nat.beq x.2 0 then kt else et)).st ids) hv:=⟨fun _=>aU _,fun _ _=>rfl⟩
          refine .inr ⟨?_,fun gs s' e=>absurd e (Snap.noOpt _ _ t gs s')⟩;show aF C _ _ σ hv (ct ((p7 (p.aa.map (·.1)) (p.aa.map fun x=>bif Nat.beq x.2 0 then kt else et) ((qS.mask m).rs.map qW)).getD t .none)) (a2.tmps.getD t undef) (putL ρ.r (p.aa.map (·.1)) ((p.aa.map (·.2)).map (D.tup [pd.1,pd.2]).tget) t);rcases Qd (p.aa.map (·.1)) (p.aa.map fun x=>bif Nat.beq x.2 0 then kt else et) ((qS.mask m).rs.map qW) (by simp) c4 t with e|⟨xP,rX⟩|⟨i',y,xP,rX,KR⟩
          ·rw[e];trivial
          ·rw[rX,y8 _ _ _ _ xP];have e3:((qS.mask m).rs.map qW).getD t .none=qW ((qS.mask m).rs.getD t .none):=by
            simp only[aI,cl];cases(qS.mask m).rs[t]?<;>rfl
           rw[e3];by_cases Wf:t∈ws
           ·have yC:=L4 t (q7 t Wf);change ct ((qS.mask m).rs.getD t .none)=.none at yC;generalize (qS.mask m).rs.getD t .none=s' at yC;cases s'<;>simp[ct] at yC<;>trivial
           ·have hr:=h.regs t;change aF C _ _ σ hv (ct ((qS.mask m).rs.getD t .none)) _ (ρ.r t) at hr;rw[Mv.get t Wf];generalize (qS.mask m).rs.getD t .none=s' at hr;cases s' with
            |yv=>trivial
            |opt gs s=>trivial
            |none=>trivial
            |fclo f c=>exact aF.mono' (.refl σ) hc (fun _ _ e=>by cases e) hr
            |agg l=>exact aF.mono' (.refl σ) hc (fun _ _ e=>by cases e) hr
            |dat t=>exact hr
            |obj j v=>exact aF.mono' (.refl σ) hc (fun _ _ e=>by cases e) hr
            |ptr j v o=>exact aF.mono' (.refl σ) hc (fun _ _ e=>by cases e) hr
            |eptr j v o q=>exact aF.mono' (.refl σ) hc (fun _ _ e=>by cases e) hr
          ·rw[KR];have ahW:i'<p.aa.length:=by have:=(ed.1 xP).1;simpa using this
           rw[OL _ (p.aa.map (·.1)) _ i' t (oa c4) (by simp) xP];obtain⟨xa,kQ⟩:∃xa,p.aa[i']?=some xa:=⟨_,be ahW⟩
           simp only[cl,kQ,jE,aT] at xP rX;subst xP;subst rX;rw[aiH xa (jB kQ)];have hd:((p.aa.map (·.2)).map (D.tup [pd.1,pd.2]).tget).getD i' .none=(D.tup [pd.1,pd.2]).tget xa.2:=by simp[aI,kQ]
           rw[hd];have h2x:xa.2≤1:=by
            rcases OC l lR (fun x hx=>by cases hx) xa (jB kQ) with h|h
            ·cases h
            ·exact h.1
           rcases(by omega:xa.2=0∨xa.2=1) with e0|e0<;>rw[e0]
           ·exact bQ
           ·exact cq
         ·have:(((qS.mask m).start (p.aa.map (·.1)) (p.aa.map fun x=>bif Nat.beq x.2 0 then kt else et)).st ids).o j=.it kt et:=by rw[hj];exact GY
          rw[this];intro e;cases e
        have aiI:=aaO fG idx Mk;obtain⟨rest,sD⟩:∃rest,(fP fG idx++(D.tup [pd.1,pd.2])::rest).Perm (gr (.map fG)):=by
         obtain⟨rest,hr⟩:=ao1 (es:=fG) (idx:=idx++[i]) (by rw[Eh];exact⟨h7,by simp,fun a ha b hb e=>by simp at hb;subst hb;subst e;exact GH ha⟩) (fun i' dO=>by
          rcases dg.1 dO with h|h
          ·rw[h9];exact h8 i' h
          ·simp at h;subst h;rw[h9];exact(eA.1 yx).1)
         rw[aiI] at hr;exact⟨rest,by simpa using hr⟩
        have iJ:=aR _ sD;simp only[kr] at iJ;split at iJ
        case h_2=>cases iJ
        rename_i ρ2 Gu;obtain⟨xi,dp⟩:=TH Gu;refine wpIn_mono (ihc rm _ q0 B7 rd w0 σ0 wr _ xi a2 w2 fL hC hY (fun t ht=>MO t (hwc t ht)) (Mv.size.trans sI) ajc dp) fun ee a3 w3 fK=>?_;have nS:=TJ n6 (rW code B7) dp Gu fK;have conv:∀ee a3 w3,fS C w0 σ0 ids fn s rm wr a2 (fD ids p.next q0).out (fD ids p.next q0).ex (.next ρ2) ee a3 w3→Exit.then (Code.roundsIn (FR rd) 0 C.P (.seq (.region i1 p.ops1 false) (.seq (.cond (.tmp p.mo) .skip (.exit p.out)) (.block p.next (.seq (.region i2 p.ops2 false) code)))) (fS C w0 σ0 ids fn s rm wr a none [(p.out,(qS.mask m).kill ids J)] x0) kk) (fS C w0 σ0 ids fn s rm wr a none [(p.out,(qS.mask m).kill ids J)] x0) ee a3 w3:=by
         intro ee a3 w3 ho;cases ee with
         |normal=>
          obtain⟨ρ3,T,f1,f2,f3,f4⟩:=ho;cases f1;refine ih (fP fG idx++[.tup [pd.1,pd.2]]) (lo.map ρ2.o) a3 w3 (jk.trans ((Mv.mono MO).trans f3)) ?_ (fun ys vg=>?_) (by simp at hlen ⊢;omega)
          ·have qV:Good C w0 σ0 (qS.st ids) ρ2 (fun _=>False) a3 w3:=by
            have:=f4.meet2 (x:=qS)
            rwa [yq T f2] at this
           obtain⟨σ3,vI,Cg,j8⟩:=qV;have LB:=PC.ev_but _ _ _ ρ2 Gu rfl;refine⟨σ3,vI,Cg,(j8.maskR m).env (Snap.noOpt _ _) (fun t ht=>?_) (fun j hj=>?_)⟩
           ·have yC:=aii t ht
            have cR:t∉(fD ids p.next q0).pc.modR:=fun eF=>by
                 have:=L6.1 t eF;have h2:aO (Nat.lor m (fD ids p.next q0).mr) t=true:=by rw[fC,this,qe]
                 rw[BW,yC] at h2;cases h2
            rw[LB.r t cR]
            have pw:t∉p.aa.map (·.1):=fun aS=>by
                 have:aO m t=true:=by
                  refine q7 t ?_;obtain⟨xa,kQ,rfl⟩:=cZ.1 aS;rcases OC l lR (fun x hx=>by cases hx) xa kQ with h|⟨_,o,ho,hd⟩
                  ·cases h
                  ·exact eW o (by rw[e2];exact ef _ ho) _ hd
                 rw[yC] at this;cases this
            show ρ.r t=putL ρ.r (p.aa.map (·.1)) _ t;rw[y8 _ _ _ _ pw]
           ·have hjd:mL (cW ids qS.os j)=false:=hj;show bV (putL ρ.o lo (lo.map ρ2.o)) J _ j=ρ2.o j;by_cases yy:j=J
            ·subst yy;rw[aL,LB.o j (fun eF=>U4 (L6.2 j eF))];simp[Env.setO,aL]
            ·rw[bq _ _ yy,rq];split
             ·rfl
             ·rename_i fJ;have cR:j∉(fD ids p.next q0).pc.modO:=fun eF=>fJ (by rw[←uU];exact eO.2 ⟨L6.2 j eF,by rw[hjd];rfl⟩);rw[LB.o j cR];simp only[Env.setO,bq _ _ yy];exact(OM _ _ _ _ fJ).symm
          ·have:=aR ((D.tup [pd.1,pd.2])::ys) (by simpa using vg);simp only[kr,Gu] at this;exact this
         |exit id=>obtain⟨ρ3,T,f1,_⟩:=ho;cases f1
         |ret=>
          cases rm with
          |false=>obtain⟨d,f1,_⟩:=ho;cases f1
          |true=>obtain⟨ρ3,T,f1,_⟩:=ho;cases f1
         |_=>exact ho.elim
        cases ee with
        |exit id=>
         simp only[Exit.inBlock] at nS;show if id=p.next then _ else _;split
         ·rename_i cu;rw[if_pos cu] at nS;exact conv .normal a3 w3 nS
         ·rename_i cu;rw[if_neg cu] at nS;exact conv (.exit id) a3 w3 nS
        |normal=>exact conv .normal a3 w3 nS
        |ret=>exact conv .ret a3 w3 nS
        |panic c=>exact fK.elim
        |goto l=>exact fK.elim
        |_=>exact fK.elim
 have hgq:Good C w0 σ0 (qS.st ids) ρ (fun _=>False) a w:=cv hg;obtain⟨σ,own,hv,h⟩:=hgq;have aX:=h.objs J;have:(qS.st ids).o J=.it kt et:=GY;rw[this] at aX;obtain⟨kb,mb,arr,clock,fG,idx,h1,h2,h3,az,h4,h5,h6,h7,h8,h9,gj,lI⟩:=aX;have hρJ:ρ.o J=.tup [.list [],es]:=by
  rw[h6] at B2 gR;simp[D.tget] at B2 gR;rw[h6,B2,←gR]
 have uO:(ρ.put [] [] lo (lo.map ρ.o)).setO J (.tup [.list [],es])=ρ:=by
  rw[Env.put_self];show Env.mk _ _=_;have:bV ρ.o J (.tup [.list [],es])=ρ.o:=by
   funext j;rw[fg];split
   ·rename_i e;rw[e];exact hρJ.symm
   ·rfl
  rw[this]
 exact wpIn_loop_rounds _ (key ((gr es).length+1) [] (lo.map ρ.o) a w (.refl _ _) (by rw[uO];exact⟨σ,own,hv,h.maskR m⟩) (fun ys vg=>ag6 ys vg) (by simp))
theorem adE {N:Nat}(dW:fA C Φ)(hR:JN C n ids Φ R):∀(k:Nat) (c:Code),sizeOf c<k→tX C Φ fn s n ids R N c:=by
 intro k;refine Nat.rec (fun c h=>absurd h (Nat.not_lt_zero _)) (fun k IH=>?_) k;intro c hc;cases c with
 |skip=>
  intro rm S r h rd w0 σ0 wr ρ x a w fL hC hY gp hn hg he;simp only[comp,aT] at h;subst h;simp only[PC.ev,aT] at he;subst he;exact wpIn_skip ⟨ρ,S,rfl,rfl,.refl _ _,hg⟩
 |region id ops draw=>
  intro rm S r h rd w0 σ0 wr ρ x a w fL hC hY gp hn hg he;simp only[comp,ax] at h;obtain⟨q,hq,rfl⟩:=h;simp only[PC.ev,ax] at he;obtain⟨ρ',hr,rfl⟩:=he;exact hR id ops draw S q hq rd w0 σ0 ρ ρ' a w _ hC hY hn hg hr (fun a' w' jM jK=>⟨ρ',q.1,rfl,rfl,jM.mono (fun t ⟨o,h1,h2⟩=>gp t (wO.2 ⟨o,h1,h2⟩)),jK⟩)
 |seq c1 c2=>
  have sL:=IH c1 (by simp at hc;omega);have sM:=IH c2 (by simp at hc;omega);intro rm S r h rd w0 σ0 wr ρ x a w fL hC hY gp hn hg he;have dm:∀t,t∈cm c1→wr t:=fun t ht=>gp t (jc _ ht);have eW:∀t,t∈cm c2→wr t:=fun t ht=>gp t (jA _ ht);simp only[comp,ar] at h;obtain⟨q,hq,h⟩:=h;split at h
  ·rename_i ji;cases h;refine wpIn_seq (wpIn_mono (sL rm S _ hq rd w0 σ0 wr ρ x a w fL hC hY dm hn hg he) fun e a' w' ho=>?_);cases e with
   |normal=>obtain⟨_,_,_,h2,_⟩:=ho;rw[ji] at h2;cases h2
   |_=>exact ho
  ·rename_i S1 ji;simp only[ax] at h;obtain⟨p,hp,rfl⟩:=h;simp only[PC.ev] at he
   have key:∀x1,q.pc.ev Φ N ρ=some x1→(match some x1 with|some (.next ρ')=>p.pc.ev Φ N ρ'|y=>y)=some x→(Code.seq c1 c2).wpIn (FR rd) 0 C.P (fS C w0 σ0 ids fn s rm wr a p.out (q.ex++p.ex) x) a w:=by
      intro x1 h1 h2;refine wpIn_seq (wpIn_mono (sL rm S _ hq rd w0 σ0 wr ρ x1 a w fL hC hY dm hn hg h1) fun e a' w' ho=>?_);have other:∀{e:Exit},e≠.normal→fS C w0 σ0 ids fn s rm wr a q.out q.ex x1 e a' w'→x1=x→fS C w0 σ0 ids fn s rm wr a p.out (q.ex++p.ex) x e a' w':=by
       intro e az ho hx;subst hx;exact ho.mono (fun y hy=>jc _ hy) (.refl _ _) (fun e=>absurd e az)
      cases e with
      |normal=>
       obtain⟨ρ1,S2,e1,e2,dE,gE⟩:=ho;subst e1;rw[ji] at e2;cases e2;simp only at h2;refine wpIn_mono (sM rm S1 _ hp rd w0 σ0 wr ρ1 x a' w' fL hC hY eW (dE.size.trans hn) gE h2) fun e a2 w2 kh=>?_;exact kh.mono (fun y hy=>jA _ hy) dE (fun _=>rfl)
      |exit id=>
       refine other (by simp) ho ?_;obtain⟨ρ1,S2,e1,_⟩:=ho;subst e1;simpa using h2
      |ret=>
       refine other (by simp) ho ?_;cases rm with
       |false=>obtain⟨d,e1,_⟩:=ho;subst e1;simpa using h2
       |true=>obtain⟨ρ1,S2,e1,_⟩:=ho;subst e1;simpa using h2
      |_=>exact ho.elim
   cases h1:q.pc.ev Φ N ρ with
   |none=>rw[h1] at he;simp at he
   |some x1=>rw[h1] at he;exact key x1 h1 he
 |cond c c1 c2=>
  have sL:=IH c1 (by simp at hc;omega);have sM:=IH c2 (by simp at hc;omega);intro rm S r h rd w0 σ0 wr ρ x a w fL hC hY gp hn hg he;have dm:∀t,t∈cm c1→wr t:=fun t ht=>gp t (jc _ ht);have eW:∀t,t∈cm c2→wr t:=fun t ht=>gp t (jA _ ht);simp only[comp] at h;split at h
  case h_2=>cases h;exact absurd he (ld _ _ _ _)
  rename_i e hu;simp only[ar,ax] at h;obtain⟨q,hq,p,hp,rfl⟩:=h;have hb:∃b,a.eval c=.bool b∧e.ev ρ=.v (.bool b):=by
   obtain⟨σ,own,hv,hi⟩:=hg;have:=bZ (gs:=[]) hi hC rfl hu;generalize a.eval c=v at this;generalize e.ev ρ=d at this;cases this with|bool b=>exact⟨b,rfl,rfl⟩
  obtain⟨b,iJ,fm⟩:=hb;have pq:=rW c1 hq;have BV:=rW c2 hp;have main:∀(o:Option Snap) (lr lo:List Nat) (rx:Res2),rx=⟨.ite e lr lo q.pc p.pc,o,q.ex++p.ex,Nat.lor q.mr p.mr,ic q.mo p.mo⟩→
        (∀M,o=some M→lr=jr M (Nat.lor q.mr p.mr)∧lo=gY ids M (ic q.mo p.mo))→
        (∀S1 ρ1 a w,q.out=some S1→Good C w0 σ0 (S1.st ids) ρ1 (fun _=>False) a w→∃M,o=some M∧Good C w0 σ0 (M.st ids) ρ1 (fun _=>False) a w)→
        (∀S1 ρ1 a w,p.out=some S1→Good C w0 σ0 (S1.st ids) ρ1 (fun _=>False) a w→∃M,o=some M∧Good C w0 σ0 (M.st ids) ρ1 (fun _=>False) a w)→
        rx.pc.ev Φ N ρ=some x→(Code.cond c c1 c2).wpIn (FR rd) 0 C.P (fS C w0 σ0 ids fn s rm wr a rx.out rx.ex x) a w:=by
   intro o lr lo rx hrx hl py lR bK;subst hrx;simp only[PC.ev,fm,D.b_bool] at bK;have fin:∀(ci:Code) (qi:Res2) (xi:Out),(∀y,y∈qi.ex→y∈q.ex++p.ex)→(∀t,t∈qi.pc.modR→aO (Nat.lor q.mr p.mr) t=true)→(∀j,j∈qi.pc.modO→j∈ic q.mo p.mo)→
    (∀S1 ρ1 a w,qi.out=some S1→Good C w0 σ0 (S1.st ids) ρ1 (fun _=>False) a w→∃M,o=some M∧Good C w0 σ0 (M.st ids) ρ1 (fun _=>False) a w)→
    qi.pc.ev Φ N ρ=some xi→(match some xi with|some (.next ρ')=>some (Out.next (ρ.join lr lo ρ'))|y=>y)=some x→
    ci.wpIn (FR rd) 0 C.P (fS C w0 σ0 ids fn s rm wr a qi.out qi.ex xi) a w→ci.wpIn (FR rd) 0 C.P (fS C w0 σ0 ids fn s rm wr a o (q.ex++p.ex) x) a w:=by
        intro ci qi xi hex kj pz ji dp hx hwp;refine wpIn_mono hwp fun ee a' w' ho=>?_;have other:ee≠.normal→xi=x→fS C w0 σ0 ids fn s rm wr a o (q.ex++p.ex) x ee a' w':=by
         intro az jm;subst jm;exact ho.mono hex (.refl _ _) (fun e=>absurd e az)
        cases ee with
        |normal=>
         obtain⟨ρ1,S2,e1,e2,dE,gE⟩:=ho;subst e1;simp only[aT] at hx;subst hx;obtain⟨M,hM,qV⟩:=ji S2 ρ1 a' w' e2 gE;obtain⟨l1,l2⟩:=hl M hM;subst l1 l2;exact⟨_,M,rfl,hM,dE,qV.joined (PC.ev_but qi.pc ρ _ ρ1 dp rfl) kj pz⟩
        |exit id=>
         refine other (by simp) ?_;obtain⟨ρ1,S2,e1,_⟩:=ho;subst e1;simpa using hx
        |ret=>
         refine other (by simp) ?_;cases rm with
         |false=>obtain⟨d,e1,_⟩:=ho;subst e1;simpa using hx
         |true=>obtain⟨ρ1,S2,e1,_⟩:=ho;subst e1;simpa using hx
        |_=>exact ho.elim
   refine wpIn_cond iJ ?_;cases b with
   |true=>
    simp only[cond_true] at bK;cases dp:q.pc.ev Φ N ρ with
    |none=>rw[dp] at bK;simp at bK
    |some xi=>
     rw[dp] at bK;refine fin c1 q xi (fun y hy=>jc _ hy) (fun t ht=>?_) (fun j hj=>nY.2 (.inl (pq.2 j hj))) py dp bK (sL rm S _ hq rd w0 σ0 wr ρ xi a w fL hC hY dm hn hg dp);rw[fC,pq.1 t ht];rfl
   |false=>
    simp only[cond_false] at bK;cases dp:p.pc.ev Φ N ρ with
    |none=>rw[dp] at bK;simp at bK
    |some xi=>
     rw[dp] at bK;refine fin c2 p xi (fun y hy=>jA _ hy) (fun t ht=>?_) (fun j hj=>nY.2 (.inr (BV.2 j hj))) lR dp bK (sM rm S _ hp rd w0 σ0 wr ρ xi a w fL hC hY eW hn hg dp);rw[fC,BV.1 t ht,qe]
  have py:∀S1 ρ1 a w,q.out=some S1→Good C w0 σ0 (S1.st ids) ρ1 (fun _=>False) a w→∃M,kT q.out p.out=some M∧Good C w0 σ0 (M.st ids) ρ1 (fun _=>False) a w:=by
   intro S1 ρ1 a w e1 g1;rw[e1];obtain⟨M,hM⟩:=@Xy S1 p.out;exact⟨M,hM,Xw g1 hM⟩
  have lR:∀S1 ρ1 a w,p.out=some S1→Good C w0 σ0 (S1.st ids) ρ1 (fun _=>False) a w→∃M,kT q.out p.out=some M∧Good C w0 σ0 (M.st ids) ρ1 (fun _=>False) a w:=by
   intro S1 ρ1 a w e1 g1;rw[e1];obtain⟨M,hM⟩:=@Xz q.out S1;exact⟨M,hM,Xx g1 hM⟩
  cases hm:kT q.out p.out with
  |none=>
   rw[hm] at py lR;simp only[hm] at he ⊢;exact main none [] [] _ rfl (fun M e=>by cases e) py lR he
  |some M=>
   rw[hm] at py lR;simp only[hm] at he ⊢;exact main (some M) _ _ _ rfl (fun M' e=>by cases e;exact⟨rfl,rfl⟩) py lR he
 |block id c1=>
  have sL:=IH c1 (by simp at hc;omega);intro rm S r h rd w0 σ0 wr ρ x a w fL hC hY gp hn hg he;simp only[comp] at h;cases cu:Nat.beq id cD<;>simp only[cu,cond_true,cond_false] at h
  case true=>cases h;exact absurd he (ld _ _ _ _)
  have GI:id≠cD:=fun e=>by subst e;simp at cu
  simp only[ax] at h;obtain⟨q,hq,rfl⟩:=h;obtain⟨xi,dp⟩:=TH he;exact wpIn_block (wpIn_mono (sL rm S _ hq rd w0 σ0 wr ρ xi a w fL hC hY gp hn hg dp) fun e a' w' fK=>TJ GI (rW c1 hq) dp he fK)
 |loop c1=>
  have sL:=IH c1 (by simp at hc;omega);intro rm S r h rd w0 σ0 wr ρ x a w fL hC hY gp hn hg he;rw[Ua] at h;split at h
  ·rename_i qb B8;obtain⟨p,code,ws⟩:=qb;unfold vw at B8;split at B8
   case h_2=>cases B8
   rename_i cx cy ck cz cc;simp only[ax] at B8;obtain⟨p',aS,ep⟩:=B8;cases ep;exact amc aS (IH _ (by simp at hc;omega)) h fL hC hY gp hn hg he
  split at h
  case h_2=>cases h;exact absurd he (ld _ _ _ _)
  rename_i q hq;cases h;obtain⟨hs,yq,cv⟩:=Cr (C:=C) (w0:=w0) (σ0:=σ0) (ids:=ids) 8 hq;have pq:=rW c1 hs;simp only[PC.ev] at he
  have yr:Good C w0 σ0 (q.1.st ids) (ρ.put (jr q.1 q.2.mr) ((jr q.1 q.2.mr).map ρ.r) (gY ids q.1 q.2.mo) ((gY ids q.1 q.2.mo).map ρ.o)) (fun _=>False) a w:=by
   exact Good.joined (cv hg) (.refl ρ q.2.pc.modR q.2.pc.modO) pq.1 pq.2
  have key:∀(k:Nat) (ρ1:Env) (a':Act) (w:World),SameBut wr a a'→eY (q.2.pc.ev Φ N) ρ (jr q.1 q.2.mr) (gY ids q.1 q.2.mo) k ((jr q.1 q.2.mr).map ρ1.r) ((gY ids q.1 q.2.mo).map ρ1.o)=some x→
        Good C w0 σ0 (q.1.st ids) (ρ.join (jr q.1 q.2.mr) (gY ids q.1 q.2.mo) ρ1) (fun _=>False) a' w→Code.roundsIn (FR rd) 0 C.P c1 (fS C w0 σ0 ids fn s rm wr a none q.2.ex x) k a' w:=by
   intro k
   induction k with
   |zero=>intro ρ1 a' w hn hl hg;simp[eY] at hl
   |succ k ih=>
    intro ρ1 a' w jk hl hg;rw[roundsIn_succ];simp only[eY] at hl;change (match q.2.pc.ev Φ N (ρ.join (jr q.1 q.2.mr) (gY ids q.1 q.2.mo) ρ1) with|some (.next ρ')=>_|y=>y)=some x at hl;cases dp:q.2.pc.ev Φ N (ρ.join (jr q.1 q.2.mr) (gY ids q.1 q.2.mo) ρ1) with
    |none=>rw[dp] at hl;simp at hl
    |some xi=>
     rw[dp] at hl;refine wpIn_mono (sL rm _ _ hs rd w0 σ0 wr _ xi a' w fL hC hY gp (jk.size.trans hn) hg dp) fun e a2 w' fK=>?_;have other:e≠.normal→xi=x→fS C w0 σ0 ids fn s rm wr a none q.2.ex x e a2 w':=by
         intro az jm;subst jm;exact fK.mono (fun y hy=>hy) jk (fun e=>absurd e az)
     cases e with
     |normal=>
      obtain⟨ρ2,S2,e1,e2,dE,gE⟩:=fK;subst e1;simp only at hl;refine ih ρ2 a2 w' (jk.trans dE) hl ?_
      have qV:Good C w0 σ0 (q.1.st ids) ρ2 (fun _=>False) a2 w':=by
       have:=gE.meet2 (x:=q.1)
       rwa [yq S2 e2] at this
      refine qV.joined (mr':=jr q.1 q.2.mr++q.2.pc.modR) (mo':=gY ids q.1 q.2.mo++q.2.pc.modO) ?_ (fun t ht=>?_) (fun j hj=>?_)
      ·exact((Env.but.join ρ ρ1 _ _).mono (fun t ht=>jc _ ht) (fun t ht=>jc _ ht)).trans
        ((PC.ev_but q.2.pc _ _ ρ2 dp rfl).mono (fun t ht=>jA _ ht) (fun t ht=>jA _ ht))
      ·exact(dg.1 ht).elim Hq (pq.1 t)
      ·exact(dg.1 hj).elim yX (pq.2 j)
     |exit id=>
      refine other (by simp) ?_;obtain⟨ρ1,S2,e1,_⟩:=fK;subst e1;simpa using hl
     |ret=>
      refine other (by simp) ?_;cases rm with
      |false=>obtain⟨d,e1,_⟩:=fK;subst e1;simpa using hl
      |true=>obtain⟨ρ1,S2,e1,_⟩:=fK;subst e1;simpa using hl
     |_=>exact fK.elim
  exact wpIn_loop_rounds N (key N ρ a w (.refl _ _) he yr)
 |exit id=>
  intro rm S r h rd w0 σ0 wr ρ x a w fL hC hY gp hn hg he;simp only[comp] at h;cases cu:Nat.beq id cD<;>simp only[cu,cond_true,cond_false] at h
  case true=>cases h;exact absurd he (ld _ _ _ _)
  cases h;simp only[PC.ev,aT] at he;subst he;exact wpIn_exit ⟨ρ,S,rfl,fun e=>by subst e;simp at cu,by simp,.refl _ _,hg⟩
 |ret=>
  intro rm S r h rd w0 σ0 wr ρ x a w fL hC hY gp hn hg he;simp only[comp] at h;cases rm<;>simp only[cond_true,cond_false] at h
  case true=>
   cases h;simp only[PC.ev,aT] at he;subst he;exact wpIn_ret ⟨ρ,S,rfl,by simp,.refl _ _,hg⟩
  split at h
  ·rename_i e Mt;cases h;simp only[PC.ev,aT] at he;subst he;obtain⟨σ,own,hv,hi⟩:=hg;exact wpIn_ret ⟨_,rfl,Inv.retD hC (fun _=>rfl) (fL rfl).2 Mt _ hi rfl,.refl _ _⟩
  ·cases h;exact absurd he (ld _ _ _ _)
 |rangeFunc g ps ca cb=>exact anV dW (IH ca (by simp at hc;omega)) (IH cb (by simp at hc;omega))
 |_=>intro rm S r h rd w0 σ0 wr ρ x a w fL hC hY gp hn hg he;simp only[comp,aT] at h;subst h;exact absurd he (ld _ _ _ _)
theorem adD {N:Nat}(dW:fA C Φ)(hR:JN C n ids Φ R)(c:Code):tX C Φ fn s n ids R N c:=adE dW hR _ c (Nat.lt_succ_self _)
end
end Cx
