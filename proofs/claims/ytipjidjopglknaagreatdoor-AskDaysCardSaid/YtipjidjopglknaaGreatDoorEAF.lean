/-
  Code: sequences, choices, blocks, loops.
-/
import Derived.LoopNIn
import Derived.Test.YtipjidjopglknaaGreatDoorEAE
import Derived.LoopN
set_option linter.unusedSimpArgs false
set_option linter.unusedVariables false
namespace Cx
open Go Go.RowKit
def ar (m t:Nat):Bool:= !Nat.beq (Nat.land 1 (Nat.shiftRight m t)) 0
theorem q6 (m t:Nat):ar m t=m.testBit t:=by
 unfold ar Nat.testBit;show(!Nat.beq (1&&& (m>>>t)) 0)=((1&&& (m>>>t))!=0)
 generalize 1&&& (m>>>t)=x;cases x<;>rfl
def dz (t:Nat):Nat:=Nat.shiftLeft 1 t
theorem pJ (t:Nat):ar (dz t) t=true:=by
 rw[q6];show(1<<<t).testBit t=true;simp[Nat.testBit_shiftLeft]
theorem eU (m k t:Nat):ar (Nat.lor m k) t=(ar m t||ar k t):=by
 simp only[q6];exact Nat.testBit_or m k t
def PI.mask:PI→Nat
 |.setR t _=>dz t|.call _ t _ _=>dz t|.callc _ t _ _=>dz t|_=>0
def HH:List PI→Nat
 |[]=>0
 |p::l=>Nat.lor p.mask (HH l)
def PI.objs:PI→List Nat
 |.setO j _=>[j]|.mcall j _ _=>[j]|_=>[]
def eL (l:List Nat)(x:Nat):Bool:=l.any (Nat.beq x)
def jk (a b:List Nat):List Nat:=a.foldl (fun acc x=>bif eL acc x then acc else x::acc) b
def XC (l:List PI):List Nat:=l.foldl (fun acc p=>jk p.objs acc) []
theorem oN (l:List Nat)(x:Nat):eL l x=true↔x∈l:=by
 unfold eL;rw[uE];constructor
 ·rintro⟨y,hy,h⟩;rw[av h];exact hy
 ·intro h;exact⟨x,h,gu x⟩
theorem oO {x:Nat}:∀{a b:List Nat},x∈jk a b↔x∈a∨x∈b
 |[],b=>by simp[jk]
 |y::a,b=>by
  have ih:=@oO x a (bif eL b y then b else y::b);have e:jk (y::a) b=jk a (bif eL b y then b else y::b):=rfl;rw[e,ih];cases hb:eL b y
  ·simp[or_assoc,or_left_comm]
  ·have:=(oN b y).1 hb;simp only[cond_true,cM];constructor
   ·rintro(h|h)
    ·exact .inl (.inr h)
    ·exact .inr h
   ·rintro((h|h)|h)
    ·subst h;exact .inr this
    ·exact .inl h
    ·exact .inr h
theorem alg {x:Nat}(l:List PI)(h:x∈l.flatMap PI.modO):x∈XC l:=by
 have key:∀(l:List PI) (acc:List Nat),(x∈l.flatMap PI.modO∨x∈acc)→x∈l.foldl (fun acc p=>jk p.objs acc) acc:=by
  intro l
  induction l with
  |nil=>intro acc h;simpa using h
  |cons p l ih=>
   intro acc h;refine ih _ ?_;rw[uF,dy] at h;rcases h with(h|h)|h
   ·refine .inr (oO.2 (.inl ?_));cases p<;>simp_all [PI.modO,PI.objs]
   ·exact .inl h
   ·exact .inr (oO.2 (.inr h))
 exact key l [] (.inl h)
theorem Xd {t:Nat}:∀(l:List PI),t∈l.flatMap PI.modR→ar (HH l) t=true
 |[],h=>by simp at h
 |p::l,h=>by
  rw[uF,dy] at h;simp only[HH,eU,fG];rcases h with h|h
  ·left;cases p<;>simp[PI.modR] at h<;>subst h<;>exact pJ _
  ·exact .inr (Xd l h)
structure Res2 where
 pc:PC
 out:Option Snap
 ex:List (Nat×Snap)
 mr:Nat
 mo:List Nat
 deriving Inhabited
def lI:Option Snap→Option Snap→Option Snap
 |none,x=>x
 |x,none=>x
 |some a,some b=>some (a.meet b)
def ns (id:Nat):List (Nat×Snap)→Option Snap→Option Snap
 |[],acc=>acc
 |x::l,acc=>ns id l (bif Nat.beq x.1 id then lI acc (some x.2) else acc)
def iter (step:Snap→Option Res2):Nat→Snap→Option (Snap×Res2)
 |0,_=>none
 |k+1,S=>(step S).bind fun r=>
  match r.out with
  |none=>some (S,r)
  |some T=>bif (S.meet T).beq S then some (S,r) else iter step k (S.meet T)
def jV (S:Snap)(m:Nat):List Nat:=(List.range S.rs.length).filter fun t=>ar m t&& !isNone (cn (S.rs.getD t .none))
def je (ids:List Nat)(S:Snap)(l:List Nat):List Nat:=l.filter fun j=> !nm (di ids S.os j)
def gn:Res2:=⟨.is [EG],none,[],0,[]⟩
theorem lR (Φ:aK)(N:Nat)(ρ:Env)(x:Out):gn.pc.ev Φ N ρ≠some x:=by
 intro h;simp[gn,PC.ev,PI.runs,PI.run,EG,PE.ev,D.b_bool] at h
theorem lS:(∀t,t∈gn.pc.modR→ar gn.mr t=true)∧∀j,j∈gn.pc.modO→j∈gn.mo:=by
 constructor<;>intro t h<;>simp[gn,PC.modR,PC.modO,PI.modR,PI.modO,EG] at h
def cm:Code→List Nat
 |.region _ ops _=>ops.toList.filterMap (·.dst)
 |.seq a b=>cm a++cm b
 |.cond _ a b=>cm a++cm b
 |.block _ a=>cm a
 |.loop a=>cm a
 |_=>[]
def v7 (l:List Nat):Nat:=l.foldr (fun t m=>Nat.lor (dz t) m) 0
def rP (m:Nat):Nat→List Sh→List Sh
 |_,[]=>[]
 |t,s::l=>(bif ar m t then .none else s)::rP m (t+1) l
def Snap.mask (m:Nat)(S:Snap):Snap:=⟨rP m 0 S.rs,S.os⟩
def rC:Sh→Sh
 |.yv=>.none
 |s=>s
def qA:List Nat→List Ty→List Sh→List Sh
 |p::ps,y::ys,l=>qA ps ys (l.set p (.dat y))
 |_,_,l=>l
def Snap.start (ps:List Nat)(ys:List Ty)(S:Snap):Snap:=⟨qA ps ys (S.rs.map rC),S.os⟩
def W6 (ids:List Nat)(l:List Snap)(mo:List Nat):List Nat:=mo.filter fun j=>l.any fun S=> !nm (di ids S.os j)
def anD (wm:Nat)(ra rb:Res2):Res2:=
 let m:=Nat.lor wm (Nat.lor ra.mr rb.mr)
 ⟨.seq ra.pc rb.pc,rb.out.map (Snap.mask m),rb.ex.map (fun x=>(x.1,x.2.mask m)),m,jk ra.mo rb.mo⟩
def fY (ids:List Nat)(id:Nat)(r:Res2):Res2:=
    match ns id r.ex r.out with
    |some M=>⟨.block id (jV M r.mr) (je ids M r.mo) r.pc,some M,r.ex.filter fun x=> !Nat.beq x.1 id,r.mr,r.mo⟩
    |none=>⟨.block id [] [] r.pc,none,r.ex.filter fun x=> !Nat.beq x.1 id,r.mr,r.mo⟩
def tM:List (Nat×Nat)→Nat→Option Nat
 |[],_=>none
 |x::l,t=>bif Nat.beq x.1 t then some x.2 else tM l t
def ku (pr:Nat):List Oper→List (Nat×Nat)→Option (List (Nat×Nat))
 |[],acc=>some acc
 |o::l,acc=>
  match o.dst,o.guard with
  |some d,none=>
   bif Nat.beq d pr||(tM acc d).isSome then none else
   match o.op with
   |.extract (.tmp t) i=>bif Nat.beq t pr&&Nat.ble i 1 then ku pr l (acc++[(d,i)]) else none
   |.assign (.tmp t)=>(tM acc t).bind fun i=>ku pr l (acc++[(d,i)])
   |.move (.tmp t)=>(tM acc t).bind fun i=>ku pr l (acc++[(d,i)])
   |_=>none
  |_,_=>none
structure MP where
 it:Nat
 nx:Nat
 mo:Nat
 out:Nat
 next:Nat
 pr:Nat
 ops1:Array Oper
 ops2:Array Oper
 aa:List (Nat×Nat)
 deriving Inhabited
def zm (x y:Code)(k:Nat)(z:Code):Option MP:=
 match x,y,z with
 |.region _ ops1 false,.cond (.tmp mo) .skip (.exit out),.region _ ops2 false=>
  match ops1.toList,ops2.toList with
  |[o1,o2],o3::l=>
   match o1.dst,o1.guard,o1.op,o2.dst,o2.guard,o2.op,o3.dst,o3.guard,o3.op with
   |some nx,none,.next (.tmp it) false,some mo',none,.extract (.tmp Xz) 0,some pr,none,.entry (.tmp WB)=>
    bif Nat.beq mo mo'&&Nat.beq nx Xz&&Nat.beq it WB&& !Nat.beq it nx&& !Nat.beq it mo&& !Nat.beq it pr&& !Nat.beq nx mo&& !Nat.beq out cD&& !Nat.beq k cD then
     (ku pr l []).map fun aa=>⟨it,nx,mo,out,k,pr,ops1,ops2,aa⟩
    else none
   |_,_,_,_,_,_,_,_,_=>none
  |_,_=>none
 |_,_,_=>none
def vT:List Nat→Nat→List Ob→List Ob
 |i::is,J,o::os=>(bif Nat.beq i J then .dead else o)::vT is J os
 |_,_,os=>os
def Snap.kill (ids:List Nat)(J:Nat)(S:Snap):Snap:=⟨S.rs,vT ids J S.os⟩
def Wy (J:Nat)(kt et:Ty)(ids:List Nat)(p:MP)(m:Nat)(S:Snap):Bool:=
 Sh.beq (S.rs.getD p.it .none) (.obj J 0)&&Ob.beq (di ids S.os J) (.it kt et)&& !ar m p.it
def zn (ids:List Nat)(n:Nat)(p:MP)(ws:List Nat)(f:Snap→Option Res2)(S:Snap):Option Res2:=
 match cn (S.rs.getD p.it .none) with
 |.obj J 0=>
  match di ids S.os J with
  |.it kt et=>
   let ps:=p.aa.map (·.1)
   let ys:=p.aa.map fun x=>bif Nat.beq x.2 0 then kt else et
   let m:=v7 ws
   match iter (fun S=>(f ((S.mask m).start ps ys)).map (fY ids p.next)) 8 S with
   |some r=>
    bif r.2.ex.isEmpty&& !eL r.2.mo J&&Wy J kt et ids p m r.1&&gj ps&&ps.all (fun t=>Nat.blt t n)&&Nat.blt p.nx n&&Nat.blt p.mo n&&Nat.blt p.pr n&&Nat.beq (Nat.lor m r.2.mr) m then
       some ⟨.seq (.meach J ps (p.aa.map (·.2)) (je ids r.1 r.2.mo) r.2.pc) (.exit p.out),none,[(p.out,(r.1.mask m).kill ids J)],0,r.2.mo⟩
    else some gn
   |none=>some gn
  |_=>some gn
 |_=>some gn
def comp (C:Ctx)(fn:Func)(s:Sig)(n:Nat)(ids:List Nat)(R:Array Oper→Bool→Snap→Option (Snap×List PI)):Bool→Code→Snap→Option Res2
 |_,.skip,S=>some ⟨.skip,some S,[],0,[]⟩
 |_,.region _ ops draw,S=>(R ops draw S).map fun r=>⟨.is r.2,some r.1,[],HH r.2,XC r.2⟩
 |rm,.seq a b,S=>(comp C fn s n ids R rm a S).bind fun r=>
  match r.out with
  |none=>some r
  |some S1=>(comp C fn s n ids R rm b S1).map fun q=>⟨.seq r.pc q.pc,q.out,r.ex++q.ex,Nat.lor r.mr q.mr,jk r.mo q.mo⟩
 |rm,.cond c a b,S=>
  match use C (S.st ids) [] c with
  |some (.bool,e)=>
   (comp C fn s n ids R rm a S).bind fun r=>(comp C fn s n ids R rm b S).map fun q=>
     match lI r.out q.out with
     |some M=>⟨.ite e (jV M (Nat.lor r.mr q.mr)) (je ids M (jk r.mo q.mo)) r.pc q.pc,some M,r.ex++q.ex,Nat.lor r.mr q.mr,jk r.mo q.mo⟩
     |none=>⟨.ite e [] [] r.pc q.pc,none,r.ex++q.ex,Nat.lor r.mr q.mr,jk r.mo q.mo⟩
  |_=>some gn
 |rm,.block id a,S=>bif Nat.beq id cD then some gn else(comp C fn s n ids R rm a S).map (fY ids id)
 |rm,.loop (.seq x (.seq y (.block k (.seq z code)))),S=>
  (match zm x y k z with
  |some p=>zn ids n p (cm x++(cm y++(cm z++cm code))) (fun S=>comp C fn s n ids R rm code S) S
  |none=>
  match iter (fun S=>comp C fn s n ids R rm (.seq x (.seq y (.block k (.seq z code)))) S) 8 S with
  |some r=>some ⟨.loop (jV r.1 r.2.mr) (je ids r.1 r.2.mo) r.2.pc,none,r.2.ex,r.2.mr,r.2.mo⟩
  |none=>some gn)
 |rm,.loop a,S=>
  match iter (fun S=>comp C fn s n ids R rm a S) 8 S with
  |some r=>some ⟨.loop (jV r.1 r.2.mr) (je ids r.1 r.2.mo) r.2.pc,none,r.2.ex,r.2.mr,r.2.mo⟩
  |none=>some gn
 |_,.exit id,S=>bif Nat.beq id cD then some gn else some ⟨.exit id,none,[(id,S)],0,[]⟩
 |rm,.ret,S=>
  bif rm then some ⟨.exit cD,none,[(cD,S)],0,[]⟩ else
  match wR C fn s (S.st ids) with
  |some e=>some ⟨.ret e,none,[],0,[]⟩
  |none=>some gn
 |rm,.rangeFunc g ps a b,S=>
  match rm,C.yl,use C (S.st ids) [] g with
  |false,none,some (.fn aa r,e)=>
   match jA aa r with
   |some ys=>
    match iter (fun S=>(comp C fn s n ids R true a (S.start ps.toList ys)).bind fun ra=>
          match ra.out,ra.ex with
          |some S1,[]=>(comp C fn s n ids R true b S1).map (anD (v7 (ps.toList++cm a++cm b)) ra)
          |_,_=>none) 8 S with
    |some r=>
     bif Nat.beq ys.length ps.size&&gj ps.toList&&ps.toList.all (fun p=>Nat.blt p n)&&Nat.ble r.1.rs.length n then
           some ⟨.seq (.is [.callc [] n e []]) (.each (.r n) ps.toList (W6 ids (r.1::r.2.ex.map (·.2)) r.2.mo) ((ns cD r.2.ex none).bind fun M=>wR C fn s (M.st ids)) r.2.pc),
            some r.1,r.2.ex.filter (fun x=> !Nat.beq x.1 cD),dz n,r.2.mo⟩
     else some gn
    |none=>some gn
   |none=>some gn
  |_,_,_=>some gn
 |_,_,_=>some gn
termination_by structural _ c=>c
def vY:Code→Option (MP×Code×List Nat)
 |.seq x (.seq y (.block k (.seq z code)))=>(zm x y k z).map fun p=>(p,code,cm x++(cm y++(cm z++cm code)))
 |_=>none
theorem TS (C:Ctx)(fn:Func)(s:Sig)(n:Nat)(ids:List Nat)(R:Array Oper→Bool→Snap→Option (Snap×List PI))(rm:Bool)(a:Code)(S:Snap):comp C fn s n ids R rm (.loop a) S=
 match vY a with
 |some q=>zn ids n q.1 q.2.2 (fun S=>comp C fn s n ids R rm q.2.1 S) S
 |none=>
  match iter (fun S=>comp C fn s n ids R rm a S) 8 S with
  |some r=>some ⟨.loop (jV r.1 r.2.mr) (je ids r.1 r.2.mo) r.2.pc,none,r.2.ex,r.2.mr,r.2.mo⟩
  |none=>some gn:=by
 by_cases h:∃x y k z code,a=.seq x (.seq y (.block k (.seq z code)))
 ·obtain⟨x,y,k,z,code,rfl⟩:=h
  conv=>lhs;unfold comp
  simp only[vY];cases zm x y k z<;>rfl
 ·have e:vY a=none:=by
   unfold vY;split
   ·rename_i x y k z code;exact absurd ⟨x,y,k,z,code,rfl⟩ h
   ·rfl
  rw[e];rw[comp];intro x y k z code e;exact h ⟨x,y,k,z,code,e⟩
def subs:Code→List Code
 |.seq a b=>.seq a b::(subs a++subs b)
 |.cond c a b=>.cond c a b::(subs a++subs b)
 |.block i a=>.block i a::subs a
 |.loop a=>.loop a::subs a
 |.rangeFunc g ps a b=>.rangeFunc g ps a b::(subs a++subs b)
 |c=>[c]
theorem an8 (c:Code):c∈subs c:=by cases c<;>simp[subs]
theorem avI {a code:Code}{p:MP}{ws:List Nat}(h:vY a=some (p,code,ws)):code∈subs a:=by
 unfold vY at h;split at h
 ·simp only[ax] at h;obtain⟨q,_,e⟩:=h;cases e;simp[subs,an8]
 ·cases h
def JW (C:Ctx)(n:Nat)(ids:List Nat)(Φ:aK)(R:Array Oper→Bool→Snap→Option (Snap×List PI)):Prop:=
 ∀(id:Nat) (ops:Array Oper) (draw:Bool) (S:Snap) (r:Snap×List PI),R ops draw S=some r→
  ∀(rd:Option Nat) (w0:World) (σ0:Base) (ρ ρ':Env) (a:Act) (w:World) (Q:Exit→Act→World→Prop),CtxOK C σ0→nU C Φ w0 σ0→a.tmps.size=n→Good C w0 σ0 (S.st ids) ρ (fun _=>False) a w→PI.runs Φ r.2 ρ=some ρ'→
   (∀a' w',SameBut (pO ops) a a'→Good C w0 σ0 (r.1.st ids) ρ' (fun _=>False) a' w'→Q .normal a' w')→(Code.region id ops draw).wpIn (FR rd) 0 C.P Q a w
section
variable {C:Ctx} {ρ ρ':Env} {σ:Im} {own:Nat→Option Nat} {hv:Nat→Value} {w0:World} {σ0:Base} {A:Nat→Prop} {a:Act} {w:World} {Φ:aK} {n:Nat} {ids:List Nat} {fn:Func} {s:Sig}
 {R:Array Oper→Bool→Snap→Option (Snap×List PI)}
def gx (C:Ctx)(w0:World)(σ0:Base)(ids:List Nat)(fn:Func)(s:Sig)(rm:Bool)(wr:Nat→Prop)(a0:Act)(out:Option Snap)(ex:List (Nat×Snap))(x:Out):Exit→Act→World→Prop
 |.normal,a,w=>∃ρ S,x=.next ρ∧out=some S∧SameBut wr a0 a∧Good C w0 σ0 (S.st ids) ρ (fun _=>False) a w
 |.exit id,a,w=>∃ρ S,x=.exit id ρ∧id≠cD∧(id,S)∈ex∧SameBut wr a0 a∧Good C w0 σ0 (S.st ids) ρ (fun _=>False) a w
 |.ret,a,w=>match rm with
  |false=>∃d,x=.ret d∧pG C w0 σ0 fn s d a.tmps a.defers w∧SameBut wr a0 a
  |true=>∃ρ S,x=.exit cD ρ∧(cD,S)∈ex∧SameBut wr a0 a∧Good C w0 σ0 (S.st ids) ρ (fun _=>False) a w
 |_,_,_=>False
theorem Good.meet1 {x y:Snap}(h:Good C w0 σ0 (x.st ids) ρ A a w):Good C w0 σ0 ((x.meet y).st ids) ρ (fun _=>False) a w:=by
 obtain⟨σ,own,hv,h⟩:=h;exact⟨σ,own,hv,Snap.meet_ok1 h⟩
theorem Good.meet2 {x y:Snap}(h:Good C w0 σ0 (y.st ids) ρ A a w):Good C w0 σ0 ((x.meet y).st ids) ρ (fun _=>False) a w:=by
 obtain⟨σ,own,hv,h⟩:=h;exact⟨σ,own,hv,Snap.meet_ok2 h⟩
theorem Xk {x:Snap}{y:Option Snap}{M:Snap}(h:Good C w0 σ0 (x.st ids) ρ (fun _=>False) a w)(hm:lI (some x) y=some M):Good C w0 σ0 (M.st ids) ρ (fun _=>False) a w:=by
 cases y<;>simp[lI] at hm<;>subst hm
 ·exact h
 ·exact h.meet1
theorem Xl {x:Option Snap}{y:Snap}{M:Snap}(h:Good C w0 σ0 (y.st ids) ρ (fun _=>False) a w)(hm:lI x (some y)=some M):Good C w0 σ0 (M.st ids) ρ (fun _=>False) a w:=by
 cases x<;>simp[lI] at hm<;>subst hm
 ·exact h
 ·exact h.meet2
theorem Xm {x:Snap}{y:Option Snap}:∃M,lI (some x) y=some M:=by cases y<;>simp[lI]
theorem Xn {x:Option Snap}{y:Snap}:∃M,lI x (some y)=some M:=by cases x<;>simp[lI]
theorem HI {id:Nat}:∀(l:List (Nat×Snap)) {x:Snap},Good C w0 σ0 (x.st ids) ρ (fun _=>False) a w→∃M,ns id l (some x)=some M∧Good C w0 σ0 (M.st ids) ρ (fun _=>False) a w
 |[],x,h=>⟨x,rfl,h⟩
 |y::l,x,h=>by
  simp only[ns];cases Nat.beq y.1 id
  ·exact HI l h
  ·obtain⟨M,hM⟩:=@Xm x (some y.2);simp only[cond_true,hM];exact HI l (Xk h hM)
theorem Nx {id:Nat}{S:Snap}(h:Good C w0 σ0 (S.st ids) ρ (fun _=>False) a w):∀(l:List (Nat×Snap)) (x:Option Snap),(id,S)∈l→∃M,ns id l x=some M∧Good C w0 σ0 (M.st ids) ρ (fun _=>False) a w
 |y::l,x,hm=>by
  simp only[ns];rcases cM.1 hm with e|hm
  ·subst e;simp only[gu,cond_true];obtain⟨M,hM⟩:=@Xn x S;rw[hM];exact HI l (Xl h hM)
  ·exact Nx h l _ hm
theorem C1 {step:Snap→Option Res2}:∀(k:Nat) {S:Snap} {r:Snap×Res2},iter step k S=some r→
 step r.1=some r.2∧(∀T,r.2.out=some T→r.1.meet T=r.1)∧∀{ρ:Env} {a:Act} {w:World},Good C w0 σ0 (S.st ids) ρ (fun _=>False) a w→Good C w0 σ0 (r.1.st ids) ρ (fun _=>False) a w
 |0,S,r,h=>by simp[iter] at h
 |k+1,S,r,h=>by
  simp only[iter,aq] at h;obtain⟨q,hq,h⟩:=h;split at h
  ·rename_i ho;cases h;exact⟨hq,fun T hT=>by simp[ho] at hT,fun g=>g⟩
  ·rename_i T ho;cases hb:(S.meet T).beq S<;>simp only[hb,cond_true,cond_false] at h
   ·obtain⟨h1,h2,h3⟩:=C1 k h;exact⟨h1,h2,fun g=>h3 g.meet1⟩
   ·cases h;refine⟨hq,fun T' hT=>?_,fun g=>g⟩;simp only[ho,aQ] at hT;subst hT;exact Snap.beq_eq _ _ hb
theorem WC {step:Snap→Option Res2}{hv:Nat→Value}:∀(k:Nat) {S:Snap} {r:Snap×Res2},iter step k S=some r→Inv C (S.st ids) ρ σ own hv w0 σ0 (fun _=>False) a w→Inv C (r.1.st ids) ρ σ own hv w0 σ0 (fun _=>False) a w
 |0,S,r,h,_=>by simp[iter] at h
 |k+1,S,r,h,i=>by
  simp only[iter,aq] at h;obtain⟨q,hq,h⟩:=h;split at h
  ·cases h;exact i
  ·rename_i T ho;cases hb:(S.meet T).beq S<;>simp only[hb,cond_true,cond_false] at h
   ·exact WC k h (Snap.meet_ok1 i)
   ·cases h;exact i
theorem Good.joined {M:Snap}{m:Nat}{mo mr' mo':List Nat}(h:Good C w0 σ0 (M.st ids) ρ' (fun _=>False) a w)(hb:ρ.but ρ' mr' mo')(h1:∀t,t∈mr'→ar m t=true)(h2:∀j,j∈mo'→j∈mo):
 Good C w0 σ0 (M.st ids) (ρ.join (jV M m) (je ids M mo) ρ') (fun _=>False) a w:=by
 obtain⟨σ,own,hv,h⟩:=h;refine⟨σ,own,hv,h.env (Snap.noOpt _ _) (fun t ht=>?_) (fun j hj=>?_)⟩
 ·simp only[Env.join,Env.put,rW];split
  ·rfl
  ·rename_i hm;refine(hb.r t fun Cy=>hm ?_).symm;have af:t<M.rs.length:=by
        refine SS fun hle=>?_;simp only[Snap.st,aG,qM hle,Option.getD_none,cn,isNone] at ht;cases ht
   exact dO.2 ⟨bV.2 af,by rw[h1 t Cy];simpa [Snap.st] using ht⟩
 ·simp only[Env.join,Env.put,rW];split
  ·rfl
  ·rename_i hm;refine(hb.o j fun Cy=>hm ?_).symm;exact dO.2 ⟨h2 j Cy,by simpa [Snap.st] using hj⟩
theorem HJ {S:Snap}{m t:Nat}(h:t∈jV S m):ar m t=true:=by
 have:=(dO.1 h).2;simp only[aj] at this;exact this.1
theorem zo {S:Snap}{l:List Nat}{j:Nat}(h:j∈je ids S l):j∈l:=(dO.1 h).1
theorem Tx {id:Nat}{q:Res2}(h:(∀t,t∈q.pc.modR→ar q.mr t=true)∧∀j,j∈q.pc.modO→j∈q.mo):(∀t,t∈(fY ids id q).pc.modR→ar (fY ids id q).mr t=true)∧∀j,j∈(fY ids id q).pc.modO→j∈(fY ids id q).mo:=by
 unfold fY;cases hm:ns id q.ex q.out<;>simp only
 ·simpa [PC.modR,PC.modO] using h
 ·refine⟨fun t ht=>?_,fun j hj=>?_⟩
  ·simp only[PC.modR,dy] at ht;exact ht.elim HJ (h.1 t)
  ·simp only[PC.modO,dy] at hj;exact hj.elim zo (h.2 j)
theorem ak9 {p:MP}{ws:List Nat}{f:Snap→Option Res2}{S:Snap}{r:Res2}(h:zn ids n p ws f S=some r):(∀t,t∈r.pc.modR→ar r.mr t=true)∧∀j,j∈r.pc.modO→j∈r.mo:=by
 unfold zn at h;split at h
 case h_2=>cases h;exact lS
 split at h
 case h_2=>cases h;exact lS
 simp only at h;split at h
 case h_2=>cases h;exact lS
 rw[nM] at h;split at h
 ·cases h;refine⟨fun t ht=>by simp[PC.modR] at ht,fun j hj=>?_⟩;simp only[PC.modO,lZ] at hj;exact zo hj
 ·cases h;exact lS
theorem sR:∀(c:Code) {rm:Bool} {S:Snap} {r:Res2},comp C fn s n ids R rm c S=some r→(∀t,t∈r.pc.modR→ar r.mr t=true)∧∀j,j∈r.pc.modO→j∈r.mo:=by
 intro c
 induction c with
 |skip=>intro rm S r h;simp only[comp,aQ] at h;subst h;simp[PC.modR,PC.modO]
 |region id ops draw=>
  intro rm S r h;simp only[comp,ax] at h;obtain⟨q,_,rfl⟩:=h;exact⟨fun t ht=>Xd _ ht,fun j hj=>alg _ hj⟩
 |seq x y jd vP=>
  intro rm S r h;simp only[comp,aq] at h;obtain⟨q,hq,h⟩:=h;split at h
  ·cases h;exact jd hq
  ·simp only[ax] at h;obtain⟨p,hp,rfl⟩:=h;refine⟨fun t ht=>?_,fun j hj=>?_⟩
   ·simp only[PC.modR,dy] at ht;rw[eU,fG];exact ht.imp ((jd hq).1 t) ((vP hp).1 t)
   ·simp only[PC.modO,dy] at hj;rw[oO];exact hj.imp ((jd hq).2 j) ((vP hp).2 j)
 |cond c x y jd vP=>
  intro rm S r h;simp only[comp] at h;split at h
  case h_2=>cases h;exact lS
  rename_i e _;simp only[aq,ax] at h;obtain⟨q,hq,p,hp,rfl⟩:=h;cases hm:lI q.out p.out<;>simp only[hm]
  ·refine⟨fun t ht=>?_,fun j hj=>?_⟩
   ·simp only[PC.modR,dy,sJ] at ht;rw[eU,fG];exact ht.imp ((jd hq).1 t) ((vP hp).1 t)
   ·simp only[PC.modO,dy,sJ] at hj;rw[oO];exact hj.imp ((jd hq).2 j) ((vP hp).2 j)
  ·refine⟨fun t ht=>?_,fun j hj=>?_⟩
   ·simp only[PC.modR,dy] at ht;rw[eU,fG];rcases ht with(ht|ht)|ht
    ·have:=HJ ht;rw[eU,fG] at this;exact this
    ·exact .inl ((jd hq).1 t ht)
    ·exact .inr ((vP hp).1 t ht)
   ·simp only[PC.modO,dy] at hj;rcases hj with(hj|hj)|hj
    ·exact zo hj
    ·exact oO.2 (.inl ((jd hq).2 j hj))
    ·exact oO.2 (.inr ((vP hp).2 j hj))
 |block id x jd=>
  intro rm S r h;simp only[comp] at h;cases ct:Nat.beq id cD<;>simp only[ct,cond_true,cond_false] at h
  case true=>cases h;exact lS
  simp only[ax] at h;obtain⟨q,hq,rfl⟩:=h;exact Tx (jd hq)
 |loop x jd=>
  intro rm S r h;rw[TS] at h;split at h
  ·exact ak9 h
  split at h
  case h_2=>cases h;exact lS
  rename_i q hq;cases h;have hs:=(C1 (C:=C) (w0:=default) (σ0:=Base.mk0 ⟨fun _ _=>none,fun _=>none⟩ 0) (ids:=ids) 8 hq).1;refine⟨fun t ht=>?_,fun j hj=>?_⟩
  ·simp only[PC.modR,dy] at ht;exact ht.elim HJ ((jd hs).1 t)
  ·simp only[PC.modO,dy] at hj;exact hj.elim zo ((jd hs).2 j)
 |exit id=>
  intro rm S r h;simp only[comp] at h;cases ct:Nat.beq id cD<;>simp only[ct,cond_true,cond_false] at h<;>cases h
  ·simp[PC.modR,PC.modO]
  ·exact lS
 |ret=>
  intro rm S r h;simp only[comp] at h;cases rm<;>simp only[cond_true,cond_false] at h
  case true=>cases h;simp[PC.modR,PC.modO]
  split at h
  ·cases h;simp[PC.modR,PC.modO]
  ·cases h;exact lS
 |rangeFunc g ps x y _ _=>
  intro rm S r h;simp only[comp] at h;split at h
  case h_2=>cases h;exact lS
  split at h
  case h_2=>cases h;exact lS
  split at h
  case h_2=>cases h;exact lS
  rename_i q hq;rw[nM] at h;split at h
  ·cases h;refine⟨fun t ht=>?_,fun j hj=>?_⟩
   ·simp[PC.modR,PI.modR] at ht;subst ht;exact pJ _
   ·simp only[PC.modO,PI.modO,uF,SN,lZ,sJ] at hj;exact(dO.1 hj).1
  ·cases h;exact lS
 |_=>intro rm S r h;simp only[comp,aQ] at h;subst h;exact lS
theorem gx.mono {rm:Bool}{wr:Nat→Prop}{a0 a1:Act}{out YX:Option Snap}{ex Uj:List (Nat×Snap)}{x:Out}{e:Exit}(h:gx C w0 σ0 ids fn s rm wr a0 out ex x e a w)(he:∀y,y∈ex→y∈Uj)(hs:SameBut wr a1 a0)
 (ho:e=.normal→YX=out):gx C w0 σ0 ids fn s rm wr a1 YX Uj x e a w:=by
 cases e with
 |normal=>obtain⟨ρ,S,h1,h2,h3,h4⟩:=h;exact⟨ρ,S,h1,by rw[ho rfl];exact h2,hs.trans h3,h4⟩
 |exit id=>obtain⟨ρ,S,h1,h2,h3,h4,h5⟩:=h;exact⟨ρ,S,h1,h2,he _ h3,hs.trans h4,h5⟩
 |ret=>
  cases rm with
  |false=>obtain⟨d,h1,h2,h3⟩:=h;exact⟨d,h1,h2,hs.trans h3⟩
  |true=>obtain⟨ρ,S,h1,h3,h4,h5⟩:=h;exact⟨ρ,S,h1,he _ h3,hs.trans h4,h5⟩
 |_=>exact h.elim
theorem Ub {body:Env→Option Out}{ρ:Env}{ps lo:List Nat}{rt:Option PE}{x:Out}:∀{xs vo:List D},il body ρ ps lo rt xs vo=some x→
 ∃(m:Nat) (lV:Nat→List D),m≤xs.length∧lV 0=vo∧
  (∀i,i<m→∃y ρ',xs[i]?=some y∧body (ρ.put ps (partsOf ps y) lo (lV i))=some (.next ρ')∧lo.map ρ'.o=lV (i+1))∧
  ((m=xs.length∧x=.next (ρ.put [] [] lo (lV m)))∨
   (m<xs.length∧∃y id ρ',xs[m]?=some y∧body (ρ.put ps (partsOf ps y) lo (lV m))=some (.exit id ρ')∧
    ((id≠cD∧x=.exit id (ρ.put [] [] lo (lo.map ρ'.o)))∨(id=cD∧∃e,rt=some e∧x=.ret (e.ev (ρ.put [] [] lo (lo.map ρ'.o)))))))
 |[],vo,h=>by
  simp only[il,aQ] at h;exact⟨0,fun _=>vo,aW _,rfl,fun i hi=>by omega,.inl ⟨rfl,h.symm⟩⟩
 |y::xs,vo,h=>by
  simp only[il] at h;split at h
  ·rename_i ρ' hb;obtain⟨m,lV,h1,h2,h3,h4⟩:=Ub h;refine⟨m+1,fun i=>match i with|0=>vo|i+1=>lV i,by simp;omega,rfl,fun i hi=>?_,?_⟩
   ·cases i with
    |zero=>exact⟨y,ρ',rfl,hb,h2.symm⟩
    |succ i=>simpa using h3 i (by omega)
   ·rcases h4 with⟨e1,e2⟩|⟨e1,z,id,ρ2,e2,e3,e4⟩
    ·exact .inl ⟨by simp[e1],e2⟩
    ·exact .inr ⟨by simp;omega,z,id,ρ2,by simpa using e2,e3,e4⟩
  ·rename_i id ρ' hb;refine⟨0,fun _=>vo,nS _,rfl,fun i hi=>by omega,.inr ⟨by simp,y,id,ρ',rfl,hb,?_⟩⟩;cases ct:Nat.beq id cD<;>simp only[ct,cond_true,cond_false] at h
   ·refine .inl ⟨fun e=>?_,(sM h).symm⟩;subst e;simp at ct
   ·simp only[ax] at h;obtain⟨e,he,e2⟩:=h;exact .inr ⟨av ct,e,he,e2.symm⟩
  ·cases h
theorem Tv {l:List Nat}{t:Nat}(h:t∈l):ar (v7 l) t=true:=by
 induction l with
 |nil=>cases h
 |cons x l ih=>
  have e:v7 (x::l)=Nat.lor (dz x) (v7 l):=rfl;rw[e,eU];rcases cM.1 h with e|e
  ·subst e;rw[pJ];rfl
  ·rw[ih e];simp
theorem Nv (m:Nat):∀(l:List Sh) (k t:Nat),(rP m k l).getD t .none=if ar m (k+t)=true then .none else l.getD t .none
 |[],k,t=>by simp[rP]
 |s::l,k,0=>by
  simp only[rP,nN,ib];cases ar m k<;>rfl
 |s::l,k,t+1=>by
  simp only[rP,sF];rw[Nv m l (k+1) t,show k+1+t=k+(t+1) by omega]
theorem C9 (m:Nat)(S:Snap)(t:Nat):((S.mask m).st ids).r t=if ar m t=true then .none else(S.st ids).r t:=by
 show cn ((rP m 0 S.rs).getD t .none)=if ar m t=true then .none else cn (S.rs.getD t .none);rw[Nv,gw];split<;>rfl
theorem ale {m:Nat}{x S:Snap}{t:Nat}(h:ar m t=true):((x.meet (S.mask m)).st ids).r t=.none:=by
 show cn ((List.zipWith jf x.rs (rP m 0 S.rs)).getD t .none)=.none;rcases JE (f:=jf) x.rs (rP m 0 S.rs) t with h0|⟨s,u,h1,h2,h3⟩
 ·rw[h0];rfl
 ·rw[Nv,gw,if_pos h] at h2;subst h2;rw[h3];cases s<;>rfl
theorem Inv.maskR {S:Snap}{hv:Nat→Value}(h:Inv C (S.st ids) ρ σ own hv w0 σ0 A a w)(m:Nat):Inv C ((S.mask m).st ids) ρ σ own hv w0 σ0 (fun _=>False) a w:=by
 have hc:Compat (S.st ids) hv ((S.mask m).st ids) hv:=⟨fun _=>aW _,fun _ _=>rfl⟩
 refine h.weaken (fun t=>?_) (fun j=>?_) (Snap.noOpt _ _) (fun j hj=>⟨hj,rfl⟩)
 ·refine aD.mono' (ρ:=ρ) (.refl σ) hc (Snap.noOpt _ _ t) ?_;rw[C9];split
  ·trivial
  ·exact h.regs t
 ·exact(h.objs j).mono (.refl σ) hc rfl rfl (fun k hk=>⟨hk,rfl⟩)
theorem P3:∀(ps:List Nat) (ys:List Ty) (l:List Sh),ps.length=ys.length→gj ps=true→∀t,(qA ps ys l).getD t .none=.none∨(t∉ps∧(qA ps ys l).getD t .none=l.getD t .none)∨∃(i:Nat) (y:Ty),ps[i]?=some t∧ys[i]?=some y∧(qA ps ys l).getD t .none=.dat y
 |[],ys,l,_,_,t=>.inr (.inl ⟨by simp,by cases ys<;>rfl⟩)
 |p::ps,[],l,h,_,t=>by simp at h
 |p::ps,y::ys,l,h,hn,t=>by
  have gR:=kQ hn;rw[l0] at gR;have cW:gj ps=true:=by
   simp only[gj,aj] at hn;exact hn.2
  show(qA ps ys (l.set p (.dat y))).getD t .none=_∨_∨_;rcases P3 ps ys (l.set p (.dat y)) (by simpa using h) cW t with e|⟨e1,e2⟩|⟨i,z,e1,e2,e3⟩
  ·exact .inl e
  ·by_cases hp:t=p
   ·subst hp;by_cases af:t<l.length
    ·exact .inr (.inr ⟨0,y,rfl,rfl,by show(qA ps ys (l.set t (.dat y))).getD t .none=_;rw[e2];simp[aG,af]⟩)
    ·left;rw[e2];simp[aG,af]
   ·refine .inr (.inl ⟨by simp[hp,e1],?_⟩);show(qA ps ys (l.set p (.dat y))).getD t .none=_;rw[e2];simp only[aG,AJ];rw[if_neg (fun e=>hp e.symm)]
  ·exact .inr (.inr ⟨i+1,z,by simpa using e1,by simpa using e2,e3⟩)
def lO:List Nat→List Value→Array Value→Array Value
 |p::ps,v::vs,T=>lO ps vs (T.setIfInBounds p v)
 |_,_,T=>T
theorem anU (ps:Array Nat)(vs:Array Value)(T:Array Value):(ps.zip vs).foldl (fun T x=>T.setIfInBounds x.1 x.2) T=lO ps.toList vs.toList T:=by
 rw[←Array.foldl_toList,Array.toList_zip];generalize ps.toList=l;generalize vs.toList=k
 induction l generalizing k T with
 |nil=>rfl
 |cons p l ih=>
  cases k with
  |nil=>rfl
  |cons v k=>simpa [lO] using ih (T.setIfInBounds p v) k
theorem aaM:∀(ps:List Nat) (vs:List Value) (T:Array Value),(lO ps vs T).size=T.size
 |[],vs,T=>by cases vs<;>rfl
 |p::ps,[],T=>rfl
 |p::ps,v::vs,T=>by simp[lO,aaM ps vs]
theorem I7:∀(ps:List Nat) (vs:List Value) (T:Array Value) (t:Nat),t∉ps→(lO ps vs T).getD t undef=T.getD t undef
 |[],vs,T,t,_=>by cases vs<;>rfl
 |p::ps,[],T,t,_=>rfl
 |p::ps,v::vs,T,t,h=>by
  simp only[cM,not_or] at h;simp only[lO];rw[I7 ps vs _ t h.2];simp only[dH,uz];rw[if_neg (fun e=>h.1 e.symm)]
theorem aaL:∀(ps:List Nat) (vs:List Value) (T:Array Value) (i t:Nat),ps.Nodup→ps.length=vs.length→(∀p,p∈ps→p<T.size)→ps[i]?=some t→(lO ps vs T).getD t undef=vs.getD i undef
 |p::ps,v::vs,T,0,t,hn,hl,af,h=>by
  simp at h;subst h;rw[l0] at hn;simp only[lO];rw[I7 ps vs _ p hn.1];simp[uz,af p (dp ..)]
 |p::ps,v::vs,T,i+1,t,hn,hl,af,h=>by
  rw[l0] at hn;simp only[lO];have:=aaL ps vs (T.setIfInBounds p v) i t hn.2 (by simpa using hl) (fun q hq=>by simpa using af q (dk _ hq)) (by simpa using h);simpa using this
 |p::ps,[],T,i,t,hn,hl,af,h=>by simp at hl
 |[],vs,T,i,t,hn,hl,af,h=>by simp at h
theorem zQ (f:Nat→D):∀(ps:List Nat) (vs:List D) (t:Nat),t∉ps→putL f ps vs t=f t
 |[],vs,t,_=>by cases vs<;>rfl
 |p::ps,[],t,_=>rfl
 |p::ps,v::vs,t,h=>by
  simp only[cM,not_or] at h;simp only[putL,bf _ _ h.1];exact zQ f ps vs t h.2
theorem Oo (f:Nat→D):∀(ps:List Nat) (vs:List D) (i t:Nat),ps.Nodup→ps.length=vs.length→ps[i]?=some t→putL f ps vs t=vs.getD i .none
 |p::ps,v::vs,0,t,hn,hl,h=>by
  simp at h;subst h;simp[putL,aJ]
 |p::ps,v::vs,i+1,t,hn,hl,h=>by
  rw[l0] at hn;have ht:t∈ps:=jn (by simpa using h);have ay:t≠p:=fun e=>hn.1 (e▸ht);simp only[putL,bf _ _ ay];have:=Oo f ps vs i t hn.2 (by simpa using hl) (by simpa using h);simpa using this
 |p::ps,[],i,t,hn,hl,h=>by simp at hl
 |[],vs,i,t,hn,hl,h=>by simp at h
theorem amr (ps:List Nat)(ds:List D)(i:Nat)(h:i<ps.length):(partsOf ps (.tup ds)).getD i .none=ds.getD i .none:=by
 simp[partsOf,aG,h,D.tget]
theorem amq (ps:List Nat)(x:D):(partsOf ps x).length=ps.length:=by simp[partsOf]
theorem Inv.startR {S:Snap}{hv:Nat→Value}(h:Inv C (S.st ids) ρ σ own hv w0 σ0 A a w){ps:List Nat}{ys:List Ty}{args:List Value}{ds:List D}{lo:List Nat}{vo:List D}(hl:ps.length=ys.length)(ba:gj ps=true)(af:∀p,p∈ps→p<a.tmps.size)(ha:nL C σ ys args ds)
 (hρ:ρ=ρ'.put [] [] lo vo):Inv C ((S.start ps ys).st ids) (ρ'.put ps (partsOf ps (.tup ds)) lo vo) σ own hv w0 σ0 (fun _=>False) {tmps:=lO ps args a.tmps,defers:=[]} w:=by
 obtain⟨a1,a2,a3⟩:=ha;have hn:=kQ ba;have hc:Compat (S.st ids) hv ((S.start ps ys).st ids) hv:=⟨fun _=>aW _,fun _ _=>rfl⟩
 have ho:∀j,(ρ'.put ps (partsOf ps (.tup ds)) lo vo).o j=ρ.o j:=fun j=>by rw[hρ];rfl
 refine⟨trivial,h.ok,h.le,h.old,h.newc,h.newm,h.below,h.bw,h.owns,fun t=>?_,fun j=>(h.objs j).mono (.refl σ) hc rfl (ho j) (fun k hk=>⟨hk,rfl⟩),fun t gs s e=>absurd e (Snap.noOpt _ _ t gs s),?_⟩
 ·show aD C _ _ σ hv (cn ((qA ps ys (S.rs.map rC)).getD t .none)) ((lO ps args a.tmps).getD t undef) (putL ρ'.r ps (partsOf ps (.tup ds)) t);rcases P3 ps ys (S.rs.map rC) hl ba t with e|⟨e1,e2⟩|⟨i,y,e1,e2,e3⟩
  ·rw[e];trivial
  ·rw[e2,I7 _ _ _ _ e1,zQ _ _ _ _ e1];have hr:=h.regs t;change aD C _ ρ σ hv (cn (S.rs.getD t .none)) _ _ at hr;have hρr:ρ.r t=ρ'.r t:=by rw[hρ];show putL ρ'.r [] [] t=_;rfl
   rw[hρr] at hr;have e3:(S.rs.map rC).getD t .none=rC (S.rs.getD t .none):=by
        simp only[aG,cg];cases S.rs[t]?<;>rfl
   rw[e3];generalize S.rs.getD t .none=s at hr;cases s with
   |yv=>trivial
   |opt gs s=>trivial
   |none=>trivial
   |fclo f c=>exact aD.mono' (.refl σ) hc (fun _ _ e=>by cases e) hr
   |agg l=>exact aD.mono' (.refl σ) hc (fun _ _ e=>by cases e) hr
   |dat t=>exact hr
   |obj j v=>exact aD.mono' (.refl σ) hc (fun _ _ e=>by cases e) hr
   |ptr j v o=>exact aD.mono' (.refl σ) hc (fun _ _ e=>by cases e) hr
   |eptr j v o q=>exact aD.mono' (.refl σ) hc (fun _ _ e=>by cases e) hr
  ·rw[e3];have hi:i<ps.length:=(eT.1 e1).1;rw[aaL ps args a.tmps i t hn (by omega) af e1,Oo _ ps _ i t hn (by rw[amq]) e1,amr _ _ _ hi];exact a3 i y e2
 ·obtain⟨t,fx,cx,h1,h2⟩:=h.frame;exact⟨t,fx,cx,h1,fun j hj=>⟨(h2 j hj).1,by rw[ho j];exact(h2 j hj).2⟩⟩
def uK (C:Ctx)(Φ:aK)(fn:Func)(s:Sig)(n:Nat)(ids:List Nat)(R:Array Oper→Bool→Snap→Option (Snap×List PI))(N:Nat)(c:Code):Prop:=
 ∀(rm:Bool) (S:Snap) (r:Res2),comp C fn s n ids R rm c S=some r→∀(rd:Option Nat) (w0:World) (σ0:Base) (wr:Nat→Prop) (ρ:Env) (x:Out) (a:Act) (w:World),(rm=false→rd=none∧σ0.fin)→CtxOK C σ0→nU C Φ w0 σ0→(∀t,t∈cm c→wr t)→a.tmps.size=n→
  Good C w0 σ0 (S.st ids) ρ (fun _=>False) a w→r.pc.ev Φ N ρ=some x→c.wpIn (FR rd) 0 C.P (gx C w0 σ0 ids fn s rm wr a r.out r.ex x) a w
structure Seg (σ:Im) (own:Nat→Option Nat) (w:World) (σ':Im) (own':Nat→Option Nat) (w':World):Prop where
 le:σ.le σ'
 below:Below 0 w w'
 same:∀k,k<w.heap.size→own k=none→w'.heap[k]?=w.heap[k]?
 ow:∀k j,own' k=some j→(∃i,own k=some i)∨w.heap.size≤k
 imm:∀k,((∃o x,σ'.c k o=some x)∨∃x,σ'.m k=some x)→(∃o x,σ.c k o=some x)∨(∃x,σ.m k=some x)∨(∃i,own k=some i)∨w.heap.size≤k
structure Free (L:Nat) (σ:Im) (own:Nat→Option Nat):Prop where
 own:own L=none
 c:∀o,σ.c L o=none
 m:σ.m L=none
theorem Free.seg {L:Nat}{σ':Im}{own':Nat→Option Nat}{w':World}(h:Free L σ own)(hL:L<w.heap.size)(k:Seg σ own w σ' own' w'):Free L σ' own':=by
 have Cm:¬((∃o x,σ'.c L o=some x)∨∃x,σ'.m L=some x):=fun e=>by
  rcases k.imm L e with⟨o,x,e⟩|⟨x,e⟩|⟨i,e⟩|e
  ·rw[h.c o] at e;cases e
  ·rw[h.m] at e;cases e
  ·rw[h.own] at e;cases e
  ·omega
 refine⟨?_,fun o=>?_,?_⟩
 ·cases e:own' L with
  |none=>rfl
  |some j=>
   rcases k.ow L j e with⟨i,e⟩|e
   ·rw[h.own] at e;cases e
   ·omega
 ·cases e:σ'.c L o with
  |none=>rfl
  |some x=>exact absurd (.inl ⟨o,x,e⟩) Cm
 ·cases e:σ'.m L with
  |none=>rfl
  |some x=>exact absurd (.inr ⟨x,e⟩) Cm
def aco (C:Ctx)(w0:World)(σ0:Base)(ids:List Nat)(wr:Nat→Prop)(a0:Act)(σ:Im)(own:Nat→Option Nat)(w:World)(out:Option Snap)(ex:List (Nat×Snap))(x:Out)(e:Exit)(a':Act)(w':World):Prop:=
 ∃ρ' S' σ' own' hv',Inv C (S'.st ids) ρ' σ' own' hv' w0 σ0 (fun _=>False) a' w'∧Seg σ own w σ' own' w'∧SameBut wr a0 a'∧
  match e with
  |.normal=>x=.next ρ'∧out=some S'
  |.exit id=>x=.exit id ρ'∧id≠cD∧(id,S')∈ex
  |.ret=>x=.exit cD ρ'∧(cD,S')∈ex
  |_=>False
theorem aaG {N:Nat}{c:Code}(hc:uK C Φ fn s n ids R N c){S:Snap}{r:Res2}(hr:comp C fn s n ids R true c S=some r)(jT:C.yl=none)(hC:CtxOK C σ0){wr:Nat→Prop}{ρ:Env}{x:Out}{hv:Nat→Value}(h:Inv C (S.st ids) ρ σ own hv w0 σ0 (fun _=>False) a w)
 (gV:∀t,t∈cm c→wr t) (hn:a.tmps.size=n) (he:r.pc.ev Φ N ρ=some x) (L:Nat):c.wpIn (FR (some L)) 0 C.P (aco C w0 σ0 ids wr a σ own w r.out r.ex x) a w:=by
 obtain⟨t,fx,cx,cQ,ht⟩:=h.frame;have h1:=h.toRnd (X:=fun _=>False) ht;refine wpIn_mono (hc true S r hr (some L) w0 (σ0.rnd σ own w t fun _=>False) wr ρ x a w (fun e=>by cases e) (hC.mono h.le) (fun J ys e=>by rw[jT] at e;cases e) gV hn ⟨_,_,_,h1⟩ he) fun e a' w' ho=>?_
 have main:∀{S':Snap} {ρ':Env},SameBut wr a a'→Good C w0 (σ0.rnd σ own w t fun _=>False) (S'.st ids) ρ' (fun _=>False) a' w'→∃σ' own' hv',Inv C (S'.st ids) ρ' σ' own' hv' w0 σ0 (fun _=>False) a' w'∧Seg σ own w σ' own' w'∧SameBut wr a a':=by
  intro S' ρ' hs hg;obtain⟨σ',own',hv',h2⟩:=hg;exact⟨σ',own',hv',h.ofRnd cQ (fun _ _=>id) h2,⟨h2.le,h.rndBelow h2,fun k hk ho=>Inv.rndSame h.ok h2 hk ho id,fun k j e=>Inv.rndOwn h2 e id,fun k e=>Inv.rndC h2 e id⟩,hs⟩
 cases e with
 |normal=>
  obtain⟨ρ',S',e1,e2,e3,e4⟩:=ho;obtain⟨σ',own',hv',g1,g2,g3⟩:=main e3 e4;exact⟨ρ',S',σ',own',hv',g1,g2,g3,e1,e2⟩
 |exit id=>
  obtain⟨ρ',S',e1,e0,e2,e3,e4⟩:=ho;obtain⟨σ',own',hv',g1,g2,g3⟩:=main e3 e4;exact⟨ρ',S',σ',own',hv',g1,g2,g3,e1,e0,e2⟩
 |ret=>
  obtain⟨ρ',S',e1,e2,e3,e4⟩:=ho;obtain⟨σ',own',hv',g1,g2,g3⟩:=main e3 e4;exact⟨ρ',S',σ',own',hv',g1,g2,g3,e1,e2⟩
 |_=>exact ho.elim
theorem Inv.putL {L:Nat}{hv:Nat→Value}{S:St}{ρ:Env}(h:Inv C S ρ σ own hv w0 σ0 A a w)(hL:w0.heap.size≤L)(hf:Free L σ own)(hx:∀t fx cx,FrOK σ own w0.heap.size σ0 w t fx cx→¬fx L)(o:Obj):Inv C S ρ σ own hv w0 σ0 A a (w.putObj L o):=
 h.keep (X:=fun k=>k≠L) ⟨rfl,rfl,rfl,by simp,fun k hk=>by omega⟩ (fun k hk=>World.putObj_heap_other hk) (fun k hk=>by omega) (fun k j e1 e2=>by subst e2;rw[hf.own] at e1;cases e1) (fun k o v e1 e2=>by subst e2;rw[hf.c] at e1;cases e1)
  (fun k v e1 e2=>by subst e2;rw[hf.m] at e1;cases e1) (fun t fx cx cQ k hk e=>by subst e;exact hx t fx cx cQ hk)
theorem aqQ {o:Oper}{L:Nat}{x:Operand}{aa:Array Operand}{ts:Array TypeId}{r:Loop}(bK:o.op=.call {callee:=.value x,args:=aa,argTypes:=ts})(hx:a.eval x=.func (.yield L) #[] #[])(hL:w.heap[L]?=some (.loop r))(hs:aa.size=r.params.size):
 (execOp a.eval o).run C.P w=.ok (.round L r.fn ((r.params.zip (aa.map a.eval)).foldl (fun tmps (t,v)=>tmps.setIfInBounds t v) r.tmps) r.assign r.body) w:=by
 have hy:=run_yield (P:=C.P) (args:=aa.map a.eval) hL (by simpa using hs);simp[execOp,bK,resolve,hx,Deferred.ofValue,invoke,hy]
theorem amZ {g:Operand}{f:Nat}{vs:List Value}{L:Nat}(hf:∃fn,C.P.funcs[f]?=some fn∧fn.body.isSome=true∧(fn.name== "runtime.NumGoroutine")=false)(hg:a.eval g=.func (.func f) #[] vs.toArray):
 (resolve a.eval (rangeCall g L) 0).run C.P w=.ok {target:=.fn (.func f) vs.toArray,args:=#[.func (.yield L) #[] #[]]} w∧
 (invoke (.fn (.func f) vs.toArray) #[.func (.yield L) #[] #[]]).run C.P w=.ok (.enter f (#[.func (.yield L) #[] #[]]++vs.toArray)) w:=by
 obtain⟨fn,h1,h2,h3⟩:=hf;obtain⟨bd,gz⟩:=SU.1 h2;have h4:¬fn.name= "runtime.NumGoroutine" :=by simpa using h3
 constructor
 ·simp only[resolve,hg];simp[go_sem]
 ·simp[invoke,callFunc,h1,gz,h4]
theorem FrOK.enter {hv:Nat→Value}{S:St}{ρ:Env}(h:Inv C S ρ σ own hv w0 σ0 A a w){t:D}{fx cx:Nat→Prop}(hf:FrOK σ own w0.heap.size σ0 w t fx cx)(r:Loop):FrOK (σ.mark w.heap.size) own w0.heap.size σ0 ((w.alloc (.deferred (some []))).alloc (.loop r)) t fx cx:=by
 have hb:=Ud w (.deferred (some [])) (.loop r);have af:=σ0.lt _ _ _ _ hf.F;have bM:=σ0.sub _ _ _ _ hf.F;have vD:∀k x,(σ.mark w.heap.size).m k=some x→σ.m k=some x∨k=w.heap.size:=by
  intro k x e;simp only[Im.mark] at e;split at e
  ·rename_i e2;exact .inr e2
  ·exact .inl e
 refine⟨σ0.keep _ _ _ _ _ hf.F (hb.mono (nS _)) fun k hk=>hb.block k (af k hk),hf.own,hf.c,fun k x e hc=>?_,fun k e hB hk=>?_⟩
 ·rcases vD k x e with e|e
  ·exact hf.m k x e hc
  ·have:=af k (bM k hc);omega
 ·rcases vD k _ e with e|e
  ·exact hf.d k e hB hk
  ·have:=af k hk;omega
structure RSt (C:Ctx) (w0:World) (σR:Base) (ids:List Nat) (ρ1:Env) (lo:List Nat) (aM:Act) (L:Nat) (W1:World) (σ1:Im) (rec:LoopState→Option Code→Loop) (xs:List D) (P:Nat→List D→Snap→LoopState→Option Code→Prop) (t:D) (fx cx:Nat→Prop) (w:World):Prop where
 lt:∀k,fx k→k<w.heap.size
 sub:∀k,cx k→fx k
 old:∀k,k<W1.heap.size→fx k
 ex:∃(i:Nat) (vo:List D) (Sx:Snap) (st:LoopState) (pe:Option Code) (σ:Im) (own:Nat→Option Nat) (hv:Nat→Value),t=.list (xs.take i)∧P i vo Sx st pe∧Inv C (Sx.st ids) (ρ1.put [] [] lo vo) σ own hv w0 σR (fun _=>False) aM w∧
  σ1.le σ∧Free L σ own∧w.heap[L]?=some (.loop (rec st pe))∧(∀k j,own k=some j→fx k)∧(∀k o x,σ.c k o=some x→fx k)∧(∀k x,σ.m k=some x→fx k)∧∀k,cx k↔((∃j,own k=some j)∨k=L)
theorem RSt.keep {σR:Base}{ρ1:Env}{lo:List Nat}{aM:Act}{L:Nat}{W1:World}{σ1:Im}{rec:LoopState→Option Code→Loop}{xs:List D}{P:Nat→List D→Snap→LoopState→Option Code→Prop}{t:D}{fx cx:Nat→Prop}{w w':World}
 (h0:w0.heap.size≤W1.heap.size) (hL:L<W1.heap.size) (hR:∀t f c w,σR.F t f c w→∀k,f k→k<W1.heap.size) (h:RSt C w0 σR ids ρ1 lo aM L W1 σ1 rec xs P t fx cx w) (hb:Below 0 w w') (hs:∀k,fx k→w'.heap[k]?=w.heap[k]?):
 RSt C w0 σR ids ρ1 lo aM L W1 σ1 rec xs P t fx cx w':=by
 obtain⟨i,vo,Sx,st,pe,σ,own,hv,e1,e2,e3,e4,e5,e6,e7,e8,e9,e10⟩:=h.ex;refine⟨fun k hk=>qO (h.lt k hk) hb.size,h.sub,h.old,i,vo,Sx,st,pe,σ,own,hv,e1,e2,?_,e4,e5,(hs L (h.old L hL)).trans e6,e7,e8,e9,e10⟩;exact e3.keep (X:=fx) hb hs (fun k hk=>h.old k (by omega)) e7 e8 e9 (fun t f c hf k hk=>h.old k (hR _ _ _ _ hf.F k hk))
theorem Im.noM_m {σ:Im}{k:Nat}{v:List (Value×Value)}(h:σ.noM.m k=some v):σ.m k=some v∧v≠cr:=by
 simp only[Im.noM] at h;split at h
 ·cases h
 ·rename_i ay;exact⟨h,fun e=>ay (by rw[h,e])⟩
structure SegL (L:Nat) (σ:Im) (own:Nat→Option Nat) (w:World) (σ':Im) (own':Nat→Option Nat) (w':World):Prop where
 le:σ.le σ'
 below:Below 0 w w'
 same:∀k,k<w.heap.size→own k=none→k≠L→w'.heap[k]?=w.heap[k]?
 ow:∀k j,own' k=some j→(∃i,own k=some i)∨w.heap.size≤k
 imm:∀k,((∃o x,σ'.c k o=some x)∨∃x,σ'.m k=some x)→(∃o x,σ.c k o=some x)∨(∃x,σ.m k=some x)∨(∃i,own k=some i)∨w.heap.size≤k
theorem Zl (w:World)(L:Nat)(o:Obj):Below 0 w (w.putObj L o):=⟨rfl,rfl,rfl,by simp,fun k hk=>by omega⟩
theorem Seg.round {L:Nat}{σ' σ'':Im}{own' YY:Nat→Option Nat}{w' j4:World}{o o':Obj}(h:Seg σ own w σ' own' w')(k:Seg σ' own' (w'.putObj L o) σ'' YY j4):SegL L σ own w σ'' YY (j4.putObj L o'):=by
 have aC:=h.below.size;have Hq:=k.below.size;simp only[World.putObj_size] at Hq;refine⟨h.le.trans k.le,h.below.trans ((Zl _ _ _).trans (k.below.trans (Zl _ _ _))),fun q hq ho hL=>?_,fun q j e=>?_,fun q e=>?_⟩
 ·have h1:own' q=none:=by
   cases e:own' q with
   |none=>rfl
   |some j=>
    rcases h.ow q j e with⟨i,e⟩|e
    ·rw[ho] at e;cases e
    ·omega
  rw[World.putObj_heap_other hL,k.same q (by simp;omega) h1,World.putObj_heap_other hL,h.same q hq ho]
 ·rcases k.ow q j e with⟨i,e⟩|e
  ·exact h.ow q i e
  ·simp only[World.putObj_size] at e;exact .inr (by omega)
 ·rcases k.imm q e with e|e|⟨i,e⟩|e
  ·exact h.imm q (.inl e)
  ·exact h.imm q (.inr e)
  ·rcases h.ow q i e with e|e
   ·exact .inr (.inr (.inl e))
   ·exact .inr (.inr (.inr e))
  ·simp only[World.putObj_size] at e;exact .inr (.inr (.inr (by omega)))
theorem Env.put_self (ρ:Env)(lo:List Nat):ρ.put [] [] lo (lo.map ρ.o)=ρ:=by
 have h2:∀u,putL ρ.o lo (lo.map ρ.o) u=ρ.o u:=fun u=>by rw[rW];split<;>rfl
 show Env.mk ρ.r (putL ρ.o lo (lo.map ρ.o))=ρ;rw[funext h2]
theorem am0 {N:Nat}(dB:fI C Φ){g:Operand}{ps:Array Tmp}{ca cb:Code}(bu:uK C Φ fn s n ids R N ca)(dS:uK C Φ fn s n ids R N cb):uK C Φ fn s n ids R N (.rangeFunc g ps ca cb):=by
 intro rm S r hr rd w0 σ0 wr ρ x a w gi hC hY gV hn hg he;simp only[comp] at hr;split at hr
 case h_2=>cases hr;exact absurd he (lR _ _ _ _)
 rename_i aa rr e jT hu;split at hr
 case h_2=>cases hr;exact absurd he (lR _ _ _ _)
 rename_i ys vO;split at hr
 case h_2=>cases hr;exact absurd he (lR _ _ _ _)
 rename_i q hq;rw[nM] at hr;split at hr
 case isFalse=>cases hr;exact absurd he (lR _ _ _ _)
 rename_i vm;cases hr;simp only[aj] at vm;obtain⟨⟨⟨hl,ba⟩,af⟩,vG⟩:=vm;have hl:=av hl;have vG:=jo vG;obtain⟨hrd,me⟩:=gi rfl;subst hrd;obtain⟨hs,yV,_⟩:=C1 (C:=C) (w0:=w0) (σ0:=σ0) (ids:=ids) 8 hq;simp only[aq] at hs;obtain⟨ra,MD,hs⟩:=hs;split at hs
 case h_2=>cases hs
 rename_i S1 hao U6;simp only[ax] at hs;obtain⟨rb,V2,jc⟩:=hs;have VH:=sR ca MD;have VI:=sR cb V2;obtain⟨q1,q2⟩:=q;simp only at MD jc vG yV he ⊢;generalize vA:W6 ids (q1::q2.ex.map (·.2)) q2.mo=lo at he;generalize tB:((ns cD q2.ex none).bind fun M=>wR C fn s (M.st ids))=rt at he;have CJ:∃f caps d,e.ev ρ=.clo f caps∧Φ f caps=some d∧il (q2.pc.ev Φ N) (ρ.setR n d) ps.toList lo rt d.l (lo.map ρ.o)=some x:=by
  simp only[PC.ev,PI.runs,PI.run,holds,List.all_nil,cond_true] at he;cases bF:e.ev ρ with
  |clo f caps=>
   rw[bF] at he;simp only[PE.evs,sJ] at he;cases hΦ:Φ f caps with
   |none=>rw[hΦ] at he;simp at he
   |some d=>
    rw[hΦ] at he;simp only[jI,jG,PE.ev,Env.setR,aJ] at he;exact⟨f,caps,d,rfl,hΦ,he⟩
  |_=>rw[bF] at he;simp at he
 obtain⟨f,caps,d,bF,hΦ,he⟩:=CJ;obtain⟨σ,own,hv,i⟩:=hg;have hx:=cf (gs:=[]) i hC rfl hu;rw[bF] at hx;generalize LY:a.eval g=gv at hx;generalize aX:Ty.fn aa rr=ty at hx;cases hx with
 |fn f cs vs ds eX h1 h2 aN=>
 cases aX;obtain⟨hfn,ah2⟩:=dB f cs ys eX vO;obtain⟨xs,rfl,avp,L0⟩:=ah2 caps d hΦ;simp only[D.l_list] at he;obtain⟨m,lV,hm,rH,Hg,mi⟩:=Ub he;have iq0:=WC 8 hq i
 have iq:Inv C (q1.st ids) (ρ.setR n (.list xs)) σ own hv w0 σ0 (fun _=>False) a w:=by
  refine iq0.env (Snap.noOpt _ _) (fun t ht=>?_) (fun _ _=>rfl);have af:t<q1.rs.length:=by
   refine SS fun hle=>?_;simp only[Snap.st,aG,qM hle,Option.getD_none,cn,isNone] at ht;cases ht
  simp[Env.setR,bf _ _ (show t≠n by omega)]
 obtain⟨ρ1,hρ1⟩:∃ρ1,ρ.setR n (.list xs)=ρ1:=⟨_,rfl⟩
 rw[hρ1] at he iq Hg mi;have jx:ρ.o=ρ1.o:=by rw[←hρ1];rfl
 rw[jx] at rH;refine wpIn_rangeFunc ?_;intro Ll au3;obtain⟨L,UW⟩:∃L,w.heap.size+1=L:=⟨_,rfl⟩
 obtain⟨rec,gh⟩:∃rec:LoopState→Option Code→Loop,rec=fun st pe=>{state:=st,pending:=pe,fn:=Ll,tmps:=a.tmps,params:=ps,assign:=ca,body:=cb,defers:=w.heap.size}:=⟨_,rfl⟩
 have i1:=iq.enter (rec .ready none);obtain⟨t,fx0,cx0,Vn,MM⟩:=iq.frame;have ahL:=σ0.lt _ _ _ _ Vn.F;have LV:=FrOK.enter iq Vn (rec .ready none);have avn:=iq.below.size;have yI:Free L (σ.mark w.heap.size) own:=by
  refine⟨?_,fun o=>?_,?_⟩
  ·cases e:own L with
   |none=>rfl
   |some j=>have:=(iq.owns L j e).2.1;omega
  ·cases e:σ.c L o with
   |none=>exact e
   |some x=>have:=iq.lt e;omega
  ·simp only[Im.mark,show L≠w.heap.size by omega,if_false];cases e:σ.m L with
   |none=>rfl
   |some x=>have:=iq.ltm e;omega
 have kK:σ.le (σ.mark w.heap.size):=by
  refine⟨fun _ _ _ e=>e,fun k x e=>?_⟩;have:k≠w.heap.size:=by have:=iq.ltm e;omega
  simp[Im.mark,this,e]
 have US:((w.alloc (.deferred (some []))).alloc (.loop (rec .ready none))).heap[L]?=some (.loop (rec .ready none)):=by
  have:=World.alloc_heap_new (w.alloc (.deferred (some []))) (.loop (rec .ready none));rw[World.size_alloc,UW] at this;exact this
 obtain⟨W1,Lw⟩:∃W1,(w.alloc (.deferred (some []))).alloc (.loop (rec .ready none))=W1:=⟨_,rfl⟩
 have auW:W1.heap.size=w.heap.size+2:=by rw[←Lw];simp
 rw[Lw] at i1 LV US;have LQ:(Instr.enterLoop Ll a.tmps ps ca cb none).run C.P w=.ok (L,[{target:=.collected w.heap.size,args:=#[]}]) W1:=by
  rw[←Lw,gh,←UW];exact run_enterLoop_outer _ _ _ _ _
 obtain⟨σ1,hσ1⟩:∃σ1,σ.mark w.heap.size=σ1:=⟨_,rfl⟩
 rw[hσ1] at i1 LV yI kK;obtain⟨aM,Lx⟩:∃aM:Act,{a with defers:={target:=.collected w.heap.size,args:=#[]}::a.defers}=aM:=⟨_,rfl⟩
 have B5:aM.tmps=a.tmps:=by rw[←Lx]
 rw[Lx] at i1;have iR:=i1.toRnd (t:=t) (X:=fun k=>k=L) MM;obtain⟨σR,hσR⟩:∃σR,σ0.rnd σ1 own W1 t (fun k=>k=L)=σR:=⟨_,rfl⟩
 have s9:∀t' f c w',σR.F t' f c w'→(∀k,f k→k<W1.heap.size∧k≠L)∧∀k,c k→f k∧(∀o,σ1.c k o=none)∧σ1.m k=none:=by
  rw[←hσR];rintro t' f c w' ⟨_,h2,h3,_⟩;exact⟨fun k hk=>⟨((h2 k).1 hk).1,((h2 k).1 hk).2.2.2⟩,fun k hk=>(h3 k).1 hk⟩
 have UZ:CtxOK C σR:=by rw[←hσR];exact hC.mono i1.le
 rw[hσR] at iR
 obtain⟨P,hP⟩:∃P:Nat→List D→Snap→LoopState→Option Code→Prop,P=fun i vo Sx st pe=>(i≤m∧vo=lV i∧Sx=q1∧st=.ready∧pe=none)∨
  (i=m+1∧m<xs.length∧st=.done∧∃y id ρ',xs[m]?=some y∧q2.pc.ev Φ N (ρ1.put ps.toList (partsOf ps.toList y) lo (lV m))=some (.exit id ρ')∧vo=lo.map ρ'.o∧(id,Sx)∈q2.ex∧((id≠cD∧pe=some (.exit id))∨(id=cD∧pe=some .ret))):=⟨_,rfl⟩
 obtain⟨c1,c2⟩:=amZ (C:=C) (w:=W1) (L:=L) hfn LY;refine⟨L,[{target:=.collected w.heap.size,args:=#[]}],W1,_,W1,f,_,W1,LQ,c1,fun _ _=>trivial,c2,(fun e=>by cases e),?_⟩
 refine TF ((L0 σ1 W1 (.func (.yield L) #[] #[]) vs (RSt C w0 σR ids ρ1 lo aM L W1 σ1 rec xs P) (fun k=>k<W1.heap.size) (fun k=>(∃j,own k=some j)∨k=L) m i1.ok (hC.mono i1.le) ⟨h1,h2,fun j t e=>(aN j t e).mono kK⟩ hm
  (fun t f c w h=>h.lt) (fun t f c w h=>h.sub) (fun t f c w w' h hb hs=>h.keep (by omega) (by omega) (fun t f c w hF k hk=>((s9 t f c w hF).1 k hk).1) hb hs) ?_ ?_ ?_ ?_).mono ?_)
 ·refine⟨fun k hk=>hk,fun k hk=>?_,fun k hk=>hk,0,lV 0,q1,.ready,none,σ1,own,hv,by simp,by rw[hP];exact .inl ⟨nS _,rfl,rfl,rfl,rfl⟩,?_,.refl σ1,yI,US,fun k j e=>(iR.owns k j e).2.1,fun k o x e=>iR.lt e,fun k x e=>iR.ltm e,fun k=>.rfl⟩
  ·rcases hk with⟨j,e⟩|e
   ·exact(iR.owns k j e).2.1
   ·show k<W1.heap.size;omega
  ·rw[rH,Env.put_self];exact iR
 ·rintro k o x e (⟨j,hj⟩|rfl)
  ·have:=(iR.owns k j hj).2.2.1 o;rw[e] at this;cases this
  ·rw[yI.c] at e;cases e
 ·rintro k x e (⟨j,hj⟩|rfl)
  ·have:=(iR.owns k j hj).2.2.2;rw[e] at this;cases this
  ·rw[yI.m] at e;cases e
 ·intro i fx cx w1 σx args ds' hi dv hF hσx ix iy mc cO cE rd' o a' x' aa ts K Q bK bX U4 hK;have au5:i<xs.length:=(eT.1 dv).1;obtain⟨i',vo,Sx,st,pe,σa,wx,hva,e1,e2,iA,Hb,B3,GJ,Mk,Vd,Cv,yT⟩:=hF.ex;have hii:i'=i:=by
   have h9:=congrArg List.length (congrArg D.l e1);simp only[D.l_list,dN] at h9;omega
  subst hii;rw[hP] at e2;rcases e2 with⟨_,rfl,B4,rfl,rfl⟩|⟨e2,_⟩
  case inr=>omega
  rw[B4] at iA;have UX:L<w1.heap.size:=hF.lt L (hF.old L (by omega));have GU:cx L:=(yT L).2 (.inr rfl)
  have aiv:∀k o v,σx.c k o=some v→wx k=none:=fun k o v e=>by
   cases e2:wx k with
   |none=>rfl
   |some j=>exact absurd ((yT k).2 (.inl ⟨j,e2⟩)) (iy k o v e)
  have CA:∀k v,σx.m k=some v→wx k=none:=fun k v e=>by
   cases e2:wx k with
   |none=>rfl
   |some j=>exact absurd ((yT k).2 (.inl ⟨j,e2⟩)) (mc k v e)
  have hτok:σx.noM.ok w1:=⟨hσx.c,fun k v e=>hσx.m k v (Im.noM_m e).1,hσx.f⟩
  have iB:=iA.joinIm (τ:=σx.noM) hτok (fun k e=>(Im.noM_m e).2 rfl) aiv (fun k v e=>CA k v (Im.noM_m e).1)
   (fun k o v e=>(cO k o v e).imp (fun e=>Hb.c k o v e) fun e=>by omega) (fun k v e=>(cE k v (Im.noM_m e).1).imp (fun e=>Hb.m k v e) fun e=>by omega)
   (fun t' f c hf=>⟨fun k o v e hc=>by
        obtain⟨g1,g2,g3⟩:=(s9 _ _ _ _ hf.F).2 k hc;rcases cO k o v e with e|e
        ·rw[g2 o] at e;cases e
        ·have:=((s9 _ _ _ _ hf.F).1 k g1).1;omega,fun k v e hc=>by
        obtain⟨g1,g2,g3⟩:=(s9 _ _ _ _ hf.F).2 k hc;rcases cE k v (Im.noM_m e).1 with e|e
        ·rw[g3] at e;cases e
        ·have:=((s9 _ _ _ _ hf.F).1 k g1).1;omega⟩)
  have UP:Free L (σa.plus σx.noM) wx:=by
   refine⟨B3.own,fun o=>?_,?_⟩
   ·cases e:(σa.plus σx.noM).c L o with
    |none=>rfl
    |some v=>
     rcases Im.plus_c e with e|e
     ·rw[B3.c] at e;cases e
     ·exact absurd GU (iy L o v e)
   ·cases e:(σa.plus σx.noM).m L with
    |none=>rfl
    |some v=>
     rcases Im.plus_m e with e|e
     ·rw[B3.m] at e;cases e
     ·exact absurd GU (mc L v (Im.noM_m e).1)
  have rE:ps.toList.length=ys.length:=by rw[AE];exact hl.symm
  have ahc:nL C (σa.plus σx.noM) ys args ds':=⟨ix.1,ix.2.1,fun j t e=>((ix.2.2 j t e).noM).mono (Im.plus_le2 iA.ok hτok)⟩
  have iC:=iB.startR (ρ':=ρ1) rE ba (fun p hp=>by
   have:=bz.1 af p hp;rw[B5,hn];simpa [ic] using this) ahc rfl
  have My:∃xi,q2.pc.ev Φ N (ρ1.put ps.toList (partsOf ps.toList (.tup ds')) lo (lV i'))=some xi∧((i'<m∧∃ρ',xi=.next ρ'∧lo.map ρ'.o=lV (i'+1))∨(i'=m∧m<xs.length∧∃id ρ',xi=.exit id ρ')):=by
   by_cases kh:i'<m
   ·obtain⟨y,ρ',g1,g2,g3⟩:=Hg i' kh;rw[dv] at g1;cases g1;exact⟨_,g2,.inl ⟨kh,ρ',rfl,g3⟩⟩
   ·obtain rfl:i'=m:=by omega
    rcases mi with⟨g1,_⟩|⟨g1,y,id,ρ',g2,g3,_⟩
    ·omega
    ·rw[dv] at g2;cases g2;exact⟨_,g3,.inr ⟨rfl,g1,id,ρ',rfl⟩⟩
  obtain⟨xi,rJ,M4⟩:=My;have ae:q2.pc=.seq ra.pc rb.pc:=by rw[←jc];rfl
  rw[ae] at rJ;have aC:(lO ps.toList args aM.tmps).size=n:=by rw[aaM,B5,hn]
  refine⟨fun _ _=>trivial,?_⟩;rw[Oper.semAt_eq _ _ _ (fun c e=>by rw[bK] at e;cases e)];have ahe:aa.size=ps.size:=by
   have:=ix.1;rw[←U4,ed,AE] at this;omega
  have ah:=aqQ (C:=C) bK bX GJ (by rw[gh];exact ahe);have aiW:(rec .ready none).fn=Ll∧(rec .ready none).tmps=a.tmps∧(rec .ready none).params=ps∧(rec .ready none).assign=ca∧(rec .ready none).body=cb:=by rw[gh];exact⟨rfl,rfl,rfl,rfl,rfl⟩
  obtain⟨r1,r2,r3,r4,r5⟩:=aiW;rw[r1,r2,r3,r4,r5] at ah
  have oI:(ps.zip (aa.map a'.eval)).foldl (fun tmps (t,v)=>tmps.setIfInBounds t v) a.tmps=lO ps.toList args aM.tmps:=by
   rw[B5,←U4,←uA];exact anU ps (aa.map a'.eval) a.tmps
  rw[oI] at ah;rw[ah];refine⟨(fun e=>by cases e),?_⟩;refine roundIn_of_wpIn (F:=FR rd') trivial ?_;show ca.wpIn (FR (some L)) 0 C.P _ _ _;cases lC:ra.pc.ev Φ N (ρ1.put ps.toList (partsOf ps.toList (.tup ds')) lo (lV i')) with
  |none=>simp only[PC.ev,lC] at rJ;cases rJ
  |some xa=>
  refine wpIn_mono (aaG bu MD jT UZ iC (wr:=fun t=>t∈cm ca) (fun _ h=>h) aC lC L) fun e2 a1 Sl ai6=>?_;obtain⟨ρ2,S2,σ2,iN,gT,iD,qe,iK,jP⟩:=ai6;cases e2 with
  |normal=>
   obtain⟨rfl,yJ⟩:=jP;rw[hao] at yJ;cases yJ;simp only[PC.ev,lC] at rJ;have UT:Sl.heap[L]?=some (.loop (rec .ready none)):=(qe.same L UX UP.own).trans GJ;have Lt:=UP.seg UX qe;have Lu:L<Sl.heap.size:=(fX.1 UT).1;have UR:w0.heap.size≤L:=by omega
   refine⟨_,run_beginRound UT (by rw[gh]),?_⟩;have iE:=iD.putL UR Lt (fun t' f c hf Cj=>((s9 _ _ _ _ hf.F).1 L Cj).2 rfl) (.loop {rec .ready none with state:=.busy});have hL3:(Sl.putObj L (.loop {rec .ready none with state:=.busy})).heap[L]?=some (.loop {rec .ready none with state:=.busy}):=World.putObj_heap_same Lu;show cb.wpIn (FR (some L)) 0 C.P _ _ _;refine wpIn_mono (aaG dS V2 jT UZ iE (wr:=fun t=>t∈cm cb) (fun _ h=>h) (iK.size.trans aC) rJ L) fun e3 a3 w3 ai7=>?_;obtain⟨ρ3,S3,σ3,wv,CS,iF,Hp,ai4,nf⟩:=ai7;have UU:w3.heap[L]?=some (.loop {rec .ready none with state:=.busy}):=(Hp.same L (by simpa using Lu) Lt.own).trans hL3;have UO:=Lt.seg (by simpa using Lu) Hp;have agX:L<w3.heap.size:=(fX.1 UU).1;obtain⟨mk,tp⟩:∃mk,Nat.lor (v7 (ps.toList++cm ca++cm cb)) (Nat.lor ra.mr rb.mr)=mk:=⟨_,rfl⟩
   have ain:∀t,ar mk t=false→t∉ps.toList∧t∉cm ca∧t∉cm cb∧ar ra.mr t=false∧ar rb.mr t=false:=by
        intro t ht;rw[←tp,eU,eU,Sz,Sz] at ht;obtain⟨t1,t2,t3⟩:=ht;have:t∉ps.toList++cm ca++cm cb:=fun hm=>by rw[Tv hm] at t1;cases t1
        simp only[dy,not_or] at this;exact⟨this.1.1,this.1.2,this.2,t2,t3⟩
   have ME:∀t,ar mk t=false→aM.tmps.getD t undef=a3.tmps.getD t undef∧(ρ1.put [] [] lo (lo.map ρ3.o)).r t=ρ3.r t:=by
        intro t ht;obtain⟨t1,t2,t3,t4,t5⟩:=ain t ht;refine⟨?_,?_⟩
        ·rw[ai4.get t t3,iK.get t t2];exact(I7 _ _ _ _ t1).symm
        ·have yP:∀ρ',xi=.next ρ'∨(∃id,xi=.exit id ρ')→ρ'.r t=ρ2.r t:=fun ρ' h=>by
          have vq:xi.env?=some ρ':=by rcases h with h|⟨id,h⟩<;>rw[h]<;>rfl
          exact(PC.ev_but rb.pc _ _ ρ' rJ vq).r t fun hm=>by rw[VI.1 t hm] at t5;cases t5
         have bT:ρ2.r t=putL ρ1.r ps.toList (partsOf ps.toList (.tup ds')) t:=(PC.ev_but ra.pc _ _ ρ2 lC rfl).r t fun hm=>by rw[VH.1 t hm] at t4;cases t4
         rw[zQ _ _ _ _ t1] at bT;show ρ1.r t=ρ3.r t;rw[yP ρ3 (by
          cases e3 with
          |normal=>exact .inl nf.1
          |exit id=>exact .inr ⟨id,nf.1⟩
          |ret=>exact .inr ⟨_,nf.1⟩
          |_=>exact nf.elim),bT]
   have Ma:q2.mo=jk ra.mo rb.mo:=by rw[←jc];rfl
   have Mn:∀j,j∉q2.mo→ρ3.o j=ρ1.o j:=by
        intro j hj;rw[Ma,oO,not_or] at hj;have vq:xi.env?=some ρ3:=by
         cases e3 with
         |normal=>rw[nf.1];rfl
         |exit id=>rw[nf.1];rfl
         |ret=>rw[nf.1];rfl
         |_=>exact nf.elim
        rw[(PC.ev_but rb.pc _ _ ρ3 rJ vq).o j fun hm=>hj.2 (VI.2 j hm),(PC.ev_but ra.pc _ _ ρ2 lC rfl).o j fun hm=>hj.1 (VH.2 j hm)]
        exact zQ _ _ _ _ fun hm=>by
         rw[←vA] at hm;have:=(dO.1 hm).1;rw[Ma,oO] at this;exact this.elim hj.1 hj.2
   have Mm:∀(S:Snap),S∈(q1::q2.ex.map (·.2))→∀j,nm ((S.st ids).o j)=false→(ρ1.put [] [] lo (lo.map ρ3.o)).o j=ρ3.o j:=by
        intro S hS j hj;show putL ρ1.o lo (lo.map ρ3.o) j=ρ3.o j;rw[rW];split
        ·rfl
        ·rename_i fN;refine(Mn j fun tl=>fN ?_).symm;rw[←vA];exact dO.2 ⟨tl,uE.2 ⟨S,hS,by simpa [Snap.st] using hj⟩⟩
   have fin:∀(jump:Option Code) (Sx:Snap),Inv C (Sx.st ids) (ρ1.put [] [] lo (lo.map ρ3.o)) σ3 wv CS w0 σR (fun _=>False) aM w3→P (i'+1) (lo.map ρ3.o) Sx (if jump.isNone then .ready else .done) jump→jump.isNone=decide (i'<m)→
        ∃v w',(Instr.endRound L jump).run C.P w3=.ok v w'∧K (a'.put o.dst v) w':=by
        intro jump Sx iG hPn tl;refine⟨_,_,run_endRound jump UU,?_⟩;have aiV:({{rec .ready none with state:=.busy} with state:=if jump.isNone then .ready else .done,pending:=jump}:Loop)=rec (if jump.isNone then .ready else .done) jump:=by rw[gh]
        rw[aiV];have aN:=qe.round (L:=L) (o':=.loop (rec (if jump.isNone then .ready else .done) jump)) Hp;have iH:=iG.putL UR UO (fun t' f c hf Cj=>((s9 _ _ _ _ hf.F).1 L Cj).2 rfl) (.loop (rec (if jump.isNone then .ready else .done) jump));obtain⟨w4,M0⟩:∃w4,w3.putObj L (.loop (rec (if jump.isNone then .ready else .done) jump))=w4:=⟨_,rfl⟩
        have hL5:w4.heap[L]?=some (.loop (rec (if jump.isNone then .ready else .done) jump)):=by rw[←M0];exact World.putObj_heap_same agX
        have avs:w4.heap.size=w3.heap.size:=by rw[←M0];simp
        rw[M0] at aN iH ⊢;have auV:W1.heap.size≤w1.heap.size:=by
         have:=hF.lt (W1.heap.size-1) (hF.old _ (by omega));omega
        have avo:=aN.below.size
        refine hK _ _ ⟨by rw[tl],aN.below,fun k hk hc=>aN.same k hk (by
         cases e:wx k with
         |none=>rfl
         |some j=>exact absurd ((yT k).2 (.inl ⟨j,e⟩)) hc) (fun e=>hc (by rw[e];exact GU)),(fun k=>k<w4.heap.size∧(k<W1.heap.size∨(∃j,wv k=some j)∨(∃o x,σ3.c k o=some x)∨∃x,σ3.m k=some x)),(fun k=>(∃j,wv k=some j)∨k=L),?_,?_,?_⟩
        ·refine⟨fun k hk=>hk.1,fun k hk=>?_,fun k hk=>⟨by omega,.inl hk⟩,i'+1,lo.map ρ3.o,Sx,_,jump,σ3,wv,CS,rfl,hPn,iH,Hb.trans ((Im.plus_le1 _ _).trans aN.le),UO,hL5,fun k j e=>⟨(iH.owns k j e).2.1,.inr (.inl ⟨j,e⟩)⟩,fun k o x e=>⟨iH.lt e,.inr (.inr (.inl ⟨o,x,e⟩))⟩,fun k x e=>⟨iH.ltm e,.inr (.inr (.inr ⟨x,e⟩))⟩,fun k=>.rfl⟩;rcases hk with⟨j,e⟩|e
         ·exact⟨(iH.owns k j e).2.1,.inr (.inl ⟨j,e⟩)⟩
         ·exact⟨by omega,.inl (by omega)⟩
        ·rintro k ⟨_,hk⟩ bD
         have Cm:((∃o x,σ3.c k o=some x)∨∃x,σ3.m k=some x)→fx k∨(∃o x,σx.c k o=some x)∨(∃x,σx.m k=some x∧x≠cr):=fun h=>by
          rcases aN.imm k h with⟨o,x,e⟩|⟨x,e⟩|⟨j,e⟩|e
          ·rcases Im.plus_c e with e|e
           ·exact .inl (Vd k o x e)
           ·exact .inr (.inl ⟨o,x,e⟩)
          ·rcases Im.plus_m e with e|e
           ·exact .inl (Cv k x e)
           ·exact .inr (.inr ⟨x,(Im.noM_m e).1,(Im.noM_m e).2⟩)
          ·exact .inl (Mk k j e)
          ·omega
         rcases hk with hk|⟨j,e⟩|e|e
         ·exact .inl (hF.old k hk)
         ·rcases aN.ow k j e with⟨j',e⟩|e
          ·exact .inl (Mk k j' e)
          ·omega
         ·exact Cm (.inl e)
         ·exact Cm (.inr e)
        ·rintro k (⟨j,e⟩|e) bD
         ·rcases aN.ow k j e with⟨j',e⟩|e
          ·exact(yT k).2 (.inl ⟨j',e⟩)
          ·omega
         ·rw[e];exact GU
   have m0:j6 σ3 w0.heap.size aM.defers:=iA.defers.mono ((Im.plus_le1 _ _).trans (qe.le.trans Hp.le));have Mz:q2.out=rb.out.map (Snap.mask mk)∧q2.ex=rb.ex.map (fun x=>(x.1,x.2.mask mk)):=by rw[←jc,←tp];exact⟨rfl,rfl⟩
   cases e3 with
   |normal=>
    obtain⟨e4,e5⟩:=nf;have hT:q2.out=some (S3.mask mk):=by rw[Mz.1,e5];rfl
    have Vo:=yV _ hT
    have iG:Inv C (q1.st ids) ρ3 σ3 wv CS w0 σR (fun _=>False) a3 w3:=by
        have:=Snap.meet_ok2 (x:=q1) (iF.maskR mk)
        rwa [Vo] at this
    have iH:=iG.restore (ρ':=ρ1.put [] [] lo (lo.map ρ3.o)) (a':=aM) (Snap.noOpt _ _) m0 (fun t ht=>ME t (by
        cases e:ar mk t with
        |false=>rfl
        |true=>
         have h9:=ale (x:=q1) (S:=S3) (ids:=ids) e;rw[Vo] at h9;rw[h9] at ht;cases ht)) (fun j hj=>Mm q1 (dp ..) j hj)
    rcases M4 with⟨kh,ρ',e6,e7⟩|⟨_,_,id,ρ',e6⟩
    ·rw[e4] at e6;cases e6;exact fin none q1 iH (by rw[hP];exact .inl ⟨by omega,e7,rfl,rfl,rfl⟩) (by simp[kh])
    ·rw[e4] at e6;cases e6
   |exit id=>
    obtain⟨e4,e5,e6⟩:=nf;have cV:(id,S3.mask mk)∈q2.ex:=by rw[Mz.2];exact dP.2 ⟨_,e6,rfl⟩
    have iH:=(iF.maskR mk).restore (ρ':=ρ1.put [] [] lo (lo.map ρ3.o)) (a':=aM) (Snap.noOpt _ _) m0 (fun t ht=>ME t (by
        cases e:ar mk t with
        |false=>rfl
        |true=>rw[C9,if_pos e] at ht;cases ht)) (fun j hj=>Mm (S3.mask mk) (dk _ (dP.2 ⟨_,cV,rfl⟩)) j hj)
    rcases M4 with⟨kh,ρ',e7,_⟩|⟨kh,oC,bL,ρ',e7⟩
    ·rw[e4] at e7;cases e7
    ·subst kh;refine fin (some (.exit id)) (S3.mask mk) iH ?_ (by simp);rw[hP];refine .inr ⟨rfl,oC,rfl,_,id,ρ3,dv,?_,rfl,cV,.inl ⟨e5,rfl⟩⟩;rw[ae];simp only[PC.ev,lC];rw[rJ,e4]
   |ret=>
    obtain⟨e4,e6⟩:=nf;have cV:(cD,S3.mask mk)∈q2.ex:=by rw[Mz.2];exact dP.2 ⟨_,e6,rfl⟩
    have iH:=(iF.maskR mk).restore (ρ':=ρ1.put [] [] lo (lo.map ρ3.o)) (a':=aM) (Snap.noOpt _ _) m0 (fun t ht=>ME t (by
        cases e:ar mk t with
        |false=>rfl
        |true=>rw[C9,if_pos e] at ht;cases ht)) (fun j hj=>Mm (S3.mask mk) (dk _ (dP.2 ⟨_,cV,rfl⟩)) j hj)
    rcases M4 with⟨kh,ρ',e7,_⟩|⟨kh,oC,bL,ρ',e7⟩
    ·rw[e4] at e7;cases e7
    ·subst kh;refine fin (some .ret) (S3.mask mk) iH ?_ (by simp);rw[hP];refine .inr ⟨rfl,oC,rfl,_,cD,ρ3,dv,?_,rfl,cV,.inr ⟨rfl,rfl⟩⟩;rw[ae];simp only[PC.ev,lC];rw[rJ,e4]
   |_=>exact nf.elim
  |exit id=>obtain⟨_,_,e6⟩:=jP;rw[U6] at e6;cases e6
  |ret=>obtain⟨_,e6⟩:=jP;rw[U6] at e6;cases e6
  |_=>exact jP.elim
 ·rintro e' w' ⟨⟨v,rfl⟩,fx,cx,hF⟩;rw[show({tmps:=a.tmps,defers:=[{target:=Target.collected w.heap.size,args:=#[]}]++a.defers}:Act)=aM from Lx];obtain⟨i',vo,Sx,st,pe,σa,wx,hva,e1,e2,iA,Hb,B3,GJ,Mk,Vd,Cv,yT⟩:=hF.ex;have h9:=congrArg List.length (congrArg D.l e1);simp only[D.l_list,dN] at h9;have cC:(rec st pe).state≠.busy:=by
   rw[hP] at e2;rw[gh];rcases e2 with⟨_,_,_,e3,_⟩|⟨_,_,e3,_⟩<;>(rw[e3];intro e;cases e)
  have tu:(rec st pe).pending=pe:=by rw[gh]
  have LR:(Instr.endLoop L).run C.P w'=.ok pe (w'.putObj L (.loop {rec st pe with state:=.exhausted})):=(run_endLoop (P:=C.P) GJ cC).trans (congrArg (fun z=>Result.ok z _) tu);have iF:=iA.putL (by omega:w0.heap.size≤L) B3 (fun t' f c hf Cj=>((s9 _ _ _ _ hf.F).1 L Cj).2 rfl) (.loop {rec st pe with state:=.exhausted});rw[←hσR] at iF;have iG:=i1.ofRnd LV (fun k hk e=>by have:=ahL k hk;omega) iF;have jR:SameBut wr a aM:=⟨by rw[B5],fun t _=>by rw[B5]⟩
  refine⟨pe,_,LR,?_⟩;rw[hP] at e2;rcases e2 with⟨e3,rfl,B4,_,rfl⟩|⟨rfl,oC,_,y,id,ρ',g1,g2,rfl,g4,g5⟩
  ·rcases mi with⟨g1,g2⟩|⟨g1,_⟩
   ·obtain rfl:i'=m:=by omega
    rw[B4] at iG;exact⟨_,q1,g2,rfl,jR,_,_,_,iG⟩
   ·omega
  ·rcases mi with⟨g6,_⟩|⟨_,y',bL,ρ'',k1,k2,k3⟩
   ·omega
   ·rw[g1] at k1;cases k1;rw[g2] at k2;cases k2;rcases k3 with⟨k3,k4⟩|⟨k3,pe',k4,k5⟩
    ·rcases g5 with⟨_,rfl⟩|⟨g5,_⟩
     ·exact wpIn_exit ⟨_,Sx,k4,k3,dO.2 ⟨g4,by simp[dY k3]⟩,jR,_,_,_,iG⟩
     ·exact absurd g5 k3
    ·rcases g5 with⟨g5,_⟩|⟨_,rfl⟩
     ·exact absurd k3 g5
     ·subst k3;rw[←tB,aq] at k4;obtain⟨M,hM,CL⟩:=k4;obtain⟨M',UY,rB⟩:=Nx (⟨_,_,_,iG⟩:Good C w0 σ0 (Sx.st ids) _ (fun _=>False) aM _) q2.ex none g4;rw[hM] at UY;cases UY;obtain⟨σm,awi,Wd,im⟩:=rB;exact wpIn_ret ⟨_,k5,Inv.retD hC (fun _=>rfl) me CL _ im rfl,jR⟩
theorem Xa {arr:Array MapEntry}{clock:Nat}(hb:lY arr clock){idx:List Nat}(hi:∀i,i∈idx→i<arr.size){i:Nat}{e:MapEntry}(he:arr[i]?=some e):(fV arr idx).contains e.born=true↔i∈idx:=by
 simp only[fV,List.contains_toArray,List.contains_iff_mem,dP];constructor
 ·rintro⟨j,hj,h⟩;have af:=hi j hj;rw[fj af] at h;simp only at h;have:=hb.2 j i arr[j] e (fj af) he h;rw[←this];exact hj
 ·intro h;exact⟨i,h,by rw[he]⟩
theorem anR (arr:Array MapEntry)(idx:List Nat){i:Nat}{e:MapEntry}(he:arr[i]?=some e):(fV arr idx).push e.born=fV arr (idx++[i]):=by
 simp[fV,he]
theorem alu {P:Program}{w:World}{k m:Nat}{arr:Array MapEntry}{clock:Nat}{idx:List Nat}(hk:w.heap[k]?=some (.mapIter (some m) clock (fV arr idx) clock))(hm:w.heap[m]?=some (.map arr clock))(hb:lY arr clock)(hi:∀i,i∈idx→i<arr.size)(T:TypeId):
 ∃w1:World,(w1=w∨w1=w.drew)∧(((∀i,i<arr.size→i∈idx)∧(Instr.next (.pointer (some ⟨k,0,none⟩)) false T).run P w=.ok (.tuple #[.bool false]) w1)∨
  ∃i e,arr[i]?=some e∧i∉idx∧(Instr.next (.pointer (some ⟨k,0,none⟩)) false T).run P w=.ok (.tuple #[.bool true,e.key,e.val]) {w1 with heap:=w1.heap.setIfInBounds k (.mapIter (some m) clock (fV arr (idx++[i])) clock)}):=by
 have cV:∀{e:MapEntry},e∈arr→∃i:Nat,arr[i]?=some e:=fun he=>by
  obtain⟨i,hi,rfl⟩:=Array.mem_iff_getElem.1 he;exact⟨i,fj hi⟩
 have hold:∀(l:Array MapEntry),(∀e,e∈l→e.born<clock)→l.filter (fun x=>decide (x.born<clock))=l:=fun l h=>by
  rw[Array.filter_eq_self];intro e he;simpa using h e he
 have kN:∀(l:Array MapEntry),(∀e,e∈l→e.born<clock)→l.filter (fun x=>decide (x.born≥clock))=#[]:=fun l h=>by
  rw[Array.filter_eq_empty_iff];intro e he;have:=h e he;simp;omega
 have U9:∀e,e∈arr→e.born<clock:=fun e he=>by obtain⟨i,hi⟩:=cV he;exact hb.1 i e hi
 have ly:(!(fV arr idx).isEmpty&& !arr.isEmpty&&arr.all (fun x=>decide (x.born≥clock)))=false:=by
  cases ha:arr.isEmpty
  ·have ay:arr.size≠0:=by simpa using ha
   have:arr.all (fun x=>decide (x.born≥clock))=false:=by
        rw[Bool.eq_false_iff];intro h;rw[Array.all_eq_true] at h;have h0:=h 0 (by omega);have h1:=U9 arr[0] (Sw _);simp at h0;omega
   rw[this,w9]
  ·simp
 let left:=arr.filter fun e=> !(fV arr idx).contains e.born
 have hl:∀e,e∈left→e.born<clock:=fun e he=>U9 e (Sy.1 he).1;by_cases hz:left.size=0
 ·refine⟨w,.inl rfl,.inl ⟨fun i af=>?_,?_⟩⟩
  ·by_cases br:i∈idx
   ·exact br
   ·exfalso;have Hd:arr[i]∈left:=Sy.2 ⟨Sw _,by
     have:=Xa hb hi (fj af);cases hc:(fV arr idx).contains arr[i].born with
     |false=>rfl
     |true=>exact absurd (this.1 hc) br⟩
    have:left=#[]:=JF hz;rw[this] at Hd;simp at Hd
  ·have he:left=#[]:=JF hz;have oA:arr.filter (fun e=> !(fV arr idx).contains e.born)=#[]:=he;simp only[Instr.next,getObj,Sem.run_bind,Sem.run,hk,hm,Result.andThen_ok,ly,oA];simp[Question.forced,Sem.run]
 ·have jr:left.filter (fun x=>decide (x.born<clock))=left:=hold left hl;have kf:left.filter (fun x=>decide (x.born≥clock))=#[]:=kN left hl;have hem:left.isEmpty=false:=by simpa using hz
  have key:∀c,c<left.size→∃i e,arr[i]?=some e∧i∉idx∧left[c]?=some e:=fun c hc=>by
   have Hd:left[c]∈left:=Sw _;obtain⟨h1,h2⟩:=Sy.1 Hd;obtain⟨i,cU⟩:=cV h1;refine⟨i,left[c],cU,fun br=>?_,fj hc⟩;rw[(Xa hb hi cU).2 br] at h2;cases h2
  obtain⟨w1,c,kO,hc,lx⟩:∃w1 c,(w1=w∨w1=w.drew)∧c<left.size∧(choose (.mapNext left.size)).run P w=.ok c w1:=by
   by_cases h1:left.size≤1
   ·exact⟨w,0,.inl rfl,by omega,by simp[Question.forced,h1]⟩
   ·exact⟨w.drew,_,.inr rfl,Nat.mod_lt _ (by omega),by simp[Question.forced,h1,Question.cut];rfl⟩
  obtain⟨i,e,h1,h2,h3⟩:=key c hc;refine⟨w1,kO,.inr ⟨i,e,h1,h2,?_⟩⟩;have vz:arr.filter (fun e=> !(fV arr idx).contains e.born)=left:=rfl;have m4:(getObj k).run P w=.ok (.mapIter (some m) clock (fV arr idx) clock) w:=by simp[getObj,Sem.run,hk]
  have gB:(getObj m).run P w=.ok (.map arr clock) w:=by simp[getObj,Sem.run,hm]
  have bD:w1.heap[k]?=some (.mapIter (some m) clock (fV arr idx) clock):=by rcases kO with rfl|rfl<;>exact hk
  have Vp:(setObj k (.mapIter (some m) clock ((fV arr idx).push e.born) clock)).run P w1=.ok () {w1 with heap:=w1.heap.setIfInBounds k (.mapIter (some m) clock ((fV arr idx).push e.born) clock)}:=by simp[setObj,Sem.run,bD]
  have ahj:((if false=true then #[none] else #[])++Array.map some (left++#[]):Array (Option MapEntry))=left.map some:=by simp
  have iy:(left.map some)[c]?=some (some e):=by simp[h3]
  have Vr:∀(A8:Array (Option MapEntry)) (cc:Nat),(choose (.mapNext A8.size)).run P w=.ok cc w1→A8[cc]?=some (some e)→(do
        match A8[←choose (.mapNext A8.size)]? with
        |some (some e)=>
         setObj k (.mapIter (some m) clock ((fV arr idx).push e.born) clock)
         pure (.tuple #[.bool true,e.key,e.val])
        |some none=>(pure (.tuple #[.bool false]):Sem Value)
        |none=>stuck "Next: no such candidate" :Sem Value).run P w=.ok (.tuple #[.bool true,e.key,e.val]) {w1 with heap:=w1.heap.setIfInBounds k (.mapIter (some m) clock ((fV arr idx).push e.born) clock)}:=by
   intro A8 cc h4 h5;rw[Sem.run_bind,h4];simp only[Result.andThen_ok,h5];rw[Sem.run_bind,Vp];rfl
  rw[anR arr idx h1] at Vr Vp;have:=Vr (left.map some) c (by rw[Array.size_map];exact lx) iy;simp only[Instr.next];rw[Sem.run_bind,m4];simp only[Result.andThen_ok];rw[Sem.run_bind,gB];simp only[Result.andThen_ok,ly,vz,jr,kf,hem];rw[ahj,if_neg (by decide)];exact this
theorem aff {P:Program}{w:World}{k m:Nat}{arr:Array MapEntry}{clock:Nat}{idx:List Nat}{i:Nat}{e:MapEntry}(hk:w.heap[k]?=some (.mapIter (some m) clock (fV arr (idx++[i])) clock))(hm:w.heap[m]?=some (.map arr clock))(hb:lY arr clock)(he:arr[i]?=some e):
 (Instr.entry (.pointer (some ⟨k,0,none⟩))).run P w=.ok (.tuple #[e.key,e.val]) w:=by
 have ahf:(fV arr (idx++[i])).back?=some e.born:=by simp[fV,he]
 have th:arr.find? (fun x=>x.born==e.born)=some e:=by
  have af:i<arr.size:=(fX.1 he).1;have hei:arr[i]=e:=(fX.1 he).2;rw[Array.find?_eq_some_iff_getElem];refine⟨by simp,i,af,hei,fun j hj=>?_⟩;have fN:j<arr.size:=by omega
  cases hc:(arr[j].born==e.born) with
  |false=>rfl
  |true=>
   have:=hb.2 j i arr[j] e (fj fN) he (by simpa using hc);omega
 simp[Instr.entry,getObj,Sem.run_bind,Sem.run,hk,hm,ahf,th]
theorem ak8 {x y z:Code}{k:Nat}{p:MP}(h:zm x y k z=some p):∃i1 i2 o1 o2 o3 l,x=.region i1 p.ops1 false∧y=.cond (.tmp p.mo) .skip (.exit p.out)∧z=.region i2 p.ops2 false∧p.next=k∧p.ops1.toList=[o1,o2]∧p.ops2.toList=o3::l∧
 o1.dst=some p.nx∧o1.guard=none∧o1.op=.next (.tmp p.it) false∧o2.dst=some p.mo∧o2.guard=none∧o2.op=.extract (.tmp p.nx) 0∧o3.dst=some p.pr∧o3.guard=none∧o3.op=.entry (.tmp p.it)∧ku p.pr l []=some p.aa∧
 p.it≠p.nx∧p.it≠p.mo∧p.it≠p.pr∧p.nx≠p.mo∧p.out≠cD∧k≠cD:=by
 unfold zm at h;split at h
 case h_2=>cases h
 rename_i i1 ops1 mo out i2 ops2;split at h
 case h_2=>cases h
 rename_i o1 o2 o3 l e1 e2;split at h
 case h_2=>cases h
 rename_i nx it mo' Xz pr WB d1 g1 q1 d2 g2 q2 d3 g3 q3;rw[nM] at h;split at h
 case isFalse=>cases h
 rename_i hc;simp only[ax] at h;obtain⟨aa,h4,rfl⟩:=h;simp only[aj,hZ] at hc;obtain⟨⟨⟨⟨⟨⟨⟨⟨c1,c2⟩,c3⟩,c4⟩,c5⟩,c6⟩,c7⟩,c8⟩,c9⟩:=hc;have ne:∀{a b:Nat},Nat.beq a b=false→a≠b:=fun h e=>by subst e;simp at h
 obtain rfl:=av c1;obtain rfl:=av c2;obtain rfl:=av c3;exact⟨i1,i2,o1,o2,o3,l,rfl,rfl,rfl,rfl,e1,e2,d1,g1,q1,d2,g2,q2,d3,g3,q3,h4,ne c4,ne c5,ne c6,ne c7,ne c8,ne c9⟩
theorem H9 {pr:Nat}:∀(l:List Oper) {acc aa:List (Nat×Nat)},ku pr l acc=some aa→∀x,x∈acc→x∈aa
 |[],acc,aa,h,x,hx=>by simp only[ku,aQ] at h;subst h;exact hx
 |o::l,acc,aa,h,x,hx=>by
  simp only[ku] at h;split at h
  case h_2=>cases h
  rw[nM] at h;split at h
  ·cases h
  split at h
  ·rw[nM] at h;split at h
   ·exact H9 l h x (gJ _ hx)
   ·cases h
  ·simp only[aq] at h;obtain⟨i,_,h⟩:=h;exact H9 l h x (gJ _ hx)
  ·simp only[aq] at h;obtain⟨i,_,h⟩:=h;exact H9 l h x (gJ _ hx)
  ·cases h
theorem C7:∀{l:List (Nat×Nat)} {t i:Nat},tM l t=some i→(t,i)∈l
 |x::l,t,i,h=>by
  simp only[tM] at h;cases hb:Nat.beq x.1 t<;>simp only[hb,cond_true,cond_false] at h
  ·exact dk _ (C7 h)
  ·cases h;have:=av hb;subst this;exact dp ..
theorem WZ:∀{l:List (Nat×Nat)} {t:Nat},(tM l t).isSome=false→∀x,x∈l→x.1≠t
 |y::l,t,h,x,hx=>by
  simp only[tM] at h;cases hb:Nat.beq y.1 t<;>simp only[hb,cond_true,cond_false] at h
  ·rcases cM.1 hx with e|hx
   ·subst e;intro e;subst e;simp at hb
   ·exact WZ h x hx
  ·cases h
theorem Oe {pr:Nat}:∀(l:List Oper) {acc aa:List (Nat×Nat)},ku pr l acc=some aa→(∀x,x∈acc→x.2≤1)→∀x,x∈aa→x∈acc∨(x.2≤1∧∃o,o∈l∧o.dst=some x.1)
 |[],acc,aa,h,_,x,hx=>by simp only[ku,aQ] at h;subst h;exact .inl hx
 |o::l,acc,aa,h,ha,x,hx=>by
  simp only[ku] at h;split at h
  case h_2=>cases h
  rename_i d hd jO;rw[nM] at h;split at h
  ·cases h
  have go:∀(pt:Nat),pt≤1→ku pr l (acc++[(d,pt)])=some aa→x∈acc∨(x.2≤1∧∃o',o'∈o::l∧o'.dst=some x.1):=by
   intro pt tw hp
   rcases Oe l hp (fun y hy=>by
        rcases dy.1 hy with h|h
        ·exact ha y h
        ·simp at h;subst h;exact tw) x hx with h|⟨h1,o',h2,h3⟩
   ·rcases dy.1 h with h|h
    ·exact .inl h
    ·simp at h;subst h;exact .inr ⟨tw,o,dp ..,hd⟩
   ·exact .inr ⟨h1,o',dk _ h2,h3⟩
  split at h
  ·rw[nM] at h;split at h
   case isFalse=>cases h
   rename_i iy;simp only[aj] at iy;exact go _ (jo iy.2) h
  ·simp only[aq] at h;obtain⟨i,hi,h⟩:=h;exact go i (ha _ (C7 hi)) h
  ·simp only[aq] at h;obtain⟨i,hi,h⟩:=h;exact go i (ha _ (C7 hi)) h
  ·cases h
theorem zK {P:Program}{ops:Array Oper}{i:Nat}{rest:List Nat}{o:Oper}{rd:Option Nat}{a:Act}{w w':World}{Q:Exit→Act→World→Prop}{v:Value}(ho:ops[i]?=some o)(hg:o.guard=none)(ba:nu o.op=true)(hx:(execOp a.eval o).run P w=.ok (.value v) w')
 (k:wpOpsIn (FR rd) 0 P ops Q rest (a.put o.dst v) w'):wpOpsIn (FR rd) 0 P ops Q (i::rest) a w:=by
 simp only[wpOpsIn,ho];rw[if_pos (by simp[Region.wanted,hg])];exact YU ba (by unfold Oper.wp;rw[hx];exact k)
theorem anM {ops:Array Oper}{o:Oper}(ho:o∈ops.toList)(a:Act)(v:Value):SameBut (pO ops) a (a.put o.dst v):=by
 have:=SameBut.put a o.dst v a.defers;exact this.mono fun t e=>⟨o,ho,e⟩
theorem zR {a:Act}{d:Nat}{v:Value}(h:d<a.tmps.size):(a.put (some d) v).tmps.getD d undef=v:=by rw[wX];simp[h]
theorem Ij {a:Act}{d t:Nat}{v:Value}(h:t≠d):(a.put (some d) v).tmps.getD t undef=a.tmps.getD t undef:=by rw[wX];simp[h]
theorem put_defers (a:Act)(d:Option Nat)(v:Value):(a.put d v).defers=a.defers:=by cases d<;>rfl
def Dm (kv vv:Value)(i:Nat):Value:=if i=0 then kv else vv
theorem Zd {P:Program}{ops:Array Oper}{rd:Option Nat}{Q:Exit→Act→World→Prop}{pr:Nat}{kv vv:Value}{w:World}:∀(l:List Oper) (acc aa:List (Nat×Nat)) (i:Nat) (a:Act),ku pr l acc=some aa→ops.toList.drop i=l→(∀x,x∈aa→x.1<a.tmps.size)→a.tmps.getD pr undef=.tuple #[kv,vv]→
 (∀x,x∈acc→a.tmps.getD x.1 undef=Dm kv vv x.2)→(∀a',SameBut (pO ops) a a'→a'.defers=a.defers→(∀x,x∈aa→a'.tmps.getD x.1 undef=Dm kv vv x.2)→Q .normal a' w)→wpOpsIn (FR rd) 0 P ops Q (List.range' i (ops.size-i)) a w
 |[],acc,aa,i,a,h,hl,af,oG,B6,hQ=>by
  simp only[ku,aQ] at h;subst h;have:ops.size-i=0:=by
    have:=SJ.1 hl;simp at this;omega
  rw[this];exact hQ a (.refl _ _) rfl B6
 |o::l,acc,aa,i,a,h,hl,af,oG,B6,hQ=>by
  have hi:i<ops.toList.length:=by
   refine SS fun hle=>?_;rw[SJ.2 hle] at hl;cases hl
  rw[acg hi] at hl;have ho:ops[i]?=some o:=by
   have:ops.toList[i]=o:=by injection hl
   rw[←this];simp at hi ⊢
  have y3:ops.toList.drop (i+1)=l:=by injection hl
  have aC:ops.size-i=(ops.size-(i+1))+1:=by simp at hi;omega
  rw[aC,E0];have cV:o∈ops.toList:=by simpa using gI ho
  simp only[ku] at h;split at h
  case h_2=>cases h
  rename_i d hd jO;rw[nM] at h;split at h
  ·cases h
  rename_i hc;simp only[fG,not_or,Bool.not_eq_true] at hc;have hdp:pr≠d:=fun e=>by subst e;simp at hc
  have LL:∀x,x∈acc→x.1≠d:=WZ hc.2;have go:∀(pt:Nat) (v:Value),ku pr l (acc++[(d,pt)])=some aa→nu o.op=true→v=Dm kv vv pt→(execOp a.eval o).run P w=.ok (.value v) w→wpOpsIn (FR rd) 0 P ops Q (i::List.range' (i+1) (ops.size-(i+1))) a w:=by
   intro pt v hp ba hv hx;have LM:d<a.tmps.size:=af _ (H9 l hp (d,pt) (by simp));refine zK ho jO ba hx ?_;have jR:=anM cV a v;rw[hd] at jR ⊢;refine Zd l _ aa (i+1) _ hp y3 (fun x hx=>by rw[jR.size];exact af x hx) (by rw[Ij hdp];exact oG) (fun x hx=>?_) (fun a' h1 h2 h3=>hQ a' (jR.trans h1) (h2.trans (put_defers _ _ _)) h3);rcases dy.1 hx with hx|hx
   ·rw[Ij (LL x hx)];exact B6 x hx
   ·simp at hx;subst hx;rw[zR LM];exact hv
  split at h
  ·rename_i t pt e;rw[nM] at h;split at h
   case isFalse=>cases h
   rename_i iy;simp only[aj] at iy;have ht:=av iy.1;have tw:=jo iy.2;subst ht;have bF:a.eval (.tmp t)=.tuple #[kv,vv]:=by simpa [Act.eval] using oG
   refine go pt (Dm kv vv pt) h (by rw[e];rfl) rfl ?_;rcases(by omega:pt=0∨pt=1) with rfl|rfl<;>simp[execOp,e,bF,Instr.extract,Dm]
  ·rename_i t e;simp only[aq] at h;obtain⟨pt,vz,h⟩:=h;have:=B6 _ (C7 vz);exact go pt (a.eval (.tmp t)) h (by rw[e];rfl) (by simpa [Act.eval] using this) (by simp[execOp,e])
  ·rename_i t e;simp only[aq] at h;obtain⟨pt,vz,h⟩:=h;have:=B6 _ (C7 vz);exact go pt (a.eval (.tmp t)) h (by rw[e];rfl) (by simpa [Act.eval] using this) (by simp[execOp,e])
  ·cases h
theorem Nh (ids:List Nat)(J j:Nat)(S:Snap):((S.kill ids J).st ids).o j=if j=J then .dead else(S.st ids).o j:=by
 show di ids (vT ids J S.os) j=_;have:∀(is:List Nat) (os:List Ob),di is (vT is J os) j=if j=J then .dead else di is os j:=by
  intro is
  induction is with
  |nil=>intro os;simp[vT,di]
  |cons i is ih=>
   intro os;cases os with
   |nil=>simp[vT,di]
   |cons o os=>
    simp only[vT,di];cases hb:Nat.beq i j
    ·simp only[cond_false];exact ih os
    ·have:=av hb;subst this;simp only[cond_true];by_cases da:i=J
     ·subst da;simp
     ·simp[dY da,da]
 exact this ids S.os
theorem Tz {N:Nat}{id:Nat}(G3:id≠cD){rm:Bool}{wr:Nat→Prop}{a:Act}{q:Res2}{x xi:Out}(p7:(∀t,t∈q.pc.modR→ar q.mr t=true)∧∀j,j∈q.pc.modO→j∈q.mo)(dv:q.pc.ev Φ N ρ=some xi)(bF:(fY ids id q).pc.ev Φ N ρ=some x){e:Exit}{a':Act}{w':World}
 (fu:gx C w0 σ0 ids fn s rm wr a q.out q.ex xi e a' w'):Exit.inBlock id (gx C w0 σ0 ids fn s rm wr a (fY ids id q).out (fY ids id q).ex x) e a' w':=by
 have Vm:∀bL S1,(bL,S1)∈q.ex→bL≠id→(bL,S1)∈q.ex.filter fun x=> !Nat.beq x.1 id:=fun bL S1 hm ay=>dO.2 ⟨hm,by simp[dY ay]⟩;have main:∀(o:Option Snap) (lr lo:List Nat),ns id q.ex q.out=o→(∀M,o=some M→lr=jV M q.mr∧lo=je ids M q.mo)→(PC.block id lr lo q.pc).ev Φ N ρ=some x→
        Exit.inBlock id (gx C w0 σ0 ids fn s rm wr a o (q.ex.filter fun x=> !Nat.beq x.1 id) x) e a' w':=by
  intro o lr lo ho hl bF;simp only[PC.ev] at bF;rw[dv] at bF
  have fin:∀{ρ1:Env} {a':Act} {w':World},(∃M,o=some M∧Good C w0 σ0 (M.st ids) ρ1 (fun _=>False) a' w')→xi.env?=some ρ1→x=.next (ρ.join lr lo ρ1)→SameBut wr a a'→
   gx C w0 σ0 ids fn s rm wr a o (q.ex.filter fun x=> !Nat.beq x.1 id) x .normal a' w':=by
        intro ρ1 a' w' hM vq hx fb;obtain⟨M,hM,rB⟩:=hM;obtain⟨l1,l2⟩:=hl M hM;subst l1 l2;exact⟨_,M,hx,hM,fb,rB.joined (PC.ev_but q.pc ρ _ ρ1 dv vq) p7.1 p7.2⟩
  cases e with
  |normal=>
   obtain⟨ρ1,S2,e1,e2,fb,gB⟩:=fu;subst e1;simp only[aQ] at bF;refine fin ?_ rfl bF.symm fb;rw[e2] at ho;obtain⟨M,h1,h2⟩:=HI (id:=id) q.ex gB;rw[ho] at h1;exact⟨M,h1,h2⟩
  |exit bL=>
   obtain⟨ρ1,S2,e1,e0,e2,fb,gB⟩:=fu;subst e1;simp only at bF;show if bL=id then _ else _;by_cases ct:bL=id
   ·subst ct;simp only[gu,cond_true,aQ] at bF;simp only[if_true];refine fin ?_ rfl bF.symm fb;rw[←ho];exact Nx gB q.ex q.out e2
   ·simp only[dY ct,cond_false,aQ] at bF;subst bF;simp only[ct,if_false];exact⟨ρ1,S2,rfl,e0,Vm _ _ e2 ct,fb,gB⟩
  |ret=>
   cases rm with
   |false=>
    have hy:=fu;obtain⟨d,e1,_⟩:=hy;subst e1;simp only[aQ] at bF;subst bF;exact fu
   |true=>
    obtain⟨ρ1,S2,e1,e2,fb,gB⟩:=fu;subst e1;simp only[dY (fun e=>G3 e.symm:cD≠id),cond_false,aQ] at bF;subst bF;exact⟨ρ1,S2,rfl,Vm _ _ e2 (fun e=>G3 e.symm),fb,gB⟩
  |_=>exact fu.elim
 unfold fY at bF ⊢;cases hm:ns id q.ex q.out with
 |none=>
  simp only[hm] at bF ⊢;exact main none [] [] hm (fun M e=>by cases e) bF
 |some M=>
  simp only[hm] at bF ⊢;exact main (some M) _ _ hm (fun M' e=>by cases e;exact⟨rfl,rfl⟩) bF
theorem Tw {N id:Nat}{q:Res2}{x:Out}(bF:(fY ids id q).pc.ev Φ N ρ=some x):∃xi,q.pc.ev Φ N ρ=some xi:=by
 unfold fY at bF;cases hm:ns id q.ex q.out<;>simp only[hm,PC.ev] at bF<;>cases dv:q.pc.ev Φ N ρ<;>first|exact⟨_,rfl⟩|(rw[dv] at bF;cases bF)
theorem aaE {es:List (D×D)}{idx:List Nat}(hn:idx.Nodup)(af:∀i,i∈idx→i<es.length)(aN:∀i,i<es.length→i∈idx):(gl es idx).Perm (gY (.map es)):=by
 have h1:idx.Perm (List.range es.length):=by
  rw[List.perm_ext_iff_of_nodup hn JP];intro i;rw[bV];exact⟨af i,aN i⟩
 have h2:gl es (List.range es.length)=gY (.map es):=by
  refine List.ext_getElem (by simp[gl,gY,D.m]) fun i g1 g2=>?_;have hi:i<es.length:=by simpa [gl] using g1
  simp[gl,gY,D.m,bq hi]
 rw[←h2];exact h1.map _
theorem anS {es:List (D×D)}{idx:List Nat}(hn:idx.Nodup)(af:∀i,i∈idx→i<es.length):∃rest,(gl es idx++rest).Perm (gY (.map es)):=by
 refine⟨gl es ((List.range es.length).filter fun i=> !idx.contains i),?_⟩;have e:gl es idx++gl es ((List.range es.length).filter fun i=> !idx.contains i)=gl es (idx++(List.range es.length).filter fun i=> !idx.contains i):=by simp[gl]
 rw[e];refine aaE ?_ (fun i hi=>?_) (fun i hi=>?_)
 ·rw[AL];refine⟨hn,JP.filter _,fun a ha b hb e=>?_⟩;subst e;have:=(dO.1 hb).2;simp[ha] at this
 ·rcases dy.1 hi with h|h
  ·exact af i h
  ·exact bV.1 (dO.1 h).1
 ·by_cases h:i∈idx
  ·exact gJ _ h
  ·exact ia _ (dO.2 ⟨bV.2 hi,by simp[h]⟩)
theorem aaF (es:List (D×D))(idx:List Nat){i:Nat}{p:D×D}(h:es[i]?=some p):gl es (idx++[i])=gl es idx++[.tup [p.1,p.2]]:=by simp[gl,h]
theorem ala {N:Nat}{x y z code:Code}{k:Nat}{p:MP}(hp:zm x y k z=some p)(ihc:uK C Φ fn s n ids R N code){rm:Bool}{S:Snap}{r:Res2}
 (hr:zn ids n p (cm x++(cm y++(cm z++cm code))) (fun S=>comp C fn s n ids R rm code S) S=some r) {rd:Option Nat} {wr:Nat→Prop} {x0:Out} (gi:rm=false→rd=none∧σ0.fin) (hC:CtxOK C σ0) (hY:nU C Φ w0 σ0)
 (gV:∀t,t∈cm (.loop (.seq x (.seq y (.block k (.seq z code)))))→wr t) (hn:a.tmps.size=n) (hg:Good C w0 σ0 (S.st ids) ρ (fun _=>False) a w) (he:r.pc.ev Φ N ρ=some x0):
 (Code.loop (.seq x (.seq y (.block k (.seq z code))))).wpIn (FR rd) 0 C.P (gx C w0 σ0 ids fn s rm wr a r.out r.ex x0) a w:=by
 obtain⟨i1,i2,o1,o2,o3,l,rfl,rfl,rfl,hk,e1,e2,d1,g1,q1,d2,g2,q2,d3,g3,q3,ml,n1,n2,n3,n4,n5,n6⟩:=ak8 hp;subst hk;unfold zn at hr;split at hr
 case h_2=>cases hr;exact absurd he (lR _ _ _ _)
 rename_i J hJ;split at hr
 case h_2=>cases hr;exact absurd he (lR _ _ _ _)
 rename_i kt et G8;simp only at hr;split at hr
 case h_2=>cases hr;exact absurd he (lR _ _ _ _)
 rename_i q hq;rw[nM] at hr;split at hr
 case isFalse=>cases hr;exact absurd he (lR _ _ _ _)
 rename_i vm;cases hr;generalize Hs:cm (.region i1 p.ops1 false)++(cm (.cond (.tmp p.mo) .skip (.exit p.out))++(cm (.region i2 p.ops2 false)++cm code))=ws at*;simp only[aj,hZ] at vm;obtain⟨⟨⟨⟨⟨⟨⟨⟨c1,c2⟩,c3⟩,c4⟩,c5⟩,c6⟩,c7⟩,c8⟩,c9⟩:=vm;have hex:q.2.ex=[]:=sG.1 c1;have UQ:J∉q.2.mo:=fun h=>by rw[(oN _ _).2 h] at c2;cases c2
 simp only[Wy,aj,hZ] at c3;obtain⟨⟨c3a,c3b⟩,c3c⟩:=c3;have aiY:q.1.rs.getD p.it .none=.obj J 0:=Sh.beq_eq _ _ c3a;have Hi:di ids q.1.os J=.it kt et:=Ob.beq_eq _ _ c3b;have aiP:∀t,t∈p.aa.map (·.1)→t<n:=fun t ht=>by have:=bz.1 c5 t ht;rwa [ic] at this
 have Mj:p.nx<n:=by rwa [ic] at c6
 have Ma:p.mo<n:=by rwa [ic] at c7
 have oG:p.pr<n:=by rwa [ic] at c8
 have Cy:=av c9;obtain⟨hs,yV,br⟩:=C1 (C:=C) (w0:=w0) (σ0:=σ0) (ids:=ids) 8 hq;simp only[ax] at hs;obtain⟨q0,vE,jc⟩:=hs;obtain⟨qS,qR⟩:=q;simp only at*;subst jc;generalize hm:v7 ws=m at*;generalize vA:je ids qS (fY ids p.next q0).mo=lo at*;have Mc:=Tx (ids:=ids) (id:=p.next) (sR code vE);have aia:∀j,j∈lo→j∈(fY ids p.next q0).mo:=fun j hj=>by rw[←vA] at hj;exact zo hj
 have auT:J∉lo:=fun h=>UQ (aia J h);have CJ:∃Ay,Ic ((fY ids p.next q0).pc.ev Φ N) ρ J (p.aa.map (·.1)) (p.aa.map (·.2)) lo Ay∧x0=.exit p.out (ρ.put [] [] lo Ay):=by
  simp only[PC.ev] at he;cases oG:Ie ((fY ids p.next q0).pc.ev Φ N) ρ J (p.aa.map (·.1)) (p.aa.map (·.2)) lo with
  |none=>rw[oG] at he;cases he
  |some y=>
   obtain⟨Ay,h1,rfl⟩:=zO.1 oG;rw[oG] at he;simp only[aQ] at he;exact⟨Ay,h1,he.symm⟩
 obtain⟨Ay,⟨CF,ag6⟩,hx0⟩:=CJ;generalize ja:(ρ.o J).tget 1=es at*
 have kO:∀o,o∈p.ops1.toList→∀d,o.dst=some d→d∈ws:=fun o ho d hd=>by
  rw[←Hs];exact gJ _ (sI.2 ⟨o,ho,hd⟩)
 have fA:∀o,o∈p.ops2.toList→∀d,o.dst=some d→d∈ws:=fun o ho d hd=>by
  rw[←Hs];exact ia _ (ia _ (gJ _ (sI.2 ⟨o,ho,hd⟩)))
 have hwc:∀d,d∈cm code→d∈ws:=fun d hd=>by
  rw[←Hs];exact ia _ (ia _ (ia _ hd))
 have M1:∀t,t∈ws→wr t:=fun t ht=>gV t (by rw[←Hs] at ht;exact ht);have rI:∀t,t∈ws→ar m t=true:=fun t ht=>by rw[←hm];exact Tv ht
 have L9:∀t,ar m t=true→((qS.mask m).st ids).r t=.none:=fun t ht=>by rw[C9,if_pos ht]
 have aih:∀t,isNone (((qS.mask m).st ids).r t)=false→ar m t=false:=fun t ht=>by
  cases hb:ar m t with
  |false=>rfl
  |true=>rw[L9 t hb] at ht;cases ht
 have fw:((qS.mask m).st ids).r p.it=.obj J 0:=by
  rw[C9,c3c];show cn (qS.rs.getD p.it .none)=_;rw[aiY];rfl
 have cu:((qS.mask m).st ids).o J=.it kt et:=Hi;have jx:p.ops1[0]?=some o1:=by rw[←AD,e1];rfl
 have ej:p.ops1[1]?=some o2:=by rw[←AD,e1];rfl
 have ho3:p.ops2[0]?=some o3:=by rw[←AD,e2];rfl
 have ajj:List.range p.ops1.size=[0,1]:=by
  have:p.ops1.size=2:=by rw[←AE,e1];rfl
  rw[this];rfl
 have Hq:List.range p.ops2.size=0::List.range' 1 (p.ops2.size-1):=by
  have:p.ops2.size=l.length+1:=by rw[←AE,e2];rfl
  rw[this,JQ,E0];rfl
 have key:∀(kk:Nat) (done vo:List D) (a':Act) (w':World),SameBut wr a a'→Good C w0 σ0 ((qS.mask m).st ids) ((ρ.put [] [] lo vo).setO J (.tup [.list done,es])) (fun _=>False) a' w'→
  (∀ys,(done++ys).Perm (gY es)→ny ((fY ids p.next q0).pc.ev Φ N) ρ J es (p.aa.map (·.1)) (p.aa.map (·.2)) lo ys done vo=some Ay)→done.length+kk=(gY es).length+1→
  Code.roundsIn (FR rd) 0 C.P (.seq (.region i1 p.ops1 false) (.seq (.cond (.tmp p.mo) .skip (.exit p.out)) (.block p.next (.seq (.region i2 p.ops2 false) code)))) (gx C w0 σ0 ids fn s rm wr a none [(p.out,(qS.mask m).kill ids J)] x0) kk a' w':=by
  intro kk
  induction kk with
  |zero=>
   intro done vo a' w' _ fq _ hlen;exfalso;obtain⟨σ,own,hv,h⟩:=fq;have aU:=h.objs J;rw[cu] at aU;obtain⟨kb,mb,arr,clock,fm,idx,h1,h2,h3,ay,h4,h5,h6,h7,h8,h9,ru,rv⟩:=aU;simp only[Env.setO,aJ] at h6;injection h6 with h6;injection h6 with vh vi;injection vi with vi _;injection vh with vh;subst vh;subst vi;have hle:idx.length≤arr.size:=by
        have:=List.Nodup.length_le_of_subset h7 (l₂:=List.range arr.size) (fun i hi=>bV.2 (h8 i hi));simpa using this
   simp[gl,gY,D.m] at hlen;omega
  |succ kk ih=>
   intro done vo a' w' jR fq aN hlen;rw[roundsIn_succ];obtain⟨σ,own,hv,h⟩:=fq;have aU:=h.objs J;rw[cu] at aU;obtain⟨kb,mb,arr,clock,fm,idx,h1,h2,h3,ay,h4,h5,h6,h7,h8,h9,ru,rv⟩:=aU;simp only[Env.setO,aJ] at h6;injection h6 with h6;injection h6 with vh vi;injection vi with vi _;injection vh with vh;subst vh;subst vi;have fO:=h.regs p.it;rw[fw] at fO;have G4:a'.eval (.tmp p.it)=.pointer (some ⟨kb,0,none⟩):=by
        have:=fO.2 rfl;simp only[Act.eval];rw[this];exact h1
   have qf:a'.tmps.size=n:=jR.size.trans hn;obtain⟨w1,Wf,Hg⟩:=alu (P:=C.P) h5 h4 ru h8 o1.type;have CU:Below w'.heap.size w' w1:=by rcases Wf with rfl|rfl;exact .refl _ _;exact⟨rfl,rfl,rfl,aW _,fun _ _=>rfl⟩
   have zd:w1.heap=w'.heap:=by rcases Wf with rfl|rfl<;>rfl
   have VB:kb<w'.heap.size:=(h.owns kb J h2).2.1;have oC:mb<w'.heap.size:=(h.owns mb J h3).2.1;refine wpIn_seq (wpIn_region ?_);rw[ajj];rcases Hg with⟨LW,ah⟩|⟨i,e,m5,vu,ah⟩
   ·
        refine zK jx g1 (by rw[q1];rfl) (v:=.tuple #[.bool false]) (w':=w1) (by simp only[execOp,q1,G4];simp[ah]) ?_;rw[d1]
        refine zK ej g2 (by rw[q2];rfl) (v:=.bool false) (w':=w1) (by
         have:(a'.put (some p.nx) (.tuple #[.bool false])).eval (.tmp p.nx)=.tuple #[.bool false]:=by simp only[Act.eval];exact zR (by omega)
         simp only[execOp,q2,this];simp[Instr.extract]) ?_
        rw[d2];simp only[wpOpsIn]
        have vH:SameBut (fun t=>t∈ws) a' ((a'.put (some p.nx) (.tuple #[.bool false])).put (some p.mo) (.bool false)):=by
         have s1:=SameBut.put a' (some p.nx) (.tuple #[.bool false]) a'.defers;have s2:=SameBut.put (a'.put (some p.nx) (.tuple #[.bool false])) (some p.mo) (.bool false) (a'.put (some p.nx) (.tuple #[.bool false])).defers;exact(s1.mono fun t e=>by cases e;exact kO o1 (by rw[e1];simp) _ d1).trans (s2.mono fun t e=>by cases e;exact kO o2 (by rw[e1];simp) _ d2)
        generalize vk:(a'.put (some p.nx) (.tuple #[.bool false])).put (some p.mo) (.bool false)=a1 at vH;have Mb:a1.eval (.tmp p.mo)=.bool false:=by
         rw[←vk];simp only[Act.eval];exact zR (by rw[size_put];omega)
        have m0:a1.defers=a'.defers:=by rw[←vk,put_defers,put_defers]
        refine wpIn_seq (wpIn_cond_false Mb (wpIn_exit ?_));have aiK:(gl fm idx++[]).Perm (gY (.map fm)):=by
         rw[lZ];exact aaE h7 (fun i hi=>by rw[h9];exact h8 i hi) (fun i hi=>LW i (by omega))
        have We:=aN [] aiK;simp only[ny,aQ] at We;subst We;refine⟨_,_,hx0,n5,qN.2 rfl,jR.trans (vH.mono M1),?_⟩;refine⟨σ,own,hv,?_⟩
        refine h.step (S':=((qS.mask m).kill ids J).st ids) (ρ':=ρ.put [] [] lo vo) (A':=fun _=>False) (fun j=>j=J) m0 (.refl σ) (h.ok.below CU) (fun _ _ _ hx=>.inl hx) (fun _ _ hx=>.inl hx) (CU.mono h.below.size) ⟨fun _=>aW _,fun _ _=>rfl⟩
         (fun j hj=>⟨by rw[Nh,if_neg hj],by simp[Env.setO,bf _ _ hj],rfl,fun b hb=>⟨hb,by rw[zd]⟩⟩) (fun j hj=>?_) (fun b j hb=>?_) (fun _=>id) (fun t=>?_) (fun _ hf=>hf.elim) (fun b hb _=>by rw[zd]) (fun b j hb=>.inl ⟨j,hb⟩) (fun j hj=>?_)
        ·rw[Nh,if_pos hj];trivial
        ·obtain⟨b1,b2,b3,b4⟩:=h.owns b j hb;exact⟨b1,by rw[zd];exact b2,b3,b4⟩
        ·by_cases ht:t∈ws
         ·refine .inr ⟨?_,fun gs s' e=>absurd e (Snap.noOpt _ _ t gs s')⟩;have:(((qS.mask m).kill ids J).st ids).r t=.none:=L9 t (rI t ht);rw[this];trivial
         ·exact .inl ⟨rfl,vH.get t ht,rfl⟩
        ·rw[Nh,if_pos hj];intro e;cases e
   ·
        obtain⟨pd,Mv⟩:∃pd,fm[i]?=some pd:=⟨_,bq (by rw[h9];exact(fX.1 m5).1)⟩
        obtain⟨bD,cH⟩:=rv i e pd m5 Mv;generalize ze:({w1 with heap:=w1.heap.setIfInBounds kb (.mapIter (some mb) clock (fV arr (idx++[i])) clock)}:World)=w2 at ah;have Wg:w2.heap[kb]?=some (.mapIter (some mb) clock (fV arr (idx++[i])) clock):=by rw[←ze];simp[zd,VB]
        have vL:∀b,b≠kb→w2.heap[b]?=w'.heap[b]?:=fun b hb=>by rw[←ze];simp only[zd];rw[Sv (uH hb)]
        have avr:w2.heap.size=w'.heap.size:=by rw[←ze];simp[zd]
        have Wh:w2.heap[mb]?=some (.map arr clock):=by rw[vL mb (uH ay)];exact h4
        refine zK jx g1 (by rw[q1];rfl) (v:=.tuple #[.bool true,e.key,e.val]) (w':=w2) (by simp only[execOp,q1,G4];simp[ah]) ?_;rw[d1]
        refine zK ej g2 (by rw[q2];rfl) (v:=.bool true) (w':=w2) (by
         have:(a'.put (some p.nx) (.tuple #[.bool true,e.key,e.val])).eval (.tmp p.nx)=.tuple #[.bool true,e.key,e.val]:=by simp only[Act.eval];exact zR (by omega)
         simp only[execOp,q2,this];simp[Instr.extract]) ?_
        rw[d2];simp only[wpOpsIn]
        have vH:SameBut (fun t=>t∈ws) a' ((a'.put (some p.nx) (.tuple #[.bool true,e.key,e.val])).put (some p.mo) (.bool true)):=by
         have s1:=SameBut.put a' (some p.nx) (.tuple #[.bool true,e.key,e.val]) a'.defers;have s2:=SameBut.put (a'.put (some p.nx) (.tuple #[.bool true,e.key,e.val])) (some p.mo) (.bool true) (a'.put (some p.nx) (.tuple #[.bool true,e.key,e.val])).defers;exact(s1.mono fun t e=>by cases e;exact kO o1 (by rw[e1];simp) _ d1).trans (s2.mono fun t e=>by cases e;exact kO o2 (by rw[e1];simp) _ d2)
        have Vz:(((a'.put (some p.nx) (.tuple #[.bool true,e.key,e.val])).put (some p.mo) (.bool true))).eval (.tmp p.it)=.pointer (some ⟨kb,0,none⟩):=by
         simp only[Act.eval] at G4 ⊢;rw[Ij n2,Ij n1];exact G4
        generalize vk:(a'.put (some p.nx) (.tuple #[.bool true,e.key,e.val])).put (some p.mo) (.bool true)=a1 at vH Vz;have Mb:a1.eval (.tmp p.mo)=.bool true:=by
         rw[←vk];simp only[Act.eval];exact zR (by rw[size_put];omega)
        have m0:a1.defers=a'.defers:=by rw[←vk,put_defers,put_defers]
        refine wpIn_seq (wpIn_cond_true Mb (wpIn_skip ?_));refine wpIn_block (wpIn_seq (wpIn_region ?_));rw[Hq];refine zK ho3 g3 (by rw[q3];rfl) (v:=.tuple #[e.key,e.val]) (w':=w2) (by simp only[execOp,q3,Vz];simp[aff Wg Wh ru m5]) ?_;rw[d3]
        have V5:SameBut (fun t=>t∈ws) a1 (a1.put (some p.pr) (.tuple #[e.key,e.val])):=
         (SameBut.put a1 (some p.pr) (.tuple #[e.key,e.val]) a1.defers).mono fun t e=>by cases e;exact fA o3 (by rw[e2];simp) _ d3
        have V8:a1.tmps.size=n:=vH.size.trans qf;refine Zd (kv:=e.key) (vv:=e.val) l [] p.aa 1 _ ml (by rw[e2];rfl) (fun x hx=>by rw[V5.size,V8];exact aiP _ (dP.2 ⟨x,hx,rfl⟩)) (zR (by rw[V8];exact oG)) (fun x hx=>by cases hx) (fun a2 fb dK aiI=>?_);have MG:SameBut (fun t=>t∈ws) a' a2:=(vH.trans V5).trans (fb.mono fun t ⟨o,ho,hd⟩=>fA o ho t hd);have ahy:a2.defers=a'.defers:=by rw[dK,put_defers,m0]
        have ajg:Good C w0 σ0 (((qS.mask m).start (p.aa.map (·.1)) (p.aa.map fun x=>bif Nat.beq x.2 0 then kt else et)).st ids) ((ρ.put (p.aa.map (·.1)) ((p.aa.map (·.2)).map (D.tup [pd.1,pd.2]).tget) lo vo).setO J (.tup [.list (gl fm idx++[.tup [pd.1,pd.2]]),.map fm])) (fun _=>False) a2 w2:=by
         have Cb:Below w0.heap.size w' w2:=⟨by rw[←ze];exact CU.os,by rw[←ze];exact CU.tape,by rw[←ze];exact CU.output,by omega,fun b hb=>vL b (fun e=>by subst e;have:=(h.owns b J h2).1;omega)⟩
         have iI:σ.ok w2:=by
          refine⟨fun b o v hc=>?_,fun b es hc=>?_,h.ok.fz fun b o v hc=>vL b fun e=>by subst e;rw[(h.owns b J h2).2.2.1 o] at hc;cases hc⟩
          ·have lu:b≠kb:=fun e=>by subst e;rw[(h.owns b J h2).2.2.1 o] at hc;cases hc
           have:=h.ok.c b o v hc;simp only[World.cell?] at this ⊢;rw[vL b lu];exact this
          ·have lu:b≠kb:=fun e=>by subst e;rw[(h.owns b J h2).2.2.2] at hc;cases hc
           exact(h.ok.m b es hc).keep (vL b lu)
         have fu:∀j,((ρ.put (p.aa.map (·.1)) ((p.aa.map (·.2)).map (D.tup [pd.1,pd.2]).tget) lo vo).setO J (.tup [.list (gl fm idx++[.tup [pd.1,pd.2]]),.map fm])).o j=if j=J then .tup [.list (gl fm idx++[.tup [pd.1,pd.2]]),.map fm] else putL ρ.o lo vo j:=fun j=>by
          simp only[Env.setO,eR];rfl
         refine⟨σ,own,hv,h.step (fun j=>j=J) ahy (.refl σ) iI (fun _ _ _ hx=>.inl hx) (fun _ _ hx=>.inl hx) Cb ⟨fun _=>aW _,fun _ _=>rfl⟩
          (fun j hj=>⟨rfl,by rw[fu,if_neg hj];simp[Env.setO,bf _ _ hj,Env.put],rfl,fun b hb=>⟨hb,vL b (fun e=>by subst e;rw[h2] at hb;cases hb;exact hj rfl)⟩⟩) (fun j hj=>?_) (fun b j hb=>?_) (fun _=>id) (fun t=>?_) (fun _ hf=>hf.elim)
          (fun b hb ho=>vL b (fun e=>by subst e;rw[h2] at ho;cases ho)) (fun b j hb=>.inl ⟨j,hb⟩) (fun j hj=>?_)⟩
         ·subst hj;have:(((qS.mask m).start (p.aa.map (·.1)) (p.aa.map fun x=>bif Nat.beq x.2 0 then kt else et)).st ids).o j=.it kt et:=Hi;rw[this];refine⟨kb,mb,arr,clock,fm,idx++[i],h1,h2,h3,ay,Wh,Wg,by rw[fu,if_pos rfl,aaF fm idx Mv],?_,?_,h9,ru,rv⟩
          ·rw[AL];exact⟨h7,by simp,fun a ha b hb e=>by simp at hb;subst hb;subst e;exact vu ha⟩
          ·intro i' cU;rcases dy.1 cU with h|h
           ·exact h8 i' h
           ·simp at h;subst h;exact(fX.1 m5).1
         ·obtain⟨b1,b2,b3,b4⟩:=h.owns b j hb;exact⟨b1,by omega,b3,b4⟩
         ·have hc:Compat ((qS.mask m).st ids) hv (((qS.mask m).start (p.aa.map (·.1)) (p.aa.map fun x=>bif Nat.beq x.2 0 then kt else et)).st ids) hv:=⟨fun _=>aW _,fun _ _=>rfl⟩
          refine .inr ⟨?_,fun gs s' e=>absurd e (Snap.noOpt _ _ t gs s')⟩;show aD C _ _ σ hv (cn ((qA (p.aa.map (·.1)) (p.aa.map fun x=>bif Nat.beq x.2 0 then kt else et) ((qS.mask m).rs.map rC)).getD t .none)) (a2.tmps.getD t undef) (putL ρ.r (p.aa.map (·.1)) ((p.aa.map (·.2)).map (D.tup [pd.1,pd.2]).tget) t);rcases P3 (p.aa.map (·.1)) (p.aa.map fun x=>bif Nat.beq x.2 0 then kt else et) ((qS.mask m).rs.map rC) (by simp) c4 t with e|⟨yr,sS⟩|⟨i',y,yr,sS,K0⟩
          ·rw[e];trivial
          ·rw[sS,zQ _ _ _ _ yr];have e3:((qS.mask m).rs.map rC).getD t .none=rC ((qS.mask m).rs.getD t .none):=by
            simp only[aG,cg];cases(qS.mask m).rs[t]?<;>rfl
           rw[e3];by_cases Wa:t∈ws
           ·have y5:=L9 t (rI t Wa);change cn ((qS.mask m).rs.getD t .none)=.none at y5;generalize (qS.mask m).rs.getD t .none=s' at y5;cases s'<;>simp[cn] at y5<;>trivial
           ·have hr:=h.regs t;change aD C _ _ σ hv (cn ((qS.mask m).rs.getD t .none)) _ (ρ.r t) at hr;rw[MG.get t Wa];generalize (qS.mask m).rs.getD t .none=s' at hr;cases s' with
            |yv=>trivial
            |opt gs s=>trivial
            |none=>trivial
            |fclo f c=>exact aD.mono' (.refl σ) hc (fun _ _ e=>by cases e) hr
            |agg l=>exact aD.mono' (.refl σ) hc (fun _ _ e=>by cases e) hr
            |dat t=>exact hr
            |obj j v=>exact aD.mono' (.refl σ) hc (fun _ _ e=>by cases e) hr
            |ptr j v o=>exact aD.mono' (.refl σ) hc (fun _ _ e=>by cases e) hr
            |eptr j v o q=>exact aD.mono' (.refl σ) hc (fun _ _ e=>by cases e) hr
          ·rw[K0];have ahU:i'<p.aa.length:=by have:=(eT.1 yr).1;simpa using this
           rw[Oo _ (p.aa.map (·.1)) _ i' t (kQ c4) (by simp) yr];obtain⟨xa,lC⟩:∃xa,p.aa[i']?=some xa:=⟨_,bq ahU⟩
           simp only[cg,lC,jI,aQ] at yr sS;subst yr;subst sS;rw[aiI xa (jn lC)];have hd:((p.aa.map (·.2)).map (D.tup [pd.1,pd.2]).tget).getD i' .none=(D.tup [pd.1,pd.2]).tget xa.2:=by simp[aG,lC]
           rw[hd];have h2x:xa.2≤1:=by
            rcases Oe l ml (fun x hx=>by cases hx) xa (jn lC) with h|h
            ·cases h
            ·exact h.1
           rcases(by omega:xa.2=0∨xa.2=1) with e0|e0<;>rw[e0]
           ·exact bD
           ·exact cH
         ·have:(((qS.mask m).start (p.aa.map (·.1)) (p.aa.map fun x=>bif Nat.beq x.2 0 then kt else et)).st ids).o j=.it kt et:=by rw[hj];exact Hi
          rw[this];intro e;cases e
        have aiJ:=aaF fm idx Mv;obtain⟨rest,tA⟩:∃rest,(gl fm idx++(D.tup [pd.1,pd.2])::rest).Perm (gY (.map fm)):=by
         obtain⟨rest,hr⟩:=anS (es:=fm) (idx:=idx++[i]) (by rw[AL];exact⟨h7,by simp,fun a ha b hb e=>by simp at hb;subst hb;subst e;exact vu ha⟩) (fun i' cU=>by
          rcases dy.1 cU with h|h
          ·rw[h9];exact h8 i' h
          ·simp at h;subst h;rw[h9];exact(fX.1 m5).1)
         rw[aiJ] at hr;exact⟨rest,by simpa using hr⟩
        have dJ:=aN _ tA;simp only[ny] at dJ;split at dJ
        case h_2=>cases dJ
        rename_i ρ2 GR;obtain⟨xi,dv⟩:=Tw GR;refine wpIn_mono (ihc rm _ q0 vE rd w0 σ0 wr _ xi a2 w2 gi hC hY (fun t ht=>M1 t (hwc t ht)) (MG.size.trans qf) ajg dv) fun ee a3 w3 fu=>?_;have jQ:=Tz n6 (sR code vE) dv GR fu;have conv:∀ee a3 w3,gx C w0 σ0 ids fn s rm wr a2 (fY ids p.next q0).out (fY ids p.next q0).ex (.next ρ2) ee a3 w3→Exit.then (Code.roundsIn (FR rd) 0 C.P (.seq (.region i1 p.ops1 false) (.seq (.cond (.tmp p.mo) .skip (.exit p.out)) (.block p.next (.seq (.region i2 p.ops2 false) code)))) (gx C w0 σ0 ids fn s rm wr a none [(p.out,(qS.mask m).kill ids J)] x0) kk) (gx C w0 σ0 ids fn s rm wr a none [(p.out,(qS.mask m).kill ids J)] x0) ee a3 w3:=by
         intro ee a3 w3 ho;cases ee with
         |normal=>
          obtain⟨ρ3,T,f1,f2,f3,f4⟩:=ho;cases f1;refine ih (gl fm idx++[.tup [pd.1,pd.2]]) (lo.map ρ2.o) a3 w3 (jR.trans ((MG.mono M1).trans f3)) ?_ (fun ys vO=>?_) (by simp at hlen ⊢;omega)
          ·have rB:Good C w0 σ0 (qS.st ids) ρ2 (fun _=>False) a3 w3:=by
            have:=f4.meet2 (x:=qS)
            rwa [yV T f2] at this
           obtain⟨σ3,wv,CS,gd⟩:=rB;have LJ:=PC.ev_but _ _ _ ρ2 GR rfl;refine⟨σ3,wv,CS,(gd.maskR m).env (Snap.noOpt _ _) (fun t ht=>?_) (fun j hj=>?_)⟩
           ·have y5:=aih t ht
            have cE:t∉(fY ids p.next q0).pc.modR:=fun ei=>by
                 have:=Mc.1 t ei;have h2:ar (Nat.lor m (fY ids p.next q0).mr) t=true:=by rw[eU,this,mN]
                 rw[Cy,y5] at h2;cases h2
            rw[LJ.r t cE]
            have p9:t∉p.aa.map (·.1):=fun aR=>by
                 have:ar m t=true:=by
                  refine rI t ?_;obtain⟨xa,lC,rfl⟩:=dP.1 aR;rcases Oe l ml (fun x hx=>by cases hx) xa lC with h|⟨_,o,ho,hd⟩
                  ·cases h
                  ·exact fA o (by rw[e2];exact dk _ ho) _ hd
                 rw[y5] at this;cases this
            show ρ.r t=putL ρ.r (p.aa.map (·.1)) _ t;rw[zQ _ _ _ _ p9]
           ·have hjd:nm (di ids qS.os j)=false:=hj;show bN (putL ρ.o lo (lo.map ρ2.o)) J _ j=ρ2.o j;by_cases y1:j=J
            ·subst y1;rw[aJ,LJ.o j (fun ei=>UQ (Mc.2 j ei))];simp[Env.setO,aJ]
            ·rw[bf _ _ y1,rW];split
             ·rfl
             ·rename_i fN;have cE:j∉(fY ids p.next q0).pc.modO:=fun ei=>fN (by rw[←vA];exact dO.2 ⟨Mc.2 j ei,by rw[hjd];rfl⟩);rw[LJ.o j cE];simp only[Env.setO,bf _ _ y1];exact(Oq _ _ _ _ fN).symm
          ·have:=aN ((D.tup [pd.1,pd.2])::ys) (by simpa using vO);simp only[ny,GR] at this;exact this
         |exit id=>obtain⟨ρ3,T,f1,_⟩:=ho;cases f1
         |ret=>
          cases rm with
          |false=>obtain⟨d,f1,_⟩:=ho;cases f1
          |true=>obtain⟨ρ3,T,f1,_⟩:=ho;cases f1
         |_=>exact ho.elim
        cases ee with
        |exit id=>
         simp only[Exit.inBlock] at jQ;show if id=p.next then _ else _;split
         ·rename_i ct;rw[if_pos ct] at jQ;exact conv .normal a3 w3 jQ
         ·rename_i ct;rw[if_neg ct] at jQ;exact conv (.exit id) a3 w3 jQ
        |normal=>exact conv .normal a3 w3 jQ
        |ret=>exact conv .ret a3 w3 jQ
        |panic c=>exact fu.elim
        |goto l=>exact fu.elim
        |_=>exact fu.elim
 have hgq:Good C w0 σ0 (qS.st ids) ρ (fun _=>False) a w:=br hg;obtain⟨σ,own,hv,h⟩:=hgq;have aU:=h.objs J;have:(qS.st ids).o J=.it kt et:=Hi;rw[this] at aU;obtain⟨kb,mb,arr,clock,fm,idx,h1,h2,h3,ay,h4,h5,h6,h7,h8,h9,ru,rv⟩:=aU;have hρJ:ρ.o J=.tup [.list [],es]:=by
  rw[h6] at CF ja;simp[D.tget] at CF ja;rw[h6,CF,←ja]
 have vq:(ρ.put [] [] lo (lo.map ρ.o)).setO J (.tup [.list [],es])=ρ:=by
  rw[Env.put_self];show Env.mk _ _=_;have:bN ρ.o J (.tup [.list [],es])=ρ.o:=by
   funext j;rw[eR];split
   ·rename_i e;rw[e];exact hρJ.symm
   ·rfl
  rw[this]
 exact wpIn_loop_rounds _ (key ((gY es).length+1) [] (lo.map ρ.o) a w (.refl _ _) (by rw[vq];exact⟨σ,own,hv,h.maskR m⟩) (fun ys vO=>ag6 ys vO) (by simp))
theorem ad4 {N:Nat}(dB:fI C Φ)(hR:JW C n ids Φ R):∀(k:Nat) (c:Code),sizeOf c<k→uK C Φ fn s n ids R N c:=by
 intro k;refine Nat.rec (fun c h=>absurd h (Nat.not_lt_zero _)) (fun k IH=>?_) k;intro c hc;cases c with
 |skip=>
  intro rm S r h rd w0 σ0 wr ρ x a w gi hC hY gV hn hg he;simp only[comp,aQ] at h;subst h;simp only[PC.ev,aQ] at he;subst he;exact wpIn_skip ⟨ρ,S,rfl,rfl,.refl _ _,hg⟩
 |region id ops draw=>
  intro rm S r h rd w0 σ0 wr ρ x a w gi hC hY gV hn hg he;simp only[comp,ax] at h;obtain⟨q,hq,rfl⟩:=h;simp only[PC.ev,ax] at he;obtain⟨ρ',hr,rfl⟩:=he;exact hR id ops draw S q hq rd w0 σ0 ρ ρ' a w _ hC hY hn hg hr (fun a' w' eu fq=>⟨ρ',q.1,rfl,rfl,eu.mono (fun t ⟨o,h1,h2⟩=>gV t (sI.2 ⟨o,h1,h2⟩)),fq⟩)
 |seq c1 c2=>
  have tH:=IH c1 (by simp at hc;omega);have lF:=IH c2 (by simp at hc;omega);intro rm S r h rd w0 σ0 wr ρ x a w gi hC hY gV hn hg he;have kO:∀t,t∈cm c1→wr t:=fun t ht=>gV t (gJ _ ht);have fA:∀t,t∈cm c2→wr t:=fun t ht=>gV t (ia _ ht);simp only[comp,aq] at h;obtain⟨q,hq,h⟩:=h;split at h
  ·rename_i jP;cases h;refine wpIn_seq (wpIn_mono (tH rm S _ hq rd w0 σ0 wr ρ x a w gi hC hY kO hn hg he) fun e a' w' ho=>?_);cases e with
   |normal=>obtain⟨_,_,_,h2,_⟩:=ho;rw[jP] at h2;cases h2
   |_=>exact ho
  ·rename_i S1 jP;simp only[ax] at h;obtain⟨p,hp,rfl⟩:=h;simp only[PC.ev] at he
   have key:∀x1,q.pc.ev Φ N ρ=some x1→(match some x1 with|some (.next ρ')=>p.pc.ev Φ N ρ'|y=>y)=some x→(Code.seq c1 c2).wpIn (FR rd) 0 C.P (gx C w0 σ0 ids fn s rm wr a p.out (q.ex++p.ex) x) a w:=by
      intro x1 h1 h2;refine wpIn_seq (wpIn_mono (tH rm S _ hq rd w0 σ0 wr ρ x1 a w gi hC hY kO hn hg h1) fun e a' w' ho=>?_);have other:∀{e:Exit},e≠.normal→gx C w0 σ0 ids fn s rm wr a q.out q.ex x1 e a' w'→x1=x→gx C w0 σ0 ids fn s rm wr a p.out (q.ex++p.ex) x e a' w':=by
       intro e ay ho hx;subst hx;exact ho.mono (fun y hy=>gJ _ hy) (.refl _ _) (fun e=>absurd e ay)
      cases e with
      |normal=>
       obtain⟨ρ1,S2,e1,e2,fb,gB⟩:=ho;subst e1;rw[jP] at e2;cases e2;simp only at h2;refine wpIn_mono (lF rm S1 _ hp rd w0 σ0 wr ρ1 x a' w' gi hC hY fA (fb.size.trans hn) gB h2) fun e a2 w2 ej=>?_;exact ej.mono (fun y hy=>ia _ hy) fb (fun _=>rfl)
      |exit id=>
       refine other (by simp) ho ?_;obtain⟨ρ1,S2,e1,_⟩:=ho;subst e1;simpa using h2
      |ret=>
       refine other (by simp) ho ?_;cases rm with
       |false=>obtain⟨d,e1,_⟩:=ho;subst e1;simpa using h2
       |true=>obtain⟨ρ1,S2,e1,_⟩:=ho;subst e1;simpa using h2
      |_=>exact ho.elim
   cases h1:q.pc.ev Φ N ρ with
   |none=>rw[h1] at he;simp at he
   |some x1=>rw[h1] at he;exact key x1 h1 he
 |cond c c1 c2=>
  have tH:=IH c1 (by simp at hc;omega);have lF:=IH c2 (by simp at hc;omega);intro rm S r h rd w0 σ0 wr ρ x a w gi hC hY gV hn hg he;have kO:∀t,t∈cm c1→wr t:=fun t ht=>gV t (gJ _ ht);have fA:∀t,t∈cm c2→wr t:=fun t ht=>gV t (ia _ ht);simp only[comp] at h;split at h
  case h_2=>cases h;exact absurd he (lR _ _ _ _)
  rename_i e hu;simp only[aq,ax] at h;obtain⟨q,hq,p,hp,rfl⟩:=h;have hb:∃b,a.eval c=.bool b∧e.ev ρ=.v (.bool b):=by
   obtain⟨σ,own,hv,hi⟩:=hg;have:=cf (gs:=[]) hi hC rfl hu;generalize a.eval c=v at this;generalize e.ev ρ=d at this;cases this with|bool b=>exact⟨b,rfl,rfl⟩
  obtain⟨b,dJ,bT⟩:=hb;have p7:=sR c1 hq;have Cw:=sR c2 hp;have main:∀(o:Option Snap) (lr lo:List Nat) (rx:Res2),rx=⟨.ite e lr lo q.pc p.pc,o,q.ex++p.ex,Nat.lor q.mr p.mr,jk q.mo p.mo⟩→
        (∀M,o=some M→lr=jV M (Nat.lor q.mr p.mr)∧lo=je ids M (jk q.mo p.mo))→
        (∀S1 ρ1 a w,q.out=some S1→Good C w0 σ0 (S1.st ids) ρ1 (fun _=>False) a w→∃M,o=some M∧Good C w0 σ0 (M.st ids) ρ1 (fun _=>False) a w)→
        (∀S1 ρ1 a w,p.out=some S1→Good C w0 σ0 (S1.st ids) ρ1 (fun _=>False) a w→∃M,o=some M∧Good C w0 σ0 (M.st ids) ρ1 (fun _=>False) a w)→
        rx.pc.ev Φ N ρ=some x→(Code.cond c c1 c2).wpIn (FR rd) 0 C.P (gx C w0 σ0 ids fn s rm wr a rx.out rx.ex x) a w:=by
   intro o lr lo rx hrx hl qd ml bF;subst hrx;simp only[PC.ev,bT,D.b_bool] at bF;have fin:∀(ci:Code) (qi:Res2) (xi:Out),(∀y,y∈qi.ex→y∈q.ex++p.ex)→(∀t,t∈qi.pc.modR→ar (Nat.lor q.mr p.mr) t=true)→(∀j,j∈qi.pc.modO→j∈jk q.mo p.mo)→
    (∀S1 ρ1 a w,qi.out=some S1→Good C w0 σ0 (S1.st ids) ρ1 (fun _=>False) a w→∃M,o=some M∧Good C w0 σ0 (M.st ids) ρ1 (fun _=>False) a w)→
    qi.pc.ev Φ N ρ=some xi→(match some xi with|some (.next ρ')=>some (Out.next (ρ.join lr lo ρ'))|y=>y)=some x→
    ci.wpIn (FR rd) 0 C.P (gx C w0 σ0 ids fn s rm wr a qi.out qi.ex xi) a w→ci.wpIn (FR rd) 0 C.P (gx C w0 σ0 ids fn s rm wr a o (q.ex++p.ex) x) a w:=by
        intro ci qi xi hex iJ lz jP dv hx hwp;refine wpIn_mono hwp fun ee a' w' ho=>?_;have other:ee≠.normal→xi=x→gx C w0 σ0 ids fn s rm wr a o (q.ex++p.ex) x ee a' w':=by
         intro ay jS;subst jS;exact ho.mono hex (.refl _ _) (fun e=>absurd e ay)
        cases ee with
        |normal=>
         obtain⟨ρ1,S2,e1,e2,fb,gB⟩:=ho;subst e1;simp only[aQ] at hx;subst hx;obtain⟨M,hM,rB⟩:=jP S2 ρ1 a' w' e2 gB;obtain⟨l1,l2⟩:=hl M hM;subst l1 l2;exact⟨_,M,rfl,hM,fb,rB.joined (PC.ev_but qi.pc ρ _ ρ1 dv rfl) iJ lz⟩
        |exit id=>
         refine other (by simp) ?_;obtain⟨ρ1,S2,e1,_⟩:=ho;subst e1;simpa using hx
        |ret=>
         refine other (by simp) ?_;cases rm with
         |false=>obtain⟨d,e1,_⟩:=ho;subst e1;simpa using hx
         |true=>obtain⟨ρ1,S2,e1,_⟩:=ho;subst e1;simpa using hx
        |_=>exact ho.elim
   refine wpIn_cond dJ ?_;cases b with
   |true=>
    simp only[cond_true] at bF;cases dv:q.pc.ev Φ N ρ with
    |none=>rw[dv] at bF;simp at bF
    |some xi=>
     rw[dv] at bF;refine fin c1 q xi (fun y hy=>gJ _ hy) (fun t ht=>?_) (fun j hj=>oO.2 (.inl (p7.2 j hj))) qd dv bF (tH rm S _ hq rd w0 σ0 wr ρ xi a w gi hC hY kO hn hg dv);rw[eU,p7.1 t ht];rfl
   |false=>
    simp only[cond_false] at bF;cases dv:p.pc.ev Φ N ρ with
    |none=>rw[dv] at bF;simp at bF
    |some xi=>
     rw[dv] at bF;refine fin c2 p xi (fun y hy=>ia _ hy) (fun t ht=>?_) (fun j hj=>oO.2 (.inr (Cw.2 j hj))) ml dv bF (lF rm S _ hp rd w0 σ0 wr ρ xi a w gi hC hY fA hn hg dv);rw[eU,Cw.1 t ht,mN]
  have qd:∀S1 ρ1 a w,q.out=some S1→Good C w0 σ0 (S1.st ids) ρ1 (fun _=>False) a w→∃M,lI q.out p.out=some M∧Good C w0 σ0 (M.st ids) ρ1 (fun _=>False) a w:=by
   intro S1 ρ1 a w e1 g1;rw[e1];obtain⟨M,hM⟩:=@Xm S1 p.out;exact⟨M,hM,Xk g1 hM⟩
  have ml:∀S1 ρ1 a w,p.out=some S1→Good C w0 σ0 (S1.st ids) ρ1 (fun _=>False) a w→∃M,lI q.out p.out=some M∧Good C w0 σ0 (M.st ids) ρ1 (fun _=>False) a w:=by
   intro S1 ρ1 a w e1 g1;rw[e1];obtain⟨M,hM⟩:=@Xn q.out S1;exact⟨M,hM,Xl g1 hM⟩
  cases hm:lI q.out p.out with
  |none=>
   rw[hm] at qd ml;simp only[hm] at he ⊢;exact main none [] [] _ rfl (fun M e=>by cases e) qd ml he
  |some M=>
   rw[hm] at qd ml;simp only[hm] at he ⊢;exact main (some M) _ _ _ rfl (fun M' e=>by cases e;exact⟨rfl,rfl⟩) qd ml he
 |block id c1=>
  have tH:=IH c1 (by simp at hc;omega);intro rm S r h rd w0 σ0 wr ρ x a w gi hC hY gV hn hg he;simp only[comp] at h;cases ct:Nat.beq id cD<;>simp only[ct,cond_true,cond_false] at h
  case true=>cases h;exact absurd he (lR _ _ _ _)
  have G3:id≠cD:=fun e=>by subst e;simp at ct
  simp only[ax] at h;obtain⟨q,hq,rfl⟩:=h;obtain⟨xi,dv⟩:=Tw he;exact wpIn_block (wpIn_mono (tH rm S _ hq rd w0 σ0 wr ρ xi a w gi hC hY gV hn hg dv) fun e a' w' fu=>Tz G3 (sR c1 hq) dv he fu)
 |loop c1=>
  have tH:=IH c1 (by simp at hc;omega);intro rm S r h rd w0 σ0 wr ρ x a w gi hC hY gV hn hg he;rw[TS] at h;split at h
  ·rename_i qb CK;obtain⟨p,code,ws⟩:=qb;unfold vY at CK;split at CK
   case h_2=>cases CK
   rename_i cx cy ck cz cc;simp only[ax] at CK;obtain⟨p',aR,ep⟩:=CK;cases ep;exact ala aR (IH _ (by simp at hc;omega)) h gi hC hY gV hn hg he
  split at h
  case h_2=>cases h;exact absurd he (lR _ _ _ _)
  rename_i q hq;cases h;obtain⟨hs,yV,br⟩:=C1 (C:=C) (w0:=w0) (σ0:=σ0) (ids:=ids) 8 hq;have p7:=sR c1 hs;simp only[PC.ev] at he
  have yX:Good C w0 σ0 (q.1.st ids) (ρ.put (jV q.1 q.2.mr) ((jV q.1 q.2.mr).map ρ.r) (je ids q.1 q.2.mo) ((je ids q.1 q.2.mo).map ρ.o)) (fun _=>False) a w:=by
   exact Good.joined (br hg) (.refl ρ q.2.pc.modR q.2.pc.modO) p7.1 p7.2
  have key:∀(k:Nat) (ρ1:Env) (a':Act) (w:World),SameBut wr a a'→gW (q.2.pc.ev Φ N) ρ (jV q.1 q.2.mr) (je ids q.1 q.2.mo) k ((jV q.1 q.2.mr).map ρ1.r) ((je ids q.1 q.2.mo).map ρ1.o)=some x→
        Good C w0 σ0 (q.1.st ids) (ρ.join (jV q.1 q.2.mr) (je ids q.1 q.2.mo) ρ1) (fun _=>False) a' w→Code.roundsIn (FR rd) 0 C.P c1 (gx C w0 σ0 ids fn s rm wr a none q.2.ex x) k a' w:=by
   intro k
   induction k with
   |zero=>intro ρ1 a' w hn hl hg;simp[gW] at hl
   |succ k ih=>
    intro ρ1 a' w jR hl hg;rw[roundsIn_succ];simp only[gW] at hl;change (match q.2.pc.ev Φ N (ρ.join (jV q.1 q.2.mr) (je ids q.1 q.2.mo) ρ1) with|some (.next ρ')=>_|y=>y)=some x at hl;cases dv:q.2.pc.ev Φ N (ρ.join (jV q.1 q.2.mr) (je ids q.1 q.2.mo) ρ1) with
    |none=>rw[dv] at hl;simp at hl
    |some xi=>
     rw[dv] at hl;refine wpIn_mono (tH rm _ _ hs rd w0 σ0 wr _ xi a' w gi hC hY gV (jR.size.trans hn) hg dv) fun e a2 w' fu=>?_;have other:e≠.normal→xi=x→gx C w0 σ0 ids fn s rm wr a none q.2.ex x e a2 w':=by
         intro ay jS;subst jS;exact fu.mono (fun y hy=>hy) jR (fun e=>absurd e ay)
     cases e with
     |normal=>
      obtain⟨ρ2,S2,e1,e2,fb,gB⟩:=fu;subst e1;simp only at hl;refine ih ρ2 a2 w' (jR.trans fb) hl ?_
      have rB:Good C w0 σ0 (q.1.st ids) ρ2 (fun _=>False) a2 w':=by
       have:=gB.meet2 (x:=q.1)
       rwa [yV S2 e2] at this
      refine rB.joined (mr':=jV q.1 q.2.mr++q.2.pc.modR) (mo':=je ids q.1 q.2.mo++q.2.pc.modO) ?_ (fun t ht=>?_) (fun j hj=>?_)
      ·exact((Env.but.join ρ ρ1 _ _).mono (fun t ht=>gJ _ ht) (fun t ht=>gJ _ ht)).trans
        ((PC.ev_but q.2.pc _ _ ρ2 dv rfl).mono (fun t ht=>ia _ ht) (fun t ht=>ia _ ht))
      ·exact(dy.1 ht).elim HJ (p7.1 t)
      ·exact(dy.1 hj).elim zo (p7.2 j)
     |exit id=>
      refine other (by simp) ?_;obtain⟨ρ1,S2,e1,_⟩:=fu;subst e1;simpa using hl
     |ret=>
      refine other (by simp) ?_;cases rm with
      |false=>obtain⟨d,e1,_⟩:=fu;subst e1;simpa using hl
      |true=>obtain⟨ρ1,S2,e1,_⟩:=fu;subst e1;simpa using hl
     |_=>exact fu.elim
  exact wpIn_loop_rounds N (key N ρ a w (.refl _ _) he yX)
 |exit id=>
  intro rm S r h rd w0 σ0 wr ρ x a w gi hC hY gV hn hg he;simp only[comp] at h;cases ct:Nat.beq id cD<;>simp only[ct,cond_true,cond_false] at h
  case true=>cases h;exact absurd he (lR _ _ _ _)
  cases h;simp only[PC.ev,aQ] at he;subst he;exact wpIn_exit ⟨ρ,S,rfl,fun e=>by subst e;simp at ct,by simp,.refl _ _,hg⟩
 |ret=>
  intro rm S r h rd w0 σ0 wr ρ x a w gi hC hY gV hn hg he;simp only[comp] at h;cases rm<;>simp only[cond_true,cond_false] at h
  case true=>
   cases h;simp only[PC.ev,aQ] at he;subst he;exact wpIn_ret ⟨ρ,S,rfl,by simp,.refl _ _,hg⟩
  split at h
  ·rename_i e CL;cases h;simp only[PC.ev,aQ] at he;subst he;obtain⟨σ,own,hv,hi⟩:=hg;exact wpIn_ret ⟨_,rfl,Inv.retD hC (fun _=>rfl) (gi rfl).2 CL _ hi rfl,.refl _ _⟩
  ·cases h;exact absurd he (lR _ _ _ _)
 |rangeFunc g ps ca cb=>exact am0 dB (IH ca (by simp at hc;omega)) (IH cb (by simp at hc;omega))
 |_=>intro rm S r h rd w0 σ0 wr ρ x a w gi hC hY gV hn hg he;simp only[comp,aQ] at h;subst h;exact absurd he (lR _ _ _ _)
theorem ad3 {N:Nat}(dB:fI C Φ)(hR:JW C n ids Φ R)(c:Code):uK C Φ fn s n ids R N c:=ad4 dB hR _ c (Nat.lt_succ_self _)
end
end Cx
