/-
  Code: sequences, choices, blocks, loops.
-/
import Derived.LoopNIn
import Derived.Test.YtehiffddpebpkaaGreatDoorKAE
import Derived.LoopN
set_option linter.unusedSimpArgs false
set_option linter.unusedVariables false
namespace Cx
open Go Go.RowKit
def az (m t:Nat):Bool:= !Nat.beq (Nat.land 1 (Nat.shiftRight m t)) 0
theorem qX (m t:Nat):az m t=m.testBit t:=by
 unfold az Nat.testBit
 show(!Nat.beq (1&&& (m>>>t)) 0)=((1&&& (m>>>t))!=0)
 generalize 1&&& (m>>>t)=x
 cases x<;>rfl
def jH (t:Nat):Nat:=Nat.shiftLeft 1 t
theorem fY (t:Nat):az (jH t) t=true:=by
 rw[qX];show(1<<<t).testBit t=true
 simp[Nat.testBit_shiftLeft]
theorem bj (m k t:Nat):az (Nat.lor m k) t=(az m t||az k t):=by
 simp only[qX];exact Nat.testBit_or m k t
def PI.mask:PI→Nat
 |.setR t _=>jH t|.call _ t _ _=>jH t|.callc _ t _ _=>jH t|_=>0
def Zt:List PI→Nat
 |[]=>0
 |p::l=>Nat.lor p.mask (Zt l)
def PI.objs:PI→List Nat
 |.setO j _=>[j]|.mcall j _ _=>[j]|_=>[]
def oB (l:List Nat)(x:Nat):Bool:=l.any (Nat.beq x)
def fy (a b:List Nat):List Nat:=a.foldl (fun acc x=>bif oB acc x then acc else x::acc) b
def aep (l:List PI):List Nat:=l.foldl (fun acc p=>fy p.objs acc) []
theorem lg (l:List Nat)(x:Nat):oB l x=true↔x∈l:=by
 unfold oB
 rw[List.any_eq_true]
 constructor
 ·rintro⟨y,hy,h⟩;rw[Nat.eq_of_beq_eq_true h];exact hy
 ·intro h;exact⟨x,h,Nat.beq_refl x⟩
theorem mem_unionL {x:Nat}:∀{a b:List Nat},x∈fy a b↔x∈a∨x∈b
 |[],b=>by simp[fy]
 |y::a,b=>by
  have ih:=@mem_unionL x a (bif oB b y then b else y::b)
  have e:fy (y::a) b=fy a (bif oB b y then b else y::b):=rfl
  rw[e,ih]
  cases hb:oB b y
  ·simp[or_assoc,or_left_comm]
  ·have:=(lg b y).1 hb
   simp only[cond_true,List.mem_cons]
   constructor
   ·rintro(h|h)
    ·exact .inl (.inr h)
    ·exact .inr h
   ·rintro((h|h)|h)
    ·subst h;exact .inr this
    ·exact .inl h
    ·exact .inr h
theorem aaQ {x:Nat}(l:List PI)(h:x∈l.flatMap PI.modO):x∈aep l:=by
 have key:∀(l:List PI) (acc:List Nat),(x∈l.flatMap PI.modO∨x∈acc)→x∈l.foldl (fun acc p=>fy p.objs acc) acc:=by
  intro l
  induction l with
  |nil=>intro acc h;simpa using h
  |cons p l ih=>
   intro acc h
   refine ih _ ?_
   rw[List.flatMap_cons,List.mem_append] at h
   rcases h with(h|h)|h
   ·refine .inr (mem_unionL.2 (.inl ?_))
    cases p<;>simp_all [PI.modO,PI.objs]
   ·exact .inl h
   ·exact .inr (mem_unionL.2 (.inr h))
 exact key l [] (.inl h)
theorem WY {t:Nat}:∀(l:List PI),t∈l.flatMap PI.modR→az (Zt l) t=true
 |[],h=>by simp at h
 |p::l,h=>by
  rw[List.flatMap_cons,List.mem_append] at h
  simp only[Zt,bj,Bool.or_eq_true]
  rcases h with h|h
  ·left
   cases p<;>simp[PI.modR] at h<;>subst h<;>exact fY _
  ·exact .inr (WY l h)
structure Res2 where
 pc:PC
 out:Option Snap
 ex:List (Nat×Snap)
 mr:Nat
 mo:List Nat
 deriving Inhabited
def tu:Option Snap→Option Snap→Option Snap
 |none,x=>x
 |x,none=>x
 |some a,some b=>some (a.meet b)
def qf (id:Nat):List (Nat×Snap)→Option Snap→Option Snap
 |[],acc=>acc
 |x::l,acc=>qf id l (bif Nat.beq x.1 id then tu acc (some x.2) else acc)
def iter (step:Snap→Option Res2):Nat→Snap→Option (Snap×Res2)
 |0,_=>none
 |k+1,S=>(step S).bind fun r=>
  match r.out with
  |none=>some (S,r)
  |some T=>bif (S.meet T).beq S then some (S,r) else iter step k (S.meet T)
def lvR (S:Snap)(m:Nat):List Nat:=(List.range S.rs.length).filter fun t=>az m t&& !isNone (be (S.rs.getD t .none))
def lvO (ids:List Nat)(S:Snap)(l:List Nat):List Nat:=l.filter fun j=> !pM (cr ids S.os j)
def stuckR:Res2:=⟨.is [PU],none,[],0,[]⟩
theorem cw (Φ:aK)(N:Nat)(ρ:Env)(x:Out):stuckR.pc.ev Φ N ρ≠some x:=by
 intro h;simp[stuckR,PC.ev,PI.runs,PI.run,PU,PE.ev,D.b_bool] at h
theorem bf:(∀t,t∈stuckR.pc.modR→az stuckR.mr t=true)∧∀j,j∈stuckR.pc.modO→j∈stuckR.mo:=by
 constructor<;>intro t h<;>simp[stuckR,PC.modR,PC.modO,PI.modR,PI.modO,PU] at h
def dE:Code→List Nat
 |.region _ ops _=>ops.toList.filterMap (·.dst)
 |.seq a b=>dE a++dE b
 |.cond _ a b=>dE a++dE b
 |.block _ a=>dE a
 |.loop a=>dE a
 |_=>[]
def OD (l:List Nat):Nat:=l.foldr (fun t m=>Nat.lor (jH t) m) 0
def FM (m:Nat):Nat→List Sh→List Sh
 |_,[]=>[]
 |t,s::l=>(bif az m t then .none else s)::FM m (t+1) l
def Snap.mask (m:Nat)(S:Snap):Snap:=⟨FM m 0 S.rs,S.os⟩
def FN:Sh→Sh
 |.yv=>.none
 |s=>s
def CL:List Nat→List Ty→List Sh→List Sh
 |p::ps,y::ys,l=>CL ps ys (l.set p (.dat y))
 |_,_,l=>l
def Snap.start (ps:List Nat)(ys:List Ty)(S:Snap):Snap:=⟨CL ps ys (S.rs.map FN),S.os⟩
def agH (ids:List Nat)(l:List Snap)(mo:List Nat):List Nat:=mo.filter fun j=>l.any fun S=> !pM (cr ids S.os j)
def afj (wm:Nat)(ra rb:Res2):Res2:=
 let m:=Nat.lor wm (Nat.lor ra.mr rb.mr)
 ⟨.seq ra.pc rb.pc,rb.out.map (Snap.mask m),rb.ex.map (fun x=>(x.1,x.2.mask m)),m,fy ra.mo rb.mo⟩
def dm (ids:List Nat)(id:Nat)(r:Res2):Res2:=
    match qf id r.ex r.out with
    |some M=>⟨.block id (lvR M r.mr) (lvO ids M r.mo) r.pc,some M,r.ex.filter fun x=> !Nat.beq x.1 id,r.mr,r.mo⟩
    |none=>⟨.block id [] [] r.pc,none,r.ex.filter fun x=> !Nat.beq x.1 id,r.mr,r.mo⟩
def zt:List (Nat×Nat)→Nat→Option Nat
 |[],_=>none
 |x::l,t=>bif Nat.beq x.1 t then some x.2 else zt l t
def ez (pr:Nat):List Oper→List (Nat×Nat)→Option (List (Nat×Nat))
 |[],acc=>some acc
 |o::l,acc=>
  match o.dst,o.guard with
  |some d,none=>
   bif Nat.beq d pr||(zt acc d).isSome then none else
   match o.op with
   |.extract (.tmp t) i=>bif Nat.beq t pr&&Nat.ble i 1 then ez pr l (acc++[(d,i)]) else none
   |.assign (.tmp t)=>(zt acc t).bind fun i=>ez pr l (acc++[(d,i)])
   |.move (.tmp t)=>(zt acc t).bind fun i=>ez pr l (acc++[(d,i)])
   |_=>none
  |_,_=>none
structure MP where
 it:Nat
 nx:Nat
 mo:Nat
 out:Nat
 next:Nat
 pr:Nat
 ops1:Array Oper
 ops2:Array Oper
 as:List (Nat×Nat)
 deriving Inhabited
def JB (x y:Code)(k:Nat)(z:Code):Option MP:=
 match x,y,z with
 |.region _ ops1 false,.cond (.tmp mo) .skip (.exit out),.region _ ops2 false=>
  match ops1.toList,ops2.toList with
  |[o1,o2],o3::l=>
   match o1.dst,o1.guard,o1.op,o2.dst,o2.guard,o2.op,o3.dst,o3.guard,o3.op with
   |some nx,none,.next (.tmp it) false,some mo',none,.extract (.tmp nx') 0,some pr,none,.entry (.tmp it')=>
    bif Nat.beq mo mo'&&Nat.beq nx nx'&&Nat.beq it it'&& !Nat.beq it nx&& !Nat.beq it mo&& !Nat.beq it pr&& !Nat.beq nx mo&& !Nat.beq out bq&& !Nat.beq k bq then
     (ez pr l []).map fun as=>⟨it,nx,mo,out,k,pr,ops1,ops2,as⟩
    else none
   |_,_,_,_,_,_,_,_,_=>none
  |_,_=>none
 |_,_,_=>none
def P9:List Nat→Nat→List Ob→List Ob
 |i::is,J,o::os=>(bif Nat.beq i J then .dead else o)::P9 is J os
 |_,_,os=>os
def Snap.kill (ids:List Nat)(J:Nat)(S:Snap):Snap:=⟨S.rs,P9 ids J S.os⟩
def agT (J:Nat)(kt et:Ty)(ids:List Nat)(p:MP)(m:Nat)(S:Snap):Bool:=
 Sh.beq (S.rs.getD p.it .none) (.obj J 0)&&Ob.beq (cr ids S.os J) (.it kt et)&& !az m p.it
def Js (ids:List Nat)(n:Nat)(p:MP)(ws:List Nat)(f:Snap→Option Res2)(S:Snap):Option Res2:=
 match be (S.rs.getD p.it .none) with
 |.obj J 0=>
  match cr ids S.os J with
  |.it kt et=>
   let ps:=p.as.map (·.1)
   let ys:=p.as.map fun x=>bif Nat.beq x.2 0 then kt else et
   let m:=OD ws
   match iter (fun S=>(f ((S.mask m).start ps ys)).map (dm ids p.next)) 8 S with
   |some r=>
    bif r.2.ex.isEmpty&& !oB r.2.mo J&&agT J kt et ids p m r.1&&gi ps&&ps.all (fun t=>Nat.blt t n)&&Nat.blt p.nx n&&Nat.blt p.mo n&&Nat.blt p.pr n&&Nat.beq (Nat.lor m r.2.mr) m then
       some ⟨.seq (.meach J ps (p.as.map (·.2)) (lvO ids r.1 r.2.mo) r.2.pc) (.exit p.out),none,[(p.out,(r.1.mask m).kill ids J)],0,r.2.mo⟩
    else some stuckR
   |none=>some stuckR
  |_=>some stuckR
 |_=>some stuckR
def comp (C:Ctx)(fn:Func)(s:Sig)(n:Nat)(ids:List Nat)(R:Array Oper→Bool→Snap→Option (Snap×List PI)):Bool→Code→Snap→Option Res2
 |_,.skip,S=>some ⟨.skip,some S,[],0,[]⟩
 |_,.region _ ops draw,S=>(R ops draw S).map fun r=>⟨.is r.2,some r.1,[],Zt r.2,aep r.2⟩
 |rm,.seq a b,S=>(comp C fn s n ids R rm a S).bind fun r=>
  match r.out with
  |none=>some r
  |some S1=>(comp C fn s n ids R rm b S1).map fun q=>⟨.seq r.pc q.pc,q.out,r.ex++q.ex,Nat.lor r.mr q.mr,fy r.mo q.mo⟩
 |rm,.cond c a b,S=>
  match use C (S.st ids) [] c with
  |some (.bool,e)=>
   (comp C fn s n ids R rm a S).bind fun r=>(comp C fn s n ids R rm b S).map fun q=>
     match tu r.out q.out with
     |some M=>⟨.ite e (lvR M (Nat.lor r.mr q.mr)) (lvO ids M (fy r.mo q.mo)) r.pc q.pc,some M,r.ex++q.ex,Nat.lor r.mr q.mr,fy r.mo q.mo⟩
     |none=>⟨.ite e [] [] r.pc q.pc,none,r.ex++q.ex,Nat.lor r.mr q.mr,fy r.mo q.mo⟩
  |_=>some stuckR
 |rm,.block id a,S=>bif Nat.beq id bq then some stuckR else(comp C fn s n ids R rm a S).map (dm ids id)
 |rm,.loop (.seq x (.seq y (.block k (.seq z code)))),S=>
  (match JB x y k z with
  |some p=>Js ids n p (dE x++(dE y++(dE z++dE code))) (fun S=>comp C fn s n ids R rm code S) S
  |none=>
  match iter (fun S=>comp C fn s n ids R rm (.seq x (.seq y (.block k (.seq z code)))) S) 8 S with
  |some r=>some ⟨.loop (lvR r.1 r.2.mr) (lvO ids r.1 r.2.mo) r.2.pc,none,r.2.ex,r.2.mr,r.2.mo⟩
  |none=>some stuckR)
 |rm,.loop a,S=>
  match iter (fun S=>comp C fn s n ids R rm a S) 8 S with
  |some r=>some ⟨.loop (lvR r.1 r.2.mr) (lvO ids r.1 r.2.mo) r.2.pc,none,r.2.ex,r.2.mr,r.2.mo⟩
  |none=>some stuckR
 |_,.exit id,S=>bif Nat.beq id bq then some stuckR else some ⟨.exit id,none,[(id,S)],0,[]⟩
 |rm,.ret,S=>
  bif rm then some ⟨.exit bq,none,[(bq,S)],0,[]⟩ else
  match Pf C fn s (S.st ids) with
  |some e=>some ⟨.ret e,none,[],0,[]⟩
  |none=>some stuckR
 |rm,.rangeFunc g ps a b,S=>
  match rm,C.yl,use C (S.st ids) [] g with
  |false,none,some (.fn as r,e)=>
   match G8 as r with
   |some ys=>
    match iter (fun S=>(comp C fn s n ids R true a (S.start ps.toList ys)).bind fun ra=>
          match ra.out,ra.ex with
          |some S1,[]=>(comp C fn s n ids R true b S1).map (afj (OD (ps.toList++dE a++dE b)) ra)
          |_,_=>none) 8 S with
    |some r=>
     bif Nat.beq ys.length ps.size&&gi ps.toList&&ps.toList.all (fun p=>Nat.blt p n)&&Nat.ble r.1.rs.length n then
           some ⟨.seq (.is [.callc [] n e []]) (.each (.r n) ps.toList (agH ids (r.1::r.2.ex.map (·.2)) r.2.mo) ((qf bq r.2.ex none).bind fun M=>Pf C fn s (M.st ids)) r.2.pc),
            some r.1,r.2.ex.filter (fun x=> !Nat.beq x.1 bq),jH n,r.2.mo⟩
     else some stuckR
    |none=>some stuckR
   |none=>some stuckR
  |_,_,_=>some stuckR
 |_,_,_=>some stuckR
termination_by structural _ c=>c
def wB:Code→Option (MP×Code×List Nat)
 |.seq x (.seq y (.block k (.seq z code)))=>(JB x y k z).map fun p=>(p,code,dE x++(dE y++(dE z++dE code)))
 |_=>none
theorem Tb (C:Ctx)(fn:Func)(s:Sig)(n:Nat)(ids:List Nat)(R:Array Oper→Bool→Snap→Option (Snap×List PI))(rm:Bool)(a:Code)(S:Snap):comp C fn s n ids R rm (.loop a) S=
 match wB a with
 |some q=>Js ids n q.1 q.2.2 (fun S=>comp C fn s n ids R rm q.2.1 S) S
 |none=>
  match iter (fun S=>comp C fn s n ids R rm a S) 8 S with
  |some r=>some ⟨.loop (lvR r.1 r.2.mr) (lvO ids r.1 r.2.mo) r.2.pc,none,r.2.ex,r.2.mr,r.2.mo⟩
  |none=>some stuckR:=by
 by_cases h:∃x y k z code,a=.seq x (.seq y (.block k (.seq z code)))
 ·obtain⟨x,y,k,z,code,rfl⟩:=h
  conv=>lhs;unfold comp
  simp only[wB]
  cases JB x y k z<;>rfl
 ·have e:wB a=none:=by
   unfold wB
   split
   ·rename_i x y k z code;exact absurd ⟨x,y,k,z,code,rfl⟩ h
   ·rfl
  rw[e]
  rw[comp]
  intro x y k z code e;exact h ⟨x,y,k,z,code,e⟩
def subs:Code→List Code
 |.seq a b=>.seq a b::(subs a++subs b)
 |.cond c a b=>.cond c a b::(subs a++subs b)
 |.block i a=>.block i a::subs a
 |.loop a=>.loop a::subs a
 |.rangeFunc g ps a b=>.rangeFunc g ps a b::(subs a++subs b)
 |c=>[c]
theorem abd (c:Code):c∈subs c:=by cases c<;>simp[subs]
theorem aes {a code:Code}{p:MP}{ws:List Nat}(h:wB a=some (p,code,ws)):code∈subs a:=by
 unfold wB at h
 split at h
 ·simp only[Option.map_eq_some_iff] at h
  obtain⟨q,_,e⟩:=h
  cases e
  simp[subs,abd]
 ·cases h
def abY (C:Ctx)(n:Nat)(ids:List Nat)(Φ:aK)(R:Array Oper→Bool→Snap→Option (Snap×List PI)):Prop:=
 ∀(id:Nat) (ops:Array Oper) (draw:Bool) (S:Snap) (r:Snap×List PI),R ops draw S=some r→
  ∀(rd:Option Nat) (w0:World) (σ0:Base) (ρ ρ':Env) (a:Act) (w:World) (Q:Exit→Act→World→Prop),CtxOK C σ0→gS C Φ w0 σ0→a.tmps.size=n→Good C w0 σ0 (S.st ids) ρ (fun _=>False) a w→PI.runs Φ r.2 ρ=some ρ'→
   (∀a' w',SameBut (BZ ops) a a'→Good C w0 σ0 (r.1.st ids) ρ' (fun _=>False) a' w'→Q .normal a' w')→(Code.region id ops draw).wpIn (FR rd) 0 C.P Q a w
section
variable {C:Ctx} {ρ ρ':Env} {σ:Im} {own:Nat→Option Nat} {hv:Nat→Value} {w0:World} {σ0:Base} {A:Nat→Prop} {a:Act} {w:World} {Φ:aK} {n:Nat} {ids:List Nat} {fn:Func} {s:Sig}
 {R:Array Oper→Bool→Snap→Option (Snap×List PI)}
def OutOK (C:Ctx)(w0:World)(σ0:Base)(ids:List Nat)(fn:Func)(s:Sig)(rm:Bool)(wr:Nat→Prop)(a0:Act)(out:Option Snap)(ex:List (Nat×Snap))(x:Out):Exit→Act→World→Prop
 |.normal,a,w=>∃ρ S,x=.next ρ∧out=some S∧SameBut wr a0 a∧Good C w0 σ0 (S.st ids) ρ (fun _=>False) a w
 |.exit id,a,w=>∃ρ S,x=.exit id ρ∧id≠bq∧(id,S)∈ex∧SameBut wr a0 a∧Good C w0 σ0 (S.st ids) ρ (fun _=>False) a w
 |.ret,a,w=>match rm with
  |false=>∃d,x=.ret d∧RetD C w0 σ0 fn s d a.tmps a.defers w∧SameBut wr a0 a
  |true=>∃ρ S,x=.exit bq ρ∧(bq,S)∈ex∧SameBut wr a0 a∧Good C w0 σ0 (S.st ids) ρ (fun _=>False) a w
 |_,_,_=>False
theorem Good.meet1 {x y:Snap}(h:Good C w0 σ0 (x.st ids) ρ A a w):Good C w0 σ0 ((x.meet y).st ids) ρ (fun _=>False) a w:=by
 obtain⟨σ,own,hv,h⟩:=h
 exact⟨σ,own,hv,Snap.meet_ok1 h⟩
theorem Good.meet2 {x y:Snap}(h:Good C w0 σ0 (y.st ids) ρ A a w):Good C w0 σ0 ((x.meet y).st ids) ρ (fun _=>False) a w:=by
 obtain⟨σ,own,hv,h⟩:=h
 exact⟨σ,own,hv,Snap.meet_ok2 h⟩
theorem R6 {x:Snap}{y:Option Snap}{M:Snap}(h:Good C w0 σ0 (x.st ids) ρ (fun _=>False) a w)(hm:tu (some x) y=some M):Good C w0 σ0 (M.st ids) ρ (fun _=>False) a w:=by
 cases y<;>simp[tu] at hm<;>subst hm
 ·exact h
 ·exact h.meet1
theorem Sm {x:Option Snap}{y:Snap}{M:Snap}(h:Good C w0 σ0 (y.st ids) ρ (fun _=>False) a w)(hm:tu x (some y)=some M):Good C w0 σ0 (M.st ids) ρ (fun _=>False) a w:=by
 cases x<;>simp[tu] at hm<;>subst hm
 ·exact h
 ·exact h.meet2
theorem Kk {x:Snap}{y:Option Snap}:∃M,tu (some x) y=some M:=by cases y<;>simp[tu]
theorem Kd {x:Option Snap}{y:Snap}:∃M,tu x (some y)=some M:=by cases x<;>simp[tu]
theorem wM {id:Nat}:∀(l:List (Nat×Snap)) {x:Snap},Good C w0 σ0 (x.st ids) ρ (fun _=>False) a w→∃M,qf id l (some x)=some M∧Good C w0 σ0 (M.st ids) ρ (fun _=>False) a w
 |[],x,h=>⟨x,rfl,h⟩
 |y::l,x,h=>by
  simp only[qf]
  cases Nat.beq y.1 id
  ·exact wM l h
  ·obtain⟨M,hM⟩:=@Kk x (some y.2)
   simp only[cond_true,hM]
   exact wM l (R6 h hM)
theorem Jx {id:Nat}{S:Snap}(h:Good C w0 σ0 (S.st ids) ρ (fun _=>False) a w):∀(l:List (Nat×Snap)) (x:Option Snap),(id,S)∈l→∃M,qf id l x=some M∧Good C w0 σ0 (M.st ids) ρ (fun _=>False) a w
 |y::l,x,hm=>by
  simp only[qf]
  rcases List.mem_cons.1 hm with e|hm
  ·subst e
   simp only[Nat.beq_refl,cond_true]
   obtain⟨M,hM⟩:=@Kd x S
   rw[hM]
   exact wM l (Sm h hM)
  ·exact Jx h l _ hm
theorem vG {step:Snap→Option Res2}:∀(k:Nat) {S:Snap} {r:Snap×Res2},iter step k S=some r→
 step r.1=some r.2∧(∀T,r.2.out=some T→r.1.meet T=r.1)∧∀{ρ:Env} {a:Act} {w:World},Good C w0 σ0 (S.st ids) ρ (fun _=>False) a w→Good C w0 σ0 (r.1.st ids) ρ (fun _=>False) a w
 |0,S,r,h=>by simp[iter] at h
 |k+1,S,r,h=>by
  simp only[iter,Option.bind_eq_some_iff] at h
  obtain⟨q,hq,h⟩:=h
  split at h
  ·rename_i ho
   cases h
   exact⟨hq,fun T hT=>by simp[ho] at hT,fun g=>g⟩
  ·rename_i T ho
   cases hb:(S.meet T).beq S<;>simp only[hb,cond_true,cond_false] at h
   ·obtain⟨h1,h2,h3⟩:=vG k h
    exact⟨h1,h2,fun g=>h3 g.meet1⟩
   ·cases h
    refine⟨hq,fun T' hT=>?_,fun g=>g⟩
    simp only[ho,Option.some.injEq] at hT
    subst hT
    exact Snap.beq_eq _ _ hb
theorem U8 {step:Snap→Option Res2}{hv:Nat→Value}:∀(k:Nat) {S:Snap} {r:Snap×Res2},iter step k S=some r→Inv C (S.st ids) ρ σ own hv w0 σ0 (fun _=>False) a w→Inv C (r.1.st ids) ρ σ own hv w0 σ0 (fun _=>False) a w
 |0,S,r,h,_=>by simp[iter] at h
 |k+1,S,r,h,i=>by
  simp only[iter,Option.bind_eq_some_iff] at h
  obtain⟨q,hq,h⟩:=h
  split at h
  ·cases h;exact i
  ·rename_i T ho
   cases hb:(S.meet T).beq S<;>simp only[hb,cond_true,cond_false] at h
   ·exact U8 k h (Snap.meet_ok1 i)
   ·cases h;exact i
theorem Good.joined {M:Snap}{m:Nat}{mo mr' mo':List Nat}(h:Good C w0 σ0 (M.st ids) ρ' (fun _=>False) a w)(hb:ρ.but ρ' mr' mo')(h1:∀t,t∈mr'→az m t=true)(h2:∀j,j∈mo'→j∈mo):
 Good C w0 σ0 (M.st ids) (ρ.join (lvR M m) (lvO ids M mo) ρ') (fun _=>False) a w:=by
 obtain⟨σ,own,hv,h⟩:=h
 refine⟨σ,own,hv,h.env (Snap.noOpt _ _) (fun t ht=>?_) (fun j hj=>?_)⟩
 ·simp only[Env.join,Env.put,lz]
  split
  ·rfl
  ·rename_i hm
   refine(hb.r t fun hmr=>hm ?_).symm
   have hlt:t<M.rs.length:=by
        refine Nat.lt_of_not_le fun hle=>?_
        simp only[Snap.st,List.getD_eq_getElem?_getD,List.getElem?_eq_none hle,Option.getD_none,be,isNone] at ht
        cases ht
   exact List.mem_filter.2 ⟨List.mem_range.2 hlt,by rw[h1 t hmr];simpa [Snap.st] using ht⟩
 ·simp only[Env.join,Env.put,lz]
  split
  ·rfl
  ·rename_i hm
   refine(hb.o j fun hmr=>hm ?_).symm
   exact List.mem_filter.2 ⟨h2 j hmr,by simpa [Snap.st] using hj⟩
theorem MX {S:Snap}{m t:Nat}(h:t∈lvR S m):az m t=true:=by
 have:=(List.mem_filter.1 h).2
 simp only[Bool.and_eq_true] at this
 exact this.1
theorem A8 {S:Snap}{l:List Nat}{j:Nat}(h:j∈lvO ids S l):j∈l:=(List.mem_filter.1 h).1
theorem OY {id:Nat}{q:Res2}(h:(∀t,t∈q.pc.modR→az q.mr t=true)∧∀j,j∈q.pc.modO→j∈q.mo):(∀t,t∈(dm ids id q).pc.modR→az (dm ids id q).mr t=true)∧∀j,j∈(dm ids id q).pc.modO→j∈(dm ids id q).mo:=by
 unfold dm
 cases hm:qf id q.ex q.out<;>simp only
 ·simpa [PC.modR,PC.modO] using h
 ·refine⟨fun t ht=>?_,fun j hj=>?_⟩
  ·simp only[PC.modR,List.mem_append] at ht
   exact ht.elim MX (h.1 t)
  ·simp only[PC.modO,List.mem_append] at hj
   exact hj.elim A8 (h.2 j)
theorem VI {p:MP}{ws:List Nat}{f:Snap→Option Res2}{S:Snap}{r:Res2}(h:Js ids n p ws f S=some r):(∀t,t∈r.pc.modR→az r.mr t=true)∧∀j,j∈r.pc.modO→j∈r.mo:=by
 unfold Js at h
 split at h
 case h_2=>cases h;exact bf
 split at h
 case h_2=>cases h;exact bf
 simp only at h
 split at h
 case h_2=>cases h;exact bf
 rw[Bool.cond_eq_ite] at h
 split at h
 ·cases h
  refine⟨fun t ht=>by simp[PC.modR] at ht,fun j hj=>?_⟩
  simp only[PC.modO,List.append_nil] at hj
  exact A8 hj
 ·cases h;exact bf
theorem kW:∀(c:Code) {rm:Bool} {S:Snap} {r:Res2},comp C fn s n ids R rm c S=some r→(∀t,t∈r.pc.modR→az r.mr t=true)∧∀j,j∈r.pc.modO→j∈r.mo:=by
 intro c
 induction c with
 |skip=>intro rm S r h;simp only[comp,Option.some.injEq] at h;subst h;simp[PC.modR,PC.modO]
 |region id ops draw=>
  intro rm S r h
  simp only[comp,Option.map_eq_some_iff] at h
  obtain⟨q,_,rfl⟩:=h
  exact⟨fun t ht=>WY _ ht,fun j hj=>aaQ _ hj⟩
 |seq x y ihx ihy=>
  intro rm S r h
  simp only[comp,Option.bind_eq_some_iff] at h
  obtain⟨q,hq,h⟩:=h
  split at h
  ·cases h;exact ihx hq
  ·simp only[Option.map_eq_some_iff] at h
   obtain⟨p,hp,rfl⟩:=h
   refine⟨fun t ht=>?_,fun j hj=>?_⟩
   ·simp only[PC.modR,List.mem_append] at ht
    rw[bj,Bool.or_eq_true]
    exact ht.imp ((ihx hq).1 t) ((ihy hp).1 t)
   ·simp only[PC.modO,List.mem_append] at hj
    rw[mem_unionL]
    exact hj.imp ((ihx hq).2 j) ((ihy hp).2 j)
 |cond c x y ihx ihy=>
  intro rm S r h
  simp only[comp] at h
  split at h
  case h_2=>cases h;exact bf
  rename_i e _
  simp only[Option.bind_eq_some_iff,Option.map_eq_some_iff] at h
  obtain⟨q,hq,p,hp,rfl⟩:=h
  cases hm:tu q.out p.out<;>simp only[hm]
  ·refine⟨fun t ht=>?_,fun j hj=>?_⟩
   ·simp only[PC.modR,List.mem_append,List.nil_append] at ht
    rw[bj,Bool.or_eq_true]
    exact ht.imp ((ihx hq).1 t) ((ihy hp).1 t)
   ·simp only[PC.modO,List.mem_append,List.nil_append] at hj
    rw[mem_unionL]
    exact hj.imp ((ihx hq).2 j) ((ihy hp).2 j)
  ·refine⟨fun t ht=>?_,fun j hj=>?_⟩
   ·simp only[PC.modR,List.mem_append] at ht
    rw[bj,Bool.or_eq_true]
    rcases ht with(ht|ht)|ht
    ·have:=MX ht;rw[bj,Bool.or_eq_true] at this;exact this
    ·exact .inl ((ihx hq).1 t ht)
    ·exact .inr ((ihy hp).1 t ht)
   ·simp only[PC.modO,List.mem_append] at hj
    rcases hj with(hj|hj)|hj
    ·exact A8 hj
    ·exact mem_unionL.2 (.inl ((ihx hq).2 j hj))
    ·exact mem_unionL.2 (.inr ((ihy hp).2 j hj))
 |block id x ihx=>
  intro rm S r h
  simp only[comp] at h
  cases hid:Nat.beq id bq<;>simp only[hid,cond_true,cond_false] at h
  case true=>cases h;exact bf
  simp only[Option.map_eq_some_iff] at h
  obtain⟨q,hq,rfl⟩:=h
  exact OY (ihx hq)
 |loop x ihx=>
  intro rm S r h
  rw[Tb] at h
  split at h
  ·exact VI h
  split at h
  case h_2=>cases h;exact bf
  rename_i q hq
  cases h
  have hs:=(vG (C:=C) (w0:=default) (σ0:=Base.mk0 ⟨fun _ _=>none,fun _=>none⟩ 0) (ids:=ids) 8 hq).1
  refine⟨fun t ht=>?_,fun j hj=>?_⟩
  ·simp only[PC.modR,List.mem_append] at ht
   exact ht.elim MX ((ihx hs).1 t)
  ·simp only[PC.modO,List.mem_append] at hj
   exact hj.elim A8 ((ihx hs).2 j)
 |exit id=>
  intro rm S r h
  simp only[comp] at h
  cases hid:Nat.beq id bq<;>simp only[hid,cond_true,cond_false] at h<;>cases h
  ·simp[PC.modR,PC.modO]
  ·exact bf
 |ret=>
  intro rm S r h
  simp only[comp] at h
  cases rm<;>simp only[cond_true,cond_false] at h
  case true=>cases h;simp[PC.modR,PC.modO]
  split at h
  ·cases h;simp[PC.modR,PC.modO]
  ·cases h;exact bf
 |rangeFunc g ps x y _ _=>
  intro rm S r h
  simp only[comp] at h
  split at h
  case h_2=>cases h;exact bf
  split at h
  case h_2=>cases h;exact bf
  split at h
  case h_2=>cases h;exact bf
  rename_i q hq
  rw[Bool.cond_eq_ite] at h
  split at h
  ·cases h
   refine⟨fun t ht=>?_,fun j hj=>?_⟩
   ·simp[PC.modR,PI.modR] at ht;subst ht;exact fY _
   ·simp only[PC.modO,PI.modO,List.flatMap_cons,List.flatMap_nil,List.append_nil,List.nil_append] at hj
    exact(List.mem_filter.1 hj).1
  ·cases h;exact bf
 |_=>intro rm S r h;simp only[comp,Option.some.injEq] at h;subst h;exact bf
theorem OutOK.mono {rm:Bool}{wr:Nat→Prop}{a0 a1:Act}{out out':Option Snap}{ex ex':List (Nat×Snap)}{x:Out}{e:Exit}(h:OutOK C w0 σ0 ids fn s rm wr a0 out ex x e a w)(he:∀y,y∈ex→y∈ex')(hs:SameBut wr a1 a0)
 (ho:e=.normal→out'=out):OutOK C w0 σ0 ids fn s rm wr a1 out' ex' x e a w:=by
 cases e with
 |normal=>obtain⟨ρ,S,h1,h2,h3,h4⟩:=h;exact⟨ρ,S,h1,by rw[ho rfl];exact h2,hs.trans h3,h4⟩
 |exit id=>obtain⟨ρ,S,h1,h2,h3,h4,h5⟩:=h;exact⟨ρ,S,h1,h2,he _ h3,hs.trans h4,h5⟩
 |ret=>
  cases rm with
  |false=>obtain⟨d,h1,h2,h3⟩:=h;exact⟨d,h1,h2,hs.trans h3⟩
  |true=>obtain⟨ρ,S,h1,h3,h4,h5⟩:=h;exact⟨ρ,S,h1,he _ h3,hs.trans h4,h5⟩
 |_=>exact h.elim
theorem SW {body:Env→Option Out}{ρ:Env}{ps lo:List Nat}{rt:Option PE}{x:Out}:∀{xs vo:List D},kQ body ρ ps lo rt xs vo=some x→
 ∃(m:Nat) (vos:Nat→List D),m≤xs.length∧vos 0=vo∧
  (∀i,i<m→∃y ρ',xs[i]?=some y∧body (ρ.put ps (partsOf ps y) lo (vos i))=some (.next ρ')∧lo.map ρ'.o=vos (i+1))∧
  ((m=xs.length∧x=.next (ρ.put [] [] lo (vos m)))∨
   (m<xs.length∧∃y id ρ',xs[m]?=some y∧body (ρ.put ps (partsOf ps y) lo (vos m))=some (.exit id ρ')∧
    ((id≠bq∧x=.exit id (ρ.put [] [] lo (lo.map ρ'.o)))∨(id=bq∧∃e,rt=some e∧x=.ret (e.ev (ρ.put [] [] lo (lo.map ρ'.o)))))))
 |[],vo,h=>by
  simp only[kQ,Option.some.injEq] at h
  exact⟨0,fun _=>vo,Nat.le_refl _,rfl,fun i hi=>by omega,.inl ⟨rfl,h.symm⟩⟩
 |y::xs,vo,h=>by
  simp only[kQ] at h
  split at h
  ·rename_i ρ' hb
   obtain⟨m,vos,h1,h2,h3,h4⟩:=SW h
   refine⟨m+1,fun i=>match i with|0=>vo|i+1=>vos i,by simp;omega,rfl,fun i hi=>?_,?_⟩
   ·cases i with
    |zero=>exact⟨y,ρ',rfl,hb,h2.symm⟩
    |succ i=>simpa using h3 i (by omega)
   ·rcases h4 with⟨e1,e2⟩|⟨e1,z,id,ρ2,e2,e3,e4⟩
    ·exact .inl ⟨by simp[e1],e2⟩
    ·exact .inr ⟨by simp;omega,z,id,ρ2,by simpa using e2,e3,e4⟩
  ·rename_i id ρ' hb
   refine⟨0,fun _=>vo,Nat.zero_le _,rfl,fun i hi=>by omega,.inr ⟨by simp,y,id,ρ',rfl,hb,?_⟩⟩
   cases hid:Nat.beq id bq<;>simp only[hid,cond_true,cond_false] at h
   ·refine .inl ⟨fun e=>?_,(Option.some.inj h).symm⟩
    subst e;simp at hid
   ·simp only[Option.map_eq_some_iff] at h
    obtain⟨e,he,e2⟩:=h
    exact .inr ⟨Nat.eq_of_beq_eq_true hid,e,he,e2.symm⟩
  ·cases h
theorem Pp {l:List Nat}{t:Nat}(h:t∈l):az (OD l) t=true:=by
 induction l with
 |nil=>cases h
 |cons x l ih=>
  have e:OD (x::l)=Nat.lor (jH x) (OD l):=rfl
  rw[e,bj]
  rcases List.mem_cons.1 h with e|e
  ·subst e;rw[fY];rfl
  ·rw[ih e];simp
theorem Ia (m:Nat):∀(l:List Sh) (k t:Nat),(FM m k l).getD t .none=if az m (k+t)=true then .none else l.getD t .none
 |[],k,t=>by simp[FM]
 |s::l,k,0=>by
  simp only[FM,List.getD_cons_zero,Nat.add_zero]
  cases az m k<;>rfl
 |s::l,k,t+1=>by
  simp only[FM,List.getD_cons_succ]
  rw[Ia m l (k+1) t,show k+1+t=k+(t+1) by omega]
theorem M7 (m:Nat)(S:Snap)(t:Nat):((S.mask m).st ids).r t=if az m t=true then .none else(S.st ids).r t:=by
 show be ((FM m 0 S.rs).getD t .none)=if az m t=true then .none else be (S.rs.getD t .none)
 rw[Ia,Nat.zero_add]
 split<;>rfl
theorem W9 {m:Nat}{x S:Snap}{t:Nat}(h:az m t=true):((x.meet (S.mask m)).st ids).r t=.none:=by
 show be ((List.zipWith fD x.rs (FM m 0 S.rs)).getD t .none)=.none
 rcases G4 (f:=fD) x.rs (FM m 0 S.rs) t with h0|⟨s,u,h1,h2,h3⟩
 ·rw[h0];rfl
 ·rw[Ia,Nat.zero_add,if_pos h] at h2
  subst h2
  rw[h3]
  cases s<;>rfl
theorem Inv.maskR {S:Snap}{hv:Nat→Value}(h:Inv C (S.st ids) ρ σ own hv w0 σ0 A a w)(m:Nat):Inv C ((S.mask m).st ids) ρ σ own hv w0 σ0 (fun _=>False) a w:=by
 have hc:Compat (S.st ids) hv ((S.mask m).st ids) hv:=⟨fun _=>Nat.le_refl _,fun _ _=>rfl⟩
 refine h.weaken (fun t=>?_) (fun j=>?_) (Snap.noOpt _ _) (fun j hj=>⟨hj,rfl⟩)
 ·refine CellOK.mono' (ρ:=ρ) (.refl σ) hc (Snap.noOpt _ _ t) ?_
  rw[M7]
  split
  ·trivial
  ·exact h.regs t
 ·exact(h.objs j).mono (.refl σ) hc rfl rfl (fun k hk=>⟨hk,rfl⟩)
theorem IT:∀(ps:List Nat) (ys:List Ty) (l:List Sh),ps.length=ys.length→gi ps=true→∀t,(CL ps ys l).getD t .none=.none∨(t∉ps∧(CL ps ys l).getD t .none=l.getD t .none)∨∃(i:Nat) (y:Ty),ps[i]?=some t∧ys[i]?=some y∧(CL ps ys l).getD t .none=.dat y
 |[],ys,l,_,_,t=>.inr (.inl ⟨by simp,by cases ys<;>rfl⟩)
 |p::ps,[],l,h,_,t=>by simp at h
 |p::ps,y::ys,l,h,hn,t=>by
  have hn':=aZ hn
  rw[List.nodup_cons] at hn'
  have hnb:gi ps=true:=by
   simp only[gi,Bool.and_eq_true] at hn;exact hn.2
  show(CL ps ys (l.set p (.dat y))).getD t .none=_∨_∨_
  rcases IT ps ys (l.set p (.dat y)) (by simpa using h) hnb t with e|⟨e1,e2⟩|⟨i,z,e1,e2,e3⟩
  ·exact .inl e
  ·by_cases hp:t=p
   ·subst hp
    by_cases hlt:t<l.length
    ·exact .inr (.inr ⟨0,y,rfl,rfl,by show(CL ps ys (l.set t (.dat y))).getD t .none=_;rw[e2];simp[List.getD_eq_getElem?_getD,hlt]⟩)
    ·left;rw[e2];simp[List.getD_eq_getElem?_getD,hlt]
   ·refine .inr (.inl ⟨by simp[hp,e1],?_⟩)
    show(CL ps ys (l.set p (.dat y))).getD t .none=_
    rw[e2]
    simp only[List.getD_eq_getElem?_getD,List.getElem?_set]
    rw[if_neg (fun e=>hp e.symm)]
  ·exact .inr (.inr ⟨i+1,z,by simpa using e1,by simpa using e2,e3⟩)
def tM:List Nat→List Value→Array Value→Array Value
 |p::ps,v::vs,T=>tM ps vs (T.setIfInBounds p v)
 |_,_,T=>T
theorem ab7 (ps:Array Nat)(vs:Array Value)(T:Array Value):(ps.zip vs).foldl (fun T x=>T.setIfInBounds x.1 x.2) T=tM ps.toList vs.toList T:=by
 rw[←Array.foldl_toList,Array.toList_zip]
 generalize ps.toList=l
 generalize vs.toList=k
 induction l generalizing k T with
 |nil=>rfl
 |cons p l ih=>
  cases k with
  |nil=>rfl
  |cons v k=>simpa [tM] using ih (T.setIfInBounds p v) k
theorem NU:∀(ps:List Nat) (vs:List Value) (T:Array Value),(tM ps vs T).size=T.size
 |[],vs,T=>by cases vs<;>rfl
 |p::ps,[],T=>rfl
 |p::ps,v::vs,T=>by simp[tM,NU ps vs]
theorem FY:∀(ps:List Nat) (vs:List Value) (T:Array Value) (t:Nat),t∉ps→(tM ps vs T).getD t undef=T.getD t undef
 |[],vs,T,t,_=>by cases vs<;>rfl
 |p::ps,[],T,t,_=>rfl
 |p::ps,v::vs,T,t,h=>by
  simp only[List.mem_cons,not_or] at h
  simp only[tM]
  rw[FY ps vs _ t h.2]
  simp only[Array.getD_eq_getD_getElem?,Array.getElem?_setIfInBounds]
  rw[if_neg (fun e=>h.1 e.symm)]
theorem SZ:∀(ps:List Nat) (vs:List Value) (T:Array Value) (i t:Nat),ps.Nodup→ps.length=vs.length→(∀p,p∈ps→p<T.size)→ps[i]?=some t→(tM ps vs T).getD t undef=vs.getD i undef
 |p::ps,v::vs,T,0,t,hn,hl,hlt,h=>by
  simp at h;subst h
  rw[List.nodup_cons] at hn
  simp only[tM]
  rw[FY ps vs _ p hn.1]
  simp[Array.getElem?_setIfInBounds,hlt p (List.mem_cons_self ..)]
 |p::ps,v::vs,T,i+1,t,hn,hl,hlt,h=>by
  rw[List.nodup_cons] at hn
  simp only[tM]
  have:=SZ ps vs (T.setIfInBounds p v) i t hn.2 (by simpa using hl) (fun q hq=>by simpa using hlt q (List.mem_cons_of_mem _ hq)) (by simpa using h)
  simpa using this
 |p::ps,[],T,i,t,hn,hl,hlt,h=>by simp at hl
 |[],vs,T,i,t,hn,hl,hlt,h=>by simp at h
theorem A2 (f:Nat→D):∀(ps:List Nat) (vs:List D) (t:Nat),t∉ps→putL f ps vs t=f t
 |[],vs,t,_=>by cases vs<;>rfl
 |p::ps,[],t,_=>rfl
 |p::ps,v::vs,t,h=>by
  simp only[List.mem_cons,not_or] at h
  simp only[putL,aC _ _ h.1]
  exact A2 f ps vs t h.2
theorem PN (f:Nat→D):∀(ps:List Nat) (vs:List D) (i t:Nat),ps.Nodup→ps.length=vs.length→ps[i]?=some t→putL f ps vs t=vs.getD i .none
 |p::ps,v::vs,0,t,hn,hl,h=>by
  simp at h;subst h
  simp[putL,ao]
 |p::ps,v::vs,i+1,t,hn,hl,h=>by
  rw[List.nodup_cons] at hn
  have ht:t∈ps:=List.mem_of_getElem? (by simpa using h)
  have hne:t≠p:=fun e=>hn.1 (e▸ht)
  simp only[putL,aC _ _ hne]
  have:=PN f ps vs i t hn.2 (by simpa using hl) (by simpa using h)
  simpa using this
 |p::ps,[],i,t,hn,hl,h=>by simp at hl
 |[],vs,i,t,hn,hl,h=>by simp at h
theorem Wb (ps:List Nat)(ds:List D)(i:Nat)(h:i<ps.length):(partsOf ps (.tup ds)).getD i .none=ds.getD i .none:=by
 simp[partsOf,List.getD_eq_getElem?_getD,h,D.tget]
theorem Ww (ps:List Nat)(x:D):(partsOf ps x).length=ps.length:=by simp[partsOf]
theorem Inv.startR {S:Snap}{hv:Nat→Value}(h:Inv C (S.st ids) ρ σ own hv w0 σ0 A a w){ps:List Nat}{ys:List Ty}{args:List Value}{ds:List D}{lo:List Nat}{vo:List D}(hl:ps.length=ys.length)(hnd:gi ps=true)(hlt:∀p,p∈ps→p<a.tmps.size)(ha:uK C σ ys args ds)
 (hρ:ρ=ρ'.put [] [] lo vo):Inv C ((S.start ps ys).st ids) (ρ'.put ps (partsOf ps (.tup ds)) lo vo) σ own hv w0 σ0 (fun _=>False) {tmps:=tM ps args a.tmps,defers:=[]} w:=by
 obtain⟨a1,a2,a3⟩:=ha
 have hn:=aZ hnd
 have hc:Compat (S.st ids) hv ((S.start ps ys).st ids) hv:=⟨fun _=>Nat.le_refl _,fun _ _=>rfl⟩
 have ho:∀j,(ρ'.put ps (partsOf ps (.tup ds)) lo vo).o j=ρ.o j:=fun j=>by rw[hρ];rfl
 refine⟨trivial,h.ok,h.le,h.old,h.newc,h.newm,h.below,h.bw,h.owns,fun t=>?_,fun j=>(h.objs j).mono (.refl σ) hc rfl (ho j) (fun k hk=>⟨hk,rfl⟩),fun t gs s e=>absurd e (Snap.noOpt _ _ t gs s),?_⟩
 ·show CellOK C _ _ σ hv (be ((CL ps ys (S.rs.map FN)).getD t .none)) ((tM ps args a.tmps).getD t undef) (putL ρ'.r ps (partsOf ps (.tup ds)) t)
  rcases IT ps ys (S.rs.map FN) hl hnd t with e|⟨e1,e2⟩|⟨i,y,e1,e2,e3⟩
  ·rw[e];trivial
  ·rw[e2,FY _ _ _ _ e1,A2 _ _ _ _ e1]
   have hr:=h.regs t
   change CellOK C _ ρ σ hv (be (S.rs.getD t .none)) _ _ at hr
   have hρr:ρ.r t=ρ'.r t:=by rw[hρ];show putL ρ'.r [] [] t=_;rfl
   rw[hρr] at hr
   have e3:(S.rs.map FN).getD t .none=FN (S.rs.getD t .none):=by
        simp only[List.getD_eq_getElem?_getD,List.getElem?_map]
        cases S.rs[t]?<;>rfl
   rw[e3]
   generalize S.rs.getD t .none=s at hr
   cases s with
   |yv=>trivial
   |opt gs s=>trivial
   |none=>trivial
   |fclo f c=>exact CellOK.mono' (.refl σ) hc (fun _ _ e=>by cases e) hr
   |dat t=>exact hr
   |obj j v=>exact CellOK.mono' (.refl σ) hc (fun _ _ e=>by cases e) hr
   |ptr j v o=>exact CellOK.mono' (.refl σ) hc (fun _ _ e=>by cases e) hr
   |eptr j v o q=>exact CellOK.mono' (.refl σ) hc (fun _ _ e=>by cases e) hr
  ·rw[e3]
   have hi:i<ps.length:=(List.getElem?_eq_some_iff.1 e1).1
   rw[SZ ps args a.tmps i t hn (by omega) hlt e1,PN _ ps _ i t hn (by rw[Ww]) e1,Wb _ _ _ hi]
   exact a3 i y e2
 ·obtain⟨t,fx,cx,h1,h2⟩:=h.frame
  exact⟨t,fx,cx,h1,fun j hj=>⟨(h2 j hj).1,by rw[ho j];exact(h2 j hj).2⟩⟩
def Ex (C:Ctx)(Φ:aK)(fn:Func)(s:Sig)(n:Nat)(ids:List Nat)(R:Array Oper→Bool→Snap→Option (Snap×List PI))(N:Nat)(c:Code):Prop:=
 ∀(rm:Bool) (S:Snap) (r:Res2),comp C fn s n ids R rm c S=some r→∀(rd:Option Nat) (w0:World) (σ0:Base) (wr:Nat→Prop) (ρ:Env) (x:Out) (a:Act) (w:World),(rm=false→rd=none∧σ0.fin)→CtxOK C σ0→gS C Φ w0 σ0→(∀t,t∈dE c→wr t)→a.tmps.size=n→
  Good C w0 σ0 (S.st ids) ρ (fun _=>False) a w→r.pc.ev Φ N ρ=some x→c.wpIn (FR rd) 0 C.P (OutOK C w0 σ0 ids fn s rm wr a r.out r.ex x) a w
structure Seg (σ:Im) (own:Nat→Option Nat) (w:World) (σ':Im) (own':Nat→Option Nat) (w':World):Prop where
 le:σ.le σ'
 below:Below 0 w w'
 same:∀k,k<w.heap.size→own k=none→w'.heap[k]?=w.heap[k]?
 ow:∀k j,own' k=some j→(∃i,own k=some i)∨w.heap.size≤k
 imm:∀k,((∃o x,σ'.c k o=some x)∨∃x,σ'.m k=some x)→(∃o x,σ.c k o=some x)∨(∃x,σ.m k=some x)∨(∃i,own k=some i)∨w.heap.size≤k
structure Free (L:Nat) (σ:Im) (own:Nat→Option Nat):Prop where
 own:own L=none
 c:∀o,σ.c L o=none
 m:σ.m L=none
theorem Free.seg {L:Nat}{σ':Im}{own':Nat→Option Nat}{w':World}(h:Free L σ own)(hL:L<w.heap.size)(k:Seg σ own w σ' own' w'):Free L σ' own':=by
 have himm:¬((∃o x,σ'.c L o=some x)∨∃x,σ'.m L=some x):=fun e=>by
  rcases k.imm L e with⟨o,x,e⟩|⟨x,e⟩|⟨i,e⟩|e
  ·rw[h.c o] at e;cases e
  ·rw[h.m] at e;cases e
  ·rw[h.own] at e;cases e
  ·omega
 refine⟨?_,fun o=>?_,?_⟩
 ·cases e:own' L with
  |none=>rfl
  |some j=>
   rcases k.ow L j e with⟨i,e⟩|e
   ·rw[h.own] at e;cases e
   ·omega
 ·cases e:σ'.c L o with
  |none=>rfl
  |some x=>exact absurd (.inl ⟨o,x,e⟩) himm
 ·cases e:σ'.m L with
  |none=>rfl
  |some x=>exact absurd (.inr ⟨x,e⟩) himm
def ahH (C:Ctx)(w0:World)(σ0:Base)(ids:List Nat)(wr:Nat→Prop)(a0:Act)(σ:Im)(own:Nat→Option Nat)(w:World)(out:Option Snap)(ex:List (Nat×Snap))(x:Out)(e:Exit)(a':Act)(w':World):Prop:=
 ∃ρ' S' σ' own' hv',Inv C (S'.st ids) ρ' σ' own' hv' w0 σ0 (fun _=>False) a' w'∧Seg σ own w σ' own' w'∧SameBut wr a0 a'∧
  match e with
  |.normal=>x=.next ρ'∧out=some S'
  |.exit id=>x=.exit id ρ'∧id≠bq∧(id,S')∈ex
  |.ret=>x=.exit bq ρ'∧(bq,S')∈ex
  |_=>False
theorem SD {N:Nat}{c:Code}(hc:Ex C Φ fn s n ids R N c){S:Snap}{r:Res2}(hr:comp C fn s n ids R true c S=some r)(hyl:C.yl=none)(hC:CtxOK C σ0){wr:Nat→Prop}{ρ:Env}{x:Out}{hv:Nat→Value}(h:Inv C (S.st ids) ρ σ own hv w0 σ0 (fun _=>False) a w)
 (hwr:∀t,t∈dE c→wr t) (hn:a.tmps.size=n) (he:r.pc.ev Φ N ρ=some x) (L:Nat):c.wpIn (FR (some L)) 0 C.P (ahH C w0 σ0 ids wr a σ own w r.out r.ex x) a w:=by
 obtain⟨t,fx,cx,hfr,ht⟩:=h.frame
 have h1:=h.toRnd (X:=fun _=>False) ht
 refine wpIn_mono (hc true S r hr (some L) w0 (σ0.rnd σ own w t fun _=>False) wr ρ x a w (fun e=>by cases e) (hC.mono h.le) (fun J ys e=>by rw[hyl] at e;cases e) hwr hn ⟨_,_,_,h1⟩ he) fun e a' w' ho=>?_
 have main:∀{S':Snap} {ρ':Env},SameBut wr a a'→Good C w0 (σ0.rnd σ own w t fun _=>False) (S'.st ids) ρ' (fun _=>False) a' w'→∃σ' own' hv',Inv C (S'.st ids) ρ' σ' own' hv' w0 σ0 (fun _=>False) a' w'∧Seg σ own w σ' own' w'∧SameBut wr a a':=by
  intro S' ρ' hs hg
  obtain⟨σ',own',hv',h2⟩:=hg
  exact⟨σ',own',hv',h.ofRnd hfr (fun _ _=>id) h2,⟨h2.le,h.rndBelow h2,fun k hk ho=>Inv.rndSame h.ok h2 hk ho id,fun k j e=>Inv.rndOwn h2 e id,fun k e=>Inv.rndC h2 e id⟩,hs⟩
 cases e with
 |normal=>
  obtain⟨ρ',S',e1,e2,e3,e4⟩:=ho
  obtain⟨σ',own',hv',g1,g2,g3⟩:=main e3 e4
  exact⟨ρ',S',σ',own',hv',g1,g2,g3,e1,e2⟩
 |exit id=>
  obtain⟨ρ',S',e1,e0,e2,e3,e4⟩:=ho
  obtain⟨σ',own',hv',g1,g2,g3⟩:=main e3 e4
  exact⟨ρ',S',σ',own',hv',g1,g2,g3,e1,e0,e2⟩
 |ret=>
  obtain⟨ρ',S',e1,e2,e3,e4⟩:=ho
  obtain⟨σ',own',hv',g1,g2,g3⟩:=main e3 e4
  exact⟨ρ',S',σ',own',hv',g1,g2,g3,e1,e2⟩
 |_=>exact ho.elim
theorem Inv.putL {L:Nat}{hv:Nat→Value}{S:St}{ρ:Env}(h:Inv C S ρ σ own hv w0 σ0 A a w)(hL:w0.heap.size≤L)(hf:Free L σ own)(hx:∀t fx cx,FrOK σ own w0.heap.size σ0 w t fx cx→¬fx L)(o:Obj):Inv C S ρ σ own hv w0 σ0 A a (w.putObj L o):=
 h.keep (X:=fun k=>k≠L) ⟨rfl,rfl,rfl,by simp,fun k hk=>by omega⟩ (fun k hk=>World.putObj_heap_other hk) (fun k hk=>by omega) (fun k j e1 e2=>by subst e2;rw[hf.own] at e1;cases e1) (fun k o v e1 e2=>by subst e2;rw[hf.c] at e1;cases e1)
  (fun k v e1 e2=>by subst e2;rw[hf.m] at e1;cases e1) (fun t fx cx hfr k hk e=>by subst e;exact hx t fx cx hfr hk)
theorem aac {o:Oper}{L:Nat}{x:Operand}{as:Array Operand}{ts:Array TypeId}{r:Loop}(hop:o.op=.call {callee:=.value x,args:=as,argTypes:=ts})(hx:a.eval x=.func (.yield L) #[] #[])(hL:w.heap[L]?=some (.loop r))(hs:as.size=r.params.size):
 (execOp a.eval o).run C.P w=.ok (.round L r.fn ((r.params.zip (as.map a.eval)).foldl (fun tmps (t,v)=>tmps.setIfInBounds t v) r.tmps) r.assign r.body) w:=by
 have hy:=run_yield (P:=C.P) (args:=as.map a.eval) hL (by simpa using hs)
 simp[execOp,hop,resolve,hx,Deferred.ofValue,invoke,hy]
theorem YF {g:Operand}{f:Nat}{vs:List Value}{L:Nat}(hf:∃fn,C.P.funcs[f]?=some fn∧fn.body.isSome=true∧(fn.name== "runtime.NumGoroutine")=false)(hg:a.eval g=.func (.func f) #[] vs.toArray):
 (resolve a.eval (rangeCall g L) 0).run C.P w=.ok {target:=.fn (.func f) vs.toArray,args:=#[.func (.yield L) #[] #[]]} w∧
 (invoke (.fn (.func f) vs.toArray) #[.func (.yield L) #[] #[]]).run C.P w=.ok (.enter f (#[.func (.yield L) #[] #[]]++vs.toArray)) w:=by
 obtain⟨fn,h1,h2,h3⟩:=hf
 obtain⟨bd,h2'⟩:=Option.isSome_iff_exists.1 h2
 have h4:¬fn.name= "runtime.NumGoroutine" :=by simpa using h3
 constructor
 ·simp only[resolve,hg]
  simp[go_sem]
 ·simp[invoke,callFunc,h1,h2',h4]
theorem FrOK.enter {hv:Nat→Value}{S:St}{ρ:Env}(h:Inv C S ρ σ own hv w0 σ0 A a w){t:D}{fx cx:Nat→Prop}(hf:FrOK σ own w0.heap.size σ0 w t fx cx)(r:Loop):FrOK (σ.mark w.heap.size) own w0.heap.size σ0 ((w.alloc (.deferred (some []))).alloc (.loop r)) t fx cx:=by
 have hb:=PA w (.deferred (some [])) (.loop r)
 have hlt:=σ0.lt _ _ _ _ hf.F
 have hsub:=σ0.sub _ _ _ _ hf.F
 have hmm:∀k x,(σ.mark w.heap.size).m k=some x→σ.m k=some x∨k=w.heap.size:=by
  intro k x e
  simp only[Im.mark] at e
  split at e
  ·rename_i e2;exact .inr e2
  ·exact .inl e
 refine⟨σ0.keep _ _ _ _ _ hf.F (hb.mono (Nat.zero_le _)) fun k hk=>hb.block k (hlt k hk),hf.own,hf.c,fun k x e hc=>?_,fun k e hB hk=>?_⟩
 ·rcases hmm k x e with e|e
  ·exact hf.m k x e hc
  ·have:=hlt k (hsub k hc);omega
 ·rcases hmm k _ e with e|e
  ·exact hf.d k e hB hk
  ·have:=hlt k hk;omega
structure RSt (C:Ctx) (w0:World) (σR:Base) (ids:List Nat) (ρ1:Env) (lo:List Nat) (aM:Act) (L:Nat) (W1:World) (σ1:Im) (rec:LoopState→Option Code→Loop) (xs:List D) (P:Nat→List D→Snap→LoopState→Option Code→Prop) (t:D) (fx cx:Nat→Prop) (w:World):Prop where
 lt:∀k,fx k→k<w.heap.size
 sub:∀k,cx k→fx k
 old:∀k,k<W1.heap.size→fx k
 ex:∃(i:Nat) (vo:List D) (Sx:Snap) (st:LoopState) (pe:Option Code) (σ:Im) (own:Nat→Option Nat) (hv:Nat→Value),t=.list (xs.take i)∧P i vo Sx st pe∧Inv C (Sx.st ids) (ρ1.put [] [] lo vo) σ own hv w0 σR (fun _=>False) aM w∧
  σ1.le σ∧Free L σ own∧w.heap[L]?=some (.loop (rec st pe))∧(∀k j,own k=some j→fx k)∧(∀k o x,σ.c k o=some x→fx k)∧(∀k x,σ.m k=some x→fx k)∧∀k,cx k↔((∃j,own k=some j)∨k=L)
theorem RSt.keep {σR:Base}{ρ1:Env}{lo:List Nat}{aM:Act}{L:Nat}{W1:World}{σ1:Im}{rec:LoopState→Option Code→Loop}{xs:List D}{P:Nat→List D→Snap→LoopState→Option Code→Prop}{t:D}{fx cx:Nat→Prop}{w w':World}
 (h0:w0.heap.size≤W1.heap.size) (hL:L<W1.heap.size) (hR:∀t f c w,σR.F t f c w→∀k,f k→k<W1.heap.size) (h:RSt C w0 σR ids ρ1 lo aM L W1 σ1 rec xs P t fx cx w) (hb:Below 0 w w') (hs:∀k,fx k→w'.heap[k]?=w.heap[k]?):
 RSt C w0 σR ids ρ1 lo aM L W1 σ1 rec xs P t fx cx w':=by
 obtain⟨i,vo,Sx,st,pe,σ,own,hv,e1,e2,e3,e4,e5,e6,e7,e8,e9,e10⟩:=h.ex
 refine⟨fun k hk=>Nat.lt_of_lt_of_le (h.lt k hk) hb.size,h.sub,h.old,i,vo,Sx,st,pe,σ,own,hv,e1,e2,?_,e4,e5,(hs L (h.old L hL)).trans e6,e7,e8,e9,e10⟩
 exact e3.keep (X:=fx) hb hs (fun k hk=>h.old k (by omega)) e7 e8 e9 (fun t f c hf k hk=>h.old k (hR _ _ _ _ hf.F k hk))
theorem Im.noM_m {σ:Im}{k:Nat}{v:List (Value×Value)}(h:σ.noM.m k=some v):σ.m k=some v∧v≠fi:=by
 simp only[Im.noM] at h
 split at h
 ·cases h
 ·rename_i hne;exact⟨h,fun e=>hne (by rw[h,e])⟩
structure SegL (L:Nat) (σ:Im) (own:Nat→Option Nat) (w:World) (σ':Im) (own':Nat→Option Nat) (w':World):Prop where
 le:σ.le σ'
 below:Below 0 w w'
 same:∀k,k<w.heap.size→own k=none→k≠L→w'.heap[k]?=w.heap[k]?
 ow:∀k j,own' k=some j→(∃i,own k=some i)∨w.heap.size≤k
 imm:∀k,((∃o x,σ'.c k o=some x)∨∃x,σ'.m k=some x)→(∃o x,σ.c k o=some x)∨(∃x,σ.m k=some x)∨(∃i,own k=some i)∨w.heap.size≤k
theorem V4 (w:World)(L:Nat)(o:Obj):Below 0 w (w.putObj L o):=⟨rfl,rfl,rfl,by simp,fun k hk=>by omega⟩
theorem Seg.round {L:Nat}{σ' σ'':Im}{own' own'':Nat→Option Nat}{w' w'':World}{o o':Obj}(h:Seg σ own w σ' own' w')(k:Seg σ' own' (w'.putObj L o) σ'' own'' w''):SegL L σ own w σ'' own'' (w''.putObj L o'):=by
 have hsz:=h.below.size
 have hsz2:=k.below.size
 simp only[World.putObj_size] at hsz2
 refine⟨h.le.trans k.le,h.below.trans ((V4 _ _ _).trans (k.below.trans (V4 _ _ _))),fun q hq ho hL=>?_,fun q j e=>?_,fun q e=>?_⟩
 ·have h1:own' q=none:=by
   cases e:own' q with
   |none=>rfl
   |some j=>
    rcases h.ow q j e with⟨i,e⟩|e
    ·rw[ho] at e;cases e
    ·omega
  rw[World.putObj_heap_other hL,k.same q (by simp;omega) h1,World.putObj_heap_other hL,h.same q hq ho]
 ·rcases k.ow q j e with⟨i,e⟩|e
  ·exact h.ow q i e
  ·simp only[World.putObj_size] at e;exact .inr (by omega)
 ·rcases k.imm q e with e|e|⟨i,e⟩|e
  ·exact h.imm q (.inl e)
  ·exact h.imm q (.inr e)
  ·rcases h.ow q i e with e|e
   ·exact .inr (.inr (.inl e))
   ·exact .inr (.inr (.inr e))
  ·simp only[World.putObj_size] at e;exact .inr (.inr (.inr (by omega)))
theorem Env.put_self (ρ:Env)(lo:List Nat):ρ.put [] [] lo (lo.map ρ.o)=ρ:=by
 have h2:∀u,putL ρ.o lo (lo.map ρ.o) u=ρ.o u:=fun u=>by rw[lz];split<;>rfl
 show Env.mk ρ.r (putL ρ.o lo (lo.map ρ.o))=ρ
 rw[funext h2]
theorem VW {N:Nat}(hIt:ItsOK C Φ){g:Operand}{ps:Array Tmp}{ca cb:Code}(iha:Ex C Φ fn s n ids R N ca)(ihb:Ex C Φ fn s n ids R N cb):Ex C Φ fn s n ids R N (.rangeFunc g ps ca cb):=by
 intro rm S r hr rd w0 σ0 wr ρ x a w hrm hC hY hwr hn hg he
 simp only[comp] at hr
 split at hr
 case h_2=>cases hr;exact absurd he (cw _ _ _ _)
 rename_i as rr e hyl hu
 split at hr
 case h_2=>cases hr;exact absurd he (cw _ _ _ _)
 rename_i ys hys
 split at hr
 case h_2=>cases hr;exact absurd he (cw _ _ _ _)
 rename_i q hq
 rw[Bool.cond_eq_ite] at hr
 split at hr
 case isFalse=>cases hr;exact absurd he (cw _ _ _ _)
 rename_i hcond
 cases hr
 simp only[Bool.and_eq_true] at hcond
 obtain⟨⟨⟨hl,hnd⟩,hlt⟩,hrs⟩:=hcond
 have hl:=Nat.eq_of_beq_eq_true hl
 have hrs:=Nat.le_of_ble_eq_true hrs
 obtain⟨hrd,hfin⟩:=hrm rfl
 subst hrd
 obtain⟨hs,hfix,_⟩:=vG (C:=C) (w0:=w0) (σ0:=σ0) (ids:=ids) 8 hq
 simp only[Option.bind_eq_some_iff] at hs
 obtain⟨ra,hra,hs⟩:=hs
 split at hs
 case h_2=>cases hs
 rename_i S1 hao hax
 simp only[Option.map_eq_some_iff] at hs
 obtain⟨rb,hrb,hq2⟩:=hs
 have hma:=kW ca hra
 have hmb:=kW cb hrb
 obtain⟨q1,q2⟩:=q
 simp only at hra hq2 hrs hfix he ⊢
 generalize hlo:agH ids (q1::q2.ex.map (·.2)) q2.mo=lo at he
 generalize hrt:((qf bq q2.ex none).bind fun M=>Pf C fn s (M.st ids))=rt at he
 have hpure:∃f caps d,e.ev ρ=.clo f caps∧Φ f caps=some d∧kQ (q2.pc.ev Φ N) (ρ.setR n d) ps.toList lo rt d.l (lo.map ρ.o)=some x:=by
  simp only[PC.ev,PI.runs,PI.run,holds,List.all_nil,cond_true] at he
  cases hev:e.ev ρ with
  |clo f caps=>
   rw[hev] at he
   simp only[PE.evs,List.nil_append] at he
   cases hΦ:Φ f caps with
   |none=>rw[hΦ] at he;simp at he
   |some d=>
    rw[hΦ] at he
    simp only[Option.map_some,Option.bind_some,PE.ev,Env.setR,ao] at he
    exact⟨f,caps,d,rfl,hΦ,he⟩
  |_=>rw[hev] at he;simp at he
 obtain⟨f,caps,d,hev,hΦ,he⟩:=hpure
 obtain⟨σ,own,hv,i⟩:=hg
 have hx:=ax (gs:=[]) i hC rfl hu
 rw[hev] at hx
 generalize hgv:a.eval g=gv at hx
 generalize hty:Ty.fn as rr=ty at hx
 cases hx with
 |fn f cs vs ds hcap h1 h2 hall=>
 cases hty
 obtain⟨hfn,hits⟩:=hIt f cs ys hcap hys
 obtain⟨xs,rfl,htup,hit⟩:=hits caps d hΦ
 simp only[D.l_list] at he
 obtain⟨m,vos,hm,hv0,hnext,hlast⟩:=SW he
 have iq0:=U8 8 hq i
 have iq:Inv C (q1.st ids) (ρ.setR n (.list xs)) σ own hv w0 σ0 (fun _=>False) a w:=by
  refine iq0.env (Snap.noOpt _ _) (fun t ht=>?_) (fun _ _=>rfl)
  have hlt:t<q1.rs.length:=by
   refine Nat.lt_of_not_le fun hle=>?_
   simp only[Snap.st,List.getD_eq_getElem?_getD,List.getElem?_eq_none hle,Option.getD_none,be,isNone] at ht
   cases ht
  simp[Env.setR,aC _ _ (show t≠n by omega)]
 obtain⟨ρ1,hρ1⟩:∃ρ1,ρ.setR n (.list xs)=ρ1:=⟨_,rfl⟩
 rw[hρ1] at he iq hnext hlast
 have ho1:ρ.o=ρ1.o:=by rw[←hρ1];rfl
 rw[ho1] at hv0
 refine wpIn_rangeFunc ?_
 intro fnid hfnid
 obtain⟨L,hLdef⟩:∃L,w.heap.size+1=L:=⟨_,rfl⟩
 obtain⟨rec,hrec⟩:∃rec:LoopState→Option Code→Loop,rec=fun st pe=>{state:=st,pending:=pe,fn:=fnid,tmps:=a.tmps,params:=ps,assign:=ca,body:=cb,defers:=w.heap.size}:=⟨_,rfl⟩
 have i1:=iq.enter (rec .ready none)
 obtain⟨t,fx0,cx0,hfr0,ht0⟩:=iq.frame
 have hfx0:=σ0.lt _ _ _ _ hfr0.F
 have hfr1:=FrOK.enter iq hfr0 (rec .ready none)
 have hsz0:=iq.below.size
 have hF1:Free L (σ.mark w.heap.size) own:=by
  refine⟨?_,fun o=>?_,?_⟩
  ·cases e:own L with
   |none=>rfl
   |some j=>have:=(iq.owns L j e).2.1;omega
  ·cases e:σ.c L o with
   |none=>exact e
   |some x=>have:=iq.lt e;omega
  ·simp only[Im.mark,show L≠w.heap.size by omega,if_false]
   cases e:σ.m L with
   |none=>rfl
   |some x=>have:=iq.ltm e;omega
 have hle1:σ.le (σ.mark w.heap.size):=by
  refine⟨fun _ _ _ e=>e,fun k x e=>?_⟩
  have:k≠w.heap.size:=by have:=iq.ltm e;omega
  simp[Im.mark,this,e]
 have hL1:((w.alloc (.deferred (some []))).alloc (.loop (rec .ready none))).heap[L]?=some (.loop (rec .ready none)):=by
  have:=World.alloc_heap_new (w.alloc (.deferred (some []))) (.loop (rec .ready none));rw[World.size_alloc,hLdef] at this;exact this
 obtain⟨W1,hW1⟩:∃W1,(w.alloc (.deferred (some []))).alloc (.loop (rec .ready none))=W1:=⟨_,rfl⟩
 have hW1s:W1.heap.size=w.heap.size+2:=by rw[←hW1];simp
 rw[hW1] at i1 hfr1 hL1
 have hen:(Instr.enterLoop fnid a.tmps ps ca cb none).run C.P w=.ok (L,[{target:=.collected w.heap.size,args:=#[]}]) W1:=by
  rw[←hW1,hrec,←hLdef];exact run_enterLoop_outer _ _ _ _ _
 obtain⟨σ1,hσ1⟩:∃σ1,σ.mark w.heap.size=σ1:=⟨_,rfl⟩
 rw[hσ1] at i1 hfr1 hF1 hle1
 obtain⟨aM,haM⟩:∃aM:Act,{a with defers:={target:=.collected w.heap.size,args:=#[]}::a.defers}=aM:=⟨_,rfl⟩
 have haMt:aM.tmps=a.tmps:=by rw[←haM]
 rw[haM] at i1
 have iR:=i1.toRnd (t:=t) (X:=fun k=>k=L) ht0
 obtain⟨σR,hσR⟩:∃σR,σ0.rnd σ1 own W1 t (fun k=>k=L)=σR:=⟨_,rfl⟩
 have hRF:∀t' f c w',σR.F t' f c w'→(∀k,f k→k<W1.heap.size∧k≠L)∧∀k,c k→f k∧(∀o,σ1.c k o=none)∧σ1.m k=none:=by
  rw[←hσR]
  rintro t' f c w' ⟨_,h2,h3,_⟩
  exact⟨fun k hk=>⟨((h2 k).1 hk).1,((h2 k).1 hk).2.2.2⟩,fun k hk=>(h3 k).1 hk⟩
 have hRC:CtxOK C σR:=by rw[←hσR];exact hC.mono i1.le
 rw[hσR] at iR
 obtain⟨P,hP⟩:∃P:Nat→List D→Snap→LoopState→Option Code→Prop,P=fun i vo Sx st pe=>(i≤m∧vo=vos i∧Sx=q1∧st=.ready∧pe=none)∨
  (i=m+1∧m<xs.length∧st=.done∧∃y id ρ',xs[m]?=some y∧q2.pc.ev Φ N (ρ1.put ps.toList (partsOf ps.toList y) lo (vos m))=some (.exit id ρ')∧vo=lo.map ρ'.o∧(id,Sx)∈q2.ex∧((id≠bq∧pe=some (.exit id))∨(id=bq∧pe=some .ret))):=⟨_,rfl⟩
 obtain⟨c1,c2⟩:=YF (C:=C) (w:=W1) (L:=L) hfn hgv
 refine⟨L,[{target:=.collected w.heap.size,args:=#[]}],W1,_,W1,f,_,W1,hen,c1,fun _ _=>trivial,c2,(fun e=>by cases e),?_⟩
 refine NV ((hit σ1 W1 (.func (.yield L) #[] #[]) vs (RSt C w0 σR ids ρ1 lo aM L W1 σ1 rec xs P) (fun k=>k<W1.heap.size) (fun k=>(∃j,own k=some j)∨k=L) m i1.ok (hC.mono i1.le) ⟨h1,h2,fun j t e=>(hall j t e).mono hle1⟩ hm
  (fun t f c w h=>h.lt) (fun t f c w h=>h.sub) (fun t f c w w' h hb hs=>h.keep (by omega) (by omega) (fun t f c w hF k hk=>((hRF t f c w hF).1 k hk).1) hb hs) ?_ ?_ ?_ ?_).mono ?_)
 ·refine⟨fun k hk=>hk,fun k hk=>?_,fun k hk=>hk,0,vos 0,q1,.ready,none,σ1,own,hv,by simp,by rw[hP];exact .inl ⟨Nat.zero_le _,rfl,rfl,rfl,rfl⟩,?_,.refl σ1,hF1,hL1,fun k j e=>(iR.owns k j e).2.1,fun k o x e=>iR.lt e,fun k x e=>iR.ltm e,fun k=>.rfl⟩
  ·rcases hk with⟨j,e⟩|e
   ·exact(iR.owns k j e).2.1
   ·show k<W1.heap.size;omega
  ·rw[hv0,Env.put_self];exact iR
 ·rintro k o x e (⟨j,hj⟩|rfl)
  ·have:=(iR.owns k j hj).2.2.1 o;rw[e] at this;cases this
  ·rw[hF1.c] at e;cases e
 ·rintro k x e (⟨j,hj⟩|rfl)
  ·have:=(iR.owns k j hj).2.2.2;rw[e] at this;cases this
  ·rw[hF1.m] at e;cases e
 ·intro i fx cx w1 σx args ds' hi hxi hF hσx hargs hcc hcm hnc hnm rd' o a' x' as ts K Q hop hval hargse hK
  have hilen:i<xs.length:=(List.getElem?_eq_some_iff.1 hxi).1
  obtain⟨i',vo,Sx,st,pe,σa,owna,hva,e1,e2,iA,hleA,hFA,hLA,hoA,hcA,hmA,hcxA⟩:=hF.ex
  have hii:i'=i:=by
   have h9:=congrArg List.length (congrArg D.l e1)
   simp only[D.l_list,List.length_take] at h9
   omega
  subst hii
  rw[hP] at e2
  rcases e2 with⟨_,rfl,hSx,rfl,rfl⟩|⟨e2,_⟩
  case inr=>omega
  rw[hSx] at iA
  have hLlt:L<w1.heap.size:=hF.lt L (hF.old L (by omega))
  have hcxL:cx L:=(hcxA L).2 (.inr rfl)
  have hnoC:∀k o v,σx.c k o=some v→owna k=none:=fun k o v e=>by
   cases e2:owna k with
   |none=>rfl
   |some j=>exact absurd ((hcxA k).2 (.inl ⟨j,e2⟩)) (hcc k o v e)
  have hnoM:∀k v,σx.m k=some v→owna k=none:=fun k v e=>by
   cases e2:owna k with
   |none=>rfl
   |some j=>exact absurd ((hcxA k).2 (.inl ⟨j,e2⟩)) (hcm k v e)
  have hτok:σx.noM.ok w1:=⟨hσx.c,fun k v e=>hσx.m k v (Im.noM_m e).1⟩
  have iB:=iA.joinIm (τ:=σx.noM) hτok (fun k e=>(Im.noM_m e).2 rfl) hnoC (fun k v e=>hnoM k v (Im.noM_m e).1)
   (fun k o v e=>(hnc k o v e).imp (fun e=>hleA.c k o v e) fun e=>by omega) (fun k v e=>(hnm k v (Im.noM_m e).1).imp (fun e=>hleA.m k v e) fun e=>by omega)
   (fun t' f c hf=>⟨fun k o v e hc=>by
        obtain⟨g1,g2,g3⟩:=(hRF _ _ _ _ hf.F).2 k hc
        rcases hnc k o v e with e|e
        ·rw[g2 o] at e;cases e
        ·have:=((hRF _ _ _ _ hf.F).1 k g1).1;omega,fun k v e hc=>by
        obtain⟨g1,g2,g3⟩:=(hRF _ _ _ _ hf.F).2 k hc
        rcases hnm k v (Im.noM_m e).1 with e|e
        ·rw[g3] at e;cases e
        ·have:=((hRF _ _ _ _ hf.F).1 k g1).1;omega⟩)
  have hFB:Free L (σa.plus σx.noM) owna:=by
   refine⟨hFA.own,fun o=>?_,?_⟩
   ·cases e:(σa.plus σx.noM).c L o with
    |none=>rfl
    |some v=>
     rcases Im.plus_c e with e|e
     ·rw[hFA.c] at e;cases e
     ·exact absurd hcxL (hcc L o v e)
   ·cases e:(σa.plus σx.noM).m L with
    |none=>rfl
    |some v=>
     rcases Im.plus_m e with e|e
     ·rw[hFA.m] at e;cases e
     ·exact absurd hcxL (hcm L v (Im.noM_m e).1)
  have hps:ps.toList.length=ys.length:=by rw[Array.length_toList];exact hl.symm
  have hargs':uK C (σa.plus σx.noM) ys args ds':=⟨hargs.1,hargs.2.1,fun j t e=>((hargs.2.2 j t e).noM).mono (Im.plus_le2 iA.ok hτok)⟩
  have iC:=iB.startR (ρ':=ρ1) hps hnd (fun p hp=>by
   have:=List.all_eq_true.1 hlt p hp
   rw[haMt,hn];simpa [Nat.blt_eq] using this) hargs' rfl
  have hpu:∃xi,q2.pc.ev Φ N (ρ1.put ps.toList (partsOf ps.toList (.tup ds')) lo (vos i'))=some xi∧((i'<m∧∃ρ',xi=.next ρ'∧lo.map ρ'.o=vos (i'+1))∨(i'=m∧m<xs.length∧∃id ρ',xi=.exit id ρ')):=by
   by_cases him:i'<m
   ·obtain⟨y,ρ',g1,g2,g3⟩:=hnext i' him
    rw[hxi] at g1;cases g1
    exact⟨_,g2,.inl ⟨him,ρ',rfl,g3⟩⟩
   ·obtain rfl:i'=m:=by omega
    rcases hlast with⟨g1,_⟩|⟨g1,y,id,ρ',g2,g3,_⟩
    ·omega
    ·rw[hxi] at g2;cases g2
     exact⟨_,g3,.inr ⟨rfl,g1,id,ρ',rfl⟩⟩
  obtain⟨xi,hxi1,hxi2⟩:=hpu
  have hpc:q2.pc=.seq ra.pc rb.pc:=by rw[←hq2];rfl
  rw[hpc] at hxi1
  have hsz:(tM ps.toList args aM.tmps).size=n:=by rw[NU,haMt,hn]
  refine⟨fun _ _=>trivial,?_⟩
  rw[Oper.semAt_eq _ _ _ (fun c e=>by rw[hop] at e;cases e)]
  have hassz:as.size=ps.size:=by
   have:=hargs.1;rw[←hargse,List.length_map,Array.length_toList] at this;omega
  have hrun:=aac (C:=C) hop hval hLA (by rw[hrec];exact hassz)
  have hrecf:(rec .ready none).fn=fnid∧(rec .ready none).tmps=a.tmps∧(rec .ready none).params=ps∧(rec .ready none).assign=ca∧(rec .ready none).body=cb:=by rw[hrec];exact⟨rfl,rfl,rfl,rfl,rfl⟩
  obtain⟨r1,r2,r3,r4,r5⟩:=hrecf
  rw[r1,r2,r3,r4,r5] at hrun
  have hset:(ps.zip (as.map a'.eval)).foldl (fun tmps (t,v)=>tmps.setIfInBounds t v) a.tmps=tM ps.toList args aM.tmps:=by
   rw[haMt,←hargse,←Array.toList_map]
   exact ab7 ps (as.map a'.eval) a.tmps
  rw[hset] at hrun
  rw[hrun]
  refine⟨(fun e=>by cases e),?_⟩
  refine roundIn_of_wpIn (F:=FR rd') trivial ?_
  show ca.wpIn (FR (some L)) 0 C.P _ _ _
  cases hxa:ra.pc.ev Φ N (ρ1.put ps.toList (partsOf ps.toList (.tup ds')) lo (vos i')) with
  |none=>simp only[PC.ev,hxa] at hxi1;cases hxi1
  |some xa=>
  refine wpIn_mono (SD iha hra hyl hRC iC (wr:=fun t=>t∈dE ca) (fun _ h=>h) hsz hxa L) fun e2 a1 w1' hseg=>?_
  obtain⟨ρ2,S2,σ2,own2,hv2,iD,hsg,hsame,hout⟩:=hseg
  cases e2 with
  |normal=>
   obtain⟨rfl,hS2⟩:=hout
   rw[hao] at hS2;cases hS2
   simp only[PC.ev,hxa] at hxi1
   have hL2:w1'.heap[L]?=some (.loop (rec .ready none)):=(hsg.same L hLlt hFB.own).trans hLA
   have hF2:=hFB.seg hLlt hsg
   have hL2lt:L<w1'.heap.size:=(Array.getElem?_eq_some_iff.1 hL2).1
   have hL0:w0.heap.size≤L:=by omega
   refine⟨_,run_beginRound hL2 (by rw[hrec]),?_⟩
   have iE:=iD.putL hL0 hF2 (fun t' f c hf hfL=>((hRF _ _ _ _ hf.F).1 L hfL).2 rfl) (.loop {rec .ready none with state:=.busy})
   have hL3:(w1'.putObj L (.loop {rec .ready none with state:=.busy})).heap[L]?=some (.loop {rec .ready none with state:=.busy}):=World.putObj_heap_same hL2lt
   show cb.wpIn (FR (some L)) 0 C.P _ _ _
   refine wpIn_mono (SD ihb hrb hyl hRC iE (wr:=fun t=>t∈dE cb) (fun _ h=>h) (hsame.size.trans hsz) hxi1 L) fun e3 a3 w3 hseg2=>?_
   obtain⟨ρ3,S3,σ3,own3,hv3,iF,hsg2,hsame2,hout2⟩:=hseg2
   have hL4:w3.heap[L]?=some (.loop {rec .ready none with state:=.busy}):=(hsg2.same L (by simpa using hL2lt) hF2.own).trans hL3
   have hF3:=hF2.seg (by simpa using hL2lt) hsg2
   have hL4lt:L<w3.heap.size:=(Array.getElem?_eq_some_iff.1 hL4).1
   obtain⟨mk,hmk⟩:∃mk,Nat.lor (OD (ps.toList++dE ca++dE cb)) (Nat.lor ra.mr rb.mr)=mk:=⟨_,rfl⟩
   have hmk1:∀t,az mk t=false→t∉ps.toList∧t∉dE ca∧t∉dE cb∧az ra.mr t=false∧az rb.mr t=false:=by
        intro t ht
        rw[←hmk,bj,bj,Bool.or_eq_false_iff,Bool.or_eq_false_iff] at ht
        obtain⟨t1,t2,t3⟩:=ht
        have:t∉ps.toList++dE ca++dE cb:=fun hm=>by rw[Pp hm] at t1;cases t1
        simp only[List.mem_append,not_or] at this
        exact⟨this.1.1,this.1.2,this.2,t2,t3⟩
   have hregs:∀t,az mk t=false→aM.tmps.getD t undef=a3.tmps.getD t undef∧(ρ1.put [] [] lo (lo.map ρ3.o)).r t=ρ3.r t:=by
        intro t ht
        obtain⟨t1,t2,t3,t4,t5⟩:=hmk1 t ht
        refine⟨?_,?_⟩
        ·rw[hsame2.get t t3,hsame.get t t2];exact(FY _ _ _ _ t1).symm
        ·have hb3:∀ρ',xi=.next ρ'∨(∃id,xi=.exit id ρ')→ρ'.r t=ρ2.r t:=fun ρ' h=>by
          have henv:xi.env?=some ρ':=by rcases h with h|⟨id,h⟩<;>rw[h]<;>rfl
          exact(PC.ev_but rb.pc _ _ ρ' hxi1 henv).r t fun hm=>by rw[hmb.1 t hm] at t5;cases t5
         have hb2:ρ2.r t=putL ρ1.r ps.toList (partsOf ps.toList (.tup ds')) t:=(PC.ev_but ra.pc _ _ ρ2 hxa rfl).r t fun hm=>by rw[hma.1 t hm] at t4;cases t4
         rw[A2 _ _ _ _ t1] at hb2
         show ρ1.r t=ρ3.r t
         rw[hb3 ρ3 (by
          cases e3 with
          |normal=>exact .inl hout2.1
          |exit id=>exact .inr ⟨id,hout2.1⟩
          |ret=>exact .inr ⟨_,hout2.1⟩
          |_=>exact hout2.elim),hb2]
   have hmo:q2.mo=fy ra.mo rb.mo:=by rw[←hq2];rfl
   have hobjs:∀j,j∉q2.mo→ρ3.o j=ρ1.o j:=by
        intro j hj
        rw[hmo,mem_unionL,not_or] at hj
        have henv:xi.env?=some ρ3:=by
         cases e3 with
         |normal=>rw[hout2.1];rfl
         |exit id=>rw[hout2.1];rfl
         |ret=>rw[hout2.1];rfl
         |_=>exact hout2.elim
        rw[(PC.ev_but rb.pc _ _ ρ3 hxi1 henv).o j fun hm=>hj.2 (hmb.2 j hm),(PC.ev_but ra.pc _ _ ρ2 hxa rfl).o j fun hm=>hj.1 (hma.2 j hm)]
        exact A2 _ _ _ _ fun hm=>by
         rw[←hlo] at hm
         have:=(List.mem_filter.1 hm).1
         rw[hmo,mem_unionL] at this
         exact this.elim hj.1 hj.2
   have hobj2:∀(S:Snap),S∈(q1::q2.ex.map (·.2))→∀j,pM ((S.st ids).o j)=false→(ρ1.put [] [] lo (lo.map ρ3.o)).o j=ρ3.o j:=by
        intro S hS j hj
        show putL ρ1.o lo (lo.map ρ3.o) j=ρ3.o j
        rw[lz]
        split
        ·rfl
        ·rename_i hjl
         refine(hobjs j fun hjm=>hjl ?_).symm
         rw[←hlo]
         exact List.mem_filter.2 ⟨hjm,List.any_eq_true.2 ⟨S,hS,by simpa [Snap.st] using hj⟩⟩
   have fin:∀(jump:Option Code) (Sx:Snap),Inv C (Sx.st ids) (ρ1.put [] [] lo (lo.map ρ3.o)) σ3 own3 hv3 w0 σR (fun _=>False) aM w3→P (i'+1) (lo.map ρ3.o) Sx (if jump.isNone then .ready else .done) jump→jump.isNone=decide (i'<m)→
        ∃v w',(Instr.endRound L jump).run C.P w3=.ok v w'∧K (a'.put o.dst v) w':=by
        intro jump Sx iG hPn hjm
        refine⟨_,_,run_endRound jump hL4,?_⟩
        have hrec2:({{rec .ready none with state:=.busy} with state:=if jump.isNone then .ready else .done,pending:=jump}:Loop)=rec (if jump.isNone then .ready else .done) jump:=by rw[hrec]
        rw[hrec2]
        have hall:=hsg.round (L:=L) (o':=.loop (rec (if jump.isNone then .ready else .done) jump)) hsg2
        have iH:=iG.putL hL0 hF3 (fun t' f c hf hfL=>((hRF _ _ _ _ hf.F).1 L hfL).2 rfl) (.loop (rec (if jump.isNone then .ready else .done) jump))
        obtain⟨w4,hw4⟩:∃w4,w3.putObj L (.loop (rec (if jump.isNone then .ready else .done) jump))=w4:=⟨_,rfl⟩
        have hL5:w4.heap[L]?=some (.loop (rec (if jump.isNone then .ready else .done) jump)):=by rw[←hw4];exact World.putObj_heap_same hL4lt
        have hw4s:w4.heap.size=w3.heap.size:=by rw[←hw4];simp
        rw[hw4] at hall iH ⊢
        have hW14:W1.heap.size≤w1.heap.size:=by
         have:=hF.lt (W1.heap.size-1) (hF.old _ (by omega));omega
        have hsz14:=hall.below.size
        refine hK _ _ ⟨by rw[hjm],hall.below,fun k hk hc=>hall.same k hk (by
         cases e:owna k with
         |none=>rfl
         |some j=>exact absurd ((hcxA k).2 (.inl ⟨j,e⟩)) hc) (fun e=>hc (by rw[e];exact hcxL)),(fun k=>k<w4.heap.size∧(k<W1.heap.size∨(∃j,own3 k=some j)∨(∃o x,σ3.c k o=some x)∨∃x,σ3.m k=some x)),(fun k=>(∃j,own3 k=some j)∨k=L),?_,?_,?_⟩
        ·refine⟨fun k hk=>hk.1,fun k hk=>?_,fun k hk=>⟨by omega,.inl hk⟩,i'+1,lo.map ρ3.o,Sx,_,jump,σ3,own3,hv3,rfl,hPn,iH,hleA.trans ((Im.plus_le1 _ _).trans hall.le),hF3,hL5,fun k j e=>⟨(iH.owns k j e).2.1,.inr (.inl ⟨j,e⟩)⟩,fun k o x e=>⟨iH.lt e,.inr (.inr (.inl ⟨o,x,e⟩))⟩,fun k x e=>⟨iH.ltm e,.inr (.inr (.inr ⟨x,e⟩))⟩,fun k=>.rfl⟩
         rcases hk with⟨j,e⟩|e
         ·exact⟨(iH.owns k j e).2.1,.inr (.inl ⟨j,e⟩)⟩
         ·exact⟨by omega,.inl (by omega)⟩
        ·rintro k ⟨_,hk⟩ hk1
         have himm:((∃o x,σ3.c k o=some x)∨∃x,σ3.m k=some x)→fx k∨(∃o x,σx.c k o=some x)∨(∃x,σx.m k=some x∧x≠fi):=fun h=>by
          rcases hall.imm k h with⟨o,x,e⟩|⟨x,e⟩|⟨j,e⟩|e
          ·rcases Im.plus_c e with e|e
           ·exact .inl (hcA k o x e)
           ·exact .inr (.inl ⟨o,x,e⟩)
          ·rcases Im.plus_m e with e|e
           ·exact .inl (hmA k x e)
           ·exact .inr (.inr ⟨x,(Im.noM_m e).1,(Im.noM_m e).2⟩)
          ·exact .inl (hoA k j e)
          ·omega
         rcases hk with hk|⟨j,e⟩|e|e
         ·exact .inl (hF.old k hk)
         ·rcases hall.ow k j e with⟨j',e⟩|e
          ·exact .inl (hoA k j' e)
          ·omega
         ·exact himm (.inl e)
         ·exact himm (.inr e)
        ·rintro k (⟨j,e⟩|e) hk1
         ·rcases hall.ow k j e with⟨j',e⟩|e
          ·exact(hcxA k).2 (.inl ⟨j',e⟩)
          ·omega
         ·rw[e];exact hcxL
   have hdef:DefOK σ3 w0.heap.size aM.defers:=iA.defers.mono ((Im.plus_le1 _ _).trans (hsg.le.trans hsg2.le))
   have hq2m:q2.out=rb.out.map (Snap.mask mk)∧q2.ex=rb.ex.map (fun x=>(x.1,x.2.mask mk)):=by rw[←hq2,←hmk];exact⟨rfl,rfl⟩
   cases e3 with
   |normal=>
    obtain⟨e4,e5⟩:=hout2
    have hT:q2.out=some (S3.mask mk):=by rw[hq2m.1,e5];rfl
    have hfx1:=hfix _ hT
    have iG:Inv C (q1.st ids) ρ3 σ3 own3 hv3 w0 σR (fun _=>False) a3 w3:=by
        have:=Snap.meet_ok2 (x:=q1) (iF.maskR mk)
        rwa [hfx1] at this
    have iH:=iG.restore (ρ':=ρ1.put [] [] lo (lo.map ρ3.o)) (a':=aM) (Snap.noOpt _ _) hdef (fun t ht=>hregs t (by
        cases e:az mk t with
        |false=>rfl
        |true=>
         have h9:=W9 (x:=q1) (S:=S3) (ids:=ids) e
         rw[hfx1] at h9
         rw[h9] at ht;cases ht)) (fun j hj=>hobj2 q1 (List.mem_cons_self ..) j hj)
    rcases hxi2 with⟨him,ρ',e6,e7⟩|⟨_,_,id,ρ',e6⟩
    ·rw[e4] at e6;cases e6
     exact fin none q1 iH (by rw[hP];exact .inl ⟨by omega,e7,rfl,rfl,rfl⟩) (by simp[him])
    ·rw[e4] at e6;cases e6
   |exit id=>
    obtain⟨e4,e5,e6⟩:=hout2
    have hmem:(id,S3.mask mk)∈q2.ex:=by rw[hq2m.2];exact List.mem_map.2 ⟨_,e6,rfl⟩
    have iH:=(iF.maskR mk).restore (ρ':=ρ1.put [] [] lo (lo.map ρ3.o)) (a':=aM) (Snap.noOpt _ _) hdef (fun t ht=>hregs t (by
        cases e:az mk t with
        |false=>rfl
        |true=>rw[M7,if_pos e] at ht;cases ht)) (fun j hj=>hobj2 (S3.mask mk) (List.mem_cons_of_mem _ (List.mem_map.2 ⟨_,hmem,rfl⟩)) j hj)
    rcases hxi2 with⟨him,ρ',e7,_⟩|⟨him,hml,id',ρ',e7⟩
    ·rw[e4] at e7;cases e7
    ·subst him
     refine fin (some (.exit id)) (S3.mask mk) iH ?_ (by simp)
     rw[hP]
     refine .inr ⟨rfl,hml,rfl,_,id,ρ3,hxi,?_,rfl,hmem,.inl ⟨e5,rfl⟩⟩
     rw[hpc];simp only[PC.ev,hxa];rw[hxi1,e4]
   |ret=>
    obtain⟨e4,e6⟩:=hout2
    have hmem:(bq,S3.mask mk)∈q2.ex:=by rw[hq2m.2];exact List.mem_map.2 ⟨_,e6,rfl⟩
    have iH:=(iF.maskR mk).restore (ρ':=ρ1.put [] [] lo (lo.map ρ3.o)) (a':=aM) (Snap.noOpt _ _) hdef (fun t ht=>hregs t (by
        cases e:az mk t with
        |false=>rfl
        |true=>rw[M7,if_pos e] at ht;cases ht)) (fun j hj=>hobj2 (S3.mask mk) (List.mem_cons_of_mem _ (List.mem_map.2 ⟨_,hmem,rfl⟩)) j hj)
    rcases hxi2 with⟨him,ρ',e7,_⟩|⟨him,hml,id',ρ',e7⟩
    ·rw[e4] at e7;cases e7
    ·subst him
     refine fin (some .ret) (S3.mask mk) iH ?_ (by simp)
     rw[hP]
     refine .inr ⟨rfl,hml,rfl,_,bq,ρ3,hxi,?_,rfl,hmem,.inr ⟨rfl,rfl⟩⟩
     rw[hpc];simp only[PC.ev,hxa];rw[hxi1,e4]
   |_=>exact hout2.elim
  |exit id=>obtain⟨_,_,e6⟩:=hout;rw[hax] at e6;cases e6
  |ret=>obtain⟨_,e6⟩:=hout;rw[hax] at e6;cases e6
  |_=>exact hout.elim
 ·rintro e' w' ⟨⟨v,rfl⟩,fx,cx,hF⟩
  rw[show({tmps:=a.tmps,defers:=[{target:=Target.collected w.heap.size,args:=#[]}]++a.defers}:Act)=aM from haM]
  obtain⟨i',vo,Sx,st,pe,σa,owna,hva,e1,e2,iA,hleA,hFA,hLA,hoA,hcA,hmA,hcxA⟩:=hF.ex
  have h9:=congrArg List.length (congrArg D.l e1)
  simp only[D.l_list,List.length_take] at h9
  have hst:(rec st pe).state≠.busy:=by
   rw[hP] at e2
   rw[hrec]
   rcases e2 with⟨_,_,_,e3,_⟩|⟨_,_,e3,_⟩<;>(rw[e3];intro e;cases e)
  have hpe:(rec st pe).pending=pe:=by rw[hrec]
  have hend:(Instr.endLoop L).run C.P w'=.ok pe (w'.putObj L (.loop {rec st pe with state:=.exhausted})):=(run_endLoop (P:=C.P) hLA hst).trans (congrArg (fun z=>Result.ok z _) hpe)
  have iF:=iA.putL (by omega:w0.heap.size≤L) hFA (fun t' f c hf hfL=>((hRF _ _ _ _ hf.F).1 L hfL).2 rfl) (.loop {rec st pe with state:=.exhausted})
  rw[←hσR] at iF
  have iG:=i1.ofRnd hfr1 (fun k hk e=>by have:=hfx0 k hk;omega) iF
  have hsb:SameBut wr a aM:=⟨by rw[haMt],fun t _=>by rw[haMt]⟩
  refine⟨pe,_,hend,?_⟩
  rw[hP] at e2
  rcases e2 with⟨e3,rfl,hSx,_,rfl⟩|⟨rfl,hml,_,y,id,ρ',g1,g2,rfl,g4,g5⟩
  ·rcases hlast with⟨g1,g2⟩|⟨g1,_⟩
   ·obtain rfl:i'=m:=by omega
    rw[hSx] at iG
    exact⟨_,q1,g2,rfl,hsb,_,_,_,iG⟩
   ·omega
  ·rcases hlast with⟨g6,_⟩|⟨_,y',id',ρ'',k1,k2,k3⟩
   ·omega
   ·rw[g1] at k1;cases k1
    rw[g2] at k2;cases k2
    rcases k3 with⟨k3,k4⟩|⟨k3,pe',k4,k5⟩
    ·rcases g5 with⟨_,rfl⟩|⟨g5,_⟩
     ·exact wpIn_exit ⟨_,Sx,k4,k3,List.mem_filter.2 ⟨g4,by simp[bU k3]⟩,hsb,_,_,_,iG⟩
     ·exact absurd g5 k3
    ·rcases g5 with⟨g5,_⟩|⟨_,rfl⟩
     ·exact absurd k3 g5
     ·subst k3
      rw[←hrt,Option.bind_eq_some_iff] at k4
      obtain⟨M,hM,hre⟩:=k4
      obtain⟨M',hM',hgM⟩:=Jx (⟨_,_,_,iG⟩:Good C w0 σ0 (Sx.st ids) _ (fun _=>False) aM _) q2.ex none g4
      rw[hM] at hM';cases hM'
      obtain⟨σm,ownm,hvm,im⟩:=hgM
      exact wpIn_ret ⟨_,k5,Inv.retD hC (fun _=>rfl) hfin hre _ im rfl,hsb⟩
theorem SJ {arr:Array MapEntry}{clock:Nat}(hb:Born arr clock){idx:List Nat}(hi:∀i,i∈idx→i<arr.size){i:Nat}{e:MapEntry}(he:arr[i]?=some e):(gj arr idx).contains e.born=true↔i∈idx:=by
 simp only[gj,List.contains_toArray,List.contains_iff_mem,List.mem_map]
 constructor
 ·rintro⟨j,hj,h⟩
  have hlt:=hi j hj
  rw[Array.getElem?_eq_getElem hlt] at h
  simp only at h
  have:=hb.2 j i arr[j] e (Array.getElem?_eq_getElem hlt) he h
  rw[←this];exact hj
 ·intro h
  exact⟨i,h,by rw[he]⟩
theorem XL (arr:Array MapEntry)(idx:List Nat){i:Nat}{e:MapEntry}(he:arr[i]?=some e):(gj arr idx).push e.born=gj arr (idx++[i]):=by
 simp[gj,he]
theorem abQ {P:Program}{w:World}{k m:Nat}{arr:Array MapEntry}{clock:Nat}{idx:List Nat}(hk:w.heap[k]?=some (.mapIter (some m) clock (gj arr idx) clock))(hm:w.heap[m]?=some (.map arr clock))(hb:Born arr clock)(hi:∀i,i∈idx→i<arr.size)(T:TypeId):
 ∃w1:World,(w1=w∨w1=w.drew)∧(((∀i,i<arr.size→i∈idx)∧(Instr.next (.pointer (some ⟨k,0,none⟩)) false T).run P w=.ok (.tuple #[.bool false]) w1)∨
  ∃i e,arr[i]?=some e∧i∉idx∧(Instr.next (.pointer (some ⟨k,0,none⟩)) false T).run P w=.ok (.tuple #[.bool true,e.key,e.val]) {w1 with heap:=w1.heap.setIfInBounds k (.mapIter (some m) clock (gj arr (idx++[i])) clock)}):=by
 have hmem:∀{e:MapEntry},e∈arr→∃i:Nat,arr[i]?=some e:=fun he=>by
  obtain⟨i,hi,rfl⟩:=Array.mem_iff_getElem.1 he
  exact⟨i,Array.getElem?_eq_getElem hi⟩
 have hold:∀(l:Array MapEntry),(∀e,e∈l→e.born<clock)→l.filter (fun x=>decide (x.born<clock))=l:=fun l h=>by
  rw[Array.filter_eq_self];intro e he;simpa using h e he
 have hnew:∀(l:Array MapEntry),(∀e,e∈l→e.born<clock)→l.filter (fun x=>decide (x.born≥clock))=#[]:=fun l h=>by
  rw[Array.filter_eq_empty_iff];intro e he;have:=h e he;simp;omega
 have hbc:∀e,e∈arr→e.born<clock:=fun e he=>by obtain⟨i,hi⟩:=hmem he;exact hb.1 i e hi
 have hck:(!(gj arr idx).isEmpty&& !arr.isEmpty&&arr.all (fun x=>decide (x.born≥clock)))=false:=by
  cases ha:arr.isEmpty
  ·have hne:arr.size≠0:=by simpa using ha
   have:arr.all (fun x=>decide (x.born≥clock))=false:=by
        rw[Bool.eq_false_iff]
        intro h
        rw[Array.all_eq_true] at h
        have h0:=h 0 (by omega)
        have h1:=hbc arr[0] (Array.getElem_mem _)
        simp at h0;omega
   rw[this,Bool.and_false]
  ·simp
 let left:=arr.filter fun e=> !(gj arr idx).contains e.born
 have hl:∀e,e∈left→e.born<clock:=fun e he=>hbc e (Array.mem_filter.1 he).1
 by_cases hz:left.size=0
 ·refine⟨w,.inl rfl,.inl ⟨fun i hlt=>?_,?_⟩⟩
  ·by_cases hin:i∈idx
   ·exact hin
   ·exfalso
    have hme:arr[i]∈left:=Array.mem_filter.2 ⟨Array.getElem_mem _,by
     have:=SJ hb hi (Array.getElem?_eq_getElem hlt)
     cases hc:(gj arr idx).contains arr[i].born with
     |false=>rfl
     |true=>exact absurd (this.1 hc) hin⟩
    have:left=#[]:=Array.eq_empty_of_size_eq_zero hz
    rw[this] at hme;simp at hme
  ·have he:left=#[]:=Array.eq_empty_of_size_eq_zero hz
   have he':arr.filter (fun e=> !(gj arr idx).contains e.born)=#[]:=he
   simp only[Instr.next,getObj,Sem.run_bind,Sem.run,hk,hm,Result.andThen_ok,hck,he']
   simp[Question.forced,Sem.run]
 ·have he1:left.filter (fun x=>decide (x.born<clock))=left:=hold left hl
  have he2:left.filter (fun x=>decide (x.born≥clock))=#[]:=hnew left hl
  have hem:left.isEmpty=false:=by simpa using hz
  have key:∀c,c<left.size→∃i e,arr[i]?=some e∧i∉idx∧left[c]?=some e:=fun c hc=>by
   have hme:left[c]∈left:=Array.getElem_mem _
   obtain⟨h1,h2⟩:=Array.mem_filter.1 hme
   obtain⟨i,hi'⟩:=hmem h1
   refine⟨i,left[c],hi',fun hin=>?_,Array.getElem?_eq_getElem hc⟩
   rw[(SJ hb hi hi').2 hin] at h2
   cases h2
  obtain⟨w1,c,hw1,hc,hch⟩:∃w1 c,(w1=w∨w1=w.drew)∧c<left.size∧(choose (.mapNext left.size)).run P w=.ok c w1:=by
   by_cases h1:left.size≤1
   ·exact⟨w,0,.inl rfl,by omega,by simp[Question.forced,h1]⟩
   ·exact⟨w.drew,_,.inr rfl,Nat.mod_lt _ (by omega),by simp[Question.forced,h1,Question.cut];rfl⟩
  obtain⟨i,e,h1,h2,h3⟩:=key c hc
  refine⟨w1,hw1,.inr ⟨i,e,h1,h2,?_⟩⟩
  have hlk:arr.filter (fun e=> !(gj arr idx).contains e.born)=left:=rfl
  have hg1:(getObj k).run P w=.ok (.mapIter (some m) clock (gj arr idx) clock) w:=by simp[getObj,Sem.run,hk]
  have hg2:(getObj m).run P w=.ok (.map arr clock) w:=by simp[getObj,Sem.run,hm]
  have hk1:w1.heap[k]?=some (.mapIter (some m) clock (gj arr idx) clock):=by rcases hw1 with rfl|rfl<;>exact hk
  have hg3:(setObj k (.mapIter (some m) clock ((gj arr idx).push e.born) clock)).run P w1=.ok () {w1 with heap:=w1.heap.setIfInBounds k (.mapIter (some m) clock ((gj arr idx).push e.born) clock)}:=by simp[setObj,Sem.run,hk1]
  have hcand:((if false=true then #[none] else #[])++Array.map some (left++#[]):Array (Option MapEntry))=left.map some:=by simp
  have hcc:(left.map some)[c]?=some (some e):=by simp[h3]
  have hgen:∀(cand:Array (Option MapEntry)) (cc:Nat),(choose (.mapNext cand.size)).run P w=.ok cc w1→cand[cc]?=some (some e)→(do
        match cand[←choose (.mapNext cand.size)]? with
        |some (some e)=>
         setObj k (.mapIter (some m) clock ((gj arr idx).push e.born) clock)
         pure (.tuple #[.bool true,e.key,e.val])
        |some none=>(pure (.tuple #[.bool false]):Sem Value)
        |none=>stuck "Next: no such candidate" :Sem Value).run P w=.ok (.tuple #[.bool true,e.key,e.val]) {w1 with heap:=w1.heap.setIfInBounds k (.mapIter (some m) clock ((gj arr idx).push e.born) clock)}:=by
   intro cand cc h4 h5
   rw[Sem.run_bind,h4]
   simp only[Result.andThen_ok,h5]
   rw[Sem.run_bind,hg3]
   rfl
  rw[XL arr idx h1] at hgen hg3
  have:=hgen (left.map some) c (by rw[Array.size_map];exact hch) hcc
  simp only[Instr.next]
  rw[Sem.run_bind,hg1]
  simp only[Result.andThen_ok]
  rw[Sem.run_bind,hg2]
  simp only[Result.andThen_ok,hck,hlk,he1,he2,hem]
  rw[hcand,if_neg (by decide)]
  exact this
theorem Z7 {P:Program}{w:World}{k m:Nat}{arr:Array MapEntry}{clock:Nat}{idx:List Nat}{i:Nat}{e:MapEntry}(hk:w.heap[k]?=some (.mapIter (some m) clock (gj arr (idx++[i])) clock))(hm:w.heap[m]?=some (.map arr clock))(hb:Born arr clock)(he:arr[i]?=some e):
 (Instr.entry (.pointer (some ⟨k,0,none⟩))).run P w=.ok (.tuple #[e.key,e.val]) w:=by
 have hback:(gj arr (idx++[i])).back?=some e.born:=by simp[gj,he]
 have hfind:arr.find? (fun x=>x.born==e.born)=some e:=by
  have hlt:i<arr.size:=(Array.getElem?_eq_some_iff.1 he).1
  have hei:arr[i]=e:=(Array.getElem?_eq_some_iff.1 he).2
  rw[Array.find?_eq_some_iff_getElem]
  refine⟨by simp,i,hlt,hei,fun j hj=>?_⟩
  have hjl:j<arr.size:=by omega
  cases hc:(arr[j].born==e.born) with
  |false=>rfl
  |true=>
   have:=hb.2 j i arr[j] e (Array.getElem?_eq_getElem hjl) he (by simpa using hc)
   omega
 simp[Instr.entry,getObj,Sem.run_bind,Sem.run,hk,hm,hback,hfind]
theorem Zc {x y z:Code}{k:Nat}{p:MP}(h:JB x y k z=some p):∃i1 i2 o1 o2 o3 l,x=.region i1 p.ops1 false∧y=.cond (.tmp p.mo) .skip (.exit p.out)∧z=.region i2 p.ops2 false∧p.next=k∧p.ops1.toList=[o1,o2]∧p.ops2.toList=o3::l∧
 o1.dst=some p.nx∧o1.guard=none∧o1.op=.next (.tmp p.it) false∧o2.dst=some p.mo∧o2.guard=none∧o2.op=.extract (.tmp p.nx) 0∧o3.dst=some p.pr∧o3.guard=none∧o3.op=.entry (.tmp p.it)∧ez p.pr l []=some p.as∧
 p.it≠p.nx∧p.it≠p.mo∧p.it≠p.pr∧p.nx≠p.mo∧p.out≠bq∧k≠bq:=by
 unfold JB at h
 split at h
 case h_2=>cases h
 rename_i i1 ops1 mo out i2 ops2
 split at h
 case h_2=>cases h
 rename_i o1 o2 o3 l e1 e2
 split at h
 case h_2=>cases h
 rename_i nx it mo' nx' pr it' d1 g1 q1 d2 g2 q2 d3 g3 q3
 rw[Bool.cond_eq_ite] at h
 split at h
 case isFalse=>cases h
 rename_i hc
 simp only[Option.map_eq_some_iff] at h
 obtain⟨as,h4,rfl⟩:=h
 simp only[Bool.and_eq_true,Bool.not_eq_true'] at hc
 obtain⟨⟨⟨⟨⟨⟨⟨⟨c1,c2⟩,c3⟩,c4⟩,c5⟩,c6⟩,c7⟩,c8⟩,c9⟩:=hc
 have ne:∀{a b:Nat},Nat.beq a b=false→a≠b:=fun h e=>by subst e;simp at h
 obtain rfl:=Nat.eq_of_beq_eq_true c1;obtain rfl:=Nat.eq_of_beq_eq_true c2;obtain rfl:=Nat.eq_of_beq_eq_true c3
 exact⟨i1,i2,o1,o2,o3,l,rfl,rfl,rfl,rfl,e1,e2,d1,g1,q1,d2,g2,q2,d3,g3,q3,h4,ne c4,ne c5,ne c6,ne c7,ne c8,ne c9⟩
theorem tt {pr:Nat}:∀(l:List Oper) {acc as:List (Nat×Nat)},ez pr l acc=some as→∀x,x∈acc→x∈as
 |[],acc,as,h,x,hx=>by simp only[ez,Option.some.injEq] at h;subst h;exact hx
 |o::l,acc,as,h,x,hx=>by
  simp only[ez] at h
  split at h
  case h_2=>cases h
  rw[Bool.cond_eq_ite] at h
  split at h
  ·cases h
  split at h
  ·rw[Bool.cond_eq_ite] at h
   split at h
   ·exact tt l h x (List.mem_append_left _ hx)
   ·cases h
  ·simp only[Option.bind_eq_some_iff] at h
   obtain⟨i,_,h⟩:=h
   exact tt l h x (List.mem_append_left _ hx)
  ·simp only[Option.bind_eq_some_iff] at h
   obtain⟨i,_,h⟩:=h
   exact tt l h x (List.mem_append_left _ hx)
  ·cases h
theorem rC:∀{l:List (Nat×Nat)} {t i:Nat},zt l t=some i→(t,i)∈l
 |x::l,t,i,h=>by
  simp only[zt] at h
  cases hb:Nat.beq x.1 t<;>simp only[hb,cond_true,cond_false] at h
  ·exact List.mem_cons_of_mem _ (rC h)
  ·cases h;have:=Nat.eq_of_beq_eq_true hb;subst this;exact List.mem_cons_self ..
theorem KK:∀{l:List (Nat×Nat)} {t:Nat},(zt l t).isSome=false→∀x,x∈l→x.1≠t
 |y::l,t,h,x,hx=>by
  simp only[zt] at h
  cases hb:Nat.beq y.1 t<;>simp only[hb,cond_true,cond_false] at h
  ·rcases List.mem_cons.1 hx with e|hx
   ·subst e;intro e;subst e;simp at hb
   ·exact KK h x hx
  ·cases h
theorem uQ {pr:Nat}:∀(l:List Oper) {acc as:List (Nat×Nat)},ez pr l acc=some as→(∀x,x∈acc→x.2≤1)→∀x,x∈as→x∈acc∨(x.2≤1∧∃o,o∈l∧o.dst=some x.1)
 |[],acc,as,h,_,x,hx=>by simp only[ez,Option.some.injEq] at h;subst h;exact .inl hx
 |o::l,acc,as,h,ha,x,hx=>by
  simp only[ez] at h
  split at h
  case h_2=>cases h
  rename_i d hd hgd
  rw[Bool.cond_eq_ite] at h
  split at h
  ·cases h
  have go:∀(pt:Nat),pt≤1→ez pr l (acc++[(d,pt)])=some as→x∈acc∨(x.2≤1∧∃o',o'∈o::l∧o'.dst=some x.1):=by
   intro pt hpt hp
   rcases uQ l hp (fun y hy=>by
        rcases List.mem_append.1 hy with h|h
        ·exact ha y h
        ·simp at h;subst h;exact hpt) x hx with h|⟨h1,o',h2,h3⟩
   ·rcases List.mem_append.1 h with h|h
    ·exact .inl h
    ·simp at h;subst h;exact .inr ⟨hpt,o,List.mem_cons_self ..,hd⟩
   ·exact .inr ⟨h1,o',List.mem_cons_of_mem _ h2,h3⟩
  split at h
  ·rw[Bool.cond_eq_ite] at h
   split at h
   case isFalse=>cases h
   rename_i hcc
   simp only[Bool.and_eq_true] at hcc
   exact go _ (Nat.le_of_ble_eq_true hcc.2) h
  ·simp only[Option.bind_eq_some_iff] at h
   obtain⟨i,hi,h⟩:=h
   exact go i (ha _ (rC hi)) h
  ·simp only[Option.bind_eq_some_iff] at h
   obtain⟨i,hi,h⟩:=h
   exact go i (ha _ (rC hi)) h
  ·cases h
theorem kV {P:Program}{ops:Array Oper}{i:Nat}{rest:List Nat}{o:Oper}{rd:Option Nat}{a:Act}{w w':World}{Q:Exit→Act→World→Prop}{v:Value}(ho:ops[i]?=some o)(hg:o.guard=none)(hnd:mB o.op=true)(hx:(execOp a.eval o).run P w=.ok (.value v) w')
 (k:wpOpsIn (FR rd) 0 P ops Q rest (a.put o.dst v) w'):wpOpsIn (FR rd) 0 P ops Q (i::rest) a w:=by
 simp only[wpOpsIn,ho]
 rw[if_pos (by simp[Region.wanted,hg])]
 exact ZN hnd (by unfold Oper.wp;rw[hx];exact k)
theorem Vc {ops:Array Oper}{o:Oper}(ho:o∈ops.toList)(a:Act)(v:Value):SameBut (BZ ops) a (a.put o.dst v):=by
 have:=SameBut.put a o.dst v a.defers
 exact this.mono fun t e=>⟨o,ho,e⟩
theorem AR {a:Act}{d:Nat}{v:Value}(h:d<a.tmps.size):(a.put (some d) v).tmps.getD d undef=v:=by rw[ze];simp[h]
theorem T2 {a:Act}{d t:Nat}{v:Value}(h:t≠d):(a.put (some d) v).tmps.getD t undef=a.tmps.getD t undef:=by rw[ze];simp[h]
theorem put_defers (a:Act)(d:Option Nat)(v:Value):(a.put d v).defers=a.defers:=by cases d<;>rfl
def Xd (kv vv:Value)(i:Nat):Value:=if i=0 then kv else vv
theorem OT {P:Program}{ops:Array Oper}{rd:Option Nat}{Q:Exit→Act→World→Prop}{pr:Nat}{kv vv:Value}{w:World}:∀(l:List Oper) (acc as:List (Nat×Nat)) (i:Nat) (a:Act),ez pr l acc=some as→ops.toList.drop i=l→(∀x,x∈as→x.1<a.tmps.size)→a.tmps.getD pr undef=.tuple #[kv,vv]→
 (∀x,x∈acc→a.tmps.getD x.1 undef=Xd kv vv x.2)→(∀a',SameBut (BZ ops) a a'→a'.defers=a.defers→(∀x,x∈as→a'.tmps.getD x.1 undef=Xd kv vv x.2)→Q .normal a' w)→wpOpsIn (FR rd) 0 P ops Q (List.range' i (ops.size-i)) a w
 |[],acc,as,i,a,h,hl,hlt,hpr,hacc,hQ=>by
  simp only[ez,Option.some.injEq] at h;subst h
  have:ops.size-i=0:=by
    have:=List.drop_eq_nil_iff.1 hl
    simp at this;omega
  rw[this]
  exact hQ a (.refl _ _) rfl hacc
 |o::l,acc,as,i,a,h,hl,hlt,hpr,hacc,hQ=>by
  have hi:i<ops.toList.length:=by
   refine Nat.lt_of_not_le fun hle=>?_
   rw[List.drop_eq_nil_iff.2 hle] at hl;cases hl
  rw[List.drop_eq_getElem_cons hi] at hl
  have ho:ops[i]?=some o:=by
   have:ops.toList[i]=o:=by injection hl
   rw[←this];simp at hi ⊢
  have hl':ops.toList.drop (i+1)=l:=by injection hl
  have hsz:ops.size-i=(ops.size-(i+1))+1:=by simp at hi;omega
  rw[hsz,List.range'_succ]
  have hmem:o∈ops.toList:=by simpa using Array.mem_of_getElem? ho
  simp only[ez] at h
  split at h
  case h_2=>cases h
  rename_i d hd hgd
  rw[Bool.cond_eq_ite] at h
  split at h
  ·cases h
  rename_i hc
  simp only[Bool.or_eq_true,not_or,Bool.not_eq_true] at hc
  have hdp:pr≠d:=fun e=>by subst e;simp at hc
  have hda:∀x,x∈acc→x.1≠d:=KK hc.2
  have go:∀(pt:Nat) (v:Value),ez pr l (acc++[(d,pt)])=some as→mB o.op=true→v=Xd kv vv pt→(execOp a.eval o).run P w=.ok (.value v) w→wpOpsIn (FR rd) 0 P ops Q (i::List.range' (i+1) (ops.size-(i+1))) a w:=by
   intro pt v hp hnd hv hx
   have hdl:d<a.tmps.size:=hlt _ (tt l hp (d,pt) (by simp))
   refine kV ho hgd hnd hx ?_
   have hsb:=Vc hmem a v
   rw[hd] at hsb ⊢
   refine OT l _ as (i+1) _ hp hl' (fun x hx=>by rw[hsb.size];exact hlt x hx) (by rw[T2 hdp];exact hpr) (fun x hx=>?_) (fun a' h1 h2 h3=>hQ a' (hsb.trans h1) (h2.trans (put_defers _ _ _)) h3)
   rcases List.mem_append.1 hx with hx|hx
   ·rw[T2 (hda x hx)];exact hacc x hx
   ·simp at hx;subst hx;rw[AR hdl];exact hv
  split at h
  ·rename_i t pt e
   rw[Bool.cond_eq_ite] at h
   split at h
   case isFalse=>cases h
   rename_i hcc
   simp only[Bool.and_eq_true] at hcc
   have ht:=Nat.eq_of_beq_eq_true hcc.1
   have hpt:=Nat.le_of_ble_eq_true hcc.2
   subst ht
   have hev:a.eval (.tmp t)=.tuple #[kv,vv]:=by simpa [Act.eval] using hpr
   refine go pt (Xd kv vv pt) h (by rw[e];rfl) rfl ?_
   rcases(by omega:pt=0∨pt=1) with rfl|rfl<;>simp[execOp,e,hev,Instr.extract,Xd]
  ·rename_i t e
   simp only[Option.bind_eq_some_iff] at h
   obtain⟨pt,hlk,h⟩:=h
   have:=hacc _ (rC hlk)
   exact go pt (a.eval (.tmp t)) h (by rw[e];rfl) (by simpa [Act.eval] using this) (by simp[execOp,e])
  ·rename_i t e
   simp only[Option.bind_eq_some_iff] at h
   obtain⟨pt,hlk,h⟩:=h
   have:=hacc _ (rC hlk)
   exact go pt (a.eval (.tmp t)) h (by rw[e];rfl) (by simpa [Act.eval] using this) (by simp[execOp,e])
  ·cases h
theorem XC (ids:List Nat)(J j:Nat)(S:Snap):((S.kill ids J).st ids).o j=if j=J then .dead else(S.st ids).o j:=by
 show cr ids (P9 ids J S.os) j=_
 have:∀(is:List Nat) (os:List Ob),cr is (P9 is J os) j=if j=J then .dead else cr is os j:=by
  intro is
  induction is with
  |nil=>intro os;simp[P9,cr]
  |cons i is ih=>
   intro os
   cases os with
   |nil=>simp[P9,cr]
   |cons o os=>
    simp only[P9,cr]
    cases hb:Nat.beq i j
    ·simp only[cond_false];exact ih os
    ·have:=Nat.eq_of_beq_eq_true hb
     subst this
     simp only[cond_true]
     by_cases hij:i=J
     ·subst hij;simp
     ·simp[bU hij,hij]
 exact this ids S.os
theorem OM {N:Nat}{id:Nat}(hidne:id≠bq){rm:Bool}{wr:Nat→Prop}{a:Act}{q:Res2}{x xi:Out}(hmq:(∀t,t∈q.pc.modR→az q.mr t=true)∧∀j,j∈q.pc.modO→j∈q.mo)(hxi:q.pc.ev Φ N ρ=some xi)(hev:(dm ids id q).pc.ev Φ N ρ=some x){e:Exit}{a':Act}{w':World}
 (hoo:OutOK C w0 σ0 ids fn s rm wr a q.out q.ex xi e a' w'):Exit.inBlock id (OutOK C w0 σ0 ids fn s rm wr a (dm ids id q).out (dm ids id q).ex x) e a' w':=by
 have hfil:∀id' S1,(id',S1)∈q.ex→id'≠id→(id',S1)∈q.ex.filter fun x=> !Nat.beq x.1 id:=fun id' S1 hm hne=>List.mem_filter.2 ⟨hm,by simp[bU hne]⟩
 have main:∀(o:Option Snap) (lr lo:List Nat),qf id q.ex q.out=o→(∀M,o=some M→lr=lvR M q.mr∧lo=lvO ids M q.mo)→(PC.block id lr lo q.pc).ev Φ N ρ=some x→
        Exit.inBlock id (OutOK C w0 σ0 ids fn s rm wr a o (q.ex.filter fun x=> !Nat.beq x.1 id) x) e a' w':=by
  intro o lr lo ho hl hev
  simp only[PC.ev] at hev
  rw[hxi] at hev
  have fin:∀{ρ1:Env} {a':Act} {w':World},(∃M,o=some M∧Good C w0 σ0 (M.st ids) ρ1 (fun _=>False) a' w')→xi.env?=some ρ1→x=.next (ρ.join lr lo ρ1)→SameBut wr a a'→
   OutOK C w0 σ0 ids fn s rm wr a o (q.ex.filter fun x=> !Nat.beq x.1 id) x .normal a' w':=by
        intro ρ1 a' w' hM henv hx hs2
        obtain⟨M,hM,hgM⟩:=hM
        obtain⟨l1,l2⟩:=hl M hM
        subst l1 l2
        exact⟨_,M,hx,hM,hs2,hgM.joined (PC.ev_but q.pc ρ _ ρ1 hxi henv) hmq.1 hmq.2⟩
  cases e with
  |normal=>
   obtain⟨ρ1,S2,e1,e2,hs2,hg2⟩:=hoo
   subst e1
   simp only[Option.some.injEq] at hev
   refine fin ?_ rfl hev.symm hs2
   rw[e2] at ho
   obtain⟨M,h1,h2⟩:=wM (id:=id) q.ex hg2
   rw[ho] at h1
   exact⟨M,h1,h2⟩
  |exit id'=>
   obtain⟨ρ1,S2,e1,e0,e2,hs2,hg2⟩:=hoo
   subst e1
   simp only at hev
   show if id'=id then _ else _
   by_cases hid:id'=id
   ·subst hid
    simp only[Nat.beq_refl,cond_true,Option.some.injEq] at hev
    simp only[if_true]
    refine fin ?_ rfl hev.symm hs2
    rw[←ho]
    exact Jx hg2 q.ex q.out e2
   ·simp only[bU hid,cond_false,Option.some.injEq] at hev
    subst hev
    simp only[hid,if_false]
    exact⟨ρ1,S2,rfl,e0,hfil _ _ e2 hid,hs2,hg2⟩
  |ret=>
   cases rm with
   |false=>
    have hy:=hoo
    obtain⟨d,e1,_⟩:=hy
    subst e1
    simp only[Option.some.injEq] at hev;subst hev
    exact hoo
   |true=>
    obtain⟨ρ1,S2,e1,e2,hs2,hg2⟩:=hoo
    subst e1
    simp only[bU (fun e=>hidne e.symm:bq≠id),cond_false,Option.some.injEq] at hev
    subst hev
    exact⟨ρ1,S2,rfl,hfil _ _ e2 (fun e=>hidne e.symm),hs2,hg2⟩
  |_=>exact hoo.elim
 unfold dm at hev ⊢
 cases hm:qf id q.ex q.out with
 |none=>
  simp only[hm] at hev ⊢
  exact main none [] [] hm (fun M e=>by cases e) hev
 |some M=>
  simp only[hm] at hev ⊢
  exact main (some M) _ _ hm (fun M' e=>by cases e;exact⟨rfl,rfl⟩) hev
theorem VY {N id:Nat}{q:Res2}{x:Out}(hev:(dm ids id q).pc.ev Φ N ρ=some x):∃xi,q.pc.ev Φ N ρ=some xi:=by
 unfold dm at hev
 cases hm:qf id q.ex q.out<;>simp only[hm,PC.ev] at hev<;>cases hxi:q.pc.ev Φ N ρ<;>first|exact⟨_,rfl⟩|(rw[hxi] at hev;cases hev)
theorem NQ {es:List (D×D)}{idx:List Nat}(hn:idx.Nodup)(hlt:∀i,i∈idx→i<es.length)(hall:∀i,i<es.length→i∈idx):(gE es idx).Perm (bX (.map es)):=by
 have h1:idx.Perm (List.range es.length):=by
  rw[List.perm_ext_iff_of_nodup hn List.nodup_range]
  intro i;rw[List.mem_range];exact⟨hlt i,hall i⟩
 have h2:gE es (List.range es.length)=bX (.map es):=by
  refine List.ext_getElem (by simp[gE,bX,D.m]) fun i g1 g2=>?_
  have hi:i<es.length:=by simpa [gE] using g1
  simp[gE,bX,D.m,List.getElem?_eq_getElem hi]
 rw[←h2]
 exact h1.map _
theorem Yg {es:List (D×D)}{idx:List Nat}(hn:idx.Nodup)(hlt:∀i,i∈idx→i<es.length):∃rest,(gE es idx++rest).Perm (bX (.map es)):=by
 refine⟨gE es ((List.range es.length).filter fun i=> !idx.contains i),?_⟩
 have e:gE es idx++gE es ((List.range es.length).filter fun i=> !idx.contains i)=gE es (idx++(List.range es.length).filter fun i=> !idx.contains i):=by simp[gE]
 rw[e]
 refine NQ ?_ (fun i hi=>?_) (fun i hi=>?_)
 ·rw[List.nodup_append]
  refine⟨hn,List.nodup_range.filter _,fun a ha b hb e=>?_⟩
  subst e
  have:=(List.mem_filter.1 hb).2
  simp[ha] at this
 ·rcases List.mem_append.1 hi with h|h
  ·exact hlt i h
  ·exact List.mem_range.1 (List.mem_filter.1 h).1
 ·by_cases h:i∈idx
  ·exact List.mem_append_left _ h
  ·exact List.mem_append_right _ (List.mem_filter.2 ⟨List.mem_range.2 hi,by simp[h]⟩)
theorem Pl (es:List (D×D))(idx:List Nat){i:Nat}{p:D×D}(h:es[i]?=some p):gE es (idx++[i])=gE es idx++[.tup [p.1,p.2]]:=by simp[gE,h]
theorem aaK {N:Nat}{x y z code:Code}{k:Nat}{p:MP}(hp:JB x y k z=some p)(ihc:Ex C Φ fn s n ids R N code){rm:Bool}{S:Snap}{r:Res2}
 (hr:Js ids n p (dE x++(dE y++(dE z++dE code))) (fun S=>comp C fn s n ids R rm code S) S=some r) {rd:Option Nat} {wr:Nat→Prop} {x0:Out} (hrm:rm=false→rd=none∧σ0.fin) (hC:CtxOK C σ0) (hY:gS C Φ w0 σ0)
 (hwr:∀t,t∈dE (.loop (.seq x (.seq y (.block k (.seq z code)))))→wr t) (hn:a.tmps.size=n) (hg:Good C w0 σ0 (S.st ids) ρ (fun _=>False) a w) (he:r.pc.ev Φ N ρ=some x0):
 (Code.loop (.seq x (.seq y (.block k (.seq z code))))).wpIn (FR rd) 0 C.P (OutOK C w0 σ0 ids fn s rm wr a r.out r.ex x0) a w:=by
 obtain⟨i1,i2,o1,o2,o3,l,rfl,rfl,rfl,hk,e1,e2,d1,g1,q1,d2,g2,q2,d3,g3,q3,hpo,n1,n2,n3,n4,n5,n6⟩:=Zc hp
 subst hk
 unfold Js at hr
 split at hr
 case h_2=>cases hr;exact absurd he (cw _ _ _ _)
 rename_i J hJ
 split at hr
 case h_2=>cases hr;exact absurd he (cw _ _ _ _)
 rename_i kt et hkt
 simp only at hr
 split at hr
 case h_2=>cases hr;exact absurd he (cw _ _ _ _)
 rename_i q hq
 rw[Bool.cond_eq_ite] at hr
 split at hr
 case isFalse=>cases hr;exact absurd he (cw _ _ _ _)
 rename_i hcond
 cases hr
 generalize hws:dE (.region i1 p.ops1 false)++(dE (.cond (.tmp p.mo) .skip (.exit p.out))++(dE (.region i2 p.ops2 false)++dE code))=ws at*
 simp only[Bool.and_eq_true,Bool.not_eq_true'] at hcond
 obtain⟨⟨⟨⟨⟨⟨⟨⟨c1,c2⟩,c3⟩,c4⟩,c5⟩,c6⟩,c7⟩,c8⟩,c9⟩:=hcond
 have hex:q.2.ex=[]:=List.isEmpty_iff.1 c1
 have hJmo:J∉q.2.mo:=fun h=>by rw[(lg _ _).2 h] at c2;cases c2
 simp only[agT,Bool.and_eq_true,Bool.not_eq_true'] at c3
 obtain⟨⟨c3a,c3b⟩,c3c⟩:=c3
 have hrit:q.1.rs.getD p.it .none=.obj J 0:=Sh.beq_eq _ _ c3a
 have hoit:cr ids q.1.os J=.it kt et:=Ob.beq_eq _ _ c3b
 have hpsn:∀t,t∈p.as.map (·.1)→t<n:=fun t ht=>by have:=List.all_eq_true.1 c5 t ht;rwa [Nat.blt_eq] at this
 have hnx:p.nx<n:=by rwa [Nat.blt_eq] at c6
 have hmo:p.mo<n:=by rwa [Nat.blt_eq] at c7
 have hpr:p.pr<n:=by rwa [Nat.blt_eq] at c8
 have hmr:=Nat.eq_of_beq_eq_true c9
 obtain⟨hs,hfix,hin⟩:=vG (C:=C) (w0:=w0) (σ0:=σ0) (ids:=ids) 8 hq
 simp only[Option.map_eq_some_iff] at hs
 obtain⟨q0,hq0,hq2⟩:=hs
 obtain⟨qS,qR⟩:=q
 simp only at*
 subst hq2
 generalize hm:OD ws=m at*
 generalize hlo:lvO ids qS (dm ids p.next q0).mo=lo at*
 have hmods:=OY (ids:=ids) (id:=p.next) (kW code hq0)
 have hlomo:∀j,j∈lo→j∈(dm ids p.next q0).mo:=fun j hj=>by rw[←hlo] at hj;exact A8 hj
 have hJlo:J∉lo:=fun h=>hJmo (hlomo J h)
 have hpure:∃vof,ZR ((dm ids p.next q0).pc.ev Φ N) ρ J (p.as.map (·.1)) (p.as.map (·.2)) lo vof∧x0=.exit p.out (ρ.put [] [] lo vof):=by
  simp only[PC.ev] at he
  cases hpr:Zv ((dm ids p.next q0).pc.ev Φ N) ρ J (p.as.map (·.1)) (p.as.map (·.2)) lo with
  |none=>rw[hpr] at he;cases he
  |some y=>
   obtain⟨vof,h1,rfl⟩:=permR_some.1 hpr
   rw[hpr] at he
   simp only[Option.some.injEq] at he
   exact⟨vof,h1,he.symm⟩
 obtain⟨vof,⟨hp0,hall0⟩,hx0⟩:=hpure
 generalize hes:(ρ.o J).tget 1=es at*
 have hw1:∀o,o∈p.ops1.toList→∀d,o.dst=some d→d∈ws:=fun o ho d hd=>by
  rw[←hws];exact List.mem_append_left _ (List.mem_filterMap.2 ⟨o,ho,hd⟩)
 have hw2:∀o,o∈p.ops2.toList→∀d,o.dst=some d→d∈ws:=fun o ho d hd=>by
  rw[←hws];exact List.mem_append_right _ (List.mem_append_right _ (List.mem_append_left _ (List.mem_filterMap.2 ⟨o,ho,hd⟩)))
 have hwc:∀d,d∈dE code→d∈ws:=fun d hd=>by
  rw[←hws];exact List.mem_append_right _ (List.mem_append_right _ (List.mem_append_right _ hd))
 have hwsr:∀t,t∈ws→wr t:=fun t ht=>hwr t (by rw[←hws] at ht;exact ht)
 have hwm:∀t,t∈ws→az m t=true:=fun t ht=>by rw[←hm];exact Pp ht
 have hmask:∀t,az m t=true→((qS.mask m).st ids).r t=.none:=fun t ht=>by rw[M7,if_pos ht]
 have hmaskn:∀t,isNone (((qS.mask m).st ids).r t)=false→az m t=false:=fun t ht=>by
  cases hb:az m t with
  |false=>rfl
  |true=>rw[hmask t hb] at ht;cases ht
 have hsh:((qS.mask m).st ids).r p.it=.obj J 0:=by
  rw[M7,c3c];show be (qS.rs.getD p.it .none)=_;rw[hrit];rfl
 have hob:((qS.mask m).st ids).o J=.it kt et:=hoit
 have ho1:p.ops1[0]?=some o1:=by rw[←Array.getElem?_toList,e1];rfl
 have ho2:p.ops1[1]?=some o2:=by rw[←Array.getElem?_toList,e1];rfl
 have ho3:p.ops2[0]?=some o3:=by rw[←Array.getElem?_toList,e2];rfl
 have hsz1:List.range p.ops1.size=[0,1]:=by
  have:p.ops1.size=2:=by rw[←Array.length_toList,e1];rfl
  rw[this];rfl
 have hsz2:List.range p.ops2.size=0::List.range' 1 (p.ops2.size-1):=by
  have:p.ops2.size=l.length+1:=by rw[←Array.length_toList,e2];rfl
  rw[this,List.range_eq_range',List.range'_succ];rfl
 have key:∀(kk:Nat) (done vo:List D) (a':Act) (w':World),SameBut wr a a'→Good C w0 σ0 ((qS.mask m).st ids) ((ρ.put [] [] lo vo).setO J (.tup [.list done,es])) (fun _=>False) a' w'→
  (∀ys,(done++ys).Perm (bX es)→xJ ((dm ids p.next q0).pc.ev Φ N) ρ J es (p.as.map (·.1)) (p.as.map (·.2)) lo ys done vo=some vof)→done.length+kk=(bX es).length+1→
  Code.roundsIn (FR rd) 0 C.P (.seq (.region i1 p.ops1 false) (.seq (.cond (.tmp p.mo) .skip (.exit p.out)) (.block p.next (.seq (.region i2 p.ops2 false) code)))) (OutOK C w0 σ0 ids fn s rm wr a none [(p.out,(qS.mask m).kill ids J)] x0) kk a' w':=by
  intro kk
  induction kk with
  |zero=>
   intro done vo a' w' _ hg' _ hlen
   exfalso
   obtain⟨σ,own,hv,h⟩:=hg'
   have hobj:=h.objs J
   rw[hob] at hobj
   obtain⟨kb,mb,arr,clock,es',idx,h1,h2,h3,hne,h4,h5,h6,h7,h8,h9,h10,h11⟩:=hobj
   simp only[Env.setO,ao] at h6
   injection h6 with h6;injection h6 with h6a h6b;injection h6b with h6b _;injection h6a with h6a
   subst h6a;subst h6b
   have hle:idx.length≤arr.size:=by
        have:=List.Nodup.length_le_of_subset h7 (l₂:=List.range arr.size) (fun i hi=>List.mem_range.2 (h8 i hi))
        simpa using this
   simp[gE,bX,D.m] at hlen
   omega
  |succ kk ih=>
   intro done vo a' w' hsb hg' hall hlen
   rw[roundsIn_succ]
   obtain⟨σ,own,hv,h⟩:=hg'
   have hobj:=h.objs J
   rw[hob] at hobj
   obtain⟨kb,mb,arr,clock,es',idx,h1,h2,h3,hne,h4,h5,h6,h7,h8,h9,h10,h11⟩:=hobj
   simp only[Env.setO,ao] at h6
   injection h6 with h6;injection h6 with h6a h6b;injection h6b with h6b _;injection h6a with h6a
   subst h6a;subst h6b
   have hreg:=h.regs p.it
   rw[hsh] at hreg
   have hitv:a'.eval (.tmp p.it)=.pointer (some ⟨kb,0,none⟩):=by
        have:=hreg.2 rfl
        simp only[Act.eval];rw[this];exact h1
   have hsz':a'.tmps.size=n:=hsb.size.trans hn
   obtain⟨w1,hw1',hnext⟩:=abQ (P:=C.P) h5 h4 h10 h8 o1.type
   have hw1b:Below w'.heap.size w' w1:=by rcases hw1' with rfl|rfl;exact .refl _ _;exact⟨rfl,rfl,rfl,Nat.le_refl _,fun _ _=>rfl⟩
   have hw1h:w1.heap=w'.heap:=by rcases hw1' with rfl|rfl<;>rfl
   have hkl:kb<w'.heap.size:=(h.owns kb J h2).2.1
   have hml:mb<w'.heap.size:=(h.owns mb J h3).2.1
   refine wpIn_seq (wpIn_region ?_)
   rw[hsz1]
   rcases hnext with⟨hfull,hrun⟩|⟨i,e,hi1,hi2,hrun⟩
   ·
        refine kV ho1 g1 (by rw[q1];rfl) (v:=.tuple #[.bool false]) (w':=w1) (by simp only[execOp,q1,hitv];simp[hrun]) ?_
        rw[d1]
        refine kV ho2 g2 (by rw[q2];rfl) (v:=.bool false) (w':=w1) (by
         have:(a'.put (some p.nx) (.tuple #[.bool false])).eval (.tmp p.nx)=.tuple #[.bool false]:=by simp only[Act.eval];exact AR (by omega)
         simp only[execOp,q2,this];simp[Instr.extract]) ?_
        rw[d2]
        simp only[wpOpsIn]
        have hsb1:SameBut (fun t=>t∈ws) a' ((a'.put (some p.nx) (.tuple #[.bool false])).put (some p.mo) (.bool false)):=by
         have s1:=SameBut.put a' (some p.nx) (.tuple #[.bool false]) a'.defers
         have s2:=SameBut.put (a'.put (some p.nx) (.tuple #[.bool false])) (some p.mo) (.bool false) (a'.put (some p.nx) (.tuple #[.bool false])).defers
         exact(s1.mono fun t e=>by cases e;exact hw1 o1 (by rw[e1];simp) _ d1).trans (s2.mono fun t e=>by cases e;exact hw1 o2 (by rw[e1];simp) _ d2)
        generalize ha1:(a'.put (some p.nx) (.tuple #[.bool false])).put (some p.mo) (.bool false)=a1 at hsb1
        have hmoV:a1.eval (.tmp p.mo)=.bool false:=by
         rw[←ha1];simp only[Act.eval];exact AR (by rw[size_put];omega)
        have hdef:a1.defers=a'.defers:=by rw[←ha1,put_defers,put_defers]
        refine wpIn_seq (wpIn_cond_false hmoV (wpIn_exit ?_))
        have hperm:(gE es' idx++[]).Perm (bX (.map es')):=by
         rw[List.append_nil]
         exact NQ h7 (fun i hi=>by rw[h9];exact h8 i hi) (fun i hi=>hfull i (by omega))
        have hvof:=hall [] hperm
        simp only[xJ,Option.some.injEq] at hvof
        subst hvof
        refine⟨_,_,hx0,n5,List.mem_singleton.2 rfl,hsb.trans (hsb1.mono hwsr),?_⟩
        refine⟨σ,own,hv,?_⟩
        refine h.step (S':=((qS.mask m).kill ids J).st ids) (ρ':=ρ.put [] [] lo vo) (A':=fun _=>False) (fun j=>j=J) hdef (.refl σ) (h.ok.below hw1b) (fun _ _ _ hx=>.inl hx) (fun _ _ hx=>.inl hx) (hw1b.mono h.below.size) ⟨fun _=>Nat.le_refl _,fun _ _=>rfl⟩
         (fun j hj=>⟨by rw[XC,if_neg hj],by simp[Env.setO,aC _ _ hj],rfl,fun b hb=>⟨hb,by rw[hw1h]⟩⟩) (fun j hj=>?_) (fun b j hb=>?_) (fun _=>id) (fun t=>?_) (fun _ hf=>hf.elim) (fun b hb _=>by rw[hw1h]) (fun b j hb=>.inl ⟨j,hb⟩) (fun j hj=>?_)
        ·rw[XC,if_pos hj];trivial
        ·obtain⟨b1,b2,b3,b4⟩:=h.owns b j hb
         exact⟨b1,by rw[hw1h];exact b2,b3,b4⟩
        ·by_cases ht:t∈ws
         ·refine .inr ⟨?_,fun gs s' e=>absurd e (Snap.noOpt _ _ t gs s')⟩
          have:(((qS.mask m).kill ids J).st ids).r t=.none:=hmask t (hwm t ht)
          rw[this];trivial
         ·exact .inl ⟨rfl,hsb1.get t ht,rfl⟩
        ·rw[XC,if_pos hj];intro e;cases e
   ·
        obtain⟨pd,hpd⟩:∃pd,es'[i]?=some pd:=⟨_,List.getElem?_eq_getElem (by rw[h9];exact(Array.getElem?_eq_some_iff.1 hi1).1)⟩
        obtain⟨hk1,hk2⟩:=h11 i e pd hi1 hpd
        generalize hw2':({w1 with heap:=w1.heap.setIfInBounds kb (.mapIter (some mb) clock (gj arr (idx++[i])) clock)}:World)=w2 at hrun
        have hw2k:w2.heap[kb]?=some (.mapIter (some mb) clock (gj arr (idx++[i])) clock):=by rw[←hw2'];simp[hw1h,hkl]
        have hw2n:∀b,b≠kb→w2.heap[b]?=w'.heap[b]?:=fun b hb=>by rw[←hw2'];simp only[hw1h];rw[Array.getElem?_setIfInBounds_ne (Ne.symm hb)]
        have hw2s:w2.heap.size=w'.heap.size:=by rw[←hw2'];simp[hw1h]
        have hw2m:w2.heap[mb]?=some (.map arr clock):=by rw[hw2n mb (Ne.symm hne)];exact h4
        refine kV ho1 g1 (by rw[q1];rfl) (v:=.tuple #[.bool true,e.key,e.val]) (w':=w2) (by simp only[execOp,q1,hitv];simp[hrun]) ?_
        rw[d1]
        refine kV ho2 g2 (by rw[q2];rfl) (v:=.bool true) (w':=w2) (by
         have:(a'.put (some p.nx) (.tuple #[.bool true,e.key,e.val])).eval (.tmp p.nx)=.tuple #[.bool true,e.key,e.val]:=by simp only[Act.eval];exact AR (by omega)
         simp only[execOp,q2,this];simp[Instr.extract]) ?_
        rw[d2]
        simp only[wpOpsIn]
        have hsb1:SameBut (fun t=>t∈ws) a' ((a'.put (some p.nx) (.tuple #[.bool true,e.key,e.val])).put (some p.mo) (.bool true)):=by
         have s1:=SameBut.put a' (some p.nx) (.tuple #[.bool true,e.key,e.val]) a'.defers
         have s2:=SameBut.put (a'.put (some p.nx) (.tuple #[.bool true,e.key,e.val])) (some p.mo) (.bool true) (a'.put (some p.nx) (.tuple #[.bool true,e.key,e.val])).defers
         exact(s1.mono fun t e=>by cases e;exact hw1 o1 (by rw[e1];simp) _ d1).trans (s2.mono fun t e=>by cases e;exact hw1 o2 (by rw[e1];simp) _ d2)
        have hitne:(((a'.put (some p.nx) (.tuple #[.bool true,e.key,e.val])).put (some p.mo) (.bool true))).eval (.tmp p.it)=.pointer (some ⟨kb,0,none⟩):=by
         simp only[Act.eval] at hitv ⊢
         rw[T2 n2,T2 n1];exact hitv
        generalize ha1:(a'.put (some p.nx) (.tuple #[.bool true,e.key,e.val])).put (some p.mo) (.bool true)=a1 at hsb1 hitne
        have hmoV:a1.eval (.tmp p.mo)=.bool true:=by
         rw[←ha1];simp only[Act.eval];exact AR (by rw[size_put];omega)
        have hdef:a1.defers=a'.defers:=by rw[←ha1,put_defers,put_defers]
        refine wpIn_seq (wpIn_cond_true hmoV (wpIn_skip ?_))
        refine wpIn_block (wpIn_seq (wpIn_region ?_))
        rw[hsz2]
        refine kV ho3 g3 (by rw[q3];rfl) (v:=.tuple #[e.key,e.val]) (w':=w2) (by simp only[execOp,q3,hitne];simp[Z7 hw2k hw2m h10 hi1]) ?_
        rw[d3]
        have hs3:SameBut (fun t=>t∈ws) a1 (a1.put (some p.pr) (.tuple #[e.key,e.val])):=
         (SameBut.put a1 (some p.pr) (.tuple #[e.key,e.val]) a1.defers).mono fun t e=>by cases e;exact hw2 o3 (by rw[e2];simp) _ d3
        have hsz1':a1.tmps.size=n:=hsb1.size.trans hsz'
        refine OT (kv:=e.key) (vv:=e.val) l [] p.as 1 _ hpo (by rw[e2];rfl) (fun x hx=>by rw[hs3.size,hsz1'];exact hpsn _ (List.mem_map.2 ⟨x,hx,rfl⟩)) (AR (by rw[hsz1'];exact hpr)) (fun x hx=>by cases hx) (fun a2 hs2 hd2 hparts=>?_)
        have hsba:SameBut (fun t=>t∈ws) a' a2:=(hsb1.trans hs3).trans (hs2.mono fun t ⟨o,ho,hd⟩=>hw2 o ho t hd)
        have hdef2:a2.defers=a'.defers:=by rw[hd2,put_defers,hdef]
        have hstart:Good C w0 σ0 (((qS.mask m).start (p.as.map (·.1)) (p.as.map fun x=>bif Nat.beq x.2 0 then kt else et)).st ids) ((ρ.put (p.as.map (·.1)) ((p.as.map (·.2)).map (D.tup [pd.1,pd.2]).tget) lo vo).setO J (.tup [.list (gE es' idx++[.tup [pd.1,pd.2]]),.map es'])) (fun _=>False) a2 w2:=by
         have hbw:Below w0.heap.size w' w2:=⟨by rw[←hw2'];exact hw1b.os,by rw[←hw2'];exact hw1b.tape,by rw[←hw2'];exact hw1b.output,by omega,fun b hb=>hw2n b (fun e=>by subst e;have:=(h.owns b J h2).1;omega)⟩
         have hok':σ.ok w2:=by
          refine⟨fun b o v hc=>?_,fun b es hc=>?_⟩
          ·have hbk:b≠kb:=fun e=>by subst e;rw[(h.owns b J h2).2.2.1 o] at hc;cases hc
           have:=h.ok.c b o v hc
           simp only[World.cell?] at this ⊢
           rw[hw2n b hbk];exact this
          ·have hbk:b≠kb:=fun e=>by subst e;rw[(h.owns b J h2).2.2.2] at hc;cases hc
           exact(h.ok.m b es hc).keep (hw2n b hbk)
         have hoo:∀j,((ρ.put (p.as.map (·.1)) ((p.as.map (·.2)).map (D.tup [pd.1,pd.2]).tget) lo vo).setO J (.tup [.list (gE es' idx++[.tup [pd.1,pd.2]]),.map es'])).o j=if j=J then .tup [.list (gE es' idx++[.tup [pd.1,pd.2]]),.map es'] else putL ρ.o lo vo j:=fun j=>by
          simp only[Env.setO,aN];rfl
         refine⟨σ,own,hv,h.step (fun j=>j=J) hdef2 (.refl σ) hok' (fun _ _ _ hx=>.inl hx) (fun _ _ hx=>.inl hx) hbw ⟨fun _=>Nat.le_refl _,fun _ _=>rfl⟩
          (fun j hj=>⟨rfl,by rw[hoo,if_neg hj];simp[Env.setO,aC _ _ hj,Env.put],rfl,fun b hb=>⟨hb,hw2n b (fun e=>by subst e;rw[h2] at hb;cases hb;exact hj rfl)⟩⟩) (fun j hj=>?_) (fun b j hb=>?_) (fun _=>id) (fun t=>?_) (fun _ hf=>hf.elim)
          (fun b hb ho=>hw2n b (fun e=>by subst e;rw[h2] at ho;cases ho)) (fun b j hb=>.inl ⟨j,hb⟩) (fun j hj=>?_)⟩
         ·subst hj
          have:(((qS.mask m).start (p.as.map (·.1)) (p.as.map fun x=>bif Nat.beq x.2 0 then kt else et)).st ids).o j=.it kt et:=hoit
          rw[this]
          refine⟨kb,mb,arr,clock,es',idx++[i],h1,h2,h3,hne,hw2m,hw2k,by rw[hoo,if_pos rfl,Pl es' idx hpd],?_,?_,h9,h10,h11⟩
          ·rw[List.nodup_append];exact⟨h7,by simp,fun a ha b hb e=>by simp at hb;subst hb;subst e;exact hi2 ha⟩
          ·intro i' hi'
           rcases List.mem_append.1 hi' with h|h
           ·exact h8 i' h
           ·simp at h;subst h;exact(Array.getElem?_eq_some_iff.1 hi1).1
         ·obtain⟨b1,b2,b3,b4⟩:=h.owns b j hb
          exact⟨b1,by omega,b3,b4⟩
         ·have hc:Compat ((qS.mask m).st ids) hv (((qS.mask m).start (p.as.map (·.1)) (p.as.map fun x=>bif Nat.beq x.2 0 then kt else et)).st ids) hv:=⟨fun _=>Nat.le_refl _,fun _ _=>rfl⟩
          refine .inr ⟨?_,fun gs s' e=>absurd e (Snap.noOpt _ _ t gs s')⟩
          show CellOK C _ _ σ hv (be ((CL (p.as.map (·.1)) (p.as.map fun x=>bif Nat.beq x.2 0 then kt else et) ((qS.mask m).rs.map FN)).getD t .none)) (a2.tmps.getD t undef) (putL ρ.r (p.as.map (·.1)) ((p.as.map (·.2)).map (D.tup [pd.1,pd.2]).tget) t)
          rcases IT (p.as.map (·.1)) (p.as.map fun x=>bif Nat.beq x.2 0 then kt else et) ((qS.mask m).rs.map FN) (by simp) c4 t with e|⟨e1',e2'⟩|⟨i',y,e1',e2',e3'⟩
          ·rw[e];trivial
          ·rw[e2',A2 _ _ _ _ e1']
           have e3:((qS.mask m).rs.map FN).getD t .none=FN ((qS.mask m).rs.getD t .none):=by
            simp only[List.getD_eq_getElem?_getD,List.getElem?_map]
            cases(qS.mask m).rs[t]?<;>rfl
           rw[e3]
           by_cases htw:t∈ws
           ·have hmt:=hmask t (hwm t htw)
            change be ((qS.mask m).rs.getD t .none)=.none at hmt
            generalize (qS.mask m).rs.getD t .none=s' at hmt
            cases s'<;>simp[be] at hmt<;>trivial
           ·have hr:=h.regs t
            change CellOK C _ _ σ hv (be ((qS.mask m).rs.getD t .none)) _ (ρ.r t) at hr
            rw[hsba.get t htw]
            generalize (qS.mask m).rs.getD t .none=s' at hr
            cases s' with
            |yv=>trivial
            |opt gs s=>trivial
            |none=>trivial
            |fclo f c=>exact CellOK.mono' (.refl σ) hc (fun _ _ e=>by cases e) hr
            |dat t=>exact hr
            |obj j v=>exact CellOK.mono' (.refl σ) hc (fun _ _ e=>by cases e) hr
            |ptr j v o=>exact CellOK.mono' (.refl σ) hc (fun _ _ e=>by cases e) hr
            |eptr j v o q=>exact CellOK.mono' (.refl σ) hc (fun _ _ e=>by cases e) hr
          ·rw[e3']
           have hi'lt:i'<p.as.length:=by have:=(List.getElem?_eq_some_iff.1 e1').1;simpa using this
           rw[PN _ (p.as.map (·.1)) _ i' t (aZ c4) (by simp) e1']
           obtain⟨xa,hxa⟩:∃xa,p.as[i']?=some xa:=⟨_,List.getElem?_eq_getElem hi'lt⟩
           simp only[List.getElem?_map,hxa,Option.map_some,Option.some.injEq] at e1' e2'
           subst e1';subst e2'
           rw[hparts xa (List.mem_of_getElem? hxa)]
           have hd:((p.as.map (·.2)).map (D.tup [pd.1,pd.2]).tget).getD i' .none=(D.tup [pd.1,pd.2]).tget xa.2:=by simp[List.getD_eq_getElem?_getD,hxa]
           rw[hd]
           have h2x:xa.2≤1:=by
            rcases uQ l hpo (fun x hx=>by cases hx) xa (List.mem_of_getElem? hxa) with h|h
            ·cases h
            ·exact h.1
           rcases(by omega:xa.2=0∨xa.2=1) with e0|e0<;>rw[e0]
           ·exact hk1
           ·exact hk2
         ·have:(((qS.mask m).start (p.as.map (·.1)) (p.as.map fun x=>bif Nat.beq x.2 0 then kt else et)).st ids).o j=.it kt et:=by rw[hj];exact hoit
          rw[this];intro e;cases e
        have hpd':=Pl es' idx hpd
        obtain⟨rest,hrest⟩:∃rest,(gE es' idx++(D.tup [pd.1,pd.2])::rest).Perm (bX (.map es')):=by
         obtain⟨rest,hr⟩:=Yg (es:=es') (idx:=idx++[i]) (by rw[List.nodup_append];exact⟨h7,by simp,fun a ha b hb e=>by simp at hb;subst hb;subst e;exact hi2 ha⟩) (fun i' hi'=>by
          rcases List.mem_append.1 hi' with h|h
          ·rw[h9];exact h8 i' h
          ·simp at h;subst h;rw[h9];exact(Array.getElem?_eq_some_iff.1 hi1).1)
         rw[hpd'] at hr
         exact⟨rest,by simpa using hr⟩
        have hb1:=hall _ hrest
        simp only[xJ] at hb1
        split at hb1
        case h_2=>cases hb1
        rename_i ρ2 hbody
        obtain⟨xi,hxi⟩:=VY hbody
        refine wpIn_mono (ihc rm _ q0 hq0 rd w0 σ0 wr _ xi a2 w2 hrm hC hY (fun t ht=>hwsr t (hwc t ht)) (hsba.size.trans hsz') hstart hxi) fun ee a3 w3 hoo=>?_
        have hpost:=OM n6 (kW code hq0) hxi hbody hoo
        have conv:∀ee a3 w3,OutOK C w0 σ0 ids fn s rm wr a2 (dm ids p.next q0).out (dm ids p.next q0).ex (.next ρ2) ee a3 w3→Exit.then (Code.roundsIn (FR rd) 0 C.P (.seq (.region i1 p.ops1 false) (.seq (.cond (.tmp p.mo) .skip (.exit p.out)) (.block p.next (.seq (.region i2 p.ops2 false) code)))) (OutOK C w0 σ0 ids fn s rm wr a none [(p.out,(qS.mask m).kill ids J)] x0) kk) (OutOK C w0 σ0 ids fn s rm wr a none [(p.out,(qS.mask m).kill ids J)] x0) ee a3 w3:=by
         intro ee a3 w3 ho
         cases ee with
         |normal=>
          obtain⟨ρ3,T,f1,f2,f3,f4⟩:=ho
          cases f1
          refine ih (gE es' idx++[.tup [pd.1,pd.2]]) (lo.map ρ2.o) a3 w3 (hsb.trans ((hsba.mono hwsr).trans f3)) ?_ (fun ys hys=>?_) (by simp at hlen ⊢;omega)
          ·have hgM:Good C w0 σ0 (qS.st ids) ρ2 (fun _=>False) a3 w3:=by
            have:=f4.meet2 (x:=qS)
            rwa [hfix T f2] at this
           obtain⟨σ3,own3,hv3,h3'⟩:=hgM
           have hbut:=PC.ev_but _ _ _ ρ2 hbody rfl
           refine⟨σ3,own3,hv3,(h3'.maskR m).env (Snap.noOpt _ _) (fun t ht=>?_) (fun j hj=>?_)⟩
           ·have hmt:=hmaskn t ht
            have hnm:t∉(dm ids p.next q0).pc.modR:=fun hm'=>by
                 have:=hmods.1 t hm'
                 have h2:az (Nat.lor m (dm ids p.next q0).mr) t=true:=by rw[bj,this,Bool.or_true]
                 rw[hmr,hmt] at h2;cases h2
            rw[hbut.r t hnm]
            have hnp:t∉p.as.map (·.1):=fun hp'=>by
                 have:az m t=true:=by
                  refine hwm t ?_
                  obtain⟨xa,hxa,rfl⟩:=List.mem_map.1 hp'
                  rcases uQ l hpo (fun x hx=>by cases hx) xa hxa with h|⟨_,o,ho,hd⟩
                  ·cases h
                  ·exact hw2 o (by rw[e2];exact List.mem_cons_of_mem _ ho) _ hd
                 rw[hmt] at this;cases this
            show ρ.r t=putL ρ.r (p.as.map (·.1)) _ t
            rw[A2 _ _ _ _ hnp]
           ·have hjd:pM (cr ids qS.os j)=false:=hj
            show upd (putL ρ.o lo (lo.map ρ2.o)) J _ j=ρ2.o j
            by_cases hjJ:j=J
            ·subst hjJ
             rw[ao,hbut.o j (fun hm'=>hJmo (hmods.2 j hm'))]
             simp[Env.setO,ao]
            ·rw[aC _ _ hjJ,lz]
             split
             ·rfl
             ·rename_i hjl
              have hnm:j∉(dm ids p.next q0).pc.modO:=fun hm'=>hjl (by rw[←hlo];exact List.mem_filter.2 ⟨hmods.2 j hm',by rw[hjd];rfl⟩)
              rw[hbut.o j hnm]
              simp only[Env.setO,aC _ _ hjJ]
              exact(Ej _ _ _ _ hjl).symm
          ·have:=hall ((D.tup [pd.1,pd.2])::ys) (by simpa using hys)
           simp only[xJ,hbody] at this
           exact this
         |exit id=>obtain⟨ρ3,T,f1,_⟩:=ho;cases f1
         |ret=>
          cases rm with
          |false=>obtain⟨d,f1,_⟩:=ho;cases f1
          |true=>obtain⟨ρ3,T,f1,_⟩:=ho;cases f1
         |_=>exact ho.elim
        cases ee with
        |exit id=>
         simp only[Exit.inBlock] at hpost
         show if id=p.next then _ else _
         split
         ·rename_i hid;rw[if_pos hid] at hpost;exact conv .normal a3 w3 hpost
         ·rename_i hid;rw[if_neg hid] at hpost;exact conv (.exit id) a3 w3 hpost
        |normal=>exact conv .normal a3 w3 hpost
        |ret=>exact conv .ret a3 w3 hpost
        |panic c=>exact hoo.elim
        |goto l=>exact hoo.elim
        |_=>exact hoo.elim
 have hgq:Good C w0 σ0 (qS.st ids) ρ (fun _=>False) a w:=hin hg
 obtain⟨σ,own,hv,h⟩:=hgq
 have hobj:=h.objs J
 have:(qS.st ids).o J=.it kt et:=hoit
 rw[this] at hobj
 obtain⟨kb,mb,arr,clock,es',idx,h1,h2,h3,hne,h4,h5,h6,h7,h8,h9,h10,h11⟩:=hobj
 have hρJ:ρ.o J=.tup [.list [],es]:=by
  rw[h6] at hp0 hes
  simp[D.tget] at hp0 hes
  rw[h6,hp0,←hes]
 have henv:(ρ.put [] [] lo (lo.map ρ.o)).setO J (.tup [.list [],es])=ρ:=by
  rw[Env.put_self]
  show Env.mk _ _=_
  have:upd ρ.o J (.tup [.list [],es])=ρ.o:=by
   funext j
   rw[aN]
   split
   ·rename_i e;rw[e];exact hρJ.symm
   ·rfl
  rw[this]
 exact wpIn_loop_rounds _ (key ((bX es).length+1) [] (lo.map ρ.o) a w (.refl _ _) (by rw[henv];exact⟨σ,own,hv,h.maskR m⟩) (fun ys hys=>hall0 ys hys) (by simp))
theorem WG {N:Nat}(hIt:ItsOK C Φ)(hR:abY C n ids Φ R):∀(k:Nat) (c:Code),sizeOf c<k→Ex C Φ fn s n ids R N c:=by
 intro k
 refine Nat.rec (fun c h=>absurd h (Nat.not_lt_zero _)) (fun k IH=>?_) k
 intro c hc
 cases c with
 |skip=>
  intro rm S r h rd w0 σ0 wr ρ x a w hrm hC hY hwr hn hg he
  simp only[comp,Option.some.injEq] at h;subst h
  simp only[PC.ev,Option.some.injEq] at he;subst he
  exact wpIn_skip ⟨ρ,S,rfl,rfl,.refl _ _,hg⟩
 |region id ops draw=>
  intro rm S r h rd w0 σ0 wr ρ x a w hrm hC hY hwr hn hg he
  simp only[comp,Option.map_eq_some_iff] at h
  obtain⟨q,hq,rfl⟩:=h
  simp only[PC.ev,Option.map_eq_some_iff] at he
  obtain⟨ρ',hr,rfl⟩:=he
  exact hR id ops draw S q hq rd w0 σ0 ρ ρ' a w _ hC hY hn hg hr (fun a' w' hs' hg'=>⟨ρ',q.1,rfl,rfl,hs'.mono (fun t ⟨o,h1,h2⟩=>hwr t (List.mem_filterMap.2 ⟨o,h1,h2⟩)),hg'⟩)
 |seq c1 c2=>
  have ih1:=IH c1 (by simp at hc;omega)
  have ih2:=IH c2 (by simp at hc;omega)
  intro rm S r h rd w0 σ0 wr ρ x a w hrm hC hY hwr hn hg he
  have hw1:∀t,t∈dE c1→wr t:=fun t ht=>hwr t (List.mem_append_left _ ht)
  have hw2:∀t,t∈dE c2→wr t:=fun t ht=>hwr t (List.mem_append_right _ ht)
  simp only[comp,Option.bind_eq_some_iff] at h
  obtain⟨q,hq,h⟩:=h
  split at h
  ·rename_i hout
   cases h
   refine wpIn_seq (wpIn_mono (ih1 rm S _ hq rd w0 σ0 wr ρ x a w hrm hC hY hw1 hn hg he) fun e a' w' ho=>?_)
   cases e with
   |normal=>obtain⟨_,_,_,h2,_⟩:=ho;rw[hout] at h2;cases h2
   |_=>exact ho
  ·rename_i S1 hout
   simp only[Option.map_eq_some_iff] at h
   obtain⟨p,hp,rfl⟩:=h
   simp only[PC.ev] at he
   have key:∀x1,q.pc.ev Φ N ρ=some x1→(match some x1 with|some (.next ρ')=>p.pc.ev Φ N ρ'|y=>y)=some x→(Code.seq c1 c2).wpIn (FR rd) 0 C.P (OutOK C w0 σ0 ids fn s rm wr a p.out (q.ex++p.ex) x) a w:=by
      intro x1 h1 h2
      refine wpIn_seq (wpIn_mono (ih1 rm S _ hq rd w0 σ0 wr ρ x1 a w hrm hC hY hw1 hn hg h1) fun e a' w' ho=>?_)
      have other:∀{e:Exit},e≠.normal→OutOK C w0 σ0 ids fn s rm wr a q.out q.ex x1 e a' w'→x1=x→OutOK C w0 σ0 ids fn s rm wr a p.out (q.ex++p.ex) x e a' w':=by
       intro e hne ho hx
       subst hx
       exact ho.mono (fun y hy=>List.mem_append_left _ hy) (.refl _ _) (fun e=>absurd e hne)
      cases e with
      |normal=>
       obtain⟨ρ1,S2,e1,e2,hs2,hg2⟩:=ho
       subst e1
       rw[hout] at e2;cases e2
       simp only at h2
       refine wpIn_mono (ih2 rm S1 _ hp rd w0 σ0 wr ρ1 x a' w' hrm hC hY hw2 (hs2.size.trans hn) hg2 h2) fun e a2 w2 ho2=>?_
       exact ho2.mono (fun y hy=>List.mem_append_right _ hy) hs2 (fun _=>rfl)
      |exit id=>
       refine other (by simp) ho ?_
       obtain⟨ρ1,S2,e1,_⟩:=ho
       subst e1
       simpa using h2
      |ret=>
       refine other (by simp) ho ?_
       cases rm with
       |false=>obtain⟨d,e1,_⟩:=ho;subst e1;simpa using h2
       |true=>obtain⟨ρ1,S2,e1,_⟩:=ho;subst e1;simpa using h2
      |_=>exact ho.elim
   cases h1:q.pc.ev Φ N ρ with
   |none=>rw[h1] at he;simp at he
   |some x1=>rw[h1] at he;exact key x1 h1 he
 |cond c c1 c2=>
  have ih1:=IH c1 (by simp at hc;omega)
  have ih2:=IH c2 (by simp at hc;omega)
  intro rm S r h rd w0 σ0 wr ρ x a w hrm hC hY hwr hn hg he
  have hw1:∀t,t∈dE c1→wr t:=fun t ht=>hwr t (List.mem_append_left _ ht)
  have hw2:∀t,t∈dE c2→wr t:=fun t ht=>hwr t (List.mem_append_right _ ht)
  simp only[comp] at h
  split at h
  case h_2=>cases h;exact absurd he (cw _ _ _ _)
  rename_i e hu
  simp only[Option.bind_eq_some_iff,Option.map_eq_some_iff] at h
  obtain⟨q,hq,p,hp,rfl⟩:=h
  have hb:∃b,a.eval c=.bool b∧e.ev ρ=.v (.bool b):=by
   obtain⟨σ,own,hv,hi⟩:=hg
   have:=ax (gs:=[]) hi hC rfl hu
   generalize a.eval c=v at this
   generalize e.ev ρ=d at this
   cases this with|bool b=>exact⟨b,rfl,rfl⟩
  obtain⟨b,hb1,hb2⟩:=hb
  have hmq:=kW c1 hq
  have hmp:=kW c2 hp
  have main:∀(o:Option Snap) (lr lo:List Nat) (rx:Res2),rx=⟨.ite e lr lo q.pc p.pc,o,q.ex++p.ex,Nat.lor q.mr p.mr,fy q.mo p.mo⟩→
        (∀M,o=some M→lr=lvR M (Nat.lor q.mr p.mr)∧lo=lvO ids M (fy q.mo p.mo))→
        (∀S1 ρ1 a w,q.out=some S1→Good C w0 σ0 (S1.st ids) ρ1 (fun _=>False) a w→∃M,o=some M∧Good C w0 σ0 (M.st ids) ρ1 (fun _=>False) a w)→
        (∀S1 ρ1 a w,p.out=some S1→Good C w0 σ0 (S1.st ids) ρ1 (fun _=>False) a w→∃M,o=some M∧Good C w0 σ0 (M.st ids) ρ1 (fun _=>False) a w)→
        rx.pc.ev Φ N ρ=some x→(Code.cond c c1 c2).wpIn (FR rd) 0 C.P (OutOK C w0 σ0 ids fn s rm wr a rx.out rx.ex x) a w:=by
   intro o lr lo rx hrx hl hqo hpo hev
   subst hrx
   simp only[PC.ev,hb2,D.b_bool] at hev
   have fin:∀(ci:Code) (qi:Res2) (xi:Out),(∀y,y∈qi.ex→y∈q.ex++p.ex)→(∀t,t∈qi.pc.modR→az (Nat.lor q.mr p.mr) t=true)→(∀j,j∈qi.pc.modO→j∈fy q.mo p.mo)→
    (∀S1 ρ1 a w,qi.out=some S1→Good C w0 σ0 (S1.st ids) ρ1 (fun _=>False) a w→∃M,o=some M∧Good C w0 σ0 (M.st ids) ρ1 (fun _=>False) a w)→
    qi.pc.ev Φ N ρ=some xi→(match some xi with|some (.next ρ')=>some (Out.next (ρ.join lr lo ρ'))|y=>y)=some x→
    ci.wpIn (FR rd) 0 C.P (OutOK C w0 σ0 ids fn s rm wr a qi.out qi.ex xi) a w→ci.wpIn (FR rd) 0 C.P (OutOK C w0 σ0 ids fn s rm wr a o (q.ex++p.ex) x) a w:=by
        intro ci qi xi hex hr1 hr2 hout hxi hx hwp
        refine wpIn_mono hwp fun ee a' w' ho=>?_
        have other:ee≠.normal→xi=x→OutOK C w0 σ0 ids fn s rm wr a o (q.ex++p.ex) x ee a' w':=by
         intro hne hxx
         subst hxx
         exact ho.mono hex (.refl _ _) (fun e=>absurd e hne)
        cases ee with
        |normal=>
         obtain⟨ρ1,S2,e1,e2,hs2,hg2⟩:=ho
         subst e1
         simp only[Option.some.injEq] at hx
         subst hx
         obtain⟨M,hM,hgM⟩:=hout S2 ρ1 a' w' e2 hg2
         obtain⟨l1,l2⟩:=hl M hM
         subst l1 l2
         exact⟨_,M,rfl,hM,hs2,hgM.joined (PC.ev_but qi.pc ρ _ ρ1 hxi rfl) hr1 hr2⟩
        |exit id=>
         refine other (by simp) ?_
         obtain⟨ρ1,S2,e1,_⟩:=ho
         subst e1
         simpa using hx
        |ret=>
         refine other (by simp) ?_
         cases rm with
         |false=>obtain⟨d,e1,_⟩:=ho;subst e1;simpa using hx
         |true=>obtain⟨ρ1,S2,e1,_⟩:=ho;subst e1;simpa using hx
        |_=>exact ho.elim
   refine wpIn_cond hb1 ?_
   cases b with
   |true=>
    simp only[cond_true] at hev
    cases hxi:q.pc.ev Φ N ρ with
    |none=>rw[hxi] at hev;simp at hev
    |some xi=>
     rw[hxi] at hev
     refine fin c1 q xi (fun y hy=>List.mem_append_left _ hy) (fun t ht=>?_) (fun j hj=>mem_unionL.2 (.inl (hmq.2 j hj))) hqo hxi hev (ih1 rm S _ hq rd w0 σ0 wr ρ xi a w hrm hC hY hw1 hn hg hxi)
     rw[bj,hmq.1 t ht];rfl
   |false=>
    simp only[cond_false] at hev
    cases hxi:p.pc.ev Φ N ρ with
    |none=>rw[hxi] at hev;simp at hev
    |some xi=>
     rw[hxi] at hev
     refine fin c2 p xi (fun y hy=>List.mem_append_right _ hy) (fun t ht=>?_) (fun j hj=>mem_unionL.2 (.inr (hmp.2 j hj))) hpo hxi hev (ih2 rm S _ hp rd w0 σ0 wr ρ xi a w hrm hC hY hw2 hn hg hxi)
     rw[bj,hmp.1 t ht,Bool.or_true]
  have hqo:∀S1 ρ1 a w,q.out=some S1→Good C w0 σ0 (S1.st ids) ρ1 (fun _=>False) a w→∃M,tu q.out p.out=some M∧Good C w0 σ0 (M.st ids) ρ1 (fun _=>False) a w:=by
   intro S1 ρ1 a w e1 g1
   rw[e1]
   obtain⟨M,hM⟩:=@Kk S1 p.out
   exact⟨M,hM,R6 g1 hM⟩
  have hpo:∀S1 ρ1 a w,p.out=some S1→Good C w0 σ0 (S1.st ids) ρ1 (fun _=>False) a w→∃M,tu q.out p.out=some M∧Good C w0 σ0 (M.st ids) ρ1 (fun _=>False) a w:=by
   intro S1 ρ1 a w e1 g1
   rw[e1]
   obtain⟨M,hM⟩:=@Kd q.out S1
   exact⟨M,hM,Sm g1 hM⟩
  cases hm:tu q.out p.out with
  |none=>
   rw[hm] at hqo hpo
   simp only[hm] at he ⊢
   exact main none [] [] _ rfl (fun M e=>by cases e) hqo hpo he
  |some M=>
   rw[hm] at hqo hpo
   simp only[hm] at he ⊢
   exact main (some M) _ _ _ rfl (fun M' e=>by cases e;exact⟨rfl,rfl⟩) hqo hpo he
 |block id c1=>
  have ih1:=IH c1 (by simp at hc;omega)
  intro rm S r h rd w0 σ0 wr ρ x a w hrm hC hY hwr hn hg he
  simp only[comp] at h
  cases hid:Nat.beq id bq<;>simp only[hid,cond_true,cond_false] at h
  case true=>cases h;exact absurd he (cw _ _ _ _)
  have hidne:id≠bq:=fun e=>by subst e;simp at hid
  simp only[Option.map_eq_some_iff] at h
  obtain⟨q,hq,rfl⟩:=h
  obtain⟨xi,hxi⟩:=VY he
  exact wpIn_block (wpIn_mono (ih1 rm S _ hq rd w0 σ0 wr ρ xi a w hrm hC hY hwr hn hg hxi) fun e a' w' hoo=>OM hidne (kW c1 hq) hxi he hoo)
 |loop c1=>
  have ih1:=IH c1 (by simp at hc;omega)
  intro rm S r h rd w0 σ0 wr ρ x a w hrm hC hY hwr hn hg he
  rw[Tb] at h
  split at h
  ·rename_i qb hqb
   obtain⟨p,code,ws⟩:=qb
   unfold wB at hqb
   split at hqb
   case h_2=>cases hqb
   rename_i cx cy ck cz cc
   simp only[Option.map_eq_some_iff] at hqb
   obtain⟨p',hp',ep⟩:=hqb
   cases ep
   exact aaK hp' (IH _ (by simp at hc;omega)) h hrm hC hY hwr hn hg he
  split at h
  case h_2=>cases h;exact absurd he (cw _ _ _ _)
  rename_i q hq
  cases h
  obtain⟨hs,hfix,hin⟩:=vG (C:=C) (w0:=w0) (σ0:=σ0) (ids:=ids) 8 hq
  have hmq:=kW c1 hs
  simp only[PC.ev] at he
  have hg0:Good C w0 σ0 (q.1.st ids) (ρ.put (lvR q.1 q.2.mr) ((lvR q.1 q.2.mr).map ρ.r) (lvO ids q.1 q.2.mo) ((lvO ids q.1 q.2.mo).map ρ.o)) (fun _=>False) a w:=by
   exact Good.joined (hin hg) (.refl ρ q.2.pc.modR q.2.pc.modO) hmq.1 hmq.2
  have key:∀(k:Nat) (ρ1:Env) (a':Act) (w:World),SameBut wr a a'→jy (q.2.pc.ev Φ N) ρ (lvR q.1 q.2.mr) (lvO ids q.1 q.2.mo) k ((lvR q.1 q.2.mr).map ρ1.r) ((lvO ids q.1 q.2.mo).map ρ1.o)=some x→
        Good C w0 σ0 (q.1.st ids) (ρ.join (lvR q.1 q.2.mr) (lvO ids q.1 q.2.mo) ρ1) (fun _=>False) a' w→Code.roundsIn (FR rd) 0 C.P c1 (OutOK C w0 σ0 ids fn s rm wr a none q.2.ex x) k a' w:=by
   intro k
   induction k with
   |zero=>intro ρ1 a' w hn hl hg;simp[jy] at hl
   |succ k ih=>
    intro ρ1 a' w hsb hl hg
    rw[roundsIn_succ]
    simp only[jy] at hl
    change (match q.2.pc.ev Φ N (ρ.join (lvR q.1 q.2.mr) (lvO ids q.1 q.2.mo) ρ1) with|some (.next ρ')=>_|y=>y)=some x at hl
    cases hxi:q.2.pc.ev Φ N (ρ.join (lvR q.1 q.2.mr) (lvO ids q.1 q.2.mo) ρ1) with
    |none=>rw[hxi] at hl;simp at hl
    |some xi=>
     rw[hxi] at hl
     refine wpIn_mono (ih1 rm _ _ hs rd w0 σ0 wr _ xi a' w hrm hC hY hwr (hsb.size.trans hn) hg hxi) fun e a2 w' hoo=>?_
     have other:e≠.normal→xi=x→OutOK C w0 σ0 ids fn s rm wr a none q.2.ex x e a2 w':=by
         intro hne hxx
         subst hxx
         exact hoo.mono (fun y hy=>hy) hsb (fun e=>absurd e hne)
     cases e with
     |normal=>
      obtain⟨ρ2,S2,e1,e2,hs2,hg2⟩:=hoo
      subst e1
      simp only at hl
      refine ih ρ2 a2 w' (hsb.trans hs2) hl ?_
      have hgM:Good C w0 σ0 (q.1.st ids) ρ2 (fun _=>False) a2 w':=by
       have:=hg2.meet2 (x:=q.1)
       rwa [hfix S2 e2] at this
      refine hgM.joined (mr':=lvR q.1 q.2.mr++q.2.pc.modR) (mo':=lvO ids q.1 q.2.mo++q.2.pc.modO) ?_ (fun t ht=>?_) (fun j hj=>?_)
      ·exact((Env.but.join ρ ρ1 _ _).mono (fun t ht=>List.mem_append_left _ ht) (fun t ht=>List.mem_append_left _ ht)).trans
        ((PC.ev_but q.2.pc _ _ ρ2 hxi rfl).mono (fun t ht=>List.mem_append_right _ ht) (fun t ht=>List.mem_append_right _ ht))
      ·exact(List.mem_append.1 ht).elim MX (hmq.1 t)
      ·exact(List.mem_append.1 hj).elim A8 (hmq.2 j)
     |exit id=>
      refine other (by simp) ?_
      obtain⟨ρ1,S2,e1,_⟩:=hoo
      subst e1
      simpa using hl
     |ret=>
      refine other (by simp) ?_
      cases rm with
      |false=>obtain⟨d,e1,_⟩:=hoo;subst e1;simpa using hl
      |true=>obtain⟨ρ1,S2,e1,_⟩:=hoo;subst e1;simpa using hl
     |_=>exact hoo.elim
  exact wpIn_loop_rounds N (key N ρ a w (.refl _ _) he hg0)
 |exit id=>
  intro rm S r h rd w0 σ0 wr ρ x a w hrm hC hY hwr hn hg he
  simp only[comp] at h
  cases hid:Nat.beq id bq<;>simp only[hid,cond_true,cond_false] at h
  case true=>cases h;exact absurd he (cw _ _ _ _)
  cases h
  simp only[PC.ev,Option.some.injEq] at he;subst he
  exact wpIn_exit ⟨ρ,S,rfl,fun e=>by subst e;simp at hid,by simp,.refl _ _,hg⟩
 |ret=>
  intro rm S r h rd w0 σ0 wr ρ x a w hrm hC hY hwr hn hg he
  simp only[comp] at h
  cases rm<;>simp only[cond_true,cond_false] at h
  case true=>
   cases h
   simp only[PC.ev,Option.some.injEq] at he;subst he
   exact wpIn_ret ⟨ρ,S,rfl,by simp,.refl _ _,hg⟩
  split at h
  ·rename_i e hre
   cases h
   simp only[PC.ev,Option.some.injEq] at he;subst he
   obtain⟨σ,own,hv,hi⟩:=hg
   exact wpIn_ret ⟨_,rfl,Inv.retD hC (fun _=>rfl) (hrm rfl).2 hre _ hi rfl,.refl _ _⟩
  ·cases h;exact absurd he (cw _ _ _ _)
 |rangeFunc g ps ca cb=>exact VW hIt (IH ca (by simp at hc;omega)) (IH cb (by simp at hc;omega))
 |_=>intro rm S r h rd w0 σ0 wr ρ x a w hrm hC hY hwr hn hg he;simp only[comp,Option.some.injEq] at h;subst h;exact absurd he (cw _ _ _ _)
theorem VF {N:Nat}(hIt:ItsOK C Φ)(hR:abY C n ids Φ R)(c:Code):Ex C Φ fn s n ids R N c:=WG hIt hR _ c (Nat.lt_succ_self _)
end
end Cx
