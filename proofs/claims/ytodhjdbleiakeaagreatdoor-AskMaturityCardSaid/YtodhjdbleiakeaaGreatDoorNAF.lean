/-
  Code: sequences, choices, blocks, loops.
-/
import Derived.LoopNIn
import Derived.Test.YtodhjdbleiakeaaGreatDoorNAE
import Derived.LoopN
set_option linter.unusedSimpArgs false
set_option linter.unusedVariables false
namespace Cx
open Go Go.RowKit
def aw (m t:Nat):Bool:= !Nat.beq (Nat.land 1 (Nat.shiftRight m t)) 0
theorem rl (m t:Nat):aw m t=m.testBit t:=by
 unfold aw Nat.testBit;show(!Nat.beq (1&&& (m>>>t)) 0)=((1&&& (m>>>t))!=0)
 generalize 1&&& (m>>>t)=x;cases x<;>rfl
def dE (t:Nat):Nat:=Nat.shiftLeft 1 t
theorem p7 (t:Nat):aw (dE t) t=true:=by
 rw[rl];show(1<<<t).testBit t=true;simp[Nat.testBit_shiftLeft]
theorem eO (m k t:Nat):aw (Nat.lor m k) t=(aw m t||aw k t):=by
 simp only[rl];exact Nat.testBit_or m k t
def PI.mask:PI→Nat
 |.setR t _=>dE t|.call _ t _ _=>dE t|.callc _ t _ _=>dE t|_=>0
def IK:List PI→Nat
 |[]=>0
 |p::l=>Nat.lor p.mask (IK l)
def PI.objs:PI→List Nat
 |.setO j _=>[j]|.mcall j _ _=>[j]|_=>[]
def eZ (l:List Nat)(x:Nat):Bool:=l.any (Nat.beq x)
def ja (a b:List Nat):List Nat:=a.foldl (fun acc x=>bif eZ acc x then acc else x::acc) b
def aem (l:List PI):List Nat:=l.foldl (fun acc p=>ja p.objs acc) []
theorem pf (l:List Nat)(x:Nat):eZ l x=true↔x∈l:=by
 unfold eZ;rw[sF];constructor
 ·rintro⟨y,hy,h⟩;rw[aL h];exact hy
 ·intro h;exact⟨x,h,gY x⟩
theorem pg {x:Nat}:∀{a b:List Nat},x∈ja a b↔x∈a∨x∈b
 |[],b=>by simp[ja]
 |y::a,b=>by
  have ih:=@pg x a (bif eZ b y then b else y::b);have e:ja (y::a) b=ja a (bif eZ b y then b else y::b):=rfl;rw[e,ih];cases hb:eZ b y
  ·simp[or_assoc,or_left_comm]
  ·have:=(pf b y).1 hb;simp only[cond_true,cG];constructor
   ·rintro(h|h)
    ·exact .inl (.inr h)
    ·exact .inr h
   ·rintro((h|h)|h)
    ·subst h;exact .inr this
    ·exact .inl h
    ·exact .inr h
theorem ayp {x:Nat}(l:List PI)(h:x∈l.flatMap PI.modO):x∈aem l:=by
 have key:∀(l:List PI) (acc:List Nat),(x∈l.flatMap PI.modO∨x∈acc)→x∈l.foldl (fun acc p=>ja p.objs acc) acc:=by
  intro l
  induction l with
  |nil=>intro acc h;simpa using h
  |cons p l ih=>
   intro acc h;refine ih _ ?_;rw[uL,cY] at h;rcases h with(h|h)|h
   ·refine .inr (pg.2 (.inl ?_));cases p<;>simp_all [PI.modO,PI.objs]
   ·exact .inl h
   ·exact .inr (pg.2 (.inr h))
 exact key l [] (.inl h)
theorem acg {t:Nat}:∀(l:List PI),t∈l.flatMap PI.modR→aw (IK l) t=true
 |[],h=>by simp at h
 |p::l,h=>by
  rw[uL,cY] at h;simp only[IK,eO,gB];rcases h with h|h
  ·left;cases p<;>simp[PI.modR] at h<;>subst h<;>exact p7 _
  ·exact .inr (acg l h)
structure Res2 where
 pc:PC
 out:Option Snap
 ex:List (Nat×Snap)
 mr:Nat
 mo:List Nat
 deriving Inhabited
def lT:Option Snap→Option Snap→Option Snap
 |none,x=>x
 |x,none=>x
 |some a,some b=>some (a.meet b)
def nK (id:Nat):List (Nat×Snap)→Option Snap→Option Snap
 |[],acc=>acc
 |x::l,acc=>nK id l (bif Nat.beq x.1 id then lT acc (some x.2) else acc)
def iter (step:Snap→Option Res2):Nat→Snap→Option (Snap×Res2)
 |0,_=>none
 |k+1,S=>(step S).bind fun r=>
  match r.out with
  |none=>some (S,r)
  |some T=>bif (S.meet T).beq S then some (S,r) else iter step k (S.meet T)
def jW (S:Snap)(m:Nat):List Nat:=(List.range S.rs.length).filter fun t=>aw m t&& !isNone (cu (S.rs.getD t .none))
def iV (ids:List Nat)(S:Snap)(l:List Nat):List Nat:=l.filter fun j=> !nI (dh ids S.os j)
def gk:Res2:=⟨.is [Fk],none,[],0,[]⟩
theorem l0 (Φ:aT)(N:Nat)(ρ:Env)(x:Out):gk.pc.ev Φ N ρ≠some x:=by
 intro h;simp[gk,PC.ev,PI.runs,PI.run,Fk,PE.ev,D.b_bool] at h
theorem l5:(∀t,t∈gk.pc.modR→aw gk.mr t=true)∧∀j,j∈gk.pc.modO→j∈gk.mo:=by
 constructor<;>intro t h<;>simp[gk,PC.modR,PC.modO,PI.modR,PI.modO,Fk] at h
def cq:Code→List Nat
 |.region _ ops _=>ops.toList.filterMap (·.dst)
 |.seq a b=>cq a++cq b
 |.cond _ a b=>cq a++cq b
 |.block _ a=>cq a
 |.loop a=>cq a
 |_=>[]
def v3 (l:List Nat):Nat:=l.foldr (fun t m=>Nat.lor (dE t) m) 0
def rU (m:Nat):Nat→List Sh→List Sh
 |_,[]=>[]
 |t,s::l=>(bif aw m t then .none else s)::rU m (t+1) l
def Snap.mask (m:Nat)(S:Snap):Snap:=⟨rU m 0 S.rs,S.os⟩
def rI:Sh→Sh
 |.yv=>.none
 |s=>s
def qO:List Nat→List Ty→List Sh→List Sh
 |p::ps,y::ys,l=>qO ps ys (l.set p (.dat y))
 |_,_,l=>l
def Snap.start (ps:List Nat)(ys:List Ty)(S:Snap):Snap:=⟨qO ps ys (S.rs.map rI),S.os⟩
def ab8 (ids:List Nat)(l:List Snap)(mo:List Nat):List Nat:=mo.filter fun j=>l.any fun S=> !nI (dh ids S.os j)
def aA3 (wm:Nat)(ra rb:Res2):Res2:=
 let m:=Nat.lor wm (Nat.lor ra.mr rb.mr)
 ⟨.seq ra.pc rb.pc,rb.out.map (Snap.mask m),rb.ex.map (fun x=>(x.1,x.2.mask m)),m,ja ra.mo rb.mo⟩
def fW (ids:List Nat)(id:Nat)(r:Res2):Res2:=
    match nK id r.ex r.out with
    |some M=>⟨.block id (jW M r.mr) (iV ids M r.mo) r.pc,some M,r.ex.filter fun x=> !Nat.beq x.1 id,r.mr,r.mo⟩
    |none=>⟨.block id [] [] r.pc,none,r.ex.filter fun x=> !Nat.beq x.1 id,r.mr,r.mo⟩
def tP:List (Nat×Nat)→Nat→Option Nat
 |[],_=>none
 |x::l,t=>bif Nat.beq x.1 t then some x.2 else tP l t
def kB (pr:Nat):List Oper→List (Nat×Nat)→Option (List (Nat×Nat))
 |[],acc=>some acc
 |o::l,acc=>
  match o.dst,o.guard with
  |some d,none=>
   bif Nat.beq d pr||(tP acc d).isSome then none else
   match o.op with
   |.extract (.tmp t) i=>bif Nat.beq t pr&&Nat.ble i 1 then kB pr l (acc++[(d,i)]) else none
   |.assign (.tmp t)=>(tP acc t).bind fun i=>kB pr l (acc++[(d,i)])
   |.move (.tmp t)=>(tP acc t).bind fun i=>kB pr l (acc++[(d,i)])
   |_=>none
  |_,_=>none
structure MP where
 it:Nat
 nx:Nat
 mo:Nat
 out:Nat
 next:Nat
 pr:Nat
 ops1:Array Oper
 ops2:Array Oper
 aa:List (Nat×Nat)
 deriving Inhabited
def yO (x y:Code)(k:Nat)(z:Code):Option MP:=
 match x,y,z with
 |.region _ ops1 false,.cond (.tmp mo) .skip (.exit out),.region _ ops2 false=>
  match ops1.toList,ops2.toList with
  |[o1,o2],o3::l=>
   match o1.dst,o1.guard,o1.op,o2.dst,o2.guard,o2.op,o3.dst,o3.guard,o3.op with
   |some nx,none,.next (.tmp it) false,some mo',none,.extract (.tmp nx') 0,some pr,none,.entry (.tmp it')=>
    bif Nat.beq mo mo'&&Nat.beq nx nx'&&Nat.beq it it'&& !Nat.beq it nx&& !Nat.beq it mo&& !Nat.beq it pr&& !Nat.beq nx mo&& !Nat.beq out cE&& !Nat.beq k cE then
     (kB pr l []).map fun aa=>⟨it,nx,mo,out,k,pr,ops1,ops2,aa⟩
    else none
   |_,_,_,_,_,_,_,_,_=>none
  |_,_=>none
 |_,_,_=>none
def vT:List Nat→Nat→List Ob→List Ob
 |i::is,J,o::os=>(bif Nat.beq i J then .dead else o)::vT is J os
 |_,_,os=>os
def Snap.kill (ids:List Nat)(J:Nat)(S:Snap):Snap:=⟨S.rs,vT ids J S.os⟩
def abE (J:Nat)(kt et:Ty)(ids:List Nat)(p:MP)(m:Nat)(S:Snap):Bool:=
 Sh.beq (S.rs.getD p.it .none) (.obj J 0)&&Ob.beq (dh ids S.os J) (.it kt et)&& !aw m p.it
def yP (ids:List Nat)(n:Nat)(p:MP)(ws:List Nat)(f:Snap→Option Res2)(S:Snap):Option Res2:=
 match cu (S.rs.getD p.it .none) with
 |.obj J 0=>
  match dh ids S.os J with
  |.it kt et=>
   let ps:=p.aa.map (·.1)
   let ys:=p.aa.map fun x=>bif Nat.beq x.2 0 then kt else et
   let m:=v3 ws
   match iter (fun S=>(f ((S.mask m).start ps ys)).map (fW ids p.next)) 8 S with
   |some r=>
    bif r.2.ex.isEmpty&& !eZ r.2.mo J&&abE J kt et ids p m r.1&&ju ps&&ps.all (fun t=>Nat.blt t n)&&Nat.blt p.nx n&&Nat.blt p.mo n&&Nat.blt p.pr n&&Nat.beq (Nat.lor m r.2.mr) m then
       some ⟨.seq (.meach J ps (p.aa.map (·.2)) (iV ids r.1 r.2.mo) r.2.pc) (.exit p.out),none,[(p.out,(r.1.mask m).kill ids J)],0,r.2.mo⟩
    else some gk
   |none=>some gk
  |_=>some gk
 |_=>some gk
def comp (C:Ctx)(fn:Func)(s:Sig)(n:Nat)(ids:List Nat)(R:Array Oper→Bool→Snap→Option (Snap×List PI)):Bool→Code→Snap→Option Res2
 |_,.skip,S=>some ⟨.skip,some S,[],0,[]⟩
 |_,.region _ ops draw,S=>(R ops draw S).map fun r=>⟨.is r.2,some r.1,[],IK r.2,aem r.2⟩
 |rm,.seq a b,S=>(comp C fn s n ids R rm a S).bind fun r=>
  match r.out with
  |none=>some r
  |some S1=>(comp C fn s n ids R rm b S1).map fun q=>⟨.seq r.pc q.pc,q.out,r.ex++q.ex,Nat.lor r.mr q.mr,ja r.mo q.mo⟩
 |rm,.cond c a b,S=>
  match use C (S.st ids) [] c with
  |some (.bool,e)=>
   (comp C fn s n ids R rm a S).bind fun r=>(comp C fn s n ids R rm b S).map fun q=>
     match lT r.out q.out with
     |some M=>⟨.ite e (jW M (Nat.lor r.mr q.mr)) (iV ids M (ja r.mo q.mo)) r.pc q.pc,some M,r.ex++q.ex,Nat.lor r.mr q.mr,ja r.mo q.mo⟩
     |none=>⟨.ite e [] [] r.pc q.pc,none,r.ex++q.ex,Nat.lor r.mr q.mr,ja r.mo q.mo⟩
  |_=>some gk
 |rm,.block id a,S=>bif Nat.beq id cE then some gk else(comp C fn s n ids R rm a S).map (fW ids id)
 |rm,.loop (.seq x (.seq y (.block k (.seq z code)))),S=>
  (match yO x y k z with
  |some p=>yP ids n p (cq x++(cq y++(cq z++cq code))) (fun S=>comp C fn s n ids R rm code S) S
  |none=>
  match iter (fun S=>comp C fn s n ids R rm (.seq x (.seq y (.block k (.seq z code)))) S) 8 S with
  |some r=>some ⟨.loop (jW r.1 r.2.mr) (iV ids r.1 r.2.mo) r.2.pc,none,r.2.ex,r.2.mr,r.2.mo⟩
  |none=>some gk)
 |rm,.loop a,S=>
  match iter (fun S=>comp C fn s n ids R rm a S) 8 S with
  |some r=>some ⟨.loop (jW r.1 r.2.mr) (iV ids r.1 r.2.mo) r.2.pc,none,r.2.ex,r.2.mr,r.2.mo⟩
  |none=>some gk
 |_,.exit id,S=>bif Nat.beq id cE then some gk else some ⟨.exit id,none,[(id,S)],0,[]⟩
 |rm,.ret,S=>
  bif rm then some ⟨.exit cE,none,[(cE,S)],0,[]⟩ else
  match wO C fn s (S.st ids) with
  |some e=>some ⟨.ret e,none,[],0,[]⟩
  |none=>some gk
 |rm,.rangeFunc g ps a b,S=>
  match rm,C.yl,use C (S.st ids) [] g with
  |false,none,some (.fn aa r,e)=>
   match lR aa r with
   |some ys=>
    match iter (fun S=>(comp C fn s n ids R true a (S.start ps.toList ys)).bind fun ra=>
          match ra.out,ra.ex with
          |some S1,[]=>(comp C fn s n ids R true b S1).map (aA3 (v3 (ps.toList++cq a++cq b)) ra)
          |_,_=>none) 8 S with
    |some r=>
     bif Nat.beq ys.length ps.size&&ju ps.toList&&ps.toList.all (fun p=>Nat.blt p n)&&Nat.ble r.1.rs.length n then
           some ⟨.seq (.is [.callc [] n e []]) (.each (.r n) ps.toList (ab8 ids (r.1::r.2.ex.map (·.2)) r.2.mo) ((nK cE r.2.ex none).bind fun M=>wO C fn s (M.st ids)) r.2.pc),
            some r.1,r.2.ex.filter (fun x=> !Nat.beq x.1 cE),dE n,r.2.mo⟩
     else some gk
    |none=>some gk
   |none=>some gk
  |_,_,_=>some gk
 |_,_,_=>some gk
termination_by structural _ c=>c
def vY:Code→Option (MP×Code×List Nat)
 |.seq x (.seq y (.block k (.seq z code)))=>(yO x y k z).map fun p=>(p,code,cq x++(cq y++(cq z++cq code)))
 |_=>none
theorem Zf (C:Ctx)(fn:Func)(s:Sig)(n:Nat)(ids:List Nat)(R:Array Oper→Bool→Snap→Option (Snap×List PI))(rm:Bool)(a:Code)(S:Snap):comp C fn s n ids R rm (.loop a) S=
 match vY a with
 |some q=>yP ids n q.1 q.2.2 (fun S=>comp C fn s n ids R rm q.2.1 S) S
 |none=>
  match iter (fun S=>comp C fn s n ids R rm a S) 8 S with
  |some r=>some ⟨.loop (jW r.1 r.2.mr) (iV ids r.1 r.2.mo) r.2.pc,none,r.2.ex,r.2.mr,r.2.mo⟩
  |none=>some gk:=by
 by_cases h:∃x y k z code,a=.seq x (.seq y (.block k (.seq z code)))
 ·obtain⟨x,y,k,z,code,rfl⟩:=h
  conv=>lhs;unfold comp
  simp only[vY];cases yO x y k z<;>rfl
 ·have e:vY a=none:=by
   unfold vY;split
   ·rename_i x y k z code;exact absurd ⟨x,y,k,z,code,rfl⟩ h
   ·rfl
  rw[e];rw[comp];intro x y k z code e;exact h ⟨x,y,k,z,code,e⟩
def subs:Code→List Code
 |.seq a b=>.seq a b::(subs a++subs b)
 |.cond c a b=>.cond c a b::(subs a++subs b)
 |.block i a=>.block i a::subs a
 |.loop a=>.loop a::subs a
 |.rangeFunc g ps a b=>.rangeFunc g ps a b::(subs a++subs b)
 |c=>[c]
theorem aBB (c:Code):c∈subs c:=by cases c<;>simp[subs]
theorem aJB {a code:Code}{p:MP}{ws:List Nat}(h:vY a=some (p,code,ws)):code∈subs a:=by
 unfold vY at h;split at h
 ·simp only[aH] at h;obtain⟨q,_,e⟩:=h;cases e;simp[subs,aBB]
 ·cases h
def Nd (C:Ctx)(n:Nat)(ids:List Nat)(Φ:aT)(R:Array Oper→Bool→Snap→Option (Snap×List PI)):Prop:=
 ∀(id:Nat) (ops:Array Oper) (draw:Bool) (S:Snap) (r:Snap×List PI),R ops draw S=some r→
  ∀(rd:Option Nat) (w0:World) (σ0:Base) (ρ ρ':Env) (a:Act) (w:World) (Q:Exit→Act→World→Prop),CtxOK C σ0→oB C Φ w0 σ0→a.tmps.size=n→Good C w0 σ0 (S.st ids) ρ (fun _=>False) a w→PI.runs Φ r.2 ρ=some ρ'→
   (∀a' w',SameBut (p9 ops) a a'→Good C w0 σ0 (r.1.st ids) ρ' (fun _=>False) a' w'→Q .normal a' w')→(Code.region id ops draw).wpIn (FR rd) 0 C.P Q a w
section
variable {C:Ctx} {ρ ρ':Env} {σ:Im} {own:Nat→Option Nat} {hv:Nat→Value} {w0:World} {σ0:Base} {A:Nat→Prop} {a:Act} {w:World} {Φ:aT} {n:Nat} {ids:List Nat} {fn:Func} {s:Sig}
 {R:Array Oper→Bool→Snap→Option (Snap×List PI)}
def gl (C:Ctx)(w0:World)(σ0:Base)(ids:List Nat)(fn:Func)(s:Sig)(rm:Bool)(wr:Nat→Prop)(a0:Act)(out:Option Snap)(ex:List (Nat×Snap))(x:Out):Exit→Act→World→Prop
 |.normal,a,w=>∃ρ S,x=.next ρ∧out=some S∧SameBut wr a0 a∧Good C w0 σ0 (S.st ids) ρ (fun _=>False) a w
 |.exit id,a,w=>∃ρ S,x=.exit id ρ∧id≠cE∧(id,S)∈ex∧SameBut wr a0 a∧Good C w0 σ0 (S.st ids) ρ (fun _=>False) a w
 |.ret,a,w=>match rm with
  |false=>∃d,x=.ret d∧pW C w0 σ0 fn s d a.tmps a.defers w∧SameBut wr a0 a
  |true=>∃ρ S,x=.exit cE ρ∧(cE,S)∈ex∧SameBut wr a0 a∧Good C w0 σ0 (S.st ids) ρ (fun _=>False) a w
 |_,_,_=>False
theorem Good.meet1 {x y:Snap}(h:Good C w0 σ0 (x.st ids) ρ A a w):Good C w0 σ0 ((x.meet y).st ids) ρ (fun _=>False) a w:=by
 obtain⟨σ,own,hv,h⟩:=h;exact⟨σ,own,hv,Snap.meet_ok1 h⟩
theorem Good.meet2 {x y:Snap}(h:Good C w0 σ0 (y.st ids) ρ A a w):Good C w0 σ0 ((x.meet y).st ids) ρ (fun _=>False) a w:=by
 obtain⟨σ,own,hv,h⟩:=h;exact⟨σ,own,hv,Snap.meet_ok2 h⟩
theorem aco {x:Snap}{y:Option Snap}{M:Snap}(h:Good C w0 σ0 (x.st ids) ρ (fun _=>False) a w)(hm:lT (some x) y=some M):Good C w0 σ0 (M.st ids) ρ (fun _=>False) a w:=by
 cases y<;>simp[lT] at hm<;>subst hm
 ·exact h
 ·exact h.meet1
theorem acp {x:Option Snap}{y:Snap}{M:Snap}(h:Good C w0 σ0 (y.st ids) ρ (fun _=>False) a w)(hm:lT x (some y)=some M):Good C w0 σ0 (M.st ids) ρ (fun _=>False) a w:=by
 cases x<;>simp[lT] at hm<;>subst hm
 ·exact h
 ·exact h.meet2
theorem acq {x:Snap}{y:Option Snap}:∃M,lT (some x) y=some M:=by cases y<;>simp[lT]
theorem acr {x:Option Snap}{y:Snap}:∃M,lT x (some y)=some M:=by cases x<;>simp[lT]
theorem IL {id:Nat}:∀(l:List (Nat×Snap)) {x:Snap},Good C w0 σ0 (x.st ids) ρ (fun _=>False) a w→∃M,nK id l (some x)=some M∧Good C w0 σ0 (M.st ids) ρ (fun _=>False) a w
 |[],x,h=>⟨x,rfl,h⟩
 |y::l,x,h=>by
  simp only[nK];cases Nat.beq y.1 id
  ·exact IL l h
  ·obtain⟨M,hM⟩:=@acq x (some y.2);simp only[cond_true,hM];exact IL l (aco h hM)
theorem Rm {id:Nat}{S:Snap}(h:Good C w0 σ0 (S.st ids) ρ (fun _=>False) a w):∀(l:List (Nat×Snap)) (x:Option Snap),(id,S)∈l→∃M,nK id l x=some M∧Good C w0 σ0 (M.st ids) ρ (fun _=>False) a w
 |y::l,x,hm=>by
  simp only[nK];rcases cG.1 hm with e|hm
  ·subst e;simp only[gY,cond_true];obtain⟨M,hM⟩:=@acr x S;rw[hM];exact IL l (acp h hM)
  ·exact Rm h l _ hm
theorem Dx {step:Snap→Option Res2}:∀(k:Nat) {S:Snap} {r:Snap×Res2},iter step k S=some r→
 step r.1=some r.2∧(∀T,r.2.out=some T→r.1.meet T=r.1)∧∀{ρ:Env} {a:Act} {w:World},Good C w0 σ0 (S.st ids) ρ (fun _=>False) a w→Good C w0 σ0 (r.1.st ids) ρ (fun _=>False) a w
 |0,S,r,h=>by simp[iter] at h
 |k+1,S,r,h=>by
  simp only[iter,ax] at h;obtain⟨q,hq,h⟩:=h;split at h
  ·rename_i ho;cases h;exact⟨hq,fun T hT=>by simp[ho] at hT,fun g=>g⟩
  ·rename_i T ho;cases hb:(S.meet T).beq S<;>simp only[hb,cond_true,cond_false] at h
   ·obtain⟨h1,h2,h3⟩:=Dx k h;exact⟨h1,h2,fun g=>h3 g.meet1⟩
   ·cases h;refine⟨hq,fun T' hT=>?_,fun g=>g⟩;simp only[ho,bf] at hT;subst hT;exact Snap.beq_eq _ _ hb
theorem abI {step:Snap→Option Res2}{hv:Nat→Value}:∀(k:Nat) {S:Snap} {r:Snap×Res2},iter step k S=some r→Inv C (S.st ids) ρ σ own hv w0 σ0 (fun _=>False) a w→Inv C (r.1.st ids) ρ σ own hv w0 σ0 (fun _=>False) a w
 |0,S,r,h,_=>by simp[iter] at h
 |k+1,S,r,h,i=>by
  simp only[iter,ax] at h;obtain⟨q,hq,h⟩:=h;split at h
  ·cases h;exact i
  ·rename_i T ho;cases hb:(S.meet T).beq S<;>simp only[hb,cond_true,cond_false] at h
   ·exact abI k h (Snap.meet_ok1 i)
   ·cases h;exact i
theorem Good.joined {M:Snap}{m:Nat}{mo mr' mo':List Nat}(h:Good C w0 σ0 (M.st ids) ρ' (fun _=>False) a w)(hb:ρ.but ρ' mr' mo')(h1:∀t,t∈mr'→aw m t=true)(h2:∀j,j∈mo'→j∈mo):
 Good C w0 σ0 (M.st ids) (ρ.join (jW M m) (iV ids M mo) ρ') (fun _=>False) a w:=by
 obtain⟨σ,own,hv,h⟩:=h;refine⟨σ,own,hv,h.env (Snap.noOpt _ _) (fun t ht=>?_) (fun j hj=>?_)⟩
 ·simp only[Env.join,Env.put,sd];split
  ·rfl
  ·rename_i hm;refine(hb.r t fun C5=>hm ?_).symm;have ah:t<M.rs.length:=by
        refine XB fun hle=>?_;simp only[Snap.st,aS,q9 hle,Option.getD_none,cu,isNone] at ht;cases ht
   exact cQ.2 ⟨cd.2 ah,by rw[h1 t C5];simpa [Snap.st] using ht⟩
 ·simp only[Env.join,Env.put,sd];split
  ·rfl
  ·rename_i hm;refine(hb.o j fun C5=>hm ?_).symm;exact cQ.2 ⟨h2 j C5,by simpa [Snap.st] using hj⟩
theorem IM {S:Snap}{m t:Nat}(h:t∈jW S m):aw m t=true:=by
 have:=(cQ.1 h).2;simp only[ar] at this;exact this.1
theorem yQ {S:Snap}{l:List Nat}{j:Nat}(h:j∈iV ids S l):j∈l:=(cQ.1 h).1
theorem Yk {id:Nat}{q:Res2}(h:(∀t,t∈q.pc.modR→aw q.mr t=true)∧∀j,j∈q.pc.modO→j∈q.mo):(∀t,t∈(fW ids id q).pc.modR→aw (fW ids id q).mr t=true)∧∀j,j∈(fW ids id q).pc.modO→j∈(fW ids id q).mo:=by
 unfold fW;cases hm:nK id q.ex q.out<;>simp only
 ·simpa [PC.modR,PC.modO] using h
 ·refine⟨fun t ht=>?_,fun j hj=>?_⟩
  ·simp only[PC.modR,cY] at ht;exact ht.elim IM (h.1 t)
  ·simp only[PC.modO,cY] at hj;exact hj.elim yQ (h.2 j)
theorem ayf {p:MP}{ws:List Nat}{f:Snap→Option Res2}{S:Snap}{r:Res2}(h:yP ids n p ws f S=some r):(∀t,t∈r.pc.modR→aw r.mr t=true)∧∀j,j∈r.pc.modO→j∈r.mo:=by
 unfold yP at h;split at h
 case h_2=>cases h;exact l5
 split at h
 case h_2=>cases h;exact l5
 simp only at h;split at h
 case h_2=>cases h;exact l5
 rw[oq] at h;split at h
 ·cases h;refine⟨fun t ht=>by simp[PC.modR] at ht,fun j hj=>?_⟩;simp only[PC.modO,mc] at hj;exact yQ hj
 ·cases h;exact l5
theorem sQ:∀(c:Code) {rm:Bool} {S:Snap} {r:Res2},comp C fn s n ids R rm c S=some r→(∀t,t∈r.pc.modR→aw r.mr t=true)∧∀j,j∈r.pc.modO→j∈r.mo:=by
 intro c
 induction c with
 |skip=>intro rm S r h;simp only[comp,bf] at h;subst h;simp[PC.modR,PC.modO]
 |region id ops draw=>
  intro rm S r h;simp only[comp,aH] at h;obtain⟨q,_,rfl⟩:=h;exact⟨fun t ht=>acg _ ht,fun j hj=>ayp _ hj⟩
 |seq x y iU vR=>
  intro rm S r h;simp only[comp,ax] at h;obtain⟨q,hq,h⟩:=h;split at h
  ·cases h;exact iU hq
  ·simp only[aH] at h;obtain⟨p,hp,rfl⟩:=h;refine⟨fun t ht=>?_,fun j hj=>?_⟩
   ·simp only[PC.modR,cY] at ht;rw[eO,gB];exact ht.imp ((iU hq).1 t) ((vR hp).1 t)
   ·simp only[PC.modO,cY] at hj;rw[pg];exact hj.imp ((iU hq).2 j) ((vR hp).2 j)
 |cond c x y iU vR=>
  intro rm S r h;simp only[comp] at h;split at h
  case h_2=>cases h;exact l5
  rename_i e _;simp only[ax,aH] at h;obtain⟨q,hq,p,hp,rfl⟩:=h;cases hm:lT q.out p.out<;>simp only[hm]
  ·refine⟨fun t ht=>?_,fun j hj=>?_⟩
   ·simp only[PC.modR,cY,sH] at ht;rw[eO,gB];exact ht.imp ((iU hq).1 t) ((vR hp).1 t)
   ·simp only[PC.modO,cY,sH] at hj;rw[pg];exact hj.imp ((iU hq).2 j) ((vR hp).2 j)
  ·refine⟨fun t ht=>?_,fun j hj=>?_⟩
   ·simp only[PC.modR,cY] at ht;rw[eO,gB];rcases ht with(ht|ht)|ht
    ·have:=IM ht;rw[eO,gB] at this;exact this
    ·exact .inl ((iU hq).1 t ht)
    ·exact .inr ((vR hp).1 t ht)
   ·simp only[PC.modO,cY] at hj;rcases hj with(hj|hj)|hj
    ·exact yQ hj
    ·exact pg.2 (.inl ((iU hq).2 j hj))
    ·exact pg.2 (.inr ((vR hp).2 j hj))
 |block id x iU=>
  intro rm S r h;simp only[comp] at h;cases cB:Nat.beq id cE<;>simp only[cB,cond_true,cond_false] at h
  case true=>cases h;exact l5
  simp only[aH] at h;obtain⟨q,hq,rfl⟩:=h;exact Yk (iU hq)
 |loop x iU=>
  intro rm S r h;rw[Zf] at h;split at h
  ·exact ayf h
  split at h
  case h_2=>cases h;exact l5
  rename_i q hq;cases h;have hs:=(Dx (C:=C) (w0:=default) (σ0:=Base.mk0 ⟨fun _ _=>none,fun _=>none⟩ 0) (ids:=ids) 8 hq).1;refine⟨fun t ht=>?_,fun j hj=>?_⟩
  ·simp only[PC.modR,cY] at ht;exact ht.elim IM ((iU hs).1 t)
  ·simp only[PC.modO,cY] at hj;exact hj.elim yQ ((iU hs).2 j)
 |exit id=>
  intro rm S r h;simp only[comp] at h;cases cB:Nat.beq id cE<;>simp only[cB,cond_true,cond_false] at h<;>cases h
  ·simp[PC.modR,PC.modO]
  ·exact l5
 |ret=>
  intro rm S r h;simp only[comp] at h;cases rm<;>simp only[cond_true,cond_false] at h
  case true=>cases h;simp[PC.modR,PC.modO]
  split at h
  ·cases h;simp[PC.modR,PC.modO]
  ·cases h;exact l5
 |rangeFunc g ps x y _ _=>
  intro rm S r h;simp only[comp] at h;split at h
  case h_2=>cases h;exact l5
  split at h
  case h_2=>cases h;exact l5
  split at h
  case h_2=>cases h;exact l5
  rename_i q hq;rw[oq] at h;split at h
  ·cases h;refine⟨fun t ht=>?_,fun j hj=>?_⟩
   ·simp[PC.modR,PI.modR] at ht;subst ht;exact p7 _
   ·simp only[PC.modO,PI.modO,uL,Xt,mc,sH] at hj;exact(cQ.1 hj).1
  ·cases h;exact l5
 |_=>intro rm S r h;simp only[comp,bf] at h;subst h;exact l5
theorem gl.mono {rm:Bool}{wr:Nat→Prop}{a0 a1:Act}{out afP:Option Snap}{ex ZC:List (Nat×Snap)}{x:Out}{e:Exit}(h:gl C w0 σ0 ids fn s rm wr a0 out ex x e a w)(he:∀y,y∈ex→y∈ZC)(hs:SameBut wr a1 a0)
 (ho:e=.normal→afP=out):gl C w0 σ0 ids fn s rm wr a1 afP ZC x e a w:=by
 cases e with
 |normal=>obtain⟨ρ,S,h1,h2,h3,h4⟩:=h;exact⟨ρ,S,h1,by rw[ho rfl];exact h2,hs.trans h3,h4⟩
 |exit id=>obtain⟨ρ,S,h1,h2,h3,h4,h5⟩:=h;exact⟨ρ,S,h1,h2,he _ h3,hs.trans h4,h5⟩
 |ret=>
  cases rm with
  |false=>obtain⟨d,h1,h2,h3⟩:=h;exact⟨d,h1,h2,hs.trans h3⟩
  |true=>obtain⟨ρ,S,h1,h3,h4,h5⟩:=h;exact⟨ρ,S,h1,he _ h3,hs.trans h4,h5⟩
 |_=>exact h.elim
theorem Zt {body:Env→Option Out}{ρ:Env}{ps lo:List Nat}{rt:Option PE}{x:Out}:∀{xs vo:List D},fX body ρ ps lo rt xs vo=some x→
 ∃(m:Nat) (l8:Nat→List D),m≤xs.length∧l8 0=vo∧
  (∀i,i<m→∃y ρ',xs[i]?=some y∧body (ρ.put ps (partsOf ps y) lo (l8 i))=some (.next ρ')∧lo.map ρ'.o=l8 (i+1))∧
  ((m=xs.length∧x=.next (ρ.put [] [] lo (l8 m)))∨
   (m<xs.length∧∃y id ρ',xs[m]?=some y∧body (ρ.put ps (partsOf ps y) lo (l8 m))=some (.exit id ρ')∧
    ((id≠cE∧x=.exit id (ρ.put [] [] lo (lo.map ρ'.o)))∨(id=cE∧∃e,rt=some e∧x=.ret (e.ev (ρ.put [] [] lo (lo.map ρ'.o)))))))
 |[],vo,h=>by
  simp only[fX,bf] at h;exact⟨0,fun _=>vo,bk _,rfl,fun i hi=>by omega,.inl ⟨rfl,h.symm⟩⟩
 |y::xs,vo,h=>by
  simp only[fX] at h;split at h
  ·rename_i ρ' hb;obtain⟨m,l8,h1,h2,h3,h4⟩:=Zt h;refine⟨m+1,fun i=>match i with|0=>vo|i+1=>l8 i,by simp;omega,rfl,fun i hi=>?_,?_⟩
   ·cases i with
    |zero=>exact⟨y,ρ',rfl,hb,h2.symm⟩
    |succ i=>simpa using h3 i (by omega)
   ·rcases h4 with⟨e1,e2⟩|⟨e1,z,id,ρ2,e2,e3,e4⟩
    ·exact .inl ⟨by simp[e1],e2⟩
    ·exact .inr ⟨by simp;omega,z,id,ρ2,by simpa using e2,e3,e4⟩
  ·rename_i id ρ' hb;refine⟨0,fun _=>vo,oA _,rfl,fun i hi=>by omega,.inr ⟨by simp,y,id,ρ',rfl,hb,?_⟩⟩;cases cB:Nat.beq id cE<;>simp only[cB,cond_true,cond_false] at h
   ·refine .inl ⟨fun e=>?_,(Au h).symm⟩;subst e;simp at cB
   ·simp only[aH] at h;obtain⟨e,he,e2⟩:=h;exact .inr ⟨aL cB,e,he,e2.symm⟩
  ·cases h
theorem Yi {l:List Nat}{t:Nat}(h:t∈l):aw (v3 l) t=true:=by
 induction l with
 |nil=>cases h
 |cons x l ih=>
  have e:v3 (x::l)=Nat.lor (dE x) (v3 l):=rfl;rw[e,eO];rcases cG.1 h with e|e
  ·subst e;rw[p7];rfl
  ·rw[ih e];simp
theorem Rk (m:Nat):∀(l:List Sh) (k t:Nat),(rU m k l).getD t .none=if aw m (k+t)=true then .none else l.getD t .none
 |[],k,t=>by simp[rU]
 |s::l,k,0=>by
  simp only[rU,uM,ox];cases aw m k<;>rfl
 |s::l,k,t+1=>by
  simp only[rU,FJ];rw[Rk m l (k+1) t,show k+1+t=k+(t+1) by omega]
theorem DG (m:Nat)(S:Snap)(t:Nat):((S.mask m).st ids).r t=if aw m t=true then .none else(S.st ids).r t:=by
 show cu ((rU m 0 S.rs).getD t .none)=if aw m t=true then .none else cu (S.rs.getD t .none);rw[Rk,lC];split<;>rfl
theorem ayo {m:Nat}{x S:Snap}{t:Nat}(h:aw m t=true):((x.meet (S.mask m)).st ids).r t=.none:=by
 show cu ((List.zipWith iW x.rs (rU m 0 S.rs)).getD t .none)=.none;rcases MX (f:=iW) x.rs (rU m 0 S.rs) t with h0|⟨s,u,h1,h2,h3⟩
 ·rw[h0];rfl
 ·rw[Rk,lC,if_pos h] at h2;subst h2;rw[h3];cases s<;>rfl
theorem Inv.maskR {S:Snap}{hv:Nat→Value}(h:Inv C (S.st ids) ρ σ own hv w0 σ0 A a w)(m:Nat):Inv C ((S.mask m).st ids) ρ σ own hv w0 σ0 (fun _=>False) a w:=by
 have hc:Compat (S.st ids) hv ((S.mask m).st ids) hv:=⟨fun _=>bk _,fun _ _=>rfl⟩
 refine h.weaken (fun t=>?_) (fun j=>?_) (Snap.noOpt _ _) (fun j hj=>⟨hj,rfl⟩)
 ·refine aQ.mono' (ρ:=ρ) (.refl σ) hc (Snap.noOpt _ _ t) ?_;rw[DG];split
  ·trivial
  ·exact h.regs t
 ·exact(h.objs j).mono (.refl σ) hc rfl rfl (fun k hk=>⟨hk,rfl⟩)
theorem Uv:∀(ps:List Nat) (ys:List Ty) (l:List Sh),ps.length=ys.length→ju ps=true→∀t,(qO ps ys l).getD t .none=.none∨(t∉ps∧(qO ps ys l).getD t .none=l.getD t .none)∨∃(i:Nat) (y:Ty),ps[i]?=some t∧ys[i]?=some y∧(qO ps ys l).getD t .none=.dat y
 |[],ys,l,_,_,t=>.inr (.inl ⟨by simp,by cases ys<;>rfl⟩)
 |p::ps,[],l,h,_,t=>by simp at h
 |p::ps,y::ys,l,h,hn,t=>by
  have iP:=mP hn;rw[m8] at iP;have dp:ju ps=true:=by
   simp only[ju,ar] at hn;exact hn.2
  show(qO ps ys (l.set p (.dat y))).getD t .none=_∨_∨_;rcases Uv ps ys (l.set p (.dat y)) (by simpa using h) dp t with e|⟨e1,e2⟩|⟨i,z,e1,e2,e3⟩
  ·exact .inl e
  ·by_cases hp:t=p
   ·subst hp;by_cases ah:t<l.length
    ·exact .inr (.inr ⟨0,y,rfl,rfl,by show(qO ps ys (l.set t (.dat y))).getD t .none=_;rw[e2];simp[aS,ah]⟩)
    ·left;rw[e2];simp[aS,ah]
   ·refine .inr (.inl ⟨by simp[hp,e1],?_⟩);show(qO ps ys (l.set p (.dat y))).getD t .none=_;rw[e2];simp only[aS,Aq];rw[if_neg (fun e=>hp e.symm)]
  ·exact .inr (.inr ⟨i+1,z,by simpa using e1,by simpa using e2,e3⟩)
def lY:List Nat→List Value→Array Value→Array Value
 |p::ps,v::vs,T=>lY ps vs (T.setIfInBounds p v)
 |_,_,T=>T
theorem aBo (ps:Array Nat)(vs:Array Value)(T:Array Value):(ps.zip vs).foldl (fun T x=>T.setIfInBounds x.1 x.2) T=lY ps.toList vs.toList T:=by
 rw[←Array.foldl_toList,Array.toList_zip];generalize ps.toList=l;generalize vs.toList=k
 induction l generalizing k T with
 |nil=>rfl
 |cons p l ih=>
  cases k with
  |nil=>rfl
  |cons v k=>simpa [lY] using ih (T.setIfInBounds p v) k
theorem ahu:∀(ps:List Nat) (vs:List Value) (T:Array Value),(lY ps vs T).size=T.size
 |[],vs,T=>by cases vs<;>rfl
 |p::ps,[],T=>rfl
 |p::ps,v::vs,T=>by simp[lY,ahu ps vs]
theorem Mv:∀(ps:List Nat) (vs:List Value) (T:Array Value) (t:Nat),t∉ps→(lY ps vs T).getD t undef=T.getD t undef
 |[],vs,T,t,_=>by cases vs<;>rfl
 |p::ps,[],T,t,_=>rfl
 |p::ps,v::vs,T,t,h=>by
  simp only[cG,not_or] at h;simp only[lY];rw[Mv ps vs _ t h.2];simp only[dO,uF];rw[if_neg (fun e=>h.1 e.symm)]
theorem aht:∀(ps:List Nat) (vs:List Value) (T:Array Value) (i t:Nat),ps.Nodup→ps.length=vs.length→(∀p,p∈ps→p<T.size)→ps[i]?=some t→(lY ps vs T).getD t undef=vs.getD i undef
 |p::ps,v::vs,T,0,t,hn,hl,ah,h=>by
  simp at h;subst h;rw[m8] at hn;simp only[lY];rw[Mv ps vs _ p hn.1];simp[uF,ah p (dw ..)]
 |p::ps,v::vs,T,i+1,t,hn,hl,ah,h=>by
  rw[m8] at hn;simp only[lY];have:=aht ps vs (T.setIfInBounds p v) i t hn.2 (by simpa using hl) (fun q hq=>by simpa using ah q (dj _ hq)) (by simpa using h);simpa using this
 |p::ps,[],T,i,t,hn,hl,ah,h=>by simp at hl
 |[],vs,T,i,t,hn,hl,ah,h=>by simp at h
theorem zg (f:Nat→D):∀(ps:List Nat) (vs:List D) (t:Nat),t∉ps→putL f ps vs t=f t
 |[],vs,t,_=>by cases vs<;>rfl
 |p::ps,[],t,_=>rfl
 |p::ps,v::vs,t,h=>by
  simp only[cG,not_or] at h;simp only[putL,bz _ _ h.1];exact zg f ps vs t h.2
theorem SS (f:Nat→D):∀(ps:List Nat) (vs:List D) (i t:Nat),ps.Nodup→ps.length=vs.length→ps[i]?=some t→putL f ps vs t=vs.getD i .none
 |p::ps,v::vs,0,t,hn,hl,h=>by
  simp at h;subst h;simp[putL,aU]
 |p::ps,v::vs,i+1,t,hn,hl,h=>by
  rw[m8] at hn;have ht:t∈ps:=mg (by simpa using h);have aB:t≠p:=fun e=>hn.1 (e▸ht);simp only[putL,bz _ _ aB];have:=SS f ps vs i t hn.2 (by simpa using hl) (by simpa using h);simpa using this
 |p::ps,[],i,t,hn,hl,h=>by simp at hl
 |[],vs,i,t,hn,hl,h=>by simp at h
theorem azU (ps:List Nat)(ds:List D)(i:Nat)(h:i<ps.length):(partsOf ps (.tup ds)).getD i .none=ds.getD i .none:=by
 simp[partsOf,aS,h,D.tget]
theorem azT (ps:List Nat)(x:D):(partsOf ps x).length=ps.length:=by simp[partsOf]
theorem Inv.startR {S:Snap}{hv:Nat→Value}(h:Inv C (S.st ids) ρ σ own hv w0 σ0 A a w){ps:List Nat}{ys:List Ty}{args:List Value}{ds:List D}{lo:List Nat}{vo:List D}(hl:ps.length=ys.length)(bp:ju ps=true)(ah:∀p,p∈ps→p<a.tmps.size)(ha:pM C σ ys args ds)
 (hρ:ρ=ρ'.put [] [] lo vo):Inv C ((S.start ps ys).st ids) (ρ'.put ps (partsOf ps (.tup ds)) lo vo) σ own hv w0 σ0 (fun _=>False) {tmps:=lY ps args a.tmps,defers:=[]} w:=by
 obtain⟨a1,a2,a3⟩:=ha;have hn:=mP bp;have hc:Compat (S.st ids) hv ((S.start ps ys).st ids) hv:=⟨fun _=>bk _,fun _ _=>rfl⟩
 have ho:∀j,(ρ'.put ps (partsOf ps (.tup ds)) lo vo).o j=ρ.o j:=fun j=>by rw[hρ];rfl
 refine⟨trivial,h.ok,h.le,h.old,h.newc,h.newm,h.below,h.bw,h.owns,fun t=>?_,fun j=>(h.objs j).mono (.refl σ) hc rfl (ho j) (fun k hk=>⟨hk,rfl⟩),fun t gs s e=>absurd e (Snap.noOpt _ _ t gs s),?_⟩
 ·show aQ C _ _ σ hv (cu ((qO ps ys (S.rs.map rI)).getD t .none)) ((lY ps args a.tmps).getD t undef) (putL ρ'.r ps (partsOf ps (.tup ds)) t);rcases Uv ps ys (S.rs.map rI) hl bp t with e|⟨e1,e2⟩|⟨i,y,e1,e2,e3⟩
  ·rw[e];trivial
  ·rw[e2,Mv _ _ _ _ e1,zg _ _ _ _ e1];have hr:=h.regs t;change aQ C _ ρ σ hv (cu (S.rs.getD t .none)) _ _ at hr;have hρr:ρ.r t=ρ'.r t:=by rw[hρ];show putL ρ'.r [] [] t=_;rfl
   rw[hρr] at hr;have e3:(S.rs.map rI).getD t .none=rI (S.rs.getD t .none):=by
        simp only[aS,cU];cases S.rs[t]?<;>rfl
   rw[e3];generalize S.rs.getD t .none=s at hr;cases s with
   |yv=>trivial
   |opt gs s=>trivial
   |none=>trivial
   |fclo f c=>exact aQ.mono' (.refl σ) hc (fun _ _ e=>by cases e) hr
   |dat t=>exact hr
   |obj j v=>exact aQ.mono' (.refl σ) hc (fun _ _ e=>by cases e) hr
   |ptr j v o=>exact aQ.mono' (.refl σ) hc (fun _ _ e=>by cases e) hr
   |eptr j v o q=>exact aQ.mono' (.refl σ) hc (fun _ _ e=>by cases e) hr
  ·rw[e3];have hi:i<ps.length:=(fi.1 e1).1;rw[aht ps args a.tmps i t hn (by omega) ah e1,SS _ ps _ i t hn (by rw[azT]) e1,azU _ _ _ hi];exact a3 i y e2
 ·obtain⟨t,fx,cx,h1,h2⟩:=h.frame;exact⟨t,fx,cx,h1,fun j hj=>⟨(h2 j hj).1,by rw[ho j];exact(h2 j hj).2⟩⟩
def uR (C:Ctx)(Φ:aT)(fn:Func)(s:Sig)(n:Nat)(ids:List Nat)(R:Array Oper→Bool→Snap→Option (Snap×List PI))(N:Nat)(c:Code):Prop:=
 ∀(rm:Bool) (S:Snap) (r:Res2),comp C fn s n ids R rm c S=some r→∀(rd:Option Nat) (w0:World) (σ0:Base) (wr:Nat→Prop) (ρ:Env) (x:Out) (a:Act) (w:World),(rm=false→rd=none∧σ0.fin)→CtxOK C σ0→oB C Φ w0 σ0→(∀t,t∈cq c→wr t)→a.tmps.size=n→
  Good C w0 σ0 (S.st ids) ρ (fun _=>False) a w→r.pc.ev Φ N ρ=some x→c.wpIn (FR rd) 0 C.P (gl C w0 σ0 ids fn s rm wr a r.out r.ex x) a w
structure Seg (σ:Im) (own:Nat→Option Nat) (w:World) (σ':Im) (own':Nat→Option Nat) (w':World):Prop where
 le:σ.le σ'
 below:Below 0 w w'
 same:∀k,k<w.heap.size→own k=none→w'.heap[k]?=w.heap[k]?
 ow:∀k j,own' k=some j→(∃i,own k=some i)∨w.heap.size≤k
 imm:∀k,((∃o x,σ'.c k o=some x)∨∃x,σ'.m k=some x)→(∃o x,σ.c k o=some x)∨(∃x,σ.m k=some x)∨(∃i,own k=some i)∨w.heap.size≤k
structure Free (L:Nat) (σ:Im) (own:Nat→Option Nat):Prop where
 own:own L=none
 c:∀o,σ.c L o=none
 m:σ.m L=none
theorem Free.seg {L:Nat}{σ':Im}{own':Nat→Option Nat}{w':World}(h:Free L σ own)(hL:L<w.heap.size)(k:Seg σ own w σ' own' w'):Free L σ' own':=by
 have CU:¬((∃o x,σ'.c L o=some x)∨∃x,σ'.m L=some x):=fun e=>by
  rcases k.imm L e with⟨o,x,e⟩|⟨x,e⟩|⟨i,e⟩|e
  ·rw[h.c o] at e;cases e
  ·rw[h.m] at e;cases e
  ·rw[h.own] at e;cases e
  ·omega
 refine⟨?_,fun o=>?_,?_⟩
 ·cases e:own' L with
  |none=>rfl
  |some j=>
   rcases k.ow L j e with⟨i,e⟩|e
   ·rw[h.own] at e;cases e
   ·omega
 ·cases e:σ'.c L o with
  |none=>rfl
  |some x=>exact absurd (.inl ⟨o,x,e⟩) CU
 ·cases e:σ'.m L with
  |none=>rfl
  |some x=>exact absurd (.inr ⟨x,e⟩) CU
def ai2 (C:Ctx)(w0:World)(σ0:Base)(ids:List Nat)(wr:Nat→Prop)(a0:Act)(σ:Im)(own:Nat→Option Nat)(w:World)(out:Option Snap)(ex:List (Nat×Snap))(x:Out)(e:Exit)(a':Act)(w':World):Prop:=
 ∃ρ' S' σ' own' hv',Inv C (S'.st ids) ρ' σ' own' hv' w0 σ0 (fun _=>False) a' w'∧Seg σ own w σ' own' w'∧SameBut wr a0 a'∧
  match e with
  |.normal=>x=.next ρ'∧out=some S'
  |.exit id=>x=.exit id ρ'∧id≠cE∧(id,S')∈ex
  |.ret=>x=.exit cE ρ'∧(cE,S')∈ex
  |_=>False
theorem aho {N:Nat}{c:Code}(hc:uR C Φ fn s n ids R N c){S:Snap}{r:Res2}(hr:comp C fn s n ids R true c S=some r)(jT:C.yl=none)(hC:CtxOK C σ0){wr:Nat→Prop}{ρ:Env}{x:Out}{hv:Nat→Value}(h:Inv C (S.st ids) ρ σ own hv w0 σ0 (fun _=>False) a w)
 (gQ:∀t,t∈cq c→wr t) (hn:a.tmps.size=n) (he:r.pc.ev Φ N ρ=some x) (L:Nat):c.wpIn (FR (some L)) 0 C.P (ai2 C w0 σ0 ids wr a σ own w r.out r.ex x) a w:=by
 obtain⟨t,fx,cx,da,ht⟩:=h.frame;have h1:=h.toRnd (X:=fun _=>False) ht;refine wpIn_mono (hc true S r hr (some L) w0 (σ0.rnd σ own w t fun _=>False) wr ρ x a w (fun e=>by cases e) (hC.mono h.le) (fun J ys e=>by rw[jT] at e;cases e) gQ hn ⟨_,_,_,h1⟩ he) fun e a' w' ho=>?_
 have main:∀{S':Snap} {ρ':Env},SameBut wr a a'→Good C w0 (σ0.rnd σ own w t fun _=>False) (S'.st ids) ρ' (fun _=>False) a' w'→∃σ' own' hv',Inv C (S'.st ids) ρ' σ' own' hv' w0 σ0 (fun _=>False) a' w'∧Seg σ own w σ' own' w'∧SameBut wr a a':=by
  intro S' ρ' hs hg;obtain⟨σ',own',hv',h2⟩:=hg;exact⟨σ',own',hv',h.ofRnd da (fun _ _=>id) h2,⟨h2.le,h.rndBelow h2,fun k hk ho=>Inv.rndSame h.ok h2 hk ho id,fun k j e=>Inv.rndOwn h2 e id,fun k e=>Inv.rndC h2 e id⟩,hs⟩
 cases e with
 |normal=>
  obtain⟨ρ',S',e1,e2,e3,e4⟩:=ho;obtain⟨σ',own',hv',g1,g2,g3⟩:=main e3 e4;exact⟨ρ',S',σ',own',hv',g1,g2,g3,e1,e2⟩
 |exit id=>
  obtain⟨ρ',S',e1,e0,e2,e3,e4⟩:=ho;obtain⟨σ',own',hv',g1,g2,g3⟩:=main e3 e4;exact⟨ρ',S',σ',own',hv',g1,g2,g3,e1,e0,e2⟩
 |ret=>
  obtain⟨ρ',S',e1,e2,e3,e4⟩:=ho;obtain⟨σ',own',hv',g1,g2,g3⟩:=main e3 e4;exact⟨ρ',S',σ',own',hv',g1,g2,g3,e1,e2⟩
 |_=>exact ho.elim
theorem Inv.putL {L:Nat}{hv:Nat→Value}{S:St}{ρ:Env}(h:Inv C S ρ σ own hv w0 σ0 A a w)(hL:w0.heap.size≤L)(hf:Free L σ own)(hx:∀t fx cx,FrOK σ own w0.heap.size σ0 w t fx cx→¬fx L)(o:Obj):Inv C S ρ σ own hv w0 σ0 A a (w.putObj L o):=
 h.keep (X:=fun k=>k≠L) ⟨rfl,rfl,rfl,by simp,fun k hk=>by omega⟩ (fun k hk=>World.putObj_heap_other hk) (fun k hk=>by omega) (fun k j e1 e2=>by subst e2;rw[hf.own] at e1;cases e1) (fun k o v e1 e2=>by subst e2;rw[hf.c] at e1;cases e1)
  (fun k v e1 e2=>by subst e2;rw[hf.m] at e1;cases e1) (fun t fx cx da k hk e=>by subst e;exact hx t fx cx da hk)
theorem aEC {o:Oper}{L:Nat}{x:Operand}{aa:Array Operand}{ts:Array TypeId}{r:Loop}(bP:o.op=.call {callee:=.value x,args:=aa,argTypes:=ts})(hx:a.eval x=.func (.yield L) #[] #[])(hL:w.heap[L]?=some (.loop r))(hs:aa.size=r.params.size):
 (execOp a.eval o).run C.P w=.ok (.round L r.fn ((r.params.zip (aa.map a.eval)).foldl (fun tmps (t,v)=>tmps.setIfInBounds t v) r.tmps) r.assign r.body) w:=by
 have hy:=run_yield (P:=C.P) (args:=aa.map a.eval) hL (by simpa using hs);simp[execOp,bP,resolve,hx,Deferred.ofValue,invoke,hy]
theorem aAt {g:Operand}{f:Nat}{vs:List Value}{L:Nat}(hf:∃fn,C.P.funcs[f]?=some fn∧fn.body.isSome=true∧(fn.name== "runtime.NumGoroutine")=false)(hg:a.eval g=.func (.func f) #[] vs.toArray):
 (resolve a.eval (rangeCall g L) 0).run C.P w=.ok {target:=.fn (.func f) vs.toArray,args:=#[.func (.yield L) #[] #[]]} w∧
 (invoke (.fn (.func f) vs.toArray) #[.func (.yield L) #[] #[]]).run C.P w=.ok (.enter f (#[.func (.yield L) #[] #[]]++vs.toArray)) w:=by
 obtain⟨fn,h1,h2,h3⟩:=hf;obtain⟨bd,jL⟩:=XC.1 h2;have h4:¬fn.name= "runtime.NumGoroutine" :=by simpa using h3
 constructor
 ·simp only[resolve,hg];simp[go_sem]
 ·simp[invoke,callFunc,h1,jL,h4]
theorem FrOK.enter {hv:Nat→Value}{S:St}{ρ:Env}(h:Inv C S ρ σ own hv w0 σ0 A a w){t:D}{fx cx:Nat→Prop}(hf:FrOK σ own w0.heap.size σ0 w t fx cx)(r:Loop):FrOK (σ.mark w.heap.size) own w0.heap.size σ0 ((w.alloc (.deferred (some []))).alloc (.loop r)) t fx cx:=by
 have hb:=Zv w (.deferred (some [])) (.loop r);have ah:=σ0.lt _ _ _ _ hf.F;have cn:=σ0.sub _ _ _ _ hf.F;have vD:∀k x,(σ.mark w.heap.size).m k=some x→σ.m k=some x∨k=w.heap.size:=by
  intro k x e;simp only[Im.mark] at e;split at e
  ·rename_i e2;exact .inr e2
  ·exact .inl e
 refine⟨σ0.keep _ _ _ _ _ hf.F (hb.mono (oA _)) fun k hk=>hb.block k (ah k hk),hf.own,hf.c,fun k x e hc=>?_,fun k e hB hk=>?_⟩
 ·rcases vD k x e with e|e
  ·exact hf.m k x e hc
  ·have:=ah k (cn k hc);omega
 ·rcases vD k _ e with e|e
  ·exact hf.d k e hB hk
  ·have:=ah k hk;omega
structure RSt (C:Ctx) (w0:World) (σR:Base) (ids:List Nat) (ρ1:Env) (lo:List Nat) (aM:Act) (L:Nat) (W1:World) (σ1:Im) (rec:LoopState→Option Code→Loop) (xs:List D) (P:Nat→List D→Snap→LoopState→Option Code→Prop) (t:D) (fx cx:Nat→Prop) (w:World):Prop where
 lt:∀k,fx k→k<w.heap.size
 sub:∀k,cx k→fx k
 old:∀k,k<W1.heap.size→fx k
 ex:∃(i:Nat) (vo:List D) (Sx:Snap) (st:LoopState) (pe:Option Code) (σ:Im) (own:Nat→Option Nat) (hv:Nat→Value),t=.list (xs.take i)∧P i vo Sx st pe∧Inv C (Sx.st ids) (ρ1.put [] [] lo vo) σ own hv w0 σR (fun _=>False) aM w∧
  σ1.le σ∧Free L σ own∧w.heap[L]?=some (.loop (rec st pe))∧(∀k j,own k=some j→fx k)∧(∀k o x,σ.c k o=some x→fx k)∧(∀k x,σ.m k=some x→fx k)∧∀k,cx k↔((∃j,own k=some j)∨k=L)
theorem RSt.keep {σR:Base}{ρ1:Env}{lo:List Nat}{aM:Act}{L:Nat}{W1:World}{σ1:Im}{rec:LoopState→Option Code→Loop}{xs:List D}{P:Nat→List D→Snap→LoopState→Option Code→Prop}{t:D}{fx cx:Nat→Prop}{w w':World}
 (h0:w0.heap.size≤W1.heap.size) (hL:L<W1.heap.size) (hR:∀t f c w,σR.F t f c w→∀k,f k→k<W1.heap.size) (h:RSt C w0 σR ids ρ1 lo aM L W1 σ1 rec xs P t fx cx w) (hb:Below 0 w w') (hs:∀k,fx k→w'.heap[k]?=w.heap[k]?):
 RSt C w0 σR ids ρ1 lo aM L W1 σ1 rec xs P t fx cx w':=by
 obtain⟨i,vo,Sx,st,pe,σ,own,hv,e1,e2,e3,e4,e5,e6,e7,e8,e9,e10⟩:=h.ex;refine⟨fun k hk=>uP (h.lt k hk) hb.size,h.sub,h.old,i,vo,Sx,st,pe,σ,own,hv,e1,e2,?_,e4,e5,(hs L (h.old L hL)).trans e6,e7,e8,e9,e10⟩;exact e3.keep (X:=fx) hb hs (fun k hk=>h.old k (by omega)) e7 e8 e9 (fun t f c hf k hk=>h.old k (hR _ _ _ _ hf.F k hk))
theorem Im.noM_m {σ:Im}{k:Nat}{v:List (Value×Value)}(h:σ.noM.m k=some v):σ.m k=some v∧v≠cP:=by
 simp only[Im.noM] at h;split at h
 ·cases h
 ·rename_i aB;exact⟨h,fun e=>aB (by rw[h,e])⟩
structure SegL (L:Nat) (σ:Im) (own:Nat→Option Nat) (w:World) (σ':Im) (own':Nat→Option Nat) (w':World):Prop where
 le:σ.le σ'
 below:Below 0 w w'
 same:∀k,k<w.heap.size→own k=none→k≠L→w'.heap[k]?=w.heap[k]?
 ow:∀k j,own' k=some j→(∃i,own k=some i)∨w.heap.size≤k
 imm:∀k,((∃o x,σ'.c k o=some x)∨∃x,σ'.m k=some x)→(∃o x,σ.c k o=some x)∨(∃x,σ.m k=some x)∨(∃i,own k=some i)∨w.heap.size≤k
theorem af4 (w:World)(L:Nat)(o:Obj):Below 0 w (w.putObj L o):=⟨rfl,rfl,rfl,by simp,fun k hk=>by omega⟩
theorem Seg.round {L:Nat}{σ' σ'':Im}{own' afQ:Nat→Option Nat}{w' j0:World}{o o':Obj}(h:Seg σ own w σ' own' w')(k:Seg σ' own' (w'.putObj L o) σ'' afQ j0):SegL L σ own w σ'' afQ (j0.putObj L o'):=by
 have aR:=h.below.size;have Iu:=k.below.size;simp only[World.putObj_size] at Iu;refine⟨h.le.trans k.le,h.below.trans ((af4 _ _ _).trans (k.below.trans (af4 _ _ _))),fun q hq ho hL=>?_,fun q j e=>?_,fun q e=>?_⟩
 ·have h1:own' q=none:=by
   cases e:own' q with
   |none=>rfl
   |some j=>
    rcases h.ow q j e with⟨i,e⟩|e
    ·rw[ho] at e;cases e
    ·omega
  rw[World.putObj_heap_other hL,k.same q (by simp;omega) h1,World.putObj_heap_other hL,h.same q hq ho]
 ·rcases k.ow q j e with⟨i,e⟩|e
  ·exact h.ow q i e
  ·simp only[World.putObj_size] at e;exact .inr (by omega)
 ·rcases k.imm q e with e|e|⟨i,e⟩|e
  ·exact h.imm q (.inl e)
  ·exact h.imm q (.inr e)
  ·rcases h.ow q i e with e|e
   ·exact .inr (.inr (.inl e))
   ·exact .inr (.inr (.inr e))
  ·simp only[World.putObj_size] at e;exact .inr (.inr (.inr (by omega)))
theorem Env.put_self (ρ:Env)(lo:List Nat):ρ.put [] [] lo (lo.map ρ.o)=ρ:=by
 have h2:∀u,putL ρ.o lo (lo.map ρ.o) u=ρ.o u:=fun u=>by rw[sd];split<;>rfl
 show Env.mk ρ.r (putL ρ.o lo (lo.map ρ.o))=ρ;rw[funext h2]
theorem aAu {N:Nat}(fl:fV C Φ){g:Operand}{ps:Array Tmp}{ca cb:Code}(bo:uR C Φ fn s n ids R N ca)(du:uR C Φ fn s n ids R N cb):uR C Φ fn s n ids R N (.rangeFunc g ps ca cb):=by
 intro rm S r hr rd w0 σ0 wr ρ x a w gd hC hY gQ hn hg he;simp only[comp] at hr;split at hr
 case h_2=>cases hr;exact absurd he (l0 _ _ _ _)
 rename_i aa rr e jT hu;split at hr
 case h_2=>cases hr;exact absurd he (l0 _ _ _ _)
 rename_i ys vP;split at hr
 case h_2=>cases hr;exact absurd he (l0 _ _ _ _)
 rename_i q hq;rw[oq] at hr;split at hr
 case isFalse=>cases hr;exact absurd he (l0 _ _ _ _)
 rename_i vm;cases hr;simp only[ar] at vm;obtain⟨⟨⟨hl,bp⟩,ah⟩,vG⟩:=vm;have hl:=aL hl;have vG:=kO vG;obtain⟨hrd,my⟩:=gd rfl;subst hrd;obtain⟨hs,yk,_⟩:=Dx (C:=C) (w0:=w0) (σ0:=σ0) (ids:=ids) 8 hq;simp only[ax] at hs;obtain⟨ra,P8,hs⟩:=hs;split at hs
 case h_2=>cases hs
 rename_i S1 hao hax;simp only[aH] at hs;obtain⟨rb,hrb,iS⟩:=hs;have hma:=sQ ca P8;have hmb:=sQ cb hrb;obtain⟨q1,q2⟩:=q;simp only at P8 iS vG yk he ⊢;generalize vA:ab8 ids (q1::q2.ex.map (·.2)) q2.mo=lo at he;generalize tB:((nK cE q2.ex none).bind fun M=>wO C fn s (M.st ids))=rt at he;have Df:∃f caps d,e.ev ρ=.clo f caps∧Φ f caps=some d∧fX (q2.pc.ev Φ N) (ρ.setR n d) ps.toList lo rt d.l (lo.map ρ.o)=some x:=by
  simp only[PC.ev,PI.runs,PI.run,holds,List.all_nil,cond_true] at he;cases bO:e.ev ρ with
  |clo f caps=>
   rw[bO] at he;simp only[PE.evs,sH] at he;cases hΦ:Φ f caps with
   |none=>rw[hΦ] at he;simp at he
   |some d=>
    rw[hΦ] at he;simp only[jF,kP,PE.ev,Env.setR,aU] at he;exact⟨f,caps,d,rfl,hΦ,he⟩
  |_=>rw[bO] at he;simp at he
 obtain⟨f,caps,d,bO,hΦ,he⟩:=Df;obtain⟨σ,own,hv,i⟩:=hg;have hx:=cg (gs:=[]) i hC rfl hu;rw[bO] at hx;generalize hgv:a.eval g=gv at hx;generalize bm:Ty.fn aa rr=ty at hx;cases hx with
 |fn f cs vs ds ke h1 h2 aV=>
 cases bm;obtain⟨hfn,at6⟩:=fl f cs ys ke vP;obtain⟨xs,rfl,aJh,Pq⟩:=at6 caps d hΦ;simp only[D.l_list] at he;obtain⟨m,l8,hm,vL,Ih,kp⟩:=Zt he;have iq0:=abI 8 hq i
 have iq:Inv C (q1.st ids) (ρ.setR n (.list xs)) σ own hv w0 σ0 (fun _=>False) a w:=by
  refine iq0.env (Snap.noOpt _ _) (fun t ht=>?_) (fun _ _=>rfl);have ah:t<q1.rs.length:=by
   refine XB fun hle=>?_;simp only[Snap.st,aS,q9 hle,Option.getD_none,cu,isNone] at ht;cases ht
  simp[Env.setR,bz _ _ (show t≠n by omega)]
 obtain⟨ρ1,hρ1⟩:∃ρ1,ρ.setR n (.list xs)=ρ1:=⟨_,rfl⟩
 rw[hρ1] at he iq Ih kp;have jq:ρ.o=ρ1.o:=by rw[←hρ1];rfl
 rw[jq] at vL;refine wpIn_rangeFunc ?_;intro ON aIT;obtain⟨L,aac⟩:∃L,w.heap.size+1=L:=⟨_,rfl⟩
 obtain⟨rec,ij⟩:∃rec:LoopState→Option Code→Loop,rec=fun st pe=>{state:=st,pending:=pe,fn:=ON,tmps:=a.tmps,params:=ps,assign:=ca,body:=cb,defers:=w.heap.size}:=⟨_,rfl⟩
 have i1:=iq.enter (rec .ready none);obtain⟨t,fx0,cx0,aaC,ht0⟩:=iq.frame;have atM:=σ0.lt _ _ _ _ aaC.F;have Pk:=FrOK.enter iq aaC (rec .ready none);have aJf:=iq.below.size;have xZ:Free L (σ.mark w.heap.size) own:=by
  refine⟨?_,fun o=>?_,?_⟩
  ·cases e:own L with
   |none=>rfl
   |some j=>have:=(iq.owns L j e).2.1;omega
  ·cases e:σ.c L o with
   |none=>exact e
   |some x=>have:=iq.lt e;omega
  ·simp only[Im.mark,show L≠w.heap.size by omega,if_false];cases e:σ.m L with
   |none=>rfl
   |some x=>have:=iq.ltm e;omega
 have lI:σ.le (σ.mark w.heap.size):=by
  refine⟨fun _ _ _ e=>e,fun k x e=>?_⟩;have:k≠w.heap.size:=by have:=iq.ltm e;omega
  simp[Im.mark,this,e]
 have Z9:((w.alloc (.deferred (some []))).alloc (.loop (rec .ready none))).heap[L]?=some (.loop (rec .ready none)):=by
  have:=World.alloc_heap_new (w.alloc (.deferred (some []))) (.loop (rec .ready none));rw[World.size_alloc,aac] at this;exact this
 obtain⟨W1,OZ⟩:∃W1,(w.alloc (.deferred (some []))).alloc (.loop (rec .ready none))=W1:=⟨_,rfl⟩
 have aIM:W1.heap.size=w.heap.size+2:=by rw[←OZ];simp
 rw[OZ] at i1 Pk Z9;have Ph:(Instr.enterLoop ON a.tmps ps ca cb none).run C.P w=.ok (L,[{target:=.collected w.heap.size,args:=#[]}]) W1:=by
  rw[←OZ,ij,←aac];exact run_enterLoop_outer _ _ _ _ _
 obtain⟨σ1,hσ1⟩:∃σ1,σ.mark w.heap.size=σ1:=⟨_,rfl⟩
 rw[hσ1] at i1 Pk xZ lI;obtain⟨aM,O0⟩:∃aM:Act,{a with defers:={target:=.collected w.heap.size,args:=#[]}::a.defers}=aM:=⟨_,rfl⟩
 have CC:aM.tmps=a.tmps:=by rw[←O0]
 rw[O0] at i1;have iR:=i1.toRnd (t:=t) (X:=fun k=>k=L) ht0;obtain⟨σR,hσR⟩:∃σR,σ0.rnd σ1 own W1 t (fun k=>k=L)=σR:=⟨_,rfl⟩
 have sZ:∀t' f c w',σR.F t' f c w'→(∀k,f k→k<W1.heap.size∧k≠L)∧∀k,c k→f k∧(∀o,σ1.c k o=none)∧σ1.m k=none:=by
  rw[←hσR];rintro t' f c w' ⟨_,h2,h3,_⟩;exact⟨fun k hk=>⟨((h2 k).1 hk).1,((h2 k).1 hk).2.2.2⟩,fun k hk=>(h3 k).1 hk⟩
 have hRC:CtxOK C σR:=by rw[←hσR];exact hC.mono i1.le
 rw[hσR] at iR
 obtain⟨P,hP⟩:∃P:Nat→List D→Snap→LoopState→Option Code→Prop,P=fun i vo Sx st pe=>(i≤m∧vo=l8 i∧Sx=q1∧st=.ready∧pe=none)∨
  (i=m+1∧m<xs.length∧st=.done∧∃y id ρ',xs[m]?=some y∧q2.pc.ev Φ N (ρ1.put ps.toList (partsOf ps.toList y) lo (l8 m))=some (.exit id ρ')∧vo=lo.map ρ'.o∧(id,Sx)∈q2.ex∧((id≠cE∧pe=some (.exit id))∨(id=cE∧pe=some .ret))):=⟨_,rfl⟩
 obtain⟨c1,c2⟩:=aAt (C:=C) (w:=W1) (L:=L) hfn hgv;refine⟨L,[{target:=.collected w.heap.size,args:=#[]}],W1,_,W1,f,_,W1,Ph,c1,fun _ _=>trivial,c2,(fun e=>by cases e),?_⟩
 refine Yr ((Pq σ1 W1 (.func (.yield L) #[] #[]) vs (RSt C w0 σR ids ρ1 lo aM L W1 σ1 rec xs P) (fun k=>k<W1.heap.size) (fun k=>(∃j,own k=some j)∨k=L) m i1.ok (hC.mono i1.le) ⟨h1,h2,fun j t e=>(aV j t e).mono lI⟩ hm
  (fun t f c w h=>h.lt) (fun t f c w h=>h.sub) (fun t f c w w' h hb hs=>h.keep (by omega) (by omega) (fun t f c w hF k hk=>((sZ t f c w hF).1 k hk).1) hb hs) ?_ ?_ ?_ ?_).mono ?_)
 ·refine⟨fun k hk=>hk,fun k hk=>?_,fun k hk=>hk,0,l8 0,q1,.ready,none,σ1,own,hv,by simp,by rw[hP];exact .inl ⟨oA _,rfl,rfl,rfl,rfl⟩,?_,.refl σ1,xZ,Z9,fun k j e=>(iR.owns k j e).2.1,fun k o x e=>iR.lt e,fun k x e=>iR.ltm e,fun k=>.rfl⟩
  ·rcases hk with⟨j,e⟩|e
   ·exact(iR.owns k j e).2.1
   ·show k<W1.heap.size;omega
  ·rw[vL,Env.put_self];exact iR
 ·rintro k o x e (⟨j,hj⟩|rfl)
  ·have:=(iR.owns k j hj).2.2.1 o;rw[e] at this;cases this
  ·rw[xZ.c] at e;cases e
 ·rintro k x e (⟨j,hj⟩|rfl)
  ·have:=(iR.owns k j hj).2.2.2;rw[e] at this;cases this
  ·rw[xZ.m] at e;cases e
 ·intro i fx cx w1 σx args ds' hi dB hF hσx jj ia mw dq db rd' o a' x' aa ts K Q bP cr aal hK;have aIV:i<xs.length:=(fi.1 dB).1;obtain⟨i',vo,Sx,st,pe,σa,wk,hva,e1,e2,iA,Ia,CA,HJ,PN,hcA,C3,yh⟩:=hF.ex;have hii:i'=i:=by
   have h9:=congrArg List.length (congrArg D.l e1);simp only[D.l_list,ei] at h9;omega
  subst hii;rw[hP] at e2;rcases e2 with⟨_,rfl,CB,rfl,rfl⟩|⟨e2,_⟩
  case inr=>omega
  rw[CB] at iA;have aad:L<w1.heap.size:=hF.lt L (hF.old L (by omega));have HT:cx L:=(yh L).2 (.inr rfl)
  have auv:∀k o v,σx.c k o=some v→wk k=none:=fun k o v e=>by
   cases e2:wk k with
   |none=>rfl
   |some j=>exact absurd ((yh k).2 (.inl ⟨j,e2⟩)) (ia k o v e)
  have C6:∀k v,σx.m k=some v→wk k=none:=fun k v e=>by
   cases e2:wk k with
   |none=>rfl
   |some j=>exact absurd ((yh k).2 (.inl ⟨j,e2⟩)) (mw k v e)
  have hτok:σx.noM.ok w1:=⟨hσx.c,fun k v e=>hσx.m k v (Im.noM_m e).1⟩
  have iB:=iA.joinIm (τ:=σx.noM) hτok (fun k e=>(Im.noM_m e).2 rfl) auv (fun k v e=>C6 k v (Im.noM_m e).1)
   (fun k o v e=>(dq k o v e).imp (fun e=>Ia.c k o v e) fun e=>by omega) (fun k v e=>(db k v (Im.noM_m e).1).imp (fun e=>Ia.m k v e) fun e=>by omega)
   (fun t' f c hf=>⟨fun k o v e hc=>by
        obtain⟨g1,g2,g3⟩:=(sZ _ _ _ _ hf.F).2 k hc;rcases dq k o v e with e|e
        ·rw[g2 o] at e;cases e
        ·have:=((sZ _ _ _ _ hf.F).1 k g1).1;omega,fun k v e hc=>by
        obtain⟨g1,g2,g3⟩:=(sZ _ _ _ _ hf.F).2 k hc;rcases db k v (Im.noM_m e).1 with e|e
        ·rw[g3] at e;cases e
        ·have:=((sZ _ _ _ _ hf.F).1 k g1).1;omega⟩)
  have Z6:Free L (σa.plus σx.noM) wk:=by
   refine⟨CA.own,fun o=>?_,?_⟩
   ·cases e:(σa.plus σx.noM).c L o with
    |none=>rfl
    |some v=>
     rcases Im.plus_c e with e|e
     ·rw[CA.c] at e;cases e
     ·exact absurd HT (ia L o v e)
   ·cases e:(σa.plus σx.noM).m L with
    |none=>rfl
    |some v=>
     rcases Im.plus_m e with e|e
     ·rw[CA.m] at e;cases e
     ·exact absurd HT (mw L v (Im.noM_m e).1)
  have rM:ps.toList.length=ys.length:=by rw[Aj];exact hl.symm
  have atb:pM C (σa.plus σx.noM) ys args ds':=⟨jj.1,jj.2.1,fun j t e=>((jj.2.2 j t e).noM).mono (Im.plus_le2 iA.ok hτok)⟩
  have iC:=iB.startR (ρ':=ρ1) rM bp (fun p hp=>by
   have:=bL.1 ah p hp;rw[CC,hn];simpa [iy] using this) atb rfl
  have P3:∃xi,q2.pc.ev Φ N (ρ1.put ps.toList (partsOf ps.toList (.tup ds')) lo (l8 i'))=some xi∧((i'<m∧∃ρ',xi=.next ρ'∧lo.map ρ'.o=l8 (i'+1))∨(i'=m∧m<xs.length∧∃id ρ',xi=.exit id ρ')):=by
   by_cases km:i'<m
   ·obtain⟨y,ρ',g1,g2,g3⟩:=Ih i' km;rw[dB] at g1;cases g1;exact⟨_,g2,.inl ⟨km,ρ',rfl,g3⟩⟩
   ·obtain rfl:i'=m:=by omega
    rcases kp with⟨g1,_⟩|⟨g1,y,id,ρ',g2,g3,_⟩
    ·omega
    ·rw[dB] at g2;cases g2;exact⟨_,g3,.inr ⟨rfl,g1,id,ρ',rfl⟩⟩
  obtain⟨xi,rP,Qw⟩:=P3;have az:q2.pc=.seq ra.pc rb.pc:=by rw[←iS];rfl
  rw[az] at rP;have aR:(lY ps.toList args aM.tmps).size=n:=by rw[ahu,CC,hn]
  refine⟨fun _ _=>trivial,?_⟩;rw[Oper.semAt_eq _ _ _ (fun c e=>by rw[bP] at e;cases e)];have atc:aa.size=ps.size:=by
   have:=jj.1;rw[←aal,ix,Aj] at this;omega
  have ao:=aEC (C:=C) bP cr HJ (by rw[ij];exact atc);have auX:(rec .ready none).fn=ON∧(rec .ready none).tmps=a.tmps∧(rec .ready none).params=ps∧(rec .ready none).assign=ca∧(rec .ready none).body=cb:=by rw[ij];exact⟨rfl,rfl,rfl,rfl,rfl⟩
  obtain⟨r1,r2,r3,r4,r5⟩:=auX;rw[r1,r2,r3,r4,r5] at ao
  have oX:(ps.zip (aa.map a'.eval)).foldl (fun tmps (t,v)=>tmps.setIfInBounds t v) a.tmps=lY ps.toList args aM.tmps:=by
   rw[CC,←aal,←Ak];exact aBo ps (aa.map a'.eval) a.tmps
  rw[oX] at ao;rw[ao];refine⟨(fun e=>by cases e),?_⟩;refine roundIn_of_wpIn (F:=FR rd') trivial ?_;show ca.wpIn (FR (some L)) 0 C.P _ _ _;cases lN:ra.pc.ev Φ N (ρ1.put ps.toList (partsOf ps.toList (.tup ds')) lo (l8 i')) with
  |none=>simp only[PC.ev,lN] at rP;cases rP
  |some xa=>
  refine wpIn_mono (aho bo P8 jT hRC iC (wr:=fun t=>t∈cq ca) (fun _ h=>h) aR lN L) fun e2 a1 W4 au6=>?_;obtain⟨ρ2,S2,σ2,iu,gO,iD,lL,gN,jP⟩:=au6;cases e2 with
  |normal=>
   obtain⟨rfl,x9⟩:=jP;rw[hao] at x9;cases x9;simp only[PC.ev,lN] at rP;have hL2:W4.heap[L]?=some (.loop (rec .ready none)):=(lL.same L aad Z6.own).trans HJ;have OU:=Z6.seg aad lL;have OV:L<W4.heap.size:=(fU.1 hL2).1;have Z8:w0.heap.size≤L:=by omega
   refine⟨_,run_beginRound hL2 (by rw[ij]),?_⟩;have iE:=iD.putL Z8 OU (fun t' f c hf CO=>((sZ _ _ _ _ hf.F).1 L CO).2 rfl) (.loop {rec .ready none with state:=.busy});have hL3:(W4.putObj L (.loop {rec .ready none with state:=.busy})).heap[L]?=some (.loop {rec .ready none with state:=.busy}):=World.putObj_heap_same OV;show cb.wpIn (FR (some L)) 0 C.P _ _ _;refine wpIn_mono (aho du hrb jT hRC iE (wr:=fun t=>t∈cq cb) (fun _ h=>h) (gN.size.trans aR) rP L) fun e3 a3 w3 au7=>?_;obtain⟨ρ3,S3,σ3,wj,Dp,iF,It,au4,nF⟩:=au7;have hL4:w3.heap[L]?=some (.loop {rec .ready none with state:=.busy}):=(It.same L (by simpa using OV) OU.own).trans hL3;have Z5:=OU.seg (by simpa using OV) It;have asV:L<w3.heap.size:=(fU.1 hL4).1;obtain⟨mk,Ie⟩:∃mk,Nat.lor (v3 (ps.toList++cq ca++cq cb)) (Nat.lor ra.mr rb.mr)=mk:=⟨_,rfl⟩
   have auo:∀t,aw mk t=false→t∉ps.toList∧t∉cq ca∧t∉cq cb∧aw ra.mr t=false∧aw rb.mr t=false:=by
        intro t ht;rw[←Ie,eO,eO,Xi,Xi] at ht;obtain⟨t1,t2,t3⟩:=ht;have:t∉ps.toList++cq ca++cq cb:=fun hm=>by rw[Yi hm] at t1;cases t1
        simp only[cY,not_or] at this;exact⟨this.1.1,this.1.2,this.2,t2,t3⟩
   have Qa:∀t,aw mk t=false→aM.tmps.getD t undef=a3.tmps.getD t undef∧(ρ1.put [] [] lo (lo.map ρ3.o)).r t=ρ3.r t:=by
        intro t ht;obtain⟨t1,t2,t3,t4,t5⟩:=auo t ht;refine⟨?_,?_⟩
        ·rw[au4.get t t3,gN.get t t2];exact(Mv _ _ _ _ t1).symm
        ·have hb3:∀ρ',xi=.next ρ'∨(∃id,xi=.exit id ρ')→ρ'.r t=ρ2.r t:=fun ρ' h=>by
          have vt:xi.env?=some ρ':=by rcases h with h|⟨id,h⟩<;>rw[h]<;>rfl
          exact(PC.ev_but rb.pc _ _ ρ' rP vt).r t fun hm=>by rw[hmb.1 t hm] at t5;cases t5
         have dm:ρ2.r t=putL ρ1.r ps.toList (partsOf ps.toList (.tup ds')) t:=(PC.ev_but ra.pc _ _ ρ2 lN rfl).r t fun hm=>by rw[hma.1 t hm] at t4;cases t4
         rw[zg _ _ _ _ t1] at dm;show ρ1.r t=ρ3.r t;rw[hb3 ρ3 (by
          cases e3 with
          |normal=>exact .inl nF.1
          |exit id=>exact .inr ⟨id,nF.1⟩
          |ret=>exact .inr ⟨_,nF.1⟩
          |_=>exact nF.elim),dm]
   have Pz:q2.mo=ja ra.mo rb.mo:=by rw[←iS];rfl
   have PR:∀j,j∉q2.mo→ρ3.o j=ρ1.o j:=by
        intro j hj;rw[Pz,pg,not_or] at hj;have vt:xi.env?=some ρ3:=by
         cases e3 with
         |normal=>rw[nF.1];rfl
         |exit id=>rw[nF.1];rfl
         |ret=>rw[nF.1];rfl
         |_=>exact nF.elim
        rw[(PC.ev_but rb.pc _ _ ρ3 rP vt).o j fun hm=>hj.2 (hmb.2 j hm),(PC.ev_but ra.pc _ _ ρ2 lN rfl).o j fun hm=>hj.1 (hma.2 j hm)]
        exact zg _ _ _ _ fun hm=>by
         rw[←vA] at hm;have:=(cQ.1 hm).1;rw[Pz,pg] at this;exact this.elim hj.1 hj.2
   have PQ:∀(S:Snap),S∈(q1::q2.ex.map (·.2))→∀j,nI ((S.st ids).o j)=false→(ρ1.put [] [] lo (lo.map ρ3.o)).o j=ρ3.o j:=by
        intro S hS j hj;show putL ρ1.o lo (lo.map ρ3.o) j=ρ3.o j;rw[sd];split
        ·rfl
        ·rename_i fJ;refine(PR j fun tn=>fJ ?_).symm;rw[←vA];exact cQ.2 ⟨tn,sF.2 ⟨S,hS,by simpa [Snap.st] using hj⟩⟩
   have fin:∀(jump:Option Code) (Sx:Snap),Inv C (Sx.st ids) (ρ1.put [] [] lo (lo.map ρ3.o)) σ3 wj Dp w0 σR (fun _=>False) aM w3→P (i'+1) (lo.map ρ3.o) Sx (if jump.isNone then .ready else .done) jump→jump.isNone=decide (i'<m)→
        ∃v w',(Instr.endRound L jump).run C.P w3=.ok v w'∧K (a'.put o.dst v) w':=by
        intro jump Sx iG hPn tn;refine⟨_,_,run_endRound jump hL4,?_⟩;have auW:({{rec .ready none with state:=.busy} with state:=if jump.isNone then .ready else .done,pending:=jump}:Loop)=rec (if jump.isNone then .ready else .done) jump:=by rw[ij]
        rw[auW];have aV:=lL.round (L:=L) (o':=.loop (rec (if jump.isNone then .ready else .done) jump)) It;have iH:=iG.putL Z8 Z5 (fun t' f c hf CO=>((sZ _ _ _ _ hf.F).1 L CO).2 rfl) (.loop (rec (if jump.isNone then .ready else .done) jump));obtain⟨w4,Qs⟩:∃w4,w3.putObj L (.loop (rec (if jump.isNone then .ready else .done) jump))=w4:=⟨_,rfl⟩
        have hL5:w4.heap[L]?=some (.loop (rec (if jump.isNone then .ready else .done) jump)):=by rw[←Qs];exact World.putObj_heap_same asV
        have aJk:w4.heap.size=w3.heap.size:=by rw[←Qs];simp
        rw[Qs] at aV iH ⊢;have aIL:W1.heap.size≤w1.heap.size:=by
         have:=hF.lt (W1.heap.size-1) (hF.old _ (by omega));omega
        have aJg:=aV.below.size
        refine hK _ _ ⟨by rw[tn],aV.below,fun k hk hc=>aV.same k hk (by
         cases e:wk k with
         |none=>rfl
         |some j=>exact absurd ((yh k).2 (.inl ⟨j,e⟩)) hc) (fun e=>hc (by rw[e];exact HT)),(fun k=>k<w4.heap.size∧(k<W1.heap.size∨(∃j,wj k=some j)∨(∃o x,σ3.c k o=some x)∨∃x,σ3.m k=some x)),(fun k=>(∃j,wj k=some j)∨k=L),?_,?_,?_⟩
        ·refine⟨fun k hk=>hk.1,fun k hk=>?_,fun k hk=>⟨by omega,.inl hk⟩,i'+1,lo.map ρ3.o,Sx,_,jump,σ3,wj,Dp,rfl,hPn,iH,Ia.trans ((Im.plus_le1 _ _).trans aV.le),Z5,hL5,fun k j e=>⟨(iH.owns k j e).2.1,.inr (.inl ⟨j,e⟩)⟩,fun k o x e=>⟨iH.lt e,.inr (.inr (.inl ⟨o,x,e⟩))⟩,fun k x e=>⟨iH.ltm e,.inr (.inr (.inr ⟨x,e⟩))⟩,fun k=>.rfl⟩;rcases hk with⟨j,e⟩|e
         ·exact⟨(iH.owns k j e).2.1,.inr (.inl ⟨j,e⟩)⟩
         ·exact⟨by omega,.inl (by omega)⟩
        ·rintro k ⟨_,hk⟩ bH
         have CU:((∃o x,σ3.c k o=some x)∨∃x,σ3.m k=some x)→fx k∨(∃o x,σx.c k o=some x)∨(∃x,σx.m k=some x∧x≠cP):=fun h=>by
          rcases aV.imm k h with⟨o,x,e⟩|⟨x,e⟩|⟨j,e⟩|e
          ·rcases Im.plus_c e with e|e
           ·exact .inl (hcA k o x e)
           ·exact .inr (.inl ⟨o,x,e⟩)
          ·rcases Im.plus_m e with e|e
           ·exact .inl (C3 k x e)
           ·exact .inr (.inr ⟨x,(Im.noM_m e).1,(Im.noM_m e).2⟩)
          ·exact .inl (PN k j e)
          ·omega
         rcases hk with hk|⟨j,e⟩|e|e
         ·exact .inl (hF.old k hk)
         ·rcases aV.ow k j e with⟨j',e⟩|e
          ·exact .inl (PN k j' e)
          ·omega
         ·exact CU (.inl e)
         ·exact CU (.inr e)
        ·rintro k (⟨j,e⟩|e) bH
         ·rcases aV.ow k j e with⟨j',e⟩|e
          ·exact(yh k).2 (.inl ⟨j',e⟩)
          ·omega
         ·rw[e];exact HT
   have nz:j3 σ3 w0.heap.size aM.defers:=iA.defers.mono ((Im.plus_le1 _ _).trans (lL.le.trans It.le));have P4:q2.out=rb.out.map (Snap.mask mk)∧q2.ex=rb.ex.map (fun x=>(x.1,x.2.mask mk)):=by rw[←iS,←Ie];exact⟨rfl,rfl⟩
   cases e3 with
   |normal=>
    obtain⟨e4,e5⟩:=nF;have hT:q2.out=some (S3.mask mk):=by rw[P4.1,e5];rfl
    have aaD:=yk _ hT
    have iG:Inv C (q1.st ids) ρ3 σ3 wj Dp w0 σR (fun _=>False) a3 w3:=by
        have:=Snap.meet_ok2 (x:=q1) (iF.maskR mk)
        rwa [aaD] at this
    have iH:=iG.restore (ρ':=ρ1.put [] [] lo (lo.map ρ3.o)) (a':=aM) (Snap.noOpt _ _) nz (fun t ht=>Qa t (by
        cases e:aw mk t with
        |false=>rfl
        |true=>
         have h9:=ayo (x:=q1) (S:=S3) (ids:=ids) e;rw[aaD] at h9;rw[h9] at ht;cases ht)) (fun j hj=>PQ q1 (dw ..) j hj)
    rcases Qw with⟨km,ρ',e6,e7⟩|⟨_,_,id,ρ',e6⟩
    ·rw[e4] at e6;cases e6;exact fin none q1 iH (by rw[hP];exact .inl ⟨by omega,e7,rfl,rfl,rfl⟩) (by simp[km])
    ·rw[e4] at e6;cases e6
   |exit id=>
    obtain⟨e4,e5,e6⟩:=nF;have cV:(id,S3.mask mk)∈q2.ex:=by rw[P4.2];exact dx.2 ⟨_,e6,rfl⟩
    have iH:=(iF.maskR mk).restore (ρ':=ρ1.put [] [] lo (lo.map ρ3.o)) (a':=aM) (Snap.noOpt _ _) nz (fun t ht=>Qa t (by
        cases e:aw mk t with
        |false=>rfl
        |true=>rw[DG,if_pos e] at ht;cases ht)) (fun j hj=>PQ (S3.mask mk) (dj _ (dx.2 ⟨_,cV,rfl⟩)) j hj)
    rcases Qw with⟨km,ρ',e7,_⟩|⟨km,rK,bQ,ρ',e7⟩
    ·rw[e4] at e7;cases e7
    ·subst km;refine fin (some (.exit id)) (S3.mask mk) iH ?_ (by simp);rw[hP];refine .inr ⟨rfl,rK,rfl,_,id,ρ3,dB,?_,rfl,cV,.inl ⟨e5,rfl⟩⟩;rw[az];simp only[PC.ev,lN];rw[rP,e4]
   |ret=>
    obtain⟨e4,e6⟩:=nF;have cV:(cE,S3.mask mk)∈q2.ex:=by rw[P4.2];exact dx.2 ⟨_,e6,rfl⟩
    have iH:=(iF.maskR mk).restore (ρ':=ρ1.put [] [] lo (lo.map ρ3.o)) (a':=aM) (Snap.noOpt _ _) nz (fun t ht=>Qa t (by
        cases e:aw mk t with
        |false=>rfl
        |true=>rw[DG,if_pos e] at ht;cases ht)) (fun j hj=>PQ (S3.mask mk) (dj _ (dx.2 ⟨_,cV,rfl⟩)) j hj)
    rcases Qw with⟨km,ρ',e7,_⟩|⟨km,rK,bQ,ρ',e7⟩
    ·rw[e4] at e7;cases e7
    ·subst km;refine fin (some .ret) (S3.mask mk) iH ?_ (by simp);rw[hP];refine .inr ⟨rfl,rK,rfl,_,cE,ρ3,dB,?_,rfl,cV,.inr ⟨rfl,rfl⟩⟩;rw[az];simp only[PC.ev,lN];rw[rP,e4]
   |_=>exact nF.elim
  |exit id=>obtain⟨_,_,e6⟩:=jP;rw[hax] at e6;cases e6
  |ret=>obtain⟨_,e6⟩:=jP;rw[hax] at e6;cases e6
  |_=>exact jP.elim
 ·rintro e' w' ⟨⟨v,rfl⟩,fx,cx,hF⟩;rw[show({tmps:=a.tmps,defers:=[{target:=Target.collected w.heap.size,args:=#[]}]++a.defers}:Act)=aM from O0];obtain⟨i',vo,Sx,st,pe,σa,wk,hva,e1,e2,iA,Ia,CA,HJ,PN,hcA,C3,yh⟩:=hF.ex;have h9:=congrArg List.length (congrArg D.l e1);simp only[D.l_list,ei] at h9;have cL:(rec st pe).state≠.busy:=by
   rw[hP] at e2;rw[ij];rcases e2 with⟨_,_,_,e3,_⟩|⟨_,_,e3,_⟩<;>(rw[e3];intro e;cases e)
  have tw:(rec st pe).pending=pe:=by rw[ij]
  have Pj:(Instr.endLoop L).run C.P w'=.ok pe (w'.putObj L (.loop {rec st pe with state:=.exhausted})):=(run_endLoop (P:=C.P) HJ cL).trans (congrArg (fun z=>Result.ok z _) tw);have iF:=iA.putL (by omega:w0.heap.size≤L) CA (fun t' f c hf CO=>((sZ _ _ _ _ hf.F).1 L CO).2 rfl) (.loop {rec st pe with state:=.exhausted});rw[←hσR] at iF;have iG:=i1.ofRnd Pk (fun k hk e=>by have:=atM k hk;omega) iF;have jR:SameBut wr a aM:=⟨by rw[CC],fun t _=>by rw[CC]⟩
  refine⟨pe,_,Pj,?_⟩;rw[hP] at e2;rcases e2 with⟨e3,rfl,CB,_,rfl⟩|⟨rfl,rK,_,y,id,ρ',g1,g2,rfl,g4,g5⟩
  ·rcases kp with⟨g1,g2⟩|⟨g1,_⟩
   ·obtain rfl:i'=m:=by omega
    rw[CB] at iG;exact⟨_,q1,g2,rfl,jR,_,_,_,iG⟩
   ·omega
  ·rcases kp with⟨g6,_⟩|⟨_,y',bQ,ρ'',k1,k2,k3⟩
   ·omega
   ·rw[g1] at k1;cases k1;rw[g2] at k2;cases k2;rcases k3 with⟨k3,k4⟩|⟨k3,pe',k4,k5⟩
    ·rcases g5 with⟨_,rfl⟩|⟨g5,_⟩
     ·exact wpIn_exit ⟨_,Sx,k4,k3,cQ.2 ⟨g4,by simp[eu k3]⟩,jR,_,_,_,iG⟩
     ·exact absurd g5 k3
    ·rcases g5 with⟨g5,_⟩|⟨_,rfl⟩
     ·exact absurd k3 g5
     ·subst k3;rw[←tB,ax] at k4;obtain⟨M,hM,P9⟩:=k4;obtain⟨M',hM',rH⟩:=Rm (⟨_,_,_,iG⟩:Good C w0 σ0 (Sx.st ids) _ (fun _=>False) aM _) q2.ex none g4;rw[hM] at hM';cases hM';obtain⟨σm,aKg,hvm,im⟩:=rH;exact wpIn_ret ⟨_,k5,Inv.retD hC (fun _=>rfl) my P9 _ im rfl,jR⟩
theorem acd {arr:Array MapEntry}{clock:Nat}(hb:ma arr clock){idx:List Nat}(hi:∀i,i∈idx→i<arr.size){i:Nat}{e:MapEntry}(he:arr[i]?=some e):(fR arr idx).contains e.born=true↔i∈idx:=by
 simp only[fR,List.contains_toArray,List.contains_iff_mem,dx];constructor
 ·rintro⟨j,hj,h⟩;have ah:=hi j hj;rw[fh ah] at h;simp only at h;have:=hb.2 j i arr[j] e (fh ah) he h;rw[←this];exact hj
 ·intro h;exact⟨i,h,by rw[he]⟩
theorem aBi (arr:Array MapEntry)(idx:List Nat){i:Nat}{e:MapEntry}(he:arr[i]?=some e):(fR arr idx).push e.born=fR arr (idx++[i]):=by
 simp[fR,he]
theorem ayH {P:Program}{w:World}{k m:Nat}{arr:Array MapEntry}{clock:Nat}{idx:List Nat}(hk:w.heap[k]?=some (.mapIter (some m) clock (fR arr idx) clock))(hm:w.heap[m]?=some (.map arr clock))(hb:ma arr clock)(hi:∀i,i∈idx→i<arr.size)(T:TypeId):
 ∃w1:World,(w1=w∨w1=w.drew)∧(((∀i,i<arr.size→i∈idx)∧(Instr.next (.pointer (some ⟨k,0,none⟩)) false T).run P w=.ok (.tuple #[.bool false]) w1)∨
  ∃i e,arr[i]?=some e∧i∉idx∧(Instr.next (.pointer (some ⟨k,0,none⟩)) false T).run P w=.ok (.tuple #[.bool true,e.key,e.val]) {w1 with heap:=w1.heap.setIfInBounds k (.mapIter (some m) clock (fR arr (idx++[i])) clock)}):=by
 have cV:∀{e:MapEntry},e∈arr→∃i:Nat,arr[i]?=some e:=fun he=>by
  obtain⟨i,hi,rfl⟩:=Array.mem_iff_getElem.1 he;exact⟨i,fh hi⟩
 have hold:∀(l:Array MapEntry),(∀e,e∈l→e.born<clock)→l.filter (fun x=>decide (x.born<clock))=l:=fun l h=>by
  rw[Array.filter_eq_self];intro e he;simpa using h e he
 have kU:∀(l:Array MapEntry),(∀e,e∈l→e.born<clock)→l.filter (fun x=>decide (x.born≥clock))=#[]:=fun l h=>by
  rw[Array.filter_eq_empty_iff];intro e he;have:=h e he;simp;omega
 have hbc:∀e,e∈arr→e.born<clock:=fun e he=>by obtain⟨i,hi⟩:=cV he;exact hb.1 i e hi
 have jm:(!(fR arr idx).isEmpty&& !arr.isEmpty&&arr.all (fun x=>decide (x.born≥clock)))=false:=by
  cases ha:arr.isEmpty
  ·have aB:arr.size≠0:=by simpa using ha
   have:arr.all (fun x=>decide (x.born≥clock))=false:=by
        rw[Xh];intro h;rw[Array.all_eq_true] at h;have h0:=h 0 (by omega);have h1:=hbc arr[0] (Xf _);simp at h0;omega
   rw[this,w8]
  ·simp
 let left:=arr.filter fun e=> !(fR arr idx).contains e.born
 have hl:∀e,e∈left→e.born<clock:=fun e he=>hbc e (Xg.1 he).1;by_cases hz:left.size=0
 ·refine⟨w,.inl rfl,.inl ⟨fun i ah=>?_,?_⟩⟩
  ·by_cases bJ:i∈idx
   ·exact bJ
   ·exfalso;have Ic:arr[i]∈left:=Xg.2 ⟨Xf _,by
     have:=acd hb hi (fh ah);cases hc:(fR arr idx).contains arr[i].born with
     |false=>rfl
     |true=>exact absurd (this.1 hc) bJ⟩
    have:left=#[]:=MY hz;rw[this] at Ic;simp at Ic
  ·have he:left=#[]:=MY hz;have kR:arr.filter (fun e=> !(fR arr idx).contains e.born)=#[]:=he;simp only[Instr.next,getObj,Sem.run_bind,Sem.run,hk,hm,Result.andThen_ok,jm,kR];simp[Question.forced,Sem.run]
 ·have ib:left.filter (fun x=>decide (x.born<clock))=left:=hold left hl;have kh:left.filter (fun x=>decide (x.born≥clock))=#[]:=kU left hl;have hem:left.isEmpty=false:=by simpa using hz
  have key:∀c,c<left.size→∃i e,arr[i]?=some e∧i∉idx∧left[c]?=some e:=fun c hc=>by
   have Ic:left[c]∈left:=Xf _;obtain⟨h1,h2⟩:=Xg.1 Ic;obtain⟨i,df⟩:=cV h1;refine⟨i,left[c],df,fun bJ=>?_,fh hc⟩;rw[(acd hb hi df).2 bJ] at h2;cases h2
  obtain⟨w1,c,iT,hc,lH⟩:∃w1 c,(w1=w∨w1=w.drew)∧c<left.size∧(choose (.mapNext left.size)).run P w=.ok c w1:=by
   by_cases h1:left.size≤1
   ·exact⟨w,0,.inl rfl,by omega,by simp[Question.forced,h1]⟩
   ·exact⟨w.drew,_,.inr rfl,Nat.mod_lt _ (by omega),by simp[Question.forced,h1,Question.cut];rfl⟩
  obtain⟨i,e,h1,h2,h3⟩:=key c hc;refine⟨w1,iT,.inr ⟨i,e,h1,h2,?_⟩⟩;have vz:arr.filter (fun e=> !(fR arr idx).contains e.born)=left:=rfl;have kS:(getObj k).run P w=.ok (.mapIter (some m) clock (fR arr idx) clock) w:=by simp[getObj,Sem.run,hk]
  have fo:(getObj m).run P w=.ok (.map arr clock) w:=by simp[getObj,Sem.run,hm]
  have bH:w1.heap[k]?=some (.mapIter (some m) clock (fR arr idx) clock):=by rcases iT with rfl|rfl<;>exact hk
  have hg3:(setObj k (.mapIter (some m) clock ((fR arr idx).push e.born) clock)).run P w1=.ok () {w1 with heap:=w1.heap.setIfInBounds k (.mapIter (some m) clock ((fR arr idx).push e.born) clock)}:=by simp[setObj,Sem.run,bH]
  have atj:((if false=true then #[none] else #[])++Array.map some (left++#[]):Array (Option MapEntry))=left.map some:=by simp
  have ia:(left.map some)[c]?=some (some e):=by simp[h3]
  have aaG:∀(AT:Array (Option MapEntry)) (cc:Nat),(choose (.mapNext AT.size)).run P w=.ok cc w1→AT[cc]?=some (some e)→(do
        match AT[←choose (.mapNext AT.size)]? with
        |some (some e)=>
         setObj k (.mapIter (some m) clock ((fR arr idx).push e.born) clock)
         pure (.tuple #[.bool true,e.key,e.val])
        |some none=>(pure (.tuple #[.bool false]):Sem Value)
        |none=>stuck "Next: no such candidate" :Sem Value).run P w=.ok (.tuple #[.bool true,e.key,e.val]) {w1 with heap:=w1.heap.setIfInBounds k (.mapIter (some m) clock ((fR arr idx).push e.born) clock)}:=by
   intro AT cc h4 h5;rw[Sem.run_bind,h4];simp only[Result.andThen_ok,h5];rw[Sem.run_bind,hg3];rfl
  rw[aBi arr idx h1] at aaG hg3;have:=aaG (left.map some) c (by rw[Array.size_map];exact lH) ia;simp only[Instr.next];rw[Sem.run_bind,kS];simp only[Result.andThen_ok];rw[Sem.run_bind,fo];simp only[Result.andThen_ok,jm,vz,ib,kh,hem];rw[atj,if_neg (by decide)];exact this
theorem apA {P:Program}{w:World}{k m:Nat}{arr:Array MapEntry}{clock:Nat}{idx:List Nat}{i:Nat}{e:MapEntry}(hk:w.heap[k]?=some (.mapIter (some m) clock (fR arr (idx++[i])) clock))(hm:w.heap[m]?=some (.map arr clock))(hb:ma arr clock)(he:arr[i]?=some e):
 (Instr.entry (.pointer (some ⟨k,0,none⟩))).run P w=.ok (.tuple #[e.key,e.val]) w:=by
 have atf:(fR arr (idx++[i])).back?=some e.born:=by simp[fR,he]
 have CP:arr.find? (fun x=>x.born==e.born)=some e:=by
  have ah:i<arr.size:=(fU.1 he).1;have hei:arr[i]=e:=(fU.1 he).2;rw[Array.find?_eq_some_iff_getElem];refine⟨by simp,i,ah,hei,fun j hj=>?_⟩;have fJ:j<arr.size:=by omega
  cases hc:(arr[j].born==e.born) with
  |false=>rfl
  |true=>
   have:=hb.2 j i arr[j] e (fh fJ) he (by simpa using hc);omega
 simp[Instr.entry,getObj,Sem.run_bind,Sem.run,hk,hm,atf,CP]
theorem aye {x y z:Code}{k:Nat}{p:MP}(h:yO x y k z=some p):∃i1 i2 o1 o2 o3 l,x=.region i1 p.ops1 false∧y=.cond (.tmp p.mo) .skip (.exit p.out)∧z=.region i2 p.ops2 false∧p.next=k∧p.ops1.toList=[o1,o2]∧p.ops2.toList=o3::l∧
 o1.dst=some p.nx∧o1.guard=none∧o1.op=.next (.tmp p.it) false∧o2.dst=some p.mo∧o2.guard=none∧o2.op=.extract (.tmp p.nx) 0∧o3.dst=some p.pr∧o3.guard=none∧o3.op=.entry (.tmp p.it)∧kB p.pr l []=some p.aa∧
 p.it≠p.nx∧p.it≠p.mo∧p.it≠p.pr∧p.nx≠p.mo∧p.out≠cE∧k≠cE:=by
 unfold yO at h;split at h
 case h_2=>cases h
 rename_i i1 ops1 mo out i2 ops2;split at h
 case h_2=>cases h
 rename_i o1 o2 o3 l e1 e2;split at h
 case h_2=>cases h
 rename_i nx it mo' nx' pr it' d1 g1 q1 d2 g2 q2 d3 g3 q3;rw[oq] at h;split at h
 case isFalse=>cases h
 rename_i hc;simp only[aH] at h;obtain⟨aa,h4,rfl⟩:=h;simp only[ar,iw] at hc;obtain⟨⟨⟨⟨⟨⟨⟨⟨c1,c2⟩,c3⟩,c4⟩,c5⟩,c6⟩,c7⟩,c8⟩,c9⟩:=hc;have ne:∀{a b:Nat},Nat.beq a b=false→a≠b:=fun h e=>by subst e;simp at h
 obtain rfl:=aL c1;obtain rfl:=aL c2;obtain rfl:=aL c3;exact⟨i1,i2,o1,o2,o3,l,rfl,rfl,rfl,rfl,e1,e2,d1,g1,q1,d2,g2,q2,d3,g3,q3,h4,ne c4,ne c5,ne c6,ne c7,ne c8,ne c9⟩
theorem Jl {pr:Nat}:∀(l:List Oper) {acc aa:List (Nat×Nat)},kB pr l acc=some aa→∀x,x∈acc→x∈aa
 |[],acc,aa,h,x,hx=>by simp only[kB,bf] at h;subst h;exact hx
 |o::l,acc,aa,h,x,hx=>by
  simp only[kB] at h;split at h
  case h_2=>cases h
  rw[oq] at h;split at h
  ·cases h
  split at h
  ·rw[oq] at h;split at h
   ·exact Jl l h x (je _ hx)
   ·cases h
  ·simp only[ax] at h;obtain⟨i,_,h⟩:=h;exact Jl l h x (je _ hx)
  ·simp only[ax] at h;obtain⟨i,_,h⟩:=h;exact Jl l h x (je _ hx)
  ·cases h
theorem DE:∀{l:List (Nat×Nat)} {t i:Nat},tP l t=some i→(t,i)∈l
 |x::l,t,i,h=>by
  simp only[tP] at h;cases hb:Nat.beq x.1 t<;>simp only[hb,cond_true,cond_false] at h
  ·exact dj _ (DE h)
  ·cases h;have:=aL hb;subst this;exact dw ..
theorem ab4:∀{l:List (Nat×Nat)} {t:Nat},(tP l t).isSome=false→∀x,x∈l→x.1≠t
 |y::l,t,h,x,hx=>by
  simp only[tP] at h;cases hb:Nat.beq y.1 t<;>simp only[hb,cond_true,cond_false] at h
  ·rcases cG.1 hx with e|hx
   ·subst e;intro e;subst e;simp at hb
   ·exact ab4 h x hx
  ·cases h
theorem Sz {pr:Nat}:∀(l:List Oper) {acc aa:List (Nat×Nat)},kB pr l acc=some aa→(∀x,x∈acc→x.2≤1)→∀x,x∈aa→x∈acc∨(x.2≤1∧∃o,o∈l∧o.dst=some x.1)
 |[],acc,aa,h,_,x,hx=>by simp only[kB,bf] at h;subst h;exact .inl hx
 |o::l,acc,aa,h,ha,x,hx=>by
  simp only[kB] at h;split at h
  case h_2=>cases h
  rename_i d hd jN;rw[oq] at h;split at h
  ·cases h
  have go:∀(pt:Nat),pt≤1→kB pr l (acc++[(d,pt)])=some aa→x∈acc∨(x.2≤1∧∃o',o'∈o::l∧o'.dst=some x.1):=by
   intro pt tz hp
   rcases Sz l hp (fun y hy=>by
        rcases cY.1 hy with h|h
        ·exact ha y h
        ·simp at h;subst h;exact tz) x hx with h|⟨h1,o',h2,h3⟩
   ·rcases cY.1 h with h|h
    ·exact .inl h
    ·simp at h;subst h;exact .inr ⟨tz,o,dw ..,hd⟩
   ·exact .inr ⟨h1,o',dj _ h2,h3⟩
  split at h
  ·rw[oq] at h;split at h
   case isFalse=>cases h
   rename_i ia;simp only[ar] at ia;exact go _ (kO ia.2) h
  ·simp only[ax] at h;obtain⟨i,hi,h⟩:=h;exact go i (ha _ (DE hi)) h
  ·simp only[ax] at h;obtain⟨i,hi,h⟩:=h;exact go i (ha _ (DE hi)) h
  ·cases h
theorem zc {P:Program}{ops:Array Oper}{i:Nat}{rest:List Nat}{o:Oper}{rd:Option Nat}{a:Act}{w w':World}{Q:Exit→Act→World→Prop}{v:Value}(ho:ops[i]?=some o)(hg:o.guard=none)(bp:nL o.op=true)(hx:(execOp a.eval o).run P w=.ok (.value v) w')
 (k:wpOpsIn (FR rd) 0 P ops Q rest (a.put o.dst v) w'):wpOpsIn (FR rd) 0 P ops Q (i::rest) a w:=by
 simp only[wpOpsIn,ho];rw[if_pos (by simp[Region.wanted,hg])];exact afO bp (by unfold Oper.wp;rw[hx];exact k)
theorem aBd {ops:Array Oper}{o:Oper}(ho:o∈ops.toList)(a:Act)(v:Value):SameBut (p9 ops) a (a.put o.dst v):=by
 have:=SameBut.put a o.dst v a.defers;exact this.mono fun t e=>⟨o,ho,e⟩
theorem zh {a:Act}{d:Nat}{v:Value}(h:d<a.tmps.size):(a.put (some d) v).tmps.getD d undef=v:=by rw[Fp];simp[h]
theorem LG {a:Act}{d t:Nat}{v:Value}(h:t≠d):(a.put (some d) v).tmps.getD t undef=a.tmps.getD t undef:=by rw[Fp];simp[h]
theorem put_defers (a:Act)(d:Option Nat)(v:Value):(a.put d v).defers=a.defers:=by cases d<;>rfl
def DV (kv vv:Value)(i:Nat):Value:=if i=0 then kv else vv
theorem afU {P:Program}{ops:Array Oper}{rd:Option Nat}{Q:Exit→Act→World→Prop}{pr:Nat}{kv vv:Value}{w:World}:∀(l:List Oper) (acc aa:List (Nat×Nat)) (i:Nat) (a:Act),kB pr l acc=some aa→ops.toList.drop i=l→(∀x,x∈aa→x.1<a.tmps.size)→a.tmps.getD pr undef=.tuple #[kv,vv]→
 (∀x,x∈acc→a.tmps.getD x.1 undef=DV kv vv x.2)→(∀a',SameBut (p9 ops) a a'→a'.defers=a.defers→(∀x,x∈aa→a'.tmps.getD x.1 undef=DV kv vv x.2)→Q .normal a' w)→wpOpsIn (FR rd) 0 P ops Q (List.range' i (ops.size-i)) a w
 |[],acc,aa,i,a,h,hl,ah,oW,CD,hQ=>by
  simp only[kB,bf] at h;subst h;have:ops.size-i=0:=by
    have:=Xo.1 hl;simp at this;omega
  rw[this];exact hQ a (.refl _ _) rfl CD
 |o::l,acc,aa,i,a,h,hl,ah,oW,CD,hQ=>by
  have hi:i<ops.toList.length:=by
   refine XB fun hle=>?_;rw[Xo.2 hle] at hl;cases hl
  rw[aiT hi] at hl;have ho:ops[i]?=some o:=by
   have:ops.toList[i]=o:=by injection hl
   rw[←this];simp at hi ⊢
  have yq:ops.toList.drop (i+1)=l:=by injection hl
  have aR:ops.size-i=(ops.size-(i+1))+1:=by simp at hi;omega
  rw[aR,FO];have cV:o∈ops.toList:=by simpa using gA ho
  simp only[kB] at h;split at h
  case h_2=>cases h
  rename_i d hd jN;rw[oq] at h;split at h
  ·cases h
  rename_i hc;simp only[gB,not_or,Bool.not_eq_true] at hc;have hdp:pr≠d:=fun e=>by subst e;simp at hc
  have hda:∀x,x∈acc→x.1≠d:=ab4 hc.2;have go:∀(pt:Nat) (v:Value),kB pr l (acc++[(d,pt)])=some aa→nL o.op=true→v=DV kv vv pt→(execOp a.eval o).run P w=.ok (.value v) w→wpOpsIn (FR rd) 0 P ops Q (i::List.range' (i+1) (ops.size-(i+1))) a w:=by
   intro pt v hp bp hv hx;have Pd:d<a.tmps.size:=ah _ (Jl l hp (d,pt) (by simp));refine zc ho jN bp hx ?_;have jR:=aBd cV a v;rw[hd] at jR ⊢;refine afU l _ aa (i+1) _ hp yq (fun x hx=>by rw[jR.size];exact ah x hx) (by rw[LG hdp];exact oW) (fun x hx=>?_) (fun a' h1 h2 h3=>hQ a' (jR.trans h1) (h2.trans (put_defers _ _ _)) h3);rcases cY.1 hx with hx|hx
   ·rw[LG (hda x hx)];exact CD x hx
   ·simp at hx;subst hx;rw[zh Pd];exact hv
  split at h
  ·rename_i t pt e;rw[oq] at h;split at h
   case isFalse=>cases h
   rename_i ia;simp only[ar] at ia;have ht:=aL ia.1;have tz:=kO ia.2;subst ht;have bO:a.eval (.tmp t)=.tuple #[kv,vv]:=by simpa [Act.eval] using oW
   refine go pt (DV kv vv pt) h (by rw[e];rfl) rfl ?_;rcases(by omega:pt=0∨pt=1) with rfl|rfl<;>simp[execOp,e,bO,Instr.extract,DV]
  ·rename_i t e;simp only[ax] at h;obtain⟨pt,vz,h⟩:=h;have:=CD _ (DE vz);exact go pt (a.eval (.tmp t)) h (by rw[e];rfl) (by simpa [Act.eval] using this) (by simp[execOp,e])
  ·rename_i t e;simp only[ax] at h;obtain⟨pt,vz,h⟩:=h;have:=CD _ (DE vz);exact go pt (a.eval (.tmp t)) h (by rw[e];rfl) (by simpa [Act.eval] using this) (by simp[execOp,e])
  ·cases h
theorem QF (ids:List Nat)(J j:Nat)(S:Snap):((S.kill ids J).st ids).o j=if j=J then .dead else(S.st ids).o j:=by
 show dh ids (vT ids J S.os) j=_;have:∀(is:List Nat) (os:List Ob),dh is (vT is J os) j=if j=J then .dead else dh is os j:=by
  intro is
  induction is with
  |nil=>intro os;simp[vT,dh]
  |cons i is ih=>
   intro os;cases os with
   |nil=>simp[vT,dh]
   |cons o os=>
    simp only[vT,dh];cases hb:Nat.beq i j
    ·simp only[cond_false];exact ih os
    ·have:=aL hb;subst this;simp only[cond_true];by_cases cS:i=J
     ·subst cS;simp
     ·simp[eu cS,cS]
 exact this ids S.os
theorem Yl {N:Nat}{id:Nat}(H2:id≠cE){rm:Bool}{wr:Nat→Prop}{a:Act}{q:Res2}{x xi:Out}(qm:(∀t,t∈q.pc.modR→aw q.mr t=true)∧∀j,j∈q.pc.modO→j∈q.mo)(dB:q.pc.ev Φ N ρ=some xi)(bO:(fW ids id q).pc.ev Φ N ρ=some x){e:Exit}{a':Act}{w':World}
 (ga:gl C w0 σ0 ids fn s rm wr a q.out q.ex xi e a' w'):Exit.inBlock id (gl C w0 σ0 ids fn s rm wr a (fW ids id q).out (fW ids id q).ex x) e a' w':=by
 have aaB:∀bQ S1,(bQ,S1)∈q.ex→bQ≠id→(bQ,S1)∈q.ex.filter fun x=> !Nat.beq x.1 id:=fun bQ S1 hm aB=>cQ.2 ⟨hm,by simp[eu aB]⟩;have main:∀(o:Option Snap) (lr lo:List Nat),nK id q.ex q.out=o→(∀M,o=some M→lr=jW M q.mr∧lo=iV ids M q.mo)→(PC.block id lr lo q.pc).ev Φ N ρ=some x→
        Exit.inBlock id (gl C w0 σ0 ids fn s rm wr a o (q.ex.filter fun x=> !Nat.beq x.1 id) x) e a' w':=by
  intro o lr lo ho hl bO;simp only[PC.ev] at bO;rw[dB] at bO
  have fin:∀{ρ1:Env} {a':Act} {w':World},(∃M,o=some M∧Good C w0 σ0 (M.st ids) ρ1 (fun _=>False) a' w')→xi.env?=some ρ1→x=.next (ρ.join lr lo ρ1)→SameBut wr a a'→
   gl C w0 σ0 ids fn s rm wr a o (q.ex.filter fun x=> !Nat.beq x.1 id) x .normal a' w':=by
        intro ρ1 a' w' hM vt hx eC;obtain⟨M,hM,rH⟩:=hM;obtain⟨l1,l2⟩:=hl M hM;subst l1 l2;exact⟨_,M,hx,hM,eC,rH.joined (PC.ev_but q.pc ρ _ ρ1 dB vt) qm.1 qm.2⟩
  cases e with
  |normal=>
   obtain⟨ρ1,S2,e1,e2,eC,fo⟩:=ga;subst e1;simp only[bf] at bO;refine fin ?_ rfl bO.symm eC;rw[e2] at ho;obtain⟨M,h1,h2⟩:=IL (id:=id) q.ex fo;rw[ho] at h1;exact⟨M,h1,h2⟩
  |exit bQ=>
   obtain⟨ρ1,S2,e1,e0,e2,eC,fo⟩:=ga;subst e1;simp only at bO;show if bQ=id then _ else _;by_cases cB:bQ=id
   ·subst cB;simp only[gY,cond_true,bf] at bO;simp only[if_true];refine fin ?_ rfl bO.symm eC;rw[←ho];exact Rm fo q.ex q.out e2
   ·simp only[eu cB,cond_false,bf] at bO;subst bO;simp only[cB,if_false];exact⟨ρ1,S2,rfl,e0,aaB _ _ e2 cB,eC,fo⟩
  |ret=>
   cases rm with
   |false=>
    have hy:=ga;obtain⟨d,e1,_⟩:=hy;subst e1;simp only[bf] at bO;subst bO;exact ga
   |true=>
    obtain⟨ρ1,S2,e1,e2,eC,fo⟩:=ga;subst e1;simp only[eu (fun e=>H2 e.symm:cE≠id),cond_false,bf] at bO;subst bO;exact⟨ρ1,S2,rfl,aaB _ _ e2 (fun e=>H2 e.symm),eC,fo⟩
  |_=>exact ga.elim
 unfold fW at bO ⊢;cases hm:nK id q.ex q.out with
 |none=>
  simp only[hm] at bO ⊢;exact main none [] [] hm (fun M e=>by cases e) bO
 |some M=>
  simp only[hm] at bO ⊢;exact main (some M) _ _ hm (fun M' e=>by cases e;exact⟨rfl,rfl⟩) bO
theorem Yj {N id:Nat}{q:Res2}{x:Out}(bO:(fW ids id q).pc.ev Φ N ρ=some x):∃xi,q.pc.ev Φ N ρ=some xi:=by
 unfold fW at bO;cases hm:nK id q.ex q.out<;>simp only[hm,PC.ev] at bO<;>cases dB:q.pc.ev Φ N ρ<;>first|exact⟨_,rfl⟩|(rw[dB] at bO;cases bO)
theorem ahl {es:List (D×D)}{idx:List Nat}(hn:idx.Nodup)(ah:∀i,i∈idx→i<es.length)(aV:∀i,i<es.length→i∈idx):(gh es idx).Perm (gS (.map es)):=by
 have h1:idx.Perm (List.range es.length):=by
  rw[List.perm_ext_iff_of_nodup hn M5];intro i;rw[cd];exact⟨ah i,aV i⟩
 have h2:gh es (List.range es.length)=gS (.map es):=by
  refine List.ext_getElem (by simp[gh,gS,D.m]) fun i g1 g2=>?_;have hi:i<es.length:=by simpa [gh] using g1
  simp[gh,gS,D.m,bK hi]
 rw[←h2];exact h1.map _
theorem aBj {es:List (D×D)}{idx:List Nat}(hn:idx.Nodup)(ah:∀i,i∈idx→i<es.length):∃rest,(gh es idx++rest).Perm (gS (.map es)):=by
 refine⟨gh es ((List.range es.length).filter fun i=> !idx.contains i),?_⟩;have e:gh es idx++gh es ((List.range es.length).filter fun i=> !idx.contains i)=gh es (idx++(List.range es.length).filter fun i=> !idx.contains i):=by simp[gh]
 rw[e];refine ahl ?_ (fun i hi=>?_) (fun i hi=>?_)
 ·rw[Ar];refine⟨hn,M5.filter _,fun a ha b hb e=>?_⟩;subst e;have:=(cQ.1 hb).2;simp[ha] at this
 ·rcases cY.1 hi with h|h
  ·exact ah i h
  ·exact cd.1 (cQ.1 h).1
 ·by_cases h:i∈idx
  ·exact je _ h
  ·exact jC _ (cQ.2 ⟨cd.2 hi,by simp[h]⟩)
theorem ahm (es:List (D×D))(idx:List Nat){i:Nat}{p:D×D}(h:es[i]?=some p):gh es (idx++[i])=gh es idx++[.tup [p.1,p.2]]:=by simp[gh,h]
theorem ayg {N:Nat}{x y z code:Code}{k:Nat}{p:MP}(hp:yO x y k z=some p)(ihc:uR C Φ fn s n ids R N code){rm:Bool}{S:Snap}{r:Res2}
 (hr:yP ids n p (cq x++(cq y++(cq z++cq code))) (fun S=>comp C fn s n ids R rm code S) S=some r) {rd:Option Nat} {wr:Nat→Prop} {x0:Out} (gd:rm=false→rd=none∧σ0.fin) (hC:CtxOK C σ0) (hY:oB C Φ w0 σ0)
 (gQ:∀t,t∈cq (.loop (.seq x (.seq y (.block k (.seq z code)))))→wr t) (hn:a.tmps.size=n) (hg:Good C w0 σ0 (S.st ids) ρ (fun _=>False) a w) (he:r.pc.ev Φ N ρ=some x0):
 (Code.loop (.seq x (.seq y (.block k (.seq z code))))).wpIn (FR rd) 0 C.P (gl C w0 σ0 ids fn s rm wr a r.out r.ex x0) a w:=by
 obtain⟨i1,i2,o1,o2,o3,l,rfl,rfl,rfl,hk,e1,e2,d1,g1,q1,d2,g2,q2,d3,g3,q3,mD,n1,n2,n3,n4,n5,n6⟩:=aye hp;subst hk;unfold yP at hr;split at hr
 case h_2=>cases hr;exact absurd he (l0 _ _ _ _)
 rename_i J hJ;split at hr
 case h_2=>cases hr;exact absurd he (l0 _ _ _ _)
 rename_i kt et H8;simp only at hr;split at hr
 case h_2=>cases hr;exact absurd he (l0 _ _ _ _)
 rename_i q hq;rw[oq] at hr;split at hr
 case isFalse=>cases hr;exact absurd he (l0 _ _ _ _)
 rename_i vm;cases hr;generalize Iz:cq (.region i1 p.ops1 false)++(cq (.cond (.tmp p.mo) .skip (.exit p.out))++(cq (.region i2 p.ops2 false)++cq code))=ws at*;simp only[ar,iw] at vm;obtain⟨⟨⟨⟨⟨⟨⟨⟨c1,c2⟩,c3⟩,c4⟩,c5⟩,c6⟩,c7⟩,c8⟩,c9⟩:=vm;have hex:q.2.ex=[]:=re.1 c1;have Z7:J∉q.2.mo:=fun h=>by rw[(pf _ _).2 h] at c2;cases c2
 simp only[abE,ar,iw] at c3;obtain⟨⟨c3a,c3b⟩,c3c⟩:=c3;have auZ:q.1.rs.getD p.it .none=.obj J 0:=Sh.beq_eq _ _ c3a;have Ij:dh ids q.1.os J=.it kt et:=Ob.beq_eq _ _ c3b;have auR:∀t,t∈p.aa.map (·.1)→t<n:=fun t ht=>by have:=bL.1 c5 t ht;rwa [iy] at this
 have PM:p.nx<n:=by rwa [iy] at c6
 have Pz:p.mo<n:=by rwa [iy] at c7
 have oW:p.pr<n:=by rwa [iy] at c8
 have C5:=aL c9;obtain⟨hs,yk,bJ⟩:=Dx (C:=C) (w0:=w0) (σ0:=σ0) (ids:=ids) 8 hq;simp only[aH] at hs;obtain⟨q0,vE,iS⟩:=hs;obtain⟨qS,qR⟩:=q;simp only at*;subst iS;generalize hm:v3 ws=m at*;generalize vA:iV ids qS (fW ids p.next q0).mo=lo at*;have PB:=Yk (ids:=ids) (id:=p.next) (sQ code vE);have aug:∀j,j∈lo→j∈(fW ids p.next q0).mo:=fun j hj=>by rw[←vA] at hj;exact yQ hj
 have aIJ:J∉lo:=fun h=>Z7 (aug J h);have Df:∃Ab,Ly ((fW ids p.next q0).pc.ev Φ N) ρ J (p.aa.map (·.1)) (p.aa.map (·.2)) lo Ab∧x0=.exit p.out (ρ.put [] [] lo Ab):=by
  simp only[PC.ev] at he;cases oW:Lz ((fW ids p.next q0).pc.ev Φ N) ρ J (p.aa.map (·.1)) (p.aa.map (·.2)) lo with
  |none=>rw[oW] at he;cases he
  |some y=>
   obtain⟨Ab,h1,rfl⟩:=wu.1 oW;rw[oW] at he;simp only[bf] at he;exact⟨Ab,h1,he.symm⟩
 obtain⟨Ab,⟨Da,as5⟩,hx0⟩:=Df;generalize iO:(ρ.o J).tget 1=es at*
 have iT:∀o,o∈p.ops1.toList→∀d,o.dst=some d→d∈ws:=fun o ho d hd=>by
  rw[←Iz];exact je _ (sG.2 ⟨o,ho,hd⟩)
 have dt:∀o,o∈p.ops2.toList→∀d,o.dst=some d→d∈ws:=fun o ho d hd=>by
  rw[←Iz];exact jC _ (jC _ (je _ (sG.2 ⟨o,ho,hd⟩)))
 have hwc:∀d,d∈cq code→d∈ws:=fun d hd=>by
  rw[←Iz];exact jC _ (jC _ (jC _ hd))
 have Qt:∀t,t∈ws→wr t:=fun t ht=>gQ t (by rw[←Iz] at ht;exact ht);have rO:∀t,t∈ws→aw m t=true:=fun t ht=>by rw[←hm];exact Yi ht
 have Py:∀t,aw m t=true→((qS.mask m).st ids).r t=.none:=fun t ht=>by rw[DG,if_pos ht]
 have aum:∀t,isNone (((qS.mask m).st ids).r t)=false→aw m t=false:=fun t ht=>by
  cases hb:aw m t with
  |false=>rfl
  |true=>rw[Py t hb] at ht;cases ht
 have kq:((qS.mask m).st ids).r p.it=.obj J 0:=by
  rw[DG,c3c];show cu (qS.rs.getD p.it .none)=_;rw[auZ];rfl
 have cJ:((qS.mask m).st ids).o J=.it kt et:=Ij;have jq:p.ops1[0]?=some o1:=by rw[←Ai,e1];rfl
 have ez:p.ops1[1]?=some o2:=by rw[←Ai,e1];rfl
 have ho3:p.ops2[0]?=some o3:=by rw[←Ai,e2];rfl
 have avh:List.range p.ops1.size=[0,1]:=by
  have:p.ops1.size=2:=by rw[←Aj,e1];rfl
  rw[this];rfl
 have Iu:List.range p.ops2.size=0::List.range' 1 (p.ops2.size-1):=by
  have:p.ops2.size=l.length+1:=by rw[←Aj,e2];rfl
  rw[this,M6,FO];rfl
 have key:∀(kk:Nat) (done vo:List D) (a':Act) (w':World),SameBut wr a a'→Good C w0 σ0 ((qS.mask m).st ids) ((ρ.put [] [] lo vo).setO J (.tup [.list done,es])) (fun _=>False) a' w'→
  (∀ys,(done++ys).Perm (gS es)→kY ((fW ids p.next q0).pc.ev Φ N) ρ J es (p.aa.map (·.1)) (p.aa.map (·.2)) lo ys done vo=some Ab)→done.length+kk=(gS es).length+1→
  Code.roundsIn (FR rd) 0 C.P (.seq (.region i1 p.ops1 false) (.seq (.cond (.tmp p.mo) .skip (.exit p.out)) (.block p.next (.seq (.region i2 p.ops2 false) code)))) (gl C w0 σ0 ids fn s rm wr a none [(p.out,(qS.mask m).kill ids J)] x0) kk a' w':=by
  intro kk
  induction kk with
  |zero=>
   intro done vo a' w' _ fm _ hlen;exfalso;obtain⟨σ,own,hv,h⟩:=fm;have bq:=h.objs J;rw[cJ] at bq;obtain⟨kb,mb,arr,clock,fY,idx,h1,h2,h3,aB,h4,h5,h6,h7,h8,h9,nw,rF⟩:=bq;simp only[Env.setO,aU] at h6;injection h6 with h6;injection h6 with vg vh;injection vh with vh _;injection vg with vg;subst vg;subst vh;have hle:idx.length≤arr.size:=by
        have:=List.Nodup.length_le_of_subset h7 (l₂:=List.range arr.size) (fun i hi=>cd.2 (h8 i hi));simpa using this
   simp[gh,gS,D.m] at hlen;omega
  |succ kk ih=>
   intro done vo a' w' jR fm aV hlen;rw[roundsIn_succ];obtain⟨σ,own,hv,h⟩:=fm;have bq:=h.objs J;rw[cJ] at bq;obtain⟨kb,mb,arr,clock,fY,idx,h1,h2,h3,aB,h4,h5,h6,h7,h8,h9,nw,rF⟩:=bq;simp only[Env.setO,aU] at h6;injection h6 with h6;injection h6 with vg vh;injection vh with vh _;injection vg with vg;subst vg;subst vh;have jt:=h.regs p.it;rw[kq] at jt;have H4:a'.eval (.tmp p.it)=.pointer (some ⟨kb,0,none⟩):=by
        have:=jt.2 rfl;simp only[Act.eval];rw[this];exact h1
   have qu:a'.tmps.size=n:=jR.size.trans hn;obtain⟨w1,abr,Ih⟩:=ayH (P:=C.P) h5 h4 nw h8 o1.type;have Dr:Below w'.heap.size w' w1:=by rcases abr with rfl|rfl;exact .refl _ _;exact⟨rfl,rfl,rfl,bk _,fun _ _=>rfl⟩
   have yE:w1.heap=w'.heap:=by rcases abr with rfl|rfl<;>rfl
   have hkl:kb<w'.heap.size:=(h.owns kb J h2).2.1;have rK:mb<w'.heap.size:=(h.owns mb J h3).2.1;refine wpIn_seq (wpIn_region ?_);rw[avh];rcases Ih with⟨Pl,ao⟩|⟨i,e,nA,vx,ao⟩
   ·
        refine zc jq g1 (by rw[q1];rfl) (v:=.tuple #[.bool false]) (w':=w1) (by simp only[execOp,q1,H4];simp[ao]) ?_;rw[d1]
        refine zc ez g2 (by rw[q2];rfl) (v:=.bool false) (w':=w1) (by
         have:(a'.put (some p.nx) (.tuple #[.bool false])).eval (.tmp p.nx)=.tuple #[.bool false]:=by simp only[Act.eval];exact zh (by omega)
         simp only[execOp,q2,this];simp[Instr.extract]) ?_
        rw[d2];simp only[wpOpsIn]
        have vH:SameBut (fun t=>t∈ws) a' ((a'.put (some p.nx) (.tuple #[.bool false])).put (some p.mo) (.bool false)):=by
         have s1:=SameBut.put a' (some p.nx) (.tuple #[.bool false]) a'.defers;have s2:=SameBut.put (a'.put (some p.nx) (.tuple #[.bool false])) (some p.mo) (.bool false) (a'.put (some p.nx) (.tuple #[.bool false])).defers;exact(s1.mono fun t e=>by cases e;exact iT o1 (by rw[e1];simp) _ d1).trans (s2.mono fun t e=>by cases e;exact iT o2 (by rw[e1];simp) _ d2)
        generalize vj:(a'.put (some p.nx) (.tuple #[.bool false])).put (some p.mo) (.bool false)=a1 at vH;have PA:a1.eval (.tmp p.mo)=.bool false:=by
         rw[←vj];simp only[Act.eval];exact zh (by rw[size_put];omega)
        have nz:a1.defers=a'.defers:=by rw[←vj,put_defers,put_defers]
        refine wpIn_seq (wpIn_cond_false PA (wpIn_exit ?_));have auN:(gh fY idx++[]).Perm (gS (.map fY)):=by
         rw[mc];exact ahl h7 (fun i hi=>by rw[h9];exact h8 i hi) (fun i hi=>Pl i (by omega))
        have abq:=aV [] auN;simp only[kY,bf] at abq;subst abq;refine⟨_,_,hx0,n5,rf.2 rfl,jR.trans (vH.mono Qt),?_⟩;refine⟨σ,own,hv,?_⟩
        refine h.step (S':=((qS.mask m).kill ids J).st ids) (ρ':=ρ.put [] [] lo vo) (A':=fun _=>False) (fun j=>j=J) nz (.refl σ) (h.ok.below Dr) (fun _ _ _ hx=>.inl hx) (fun _ _ hx=>.inl hx) (Dr.mono h.below.size) ⟨fun _=>bk _,fun _ _=>rfl⟩
         (fun j hj=>⟨by rw[QF,if_neg hj],by simp[Env.setO,bz _ _ hj],rfl,fun b hb=>⟨hb,by rw[yE]⟩⟩) (fun j hj=>?_) (fun b j hb=>?_) (fun _=>id) (fun t=>?_) (fun _ hf=>hf.elim) (fun b hb _=>by rw[yE]) (fun b j hb=>.inl ⟨j,hb⟩) (fun j hj=>?_)
        ·rw[QF,if_pos hj];trivial
        ·obtain⟨b1,b2,b3,b4⟩:=h.owns b j hb;exact⟨b1,by rw[yE];exact b2,b3,b4⟩
        ·by_cases ht:t∈ws
         ·refine .inr ⟨?_,fun gs s' e=>absurd e (Snap.noOpt _ _ t gs s')⟩;have:(((qS.mask m).kill ids J).st ids).r t=.none:=Py t (rO t ht);rw[this];trivial
         ·exact .inl ⟨rfl,vH.get t ht,rfl⟩
        ·rw[QF,if_pos hj];intro e;cases e
   ·
        obtain⟨pd,PZ⟩:∃pd,fY[i]?=some pd:=⟨_,bK (by rw[h9];exact(fU.1 nA).1)⟩
        obtain⟨bH,cD⟩:=rF i e pd nA PZ;generalize yF:({w1 with heap:=w1.heap.setIfInBounds kb (.mapIter (some mb) clock (fR arr (idx++[i])) clock)}:World)=w2 at ao;have abt:w2.heap[kb]?=some (.mapIter (some mb) clock (fR arr (idx++[i])) clock):=by rw[←yF];simp[yE,hkl]
        have yG:∀b,b≠kb→w2.heap[b]?=w'.heap[b]?:=fun b hb=>by rw[←yF];simp only[yE];rw[Xe (xk hb)]
        have aJj:w2.heap.size=w'.heap.size:=by rw[←yF];simp[yE]
        have abu:w2.heap[mb]?=some (.map arr clock):=by rw[yG mb (xk aB)];exact h4
        refine zc jq g1 (by rw[q1];rfl) (v:=.tuple #[.bool true,e.key,e.val]) (w':=w2) (by simp only[execOp,q1,H4];simp[ao]) ?_;rw[d1]
        refine zc ez g2 (by rw[q2];rfl) (v:=.bool true) (w':=w2) (by
         have:(a'.put (some p.nx) (.tuple #[.bool true,e.key,e.val])).eval (.tmp p.nx)=.tuple #[.bool true,e.key,e.val]:=by simp only[Act.eval];exact zh (by omega)
         simp only[execOp,q2,this];simp[Instr.extract]) ?_
        rw[d2];simp only[wpOpsIn]
        have vH:SameBut (fun t=>t∈ws) a' ((a'.put (some p.nx) (.tuple #[.bool true,e.key,e.val])).put (some p.mo) (.bool true)):=by
         have s1:=SameBut.put a' (some p.nx) (.tuple #[.bool true,e.key,e.val]) a'.defers;have s2:=SameBut.put (a'.put (some p.nx) (.tuple #[.bool true,e.key,e.val])) (some p.mo) (.bool true) (a'.put (some p.nx) (.tuple #[.bool true,e.key,e.val])).defers;exact(s1.mono fun t e=>by cases e;exact iT o1 (by rw[e1];simp) _ d1).trans (s2.mono fun t e=>by cases e;exact iT o2 (by rw[e1];simp) _ d2)
        have aaO:(((a'.put (some p.nx) (.tuple #[.bool true,e.key,e.val])).put (some p.mo) (.bool true))).eval (.tmp p.it)=.pointer (some ⟨kb,0,none⟩):=by
         simp only[Act.eval] at H4 ⊢;rw[LG n2,LG n1];exact H4
        generalize vj:(a'.put (some p.nx) (.tuple #[.bool true,e.key,e.val])).put (some p.mo) (.bool true)=a1 at vH aaO;have PA:a1.eval (.tmp p.mo)=.bool true:=by
         rw[←vj];simp only[Act.eval];exact zh (by rw[size_put];omega)
        have nz:a1.defers=a'.defers:=by rw[←vj,put_defers,put_defers]
        refine wpIn_seq (wpIn_cond_true PA (wpIn_skip ?_));refine wpIn_block (wpIn_seq (wpIn_region ?_));rw[Iu];refine zc ho3 g3 (by rw[q3];rfl) (v:=.tuple #[e.key,e.val]) (w':=w2) (by simp only[execOp,q3,aaO];simp[apA abt abu nw nA]) ?_;rw[d3]
        have hs3:SameBut (fun t=>t∈ws) a1 (a1.put (some p.pr) (.tuple #[e.key,e.val])):=
         (SameBut.put a1 (some p.pr) (.tuple #[e.key,e.val]) a1.defers).mono fun t e=>by cases e;exact dt o3 (by rw[e2];simp) _ d3
        have abj:a1.tmps.size=n:=vH.size.trans qu;refine afU (kv:=e.key) (vv:=e.val) l [] p.aa 1 _ mD (by rw[e2];rfl) (fun x hx=>by rw[hs3.size,abj];exact auR _ (dx.2 ⟨x,hx,rfl⟩)) (zh (by rw[abj];exact oW)) (fun x hx=>by cases hx) (fun a2 eC dJ auK=>?_);have Qb:SameBut (fun t=>t∈ws) a' a2:=(vH.trans hs3).trans (eC.mono fun t ⟨o,ho,hd⟩=>dt o ho t hd);have aty:a2.defers=a'.defers:=by rw[dJ,put_defers,nz]
        have ave:Good C w0 σ0 (((qS.mask m).start (p.aa.map (·.1)) (p.aa.map fun x=>bif Nat.beq x.2 0 then kt else et)).st ids) ((ρ.put (p.aa.map (·.1)) ((p.aa.map (·.2)).map (D.tup [pd.1,pd.2]).tget) lo vo).setO J (.tup [.list (gh fY idx++[.tup [pd.1,pd.2]]),.map fY])) (fun _=>False) a2 w2:=by
         have CH:Below w0.heap.size w' w2:=⟨by rw[←yF];exact Dr.os,by rw[←yF];exact Dr.tape,by rw[←yF];exact Dr.output,by omega,fun b hb=>yG b (fun e=>by subst e;have:=(h.owns b J h2).1;omega)⟩
         have jr:σ.ok w2:=by
          refine⟨fun b o v hc=>?_,fun b es hc=>?_⟩
          ·have O6:b≠kb:=fun e=>by subst e;rw[(h.owns b J h2).2.2.1 o] at hc;cases hc
           have:=h.ok.c b o v hc;simp only[World.cell?] at this ⊢;rw[yG b O6];exact this
          ·have O6:b≠kb:=fun e=>by subst e;rw[(h.owns b J h2).2.2.2] at hc;cases hc
           exact(h.ok.m b es hc).keep (yG b O6)
         have ga:∀j,((ρ.put (p.aa.map (·.1)) ((p.aa.map (·.2)).map (D.tup [pd.1,pd.2]).tget) lo vo).setO J (.tup [.list (gh fY idx++[.tup [pd.1,pd.2]]),.map fY])).o j=if j=J then .tup [.list (gh fY idx++[.tup [pd.1,pd.2]]),.map fY] else putL ρ.o lo vo j:=fun j=>by
          simp only[Env.setO,fS];rfl
         refine⟨σ,own,hv,h.step (fun j=>j=J) aty (.refl σ) jr (fun _ _ _ hx=>.inl hx) (fun _ _ hx=>.inl hx) CH ⟨fun _=>bk _,fun _ _=>rfl⟩
          (fun j hj=>⟨rfl,by rw[ga,if_neg hj];simp[Env.setO,bz _ _ hj,Env.put],rfl,fun b hb=>⟨hb,yG b (fun e=>by subst e;rw[h2] at hb;cases hb;exact hj rfl)⟩⟩) (fun j hj=>?_) (fun b j hb=>?_) (fun _=>id) (fun t=>?_) (fun _ hf=>hf.elim)
          (fun b hb ho=>yG b (fun e=>by subst e;rw[h2] at ho;cases ho)) (fun b j hb=>.inl ⟨j,hb⟩) (fun j hj=>?_)⟩
         ·subst hj;have:(((qS.mask m).start (p.aa.map (·.1)) (p.aa.map fun x=>bif Nat.beq x.2 0 then kt else et)).st ids).o j=.it kt et:=Ij;rw[this];refine⟨kb,mb,arr,clock,fY,idx++[i],h1,h2,h3,aB,abu,abt,by rw[ga,if_pos rfl,ahm fY idx PZ],?_,?_,h9,nw,rF⟩
          ·rw[Ar];exact⟨h7,by simp,fun a ha b hb e=>by simp at hb;subst hb;subst e;exact vx ha⟩
          ·intro i' df;rcases cY.1 df with h|h
           ·exact h8 i' h
           ·simp at h;subst h;exact(fU.1 nA).1
         ·obtain⟨b1,b2,b3,b4⟩:=h.owns b j hb;exact⟨b1,by omega,b3,b4⟩
         ·have hc:Compat ((qS.mask m).st ids) hv (((qS.mask m).start (p.aa.map (·.1)) (p.aa.map fun x=>bif Nat.beq x.2 0 then kt else et)).st ids) hv:=⟨fun _=>bk _,fun _ _=>rfl⟩
          refine .inr ⟨?_,fun gs s' e=>absurd e (Snap.noOpt _ _ t gs s')⟩;show aQ C _ _ σ hv (cu ((qO (p.aa.map (·.1)) (p.aa.map fun x=>bif Nat.beq x.2 0 then kt else et) ((qS.mask m).rs.map rI)).getD t .none)) (a2.tmps.getD t undef) (putL ρ.r (p.aa.map (·.1)) ((p.aa.map (·.2)).map (D.tup [pd.1,pd.2]).tget) t);rcases Uv (p.aa.map (·.1)) (p.aa.map fun x=>bif Nat.beq x.2 0 then kt else et) ((qS.mask m).rs.map rI) (by simp) c4 t with e|⟨xJ,sR⟩|⟨i',y,xJ,sR,On⟩
          ·rw[e];trivial
          ·rw[sR,zg _ _ _ _ xJ];have e3:((qS.mask m).rs.map rI).getD t .none=rI ((qS.mask m).rs.getD t .none):=by
            simp only[aS,cU];cases(qS.mask m).rs[t]?<;>rfl
           rw[e3];by_cases htw:t∈ws
           ·have yu:=Py t (rO t htw);change cu ((qS.mask m).rs.getD t .none)=.none at yu;generalize (qS.mask m).rs.getD t .none=s' at yu;cases s'<;>simp[cu] at yu<;>trivial
           ·have hr:=h.regs t;change aQ C _ _ σ hv (cu ((qS.mask m).rs.getD t .none)) _ (ρ.r t) at hr;rw[Qb.get t htw];generalize (qS.mask m).rs.getD t .none=s' at hr;cases s' with
            |yv=>trivial
            |opt gs s=>trivial
            |none=>trivial
            |fclo f c=>exact aQ.mono' (.refl σ) hc (fun _ _ e=>by cases e) hr
            |dat t=>exact hr
            |obj j v=>exact aQ.mono' (.refl σ) hc (fun _ _ e=>by cases e) hr
            |ptr j v o=>exact aQ.mono' (.refl σ) hc (fun _ _ e=>by cases e) hr
            |eptr j v o q=>exact aQ.mono' (.refl σ) hc (fun _ _ e=>by cases e) hr
          ·rw[On];have atY:i'<p.aa.length:=by have:=(fi.1 xJ).1;simpa using this
           rw[SS _ (p.aa.map (·.1)) _ i' t (mP c4) (by simp) xJ];obtain⟨xa,lN⟩:∃xa,p.aa[i']?=some xa:=⟨_,bK atY⟩
           simp only[cU,lN,jF,bf] at xJ sR;subst xJ;subst sR;rw[auK xa (mg lN)];have hd:((p.aa.map (·.2)).map (D.tup [pd.1,pd.2]).tget).getD i' .none=(D.tup [pd.1,pd.2]).tget xa.2:=by simp[aS,lN]
           rw[hd];have h2x:xa.2≤1:=by
            rcases Sz l mD (fun x hx=>by cases hx) xa (mg lN) with h|h
            ·cases h
            ·exact h.1
           rcases(by omega:xa.2=0∨xa.2=1) with e0|e0<;>rw[e0]
           ·exact bH
           ·exact cD
         ·have:(((qS.mask m).start (p.aa.map (·.1)) (p.aa.map fun x=>bif Nat.beq x.2 0 then kt else et)).st ids).o j=.it kt et:=by rw[hj];exact Ij
          rw[this];intro e;cases e
        have auM:=ahm fY idx PZ;obtain⟨rest,tA⟩:∃rest,(gh fY idx++(D.tup [pd.1,pd.2])::rest).Perm (gS (.map fY)):=by
         obtain⟨rest,hr⟩:=aBj (es:=fY) (idx:=idx++[i]) (by rw[Ar];exact⟨h7,by simp,fun a ha b hb e=>by simp at hb;subst hb;subst e;exact vx ha⟩) (fun i' df=>by
          rcases cY.1 df with h|h
          ·rw[h9];exact h8 i' h
          ·simp at h;subst h;rw[h9];exact(fU.1 nA).1)
         rw[auM] at hr;exact⟨rest,by simpa using hr⟩
        have jk:=aV _ tA;simp only[kY] at jk;split at jk
        case h_2=>cases jk
        rename_i ρ2 HR;obtain⟨xi,dB⟩:=Yj HR;refine wpIn_mono (ihc rm _ q0 vE rd w0 σ0 wr _ xi a2 w2 gd hC hY (fun t ht=>Qt t (hwc t ht)) (Qb.size.trans qu) ave dB) fun ee a3 w3 ga=>?_;have jQ:=Yl n6 (sQ code vE) dB HR ga;have conv:∀ee a3 w3,gl C w0 σ0 ids fn s rm wr a2 (fW ids p.next q0).out (fW ids p.next q0).ex (.next ρ2) ee a3 w3→Exit.then (Code.roundsIn (FR rd) 0 C.P (.seq (.region i1 p.ops1 false) (.seq (.cond (.tmp p.mo) .skip (.exit p.out)) (.block p.next (.seq (.region i2 p.ops2 false) code)))) (gl C w0 σ0 ids fn s rm wr a none [(p.out,(qS.mask m).kill ids J)] x0) kk) (gl C w0 σ0 ids fn s rm wr a none [(p.out,(qS.mask m).kill ids J)] x0) ee a3 w3:=by
         intro ee a3 w3 ho;cases ee with
         |normal=>
          obtain⟨ρ3,T,f1,f2,f3,f4⟩:=ho;cases f1;refine ih (gh fY idx++[.tup [pd.1,pd.2]]) (lo.map ρ2.o) a3 w3 (jR.trans ((Qb.mono Qt).trans f3)) ?_ (fun ys vP=>?_) (by simp at hlen ⊢;omega)
          ·have rH:Good C w0 σ0 (qS.st ids) ρ2 (fun _=>False) a3 w3:=by
            have:=f4.meet2 (x:=qS)
            rwa [yk T f2] at this
           obtain⟨σ3,wj,Dp,eR⟩:=rH;have O8:=PC.ev_but _ _ _ ρ2 HR rfl;refine⟨σ3,wj,Dp,(eR.maskR m).env (Snap.noOpt _ _) (fun t ht=>?_) (fun j hj=>?_)⟩
           ·have yu:=aum t ht
            have db:t∉(fW ids p.next q0).pc.modR:=fun eW=>by
                 have:=PB.1 t eW;have h2:aw (Nat.lor m (fW ids p.next q0).mr) t=true:=by rw[eO,this,m6]
                 rw[C5,yu] at h2;cases h2
            rw[O8.r t db]
            have qn:t∉p.aa.map (·.1):=fun aZ=>by
                 have:aw m t=true:=by
                  refine rO t ?_;obtain⟨xa,lN,rfl⟩:=dx.1 aZ;rcases Sz l mD (fun x hx=>by cases hx) xa lN with h|⟨_,o,ho,hd⟩
                  ·cases h
                  ·exact dt o (by rw[e2];exact dj _ ho) _ hd
                 rw[yu] at this;cases this
            show ρ.r t=putL ρ.r (p.aa.map (·.1)) _ t;rw[zg _ _ _ _ qn]
           ·have hjd:nI (dh ids qS.os j)=false:=hj;show cf (putL ρ.o lo (lo.map ρ2.o)) J _ j=ρ2.o j;by_cases yo:j=J
            ·subst yo;rw[aU,O8.o j (fun eW=>Z7 (PB.2 j eW))];simp[Env.setO,aU]
            ·rw[bz _ _ yo,sd];split
             ·rfl
             ·rename_i fJ;have db:j∉(fW ids p.next q0).pc.modO:=fun eW=>fJ (by rw[←vA];exact cQ.2 ⟨PB.2 j eW,by rw[hjd];rfl⟩);rw[O8.o j db];simp only[Env.setO,bz _ _ yo];exact(SU _ _ _ _ fJ).symm
          ·have:=aV ((D.tup [pd.1,pd.2])::ys) (by simpa using vP);simp only[kY,HR] at this;exact this
         |exit id=>obtain⟨ρ3,T,f1,_⟩:=ho;cases f1
         |ret=>
          cases rm with
          |false=>obtain⟨d,f1,_⟩:=ho;cases f1
          |true=>obtain⟨ρ3,T,f1,_⟩:=ho;cases f1
         |_=>exact ho.elim
        cases ee with
        |exit id=>
         simp only[Exit.inBlock] at jQ;show if id=p.next then _ else _;split
         ·rename_i cB;rw[if_pos cB] at jQ;exact conv .normal a3 w3 jQ
         ·rename_i cB;rw[if_neg cB] at jQ;exact conv (.exit id) a3 w3 jQ
        |normal=>exact conv .normal a3 w3 jQ
        |ret=>exact conv .ret a3 w3 jQ
        |panic c=>exact ga.elim
        |goto l=>exact ga.elim
        |_=>exact ga.elim
 have hgq:Good C w0 σ0 (qS.st ids) ρ (fun _=>False) a w:=bJ hg;obtain⟨σ,own,hv,h⟩:=hgq;have bq:=h.objs J;have:(qS.st ids).o J=.it kt et:=Ij;rw[this] at bq;obtain⟨kb,mb,arr,clock,fY,idx,h1,h2,h3,aB,h4,h5,h6,h7,h8,h9,nw,rF⟩:=bq;have hρJ:ρ.o J=.tup [.list [],es]:=by
  rw[h6] at Da iO;simp[D.tget] at Da iO;rw[h6,Da,←iO]
 have vt:(ρ.put [] [] lo (lo.map ρ.o)).setO J (.tup [.list [],es])=ρ:=by
  rw[Env.put_self];show Env.mk _ _=_;have:cf ρ.o J (.tup [.list [],es])=ρ.o:=by
   funext j;rw[fS];split
   ·rename_i e;rw[e];exact hρJ.symm
   ·rfl
  rw[this]
 exact wpIn_loop_rounds _ (key ((gS es).length+1) [] (lo.map ρ.o) a w (.refl _ _) (by rw[vt];exact⟨σ,own,hv,h.maskR m⟩) (fun ys vP=>as5 ys vP) (by simp))
theorem aot {N:Nat}(fl:fV C Φ)(hR:Nd C n ids Φ R):∀(k:Nat) (c:Code),sizeOf c<k→uR C Φ fn s n ids R N c:=by
 intro k;refine Nat.rec (fun c h=>absurd h (Nat.not_lt_zero _)) (fun k IH=>?_) k;intro c hc;cases c with
 |skip=>
  intro rm S r h rd w0 σ0 wr ρ x a w gd hC hY gQ hn hg he;simp only[comp,bf] at h;subst h;simp only[PC.ev,bf] at he;subst he;exact wpIn_skip ⟨ρ,S,rfl,rfl,.refl _ _,hg⟩
 |region id ops draw=>
  intro rm S r h rd w0 σ0 wr ρ x a w gd hC hY gQ hn hg he;simp only[comp,aH] at h;obtain⟨q,hq,rfl⟩:=h;simp only[PC.ev,aH] at he;obtain⟨ρ',hr,rfl⟩:=he;exact hR id ops draw S q hq rd w0 σ0 ρ ρ' a w _ hC hY hn hg hr (fun a' w' eA fm=>⟨ρ',q.1,rfl,rfl,eA.mono (fun t ⟨o,h1,h2⟩=>gQ t (sG.2 ⟨o,h1,h2⟩)),fm⟩)
 |seq c1 c2=>
  have tH:=IH c1 (by simp at hc;omega);have lQ:=IH c2 (by simp at hc;omega);intro rm S r h rd w0 σ0 wr ρ x a w gd hC hY gQ hn hg he;have iT:∀t,t∈cq c1→wr t:=fun t ht=>gQ t (je _ ht);have dt:∀t,t∈cq c2→wr t:=fun t ht=>gQ t (jC _ ht);simp only[comp,ax] at h;obtain⟨q,hq,h⟩:=h;split at h
  ·rename_i jP;cases h;refine wpIn_seq (wpIn_mono (tH rm S _ hq rd w0 σ0 wr ρ x a w gd hC hY iT hn hg he) fun e a' w' ho=>?_);cases e with
   |normal=>obtain⟨_,_,_,h2,_⟩:=ho;rw[jP] at h2;cases h2
   |_=>exact ho
  ·rename_i S1 jP;simp only[aH] at h;obtain⟨p,hp,rfl⟩:=h;simp only[PC.ev] at he
   have key:∀x1,q.pc.ev Φ N ρ=some x1→(match some x1 with|some (.next ρ')=>p.pc.ev Φ N ρ'|y=>y)=some x→(Code.seq c1 c2).wpIn (FR rd) 0 C.P (gl C w0 σ0 ids fn s rm wr a p.out (q.ex++p.ex) x) a w:=by
      intro x1 h1 h2;refine wpIn_seq (wpIn_mono (tH rm S _ hq rd w0 σ0 wr ρ x1 a w gd hC hY iT hn hg h1) fun e a' w' ho=>?_);have other:∀{e:Exit},e≠.normal→gl C w0 σ0 ids fn s rm wr a q.out q.ex x1 e a' w'→x1=x→gl C w0 σ0 ids fn s rm wr a p.out (q.ex++p.ex) x e a' w':=by
       intro e aB ho hx;subst hx;exact ho.mono (fun y hy=>je _ hy) (.refl _ _) (fun e=>absurd e aB)
      cases e with
      |normal=>
       obtain⟨ρ1,S2,e1,e2,eC,fo⟩:=ho;subst e1;rw[jP] at e2;cases e2;simp only at h2;refine wpIn_mono (lQ rm S1 _ hp rd w0 σ0 wr ρ1 x a' w' gd hC hY dt (eC.size.trans hn) fo h2) fun e a2 w2 ez=>?_;exact ez.mono (fun y hy=>jC _ hy) eC (fun _=>rfl)
      |exit id=>
       refine other (by simp) ho ?_;obtain⟨ρ1,S2,e1,_⟩:=ho;subst e1;simpa using h2
      |ret=>
       refine other (by simp) ho ?_;cases rm with
       |false=>obtain⟨d,e1,_⟩:=ho;subst e1;simpa using h2
       |true=>obtain⟨ρ1,S2,e1,_⟩:=ho;subst e1;simpa using h2
      |_=>exact ho.elim
   cases h1:q.pc.ev Φ N ρ with
   |none=>rw[h1] at he;simp at he
   |some x1=>rw[h1] at he;exact key x1 h1 he
 |cond c c1 c2=>
  have tH:=IH c1 (by simp at hc;omega);have lQ:=IH c2 (by simp at hc;omega);intro rm S r h rd w0 σ0 wr ρ x a w gd hC hY gQ hn hg he;have iT:∀t,t∈cq c1→wr t:=fun t ht=>gQ t (je _ ht);have dt:∀t,t∈cq c2→wr t:=fun t ht=>gQ t (jC _ ht);simp only[comp] at h;split at h
  case h_2=>cases h;exact absurd he (l0 _ _ _ _)
  rename_i e hu;simp only[ax,aH] at h;obtain⟨q,hq,p,hp,rfl⟩:=h;have hb:∃b,a.eval c=.bool b∧e.ev ρ=.v (.bool b):=by
   obtain⟨σ,own,hv,hi⟩:=hg;have:=cg (gs:=[]) hi hC rfl hu;generalize a.eval c=v at this;generalize e.ev ρ=d at this;cases this with|bool b=>exact⟨b,rfl,rfl⟩
  obtain⟨b,jk,dm⟩:=hb;have qm:=sQ c1 hq;have C4:=sQ c2 hp;have main:∀(o:Option Snap) (lr lo:List Nat) (rx:Res2),rx=⟨.ite e lr lo q.pc p.pc,o,q.ex++p.ex,Nat.lor q.mr p.mr,ja q.mo p.mo⟩→
        (∀M,o=some M→lr=jW M (Nat.lor q.mr p.mr)∧lo=iV ids M (ja q.mo p.mo))→
        (∀S1 ρ1 a w,q.out=some S1→Good C w0 σ0 (S1.st ids) ρ1 (fun _=>False) a w→∃M,o=some M∧Good C w0 σ0 (M.st ids) ρ1 (fun _=>False) a w)→
        (∀S1 ρ1 a w,p.out=some S1→Good C w0 σ0 (S1.st ids) ρ1 (fun _=>False) a w→∃M,o=some M∧Good C w0 σ0 (M.st ids) ρ1 (fun _=>False) a w)→
        rx.pc.ev Φ N ρ=some x→(Code.cond c c1 c2).wpIn (FR rd) 0 C.P (gl C w0 σ0 ids fn s rm wr a rx.out rx.ex x) a w:=by
   intro o lr lo rx hrx hl qq mD bO;subst hrx;simp only[PC.ev,dm,D.b_bool] at bO;have fin:∀(ci:Code) (qi:Res2) (xi:Out),(∀y,y∈qi.ex→y∈q.ex++p.ex)→(∀t,t∈qi.pc.modR→aw (Nat.lor q.mr p.mr) t=true)→(∀j,j∈qi.pc.modO→j∈ja q.mo p.mo)→
    (∀S1 ρ1 a w,qi.out=some S1→Good C w0 σ0 (S1.st ids) ρ1 (fun _=>False) a w→∃M,o=some M∧Good C w0 σ0 (M.st ids) ρ1 (fun _=>False) a w)→
    qi.pc.ev Φ N ρ=some xi→(match some xi with|some (.next ρ')=>some (Out.next (ρ.join lr lo ρ'))|y=>y)=some x→
    ci.wpIn (FR rd) 0 C.P (gl C w0 σ0 ids fn s rm wr a qi.out qi.ex xi) a w→ci.wpIn (FR rd) 0 C.P (gl C w0 σ0 ids fn s rm wr a o (q.ex++p.ex) x) a w:=by
        intro ci qi xi hex ic qs jP dB hx hwp;refine wpIn_mono hwp fun ee a' w' ho=>?_;have other:ee≠.normal→xi=x→gl C w0 σ0 ids fn s rm wr a o (q.ex++p.ex) x ee a' w':=by
         intro aB jS;subst jS;exact ho.mono hex (.refl _ _) (fun e=>absurd e aB)
        cases ee with
        |normal=>
         obtain⟨ρ1,S2,e1,e2,eC,fo⟩:=ho;subst e1;simp only[bf] at hx;subst hx;obtain⟨M,hM,rH⟩:=jP S2 ρ1 a' w' e2 fo;obtain⟨l1,l2⟩:=hl M hM;subst l1 l2;exact⟨_,M,rfl,hM,eC,rH.joined (PC.ev_but qi.pc ρ _ ρ1 dB rfl) ic qs⟩
        |exit id=>
         refine other (by simp) ?_;obtain⟨ρ1,S2,e1,_⟩:=ho;subst e1;simpa using hx
        |ret=>
         refine other (by simp) ?_;cases rm with
         |false=>obtain⟨d,e1,_⟩:=ho;subst e1;simpa using hx
         |true=>obtain⟨ρ1,S2,e1,_⟩:=ho;subst e1;simpa using hx
        |_=>exact ho.elim
   refine wpIn_cond jk ?_;cases b with
   |true=>
    simp only[cond_true] at bO;cases dB:q.pc.ev Φ N ρ with
    |none=>rw[dB] at bO;simp at bO
    |some xi=>
     rw[dB] at bO;refine fin c1 q xi (fun y hy=>je _ hy) (fun t ht=>?_) (fun j hj=>pg.2 (.inl (qm.2 j hj))) qq dB bO (tH rm S _ hq rd w0 σ0 wr ρ xi a w gd hC hY iT hn hg dB);rw[eO,qm.1 t ht];rfl
   |false=>
    simp only[cond_false] at bO;cases dB:p.pc.ev Φ N ρ with
    |none=>rw[dB] at bO;simp at bO
    |some xi=>
     rw[dB] at bO;refine fin c2 p xi (fun y hy=>jC _ hy) (fun t ht=>?_) (fun j hj=>pg.2 (.inr (C4.2 j hj))) mD dB bO (lQ rm S _ hp rd w0 σ0 wr ρ xi a w gd hC hY dt hn hg dB);rw[eO,C4.1 t ht,m6]
  have qq:∀S1 ρ1 a w,q.out=some S1→Good C w0 σ0 (S1.st ids) ρ1 (fun _=>False) a w→∃M,lT q.out p.out=some M∧Good C w0 σ0 (M.st ids) ρ1 (fun _=>False) a w:=by
   intro S1 ρ1 a w e1 g1;rw[e1];obtain⟨M,hM⟩:=@acq S1 p.out;exact⟨M,hM,aco g1 hM⟩
  have mD:∀S1 ρ1 a w,p.out=some S1→Good C w0 σ0 (S1.st ids) ρ1 (fun _=>False) a w→∃M,lT q.out p.out=some M∧Good C w0 σ0 (M.st ids) ρ1 (fun _=>False) a w:=by
   intro S1 ρ1 a w e1 g1;rw[e1];obtain⟨M,hM⟩:=@acr q.out S1;exact⟨M,hM,acp g1 hM⟩
  cases hm:lT q.out p.out with
  |none=>
   rw[hm] at qq mD;simp only[hm] at he ⊢;exact main none [] [] _ rfl (fun M e=>by cases e) qq mD he
  |some M=>
   rw[hm] at qq mD;simp only[hm] at he ⊢;exact main (some M) _ _ _ rfl (fun M' e=>by cases e;exact⟨rfl,rfl⟩) qq mD he
 |block id c1=>
  have tH:=IH c1 (by simp at hc;omega);intro rm S r h rd w0 σ0 wr ρ x a w gd hC hY gQ hn hg he;simp only[comp] at h;cases cB:Nat.beq id cE<;>simp only[cB,cond_true,cond_false] at h
  case true=>cases h;exact absurd he (l0 _ _ _ _)
  have H2:id≠cE:=fun e=>by subst e;simp at cB
  simp only[aH] at h;obtain⟨q,hq,rfl⟩:=h;obtain⟨xi,dB⟩:=Yj he;exact wpIn_block (wpIn_mono (tH rm S _ hq rd w0 σ0 wr ρ xi a w gd hC hY gQ hn hg dB) fun e a' w' ga=>Yl H2 (sQ c1 hq) dB he ga)
 |loop c1=>
  have tH:=IH c1 (by simp at hc;omega);intro rm S r h rd w0 σ0 wr ρ x a w gd hC hY gQ hn hg he;rw[Zf] at h;split at h
  ·rename_i qb Dg;obtain⟨p,code,ws⟩:=qb;unfold vY at Dg;split at Dg
   case h_2=>cases Dg
   rename_i cx cy ck cz cc;simp only[aH] at Dg;obtain⟨p',aZ,ep⟩:=Dg;cases ep;exact ayg aZ (IH _ (by simp at hc;omega)) h gd hC hY gQ hn hg he
  split at h
  case h_2=>cases h;exact absurd he (l0 _ _ _ _)
  rename_i q hq;cases h;obtain⟨hs,yk,bJ⟩:=Dx (C:=C) (w0:=w0) (σ0:=σ0) (ids:=ids) 8 hq;have qm:=sQ c1 hs;simp only[PC.ev] at he
  have vw:Good C w0 σ0 (q.1.st ids) (ρ.put (jW q.1 q.2.mr) ((jW q.1 q.2.mr).map ρ.r) (iV ids q.1 q.2.mo) ((iV ids q.1 q.2.mo).map ρ.o)) (fun _=>False) a w:=by
   exact Good.joined (bJ hg) (.refl ρ q.2.pc.modR q.2.pc.modO) qm.1 qm.2
  have key:∀(k:Nat) (ρ1:Env) (a':Act) (w:World),SameBut wr a a'→fu (q.2.pc.ev Φ N) ρ (jW q.1 q.2.mr) (iV ids q.1 q.2.mo) k ((jW q.1 q.2.mr).map ρ1.r) ((iV ids q.1 q.2.mo).map ρ1.o)=some x→
        Good C w0 σ0 (q.1.st ids) (ρ.join (jW q.1 q.2.mr) (iV ids q.1 q.2.mo) ρ1) (fun _=>False) a' w→Code.roundsIn (FR rd) 0 C.P c1 (gl C w0 σ0 ids fn s rm wr a none q.2.ex x) k a' w:=by
   intro k
   induction k with
   |zero=>intro ρ1 a' w hn hl hg;simp[fu] at hl
   |succ k ih=>
    intro ρ1 a' w jR hl hg;rw[roundsIn_succ];simp only[fu] at hl;change (match q.2.pc.ev Φ N (ρ.join (jW q.1 q.2.mr) (iV ids q.1 q.2.mo) ρ1) with|some (.next ρ')=>_|y=>y)=some x at hl;cases dB:q.2.pc.ev Φ N (ρ.join (jW q.1 q.2.mr) (iV ids q.1 q.2.mo) ρ1) with
    |none=>rw[dB] at hl;simp at hl
    |some xi=>
     rw[dB] at hl;refine wpIn_mono (tH rm _ _ hs rd w0 σ0 wr _ xi a' w gd hC hY gQ (jR.size.trans hn) hg dB) fun e a2 w' ga=>?_;have other:e≠.normal→xi=x→gl C w0 σ0 ids fn s rm wr a none q.2.ex x e a2 w':=by
         intro aB jS;subst jS;exact ga.mono (fun y hy=>hy) jR (fun e=>absurd e aB)
     cases e with
     |normal=>
      obtain⟨ρ2,S2,e1,e2,eC,fo⟩:=ga;subst e1;simp only at hl;refine ih ρ2 a2 w' (jR.trans eC) hl ?_
      have rH:Good C w0 σ0 (q.1.st ids) ρ2 (fun _=>False) a2 w':=by
       have:=fo.meet2 (x:=q.1)
       rwa [yk S2 e2] at this
      refine rH.joined (mr':=jW q.1 q.2.mr++q.2.pc.modR) (mo':=iV ids q.1 q.2.mo++q.2.pc.modO) ?_ (fun t ht=>?_) (fun j hj=>?_)
      ·exact((Env.but.join ρ ρ1 _ _).mono (fun t ht=>je _ ht) (fun t ht=>je _ ht)).trans
        ((PC.ev_but q.2.pc _ _ ρ2 dB rfl).mono (fun t ht=>jC _ ht) (fun t ht=>jC _ ht))
      ·exact(cY.1 ht).elim IM (qm.1 t)
      ·exact(cY.1 hj).elim yQ (qm.2 j)
     |exit id=>
      refine other (by simp) ?_;obtain⟨ρ1,S2,e1,_⟩:=ga;subst e1;simpa using hl
     |ret=>
      refine other (by simp) ?_;cases rm with
      |false=>obtain⟨d,e1,_⟩:=ga;subst e1;simpa using hl
      |true=>obtain⟨ρ1,S2,e1,_⟩:=ga;subst e1;simpa using hl
     |_=>exact ga.elim
  exact wpIn_loop_rounds N (key N ρ a w (.refl _ _) he vw)
 |exit id=>
  intro rm S r h rd w0 σ0 wr ρ x a w gd hC hY gQ hn hg he;simp only[comp] at h;cases cB:Nat.beq id cE<;>simp only[cB,cond_true,cond_false] at h
  case true=>cases h;exact absurd he (l0 _ _ _ _)
  cases h;simp only[PC.ev,bf] at he;subst he;exact wpIn_exit ⟨ρ,S,rfl,fun e=>by subst e;simp at cB,by simp,.refl _ _,hg⟩
 |ret=>
  intro rm S r h rd w0 σ0 wr ρ x a w gd hC hY gQ hn hg he;simp only[comp] at h;cases rm<;>simp only[cond_true,cond_false] at h
  case true=>
   cases h;simp only[PC.ev,bf] at he;subst he;exact wpIn_ret ⟨ρ,S,rfl,by simp,.refl _ _,hg⟩
  split at h
  ·rename_i e P9;cases h;simp only[PC.ev,bf] at he;subst he;obtain⟨σ,own,hv,hi⟩:=hg;exact wpIn_ret ⟨_,rfl,Inv.retD hC (fun _=>rfl) (gd rfl).2 P9 _ hi rfl,.refl _ _⟩
  ·cases h;exact absurd he (l0 _ _ _ _)
 |rangeFunc g ps ca cb=>exact aAu fl (IH ca (by simp at hc;omega)) (IH cb (by simp at hc;omega))
 |_=>intro rm S r h rd w0 σ0 wr ρ x a w gd hC hY gQ hn hg he;simp only[comp,bf] at h;subst h;exact absurd he (l0 _ _ _ _)
theorem aos {N:Nat}(fl:fV C Φ)(hR:Nd C n ids Φ R)(c:Code):uR C Φ fn s n ids R N c:=aot fl hR _ c (Nat.lt_succ_self _)
end
end Cx
