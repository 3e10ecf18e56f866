/-
  Code: sequences, choices, blocks, loops.
-/
import Derived.LoopNIn
import Derived.Test.YtmnnipoiigfapaaGreatDoorHAE
import Derived.LoopN
set_option linter.unusedSimpArgs false
set_option linter.unusedVariables false
namespace Cx
open Go Go.RowKit
def aw (m t:Nat):Bool:= !Nat.beq (Nat.land 1 (Nat.shiftRight m t)) 0
theorem sn (m t:Nat):aw m t=m.testBit t:=by
 unfold aw Nat.testBit;show(!Nat.beq (1&&& (m>>>t)) 0)=((1&&& (m>>>t))!=0)
 generalize 1&&& (m>>>t)=x;cases x<;>rfl
def dN (t:Nat):Nat:=Nat.shiftLeft 1 t
theorem qE (t:Nat):aw (dN t) t=true:=by
 rw[sn];show(1<<<t).testBit t=true;simp[Nat.testBit_shiftLeft]
theorem eY (m k t:Nat):aw (Nat.lor m k) t=(aw m t||aw k t):=by
 simp only[sn];exact Nat.testBit_or m k t
def PI.mask:PI→Nat
 |.setR t _=>dN t|.call _ t _ _=>dN t|.callc _ t _ _=>dN t|_=>0
def Jf:List PI→Nat
 |[]=>0
 |p::l=>Nat.lor p.mask (Jf l)
def PI.objs:PI→List Nat
 |.setO j _=>[j]|.mcall j _ _=>[j]|_=>[]
def fo (l:List Nat)(x:Nat):Bool:=l.any (Nat.beq x)
def jC (a b:List Nat):List Nat:=a.foldl (fun acc x=>bif fo acc x then acc else x::acc) b
def Z5 (l:List PI):List Nat:=l.foldl (fun acc p=>jC p.objs acc) []
theorem pX (l:List Nat)(x:Nat):fo l x=true↔x∈l:=by
 unfold fo;rw[mQ];constructor
 ·rintro⟨y,hy,h⟩;rw[az h];exact hy
 ·intro h;exact⟨x,h,gE x⟩
theorem pY {x:Nat}:∀{a b:List Nat},x∈jC a b↔x∈a∨x∈b
 |[],b=>by simp[jC]
 |y::a,b=>by
  have ih:=@pY x a (bif fo b y then b else y::b);have e:jC (y::a) b=jC a (bif fo b y then b else y::b):=rfl;rw[e,ih];cases hb:fo b y
  ·simp[or_assoc,or_left_comm]
  ·have:=(pX b y).1 hb;simp only[cond_true,cD];constructor
   ·rintro(h|h)
    ·exact .inl (.inr h)
    ·exact .inr h
   ·rintro((h|h)|h)
    ·subst h;exact .inr this
    ·exact .inl h
    ·exact .inr h
theorem anX {x:Nat}(l:List PI)(h:x∈l.flatMap PI.modO):x∈Z5 l:=by
 have key:∀(l:List PI) (acc:List Nat),(x∈l.flatMap PI.modO∨x∈acc)→x∈l.foldl (fun acc p=>jC p.objs acc) acc:=by
  intro l
  induction l with
  |nil=>intro acc h;simpa using h
  |cons p l ih=>
   intro acc h;refine ih _ ?_;rw[vT,dy] at h;rcases h with(h|h)|h
   ·refine .inr (pY.2 (.inl ?_));cases p<;>simp_all [PI.modO,PI.objs]
   ·exact .inl h
   ·exact .inr (pY.2 (.inr h))
 exact key l [] (.inl h)
theorem ZG {t:Nat}:∀(l:List PI),t∈l.flatMap PI.modR→aw (Jf l) t=true
 |[],h=>by simp at h
 |p::l,h=>by
  rw[vT,dy] at h;simp only[Jf,eY,gC];rcases h with h|h
  ·left;cases p<;>simp[PI.modR] at h<;>subst h<;>exact qE _
  ·exact .inr (ZG l h)
structure Res2 where
 pc:PC
 out:Option Snap
 ex:List (Nat×Snap)
 mr:Nat
 mo:List Nat
 deriving Inhabited
def mj:Option Snap→Option Snap→Option Snap
 |none,x=>x
 |x,none=>x
 |some a,some b=>some (a.meet b)
def ou (id:Nat):List (Nat×Snap)→Option Snap→Option Snap
 |[],acc=>acc
 |x::l,acc=>ou id l (bif Nat.beq x.1 id then mj acc (some x.2) else acc)
def iter (step:Snap→Option Res2):Nat→Snap→Option (Snap×Res2)
 |0,_=>none
 |k+1,S=>(step S).bind fun r=>
  match r.out with
  |none=>some (S,r)
  |some T=>bif (S.meet T).beq S then some (S,r) else iter step k (S.meet T)
def ku (S:Snap)(m:Nat):List Nat:=(List.range S.rs.length).filter fun t=>aw m t&& !isNone (cA (S.rs.getD t .none))
def ju (ids:List Nat)(S:Snap)(l:List Nat):List Nat:=l.filter fun j=> !oq (dw ids S.os j)
def gB:Res2:=⟨.is [FH],none,[],0,[]⟩
theorem mH (Φ:aQ)(N:Nat)(ρ:Env)(x:Out):gB.pc.ev Φ N ρ≠some x:=by
 intro h;simp[gB,PC.ev,PI.runs,PI.run,FH,PE.ev,D.b_bool] at h
theorem mI:(∀t,t∈gB.pc.modR→aw gB.mr t=true)∧∀j,j∈gB.pc.modO→j∈gB.mo:=by
 constructor<;>intro t h<;>simp[gB,PC.modR,PC.modO,PI.modR,PI.modO,FH] at h
def cv:Code→List Nat
 |.region _ ops _=>ops.toList.filterMap (·.dst)
 |.seq a b=>cv a++cv b
 |.cond _ a b=>cv a++cv b
 |.block _ a=>cv a
 |.loop a=>cv a
 |_=>[]
def xq (l:List Nat):Nat:=l.foldr (fun t m=>Nat.lor (dN t) m) 0
def tc (m:Nat):Nat→List Sh→List Sh
 |_,[]=>[]
 |t,s::l=>(bif aw m t then .none else s)::tc m (t+1) l
def Snap.mask (m:Nat)(S:Snap):Snap:=⟨tc m 0 S.rs,S.os⟩
def sO:Sh→Sh
 |.yv=>.none
 |s=>s
def rG:List Nat→List Ty→List Sh→List Sh
 |p::ps,y::ys,l=>rG ps ys (l.set p (.dat y))
 |_,_,l=>l
def Snap.start (ps:List Nat)(ys:List Ty)(S:Snap):Snap:=⟨rG ps ys (S.rs.map sO),S.os⟩
def Zz (ids:List Nat)(l:List Snap)(mo:List Nat):List Nat:=mo.filter fun j=>l.any fun S=> !oq (dw ids S.os j)
def aqM (wm:Nat)(ra rb:Res2):Res2:=
 let m:=Nat.lor wm (Nat.lor ra.mr rb.mr)
 ⟨.seq ra.pc rb.pc,rb.out.map (Snap.mask m),rb.ex.map (fun x=>(x.1,x.2.mask m)),m,jC ra.mo rb.mo⟩
def gm (ids:List Nat)(id:Nat)(r:Res2):Res2:=
    match ou id r.ex r.out with
    |some M=>⟨.block id (ku M r.mr) (ju ids M r.mo) r.pc,some M,r.ex.filter fun x=> !Nat.beq x.1 id,r.mr,r.mo⟩
    |none=>⟨.block id [] [] r.pc,none,r.ex.filter fun x=> !Nat.beq x.1 id,r.mr,r.mo⟩
def uV:List (Nat×Nat)→Nat→Option Nat
 |[],_=>none
 |x::l,t=>bif Nat.beq x.1 t then some x.2 else uV l t
def kX (pr:Nat):List Oper→List (Nat×Nat)→Option (List (Nat×Nat))
 |[],acc=>some acc
 |o::l,acc=>
  match o.dst,o.guard with
  |some d,none=>
   bif Nat.beq d pr||(uV acc d).isSome then none else
   match o.op with
   |.extract (.tmp t) i=>bif Nat.beq t pr&&Nat.ble i 1 then kX pr l (acc++[(d,i)]) else none
   |.assign (.tmp t)=>(uV acc t).bind fun i=>kX pr l (acc++[(d,i)])
   |.move (.tmp t)=>(uV acc t).bind fun i=>kX pr l (acc++[(d,i)])
   |_=>none
  |_,_=>none
structure MP where
 it:Nat
 nx:Nat
 mo:Nat
 out:Nat
 next:Nat
 pr:Nat
 ops1:Array Oper
 ops2:Array Oper
 aa:List (Nat×Nat)
 deriving Inhabited
def At (x y:Code)(k:Nat)(z:Code):Option MP:=
 match x,y,z with
 |.region _ ops1 false,.cond (.tmp mo) .skip (.exit out),.region _ ops2 false=>
  match ops1.toList,ops2.toList with
  |[o1,o2],o3::l=>
   match o1.dst,o1.guard,o1.op,o2.dst,o2.guard,o2.op,o3.dst,o3.guard,o3.op with
   |some nx,none,.next (.tmp it) false,some mo',none,.extract (.tmp Z0) 0,some pr,none,.entry (.tmp YK)=>
    bif Nat.beq mo mo'&&Nat.beq nx Z0&&Nat.beq it YK&& !Nat.beq it nx&& !Nat.beq it mo&& !Nat.beq it pr&& !Nat.beq nx mo&& !Nat.beq out cN&& !Nat.beq k cN then
     (kX pr l []).map fun aa=>⟨it,nx,mo,out,k,pr,ops1,ops2,aa⟩
    else none
   |_,_,_,_,_,_,_,_,_=>none
  |_,_=>none
 |_,_,_=>none
def xj:List Nat→Nat→List Ob→List Ob
 |i::is,J,o::os=>(bif Nat.beq i J then .dead else o)::xj is J os
 |_,_,os=>os
def Snap.kill (ids:List Nat)(J:Nat)(S:Snap):Snap:=⟨S.rs,xj ids J S.os⟩
def YH (J:Nat)(kt et:Ty)(ids:List Nat)(p:MP)(m:Nat)(S:Snap):Bool:=
 Sh.beq (S.rs.getD p.it .none) (.obj J 0)&&Ob.beq (dw ids S.os J) (.it kt et)&& !aw m p.it
def Au (ids:List Nat)(n:Nat)(p:MP)(ws:List Nat)(f:Snap→Option Res2)(S:Snap):Option Res2:=
 match cA (S.rs.getD p.it .none) with
 |.obj J 0=>
  match dw ids S.os J with
  |.it kt et=>
   let ps:=p.aa.map (·.1)
   let ys:=p.aa.map fun x=>bif Nat.beq x.2 0 then kt else et
   let m:=xq ws
   match iter (fun S=>(f ((S.mask m).start ps ys)).map (gm ids p.next)) 8 S with
   |some r=>
    bif r.2.ex.isEmpty&& !fo r.2.mo J&&YH J kt et ids p m r.1&&gx ps&&ps.all (fun t=>Nat.blt t n)&&Nat.blt p.nx n&&Nat.blt p.mo n&&Nat.blt p.pr n&&Nat.beq (Nat.lor m r.2.mr) m then
       some ⟨.seq (.meach J ps (p.aa.map (·.2)) (ju ids r.1 r.2.mo) r.2.pc) (.exit p.out),none,[(p.out,(r.1.mask m).kill ids J)],0,r.2.mo⟩
    else some gB
   |none=>some gB
  |_=>some gB
 |_=>some gB
def comp (C:Ctx)(fn:Func)(s:Sig)(n:Nat)(ids:List Nat)(R:Array Oper→Bool→Snap→Option (Snap×List PI)):Bool→Code→Snap→Option Res2
 |_,.skip,S=>some ⟨.skip,some S,[],0,[]⟩
 |_,.region _ ops draw,S=>(R ops draw S).map fun r=>⟨.is r.2,some r.1,[],Jf r.2,Z5 r.2⟩
 |rm,.seq a b,S=>(comp C fn s n ids R rm a S).bind fun r=>
  match r.out with
  |none=>some r
  |some S1=>(comp C fn s n ids R rm b S1).map fun q=>⟨.seq r.pc q.pc,q.out,r.ex++q.ex,Nat.lor r.mr q.mr,jC r.mo q.mo⟩
 |rm,.cond c a b,S=>
  match use C (S.st ids) [] c with
  |some (.bool,e)=>
   (comp C fn s n ids R rm a S).bind fun r=>(comp C fn s n ids R rm b S).map fun q=>
     match mj r.out q.out with
     |some M=>⟨.ite e (ku M (Nat.lor r.mr q.mr)) (ju ids M (jC r.mo q.mo)) r.pc q.pc,some M,r.ex++q.ex,Nat.lor r.mr q.mr,jC r.mo q.mo⟩
     |none=>⟨.ite e [] [] r.pc q.pc,none,r.ex++q.ex,Nat.lor r.mr q.mr,jC r.mo q.mo⟩
  |_=>some gB
 |rm,.block id a,S=>bif Nat.beq id cN then some gB else(comp C fn s n ids R rm a S).map (gm ids id)
 |rm,.loop (.seq x (.seq y (.block k (.seq z code)))),S=>
  (match At x y k z with
  |some p=>Au ids n p (cv x++(cv y++(cv z++cv code))) (fun S=>comp C fn s n ids R rm code S) S
  |none=>
  match iter (fun S=>comp C fn s n ids R rm (.seq x (.seq y (.block k (.seq z code)))) S) 8 S with
  |some r=>some ⟨.loop (ku r.1 r.2.mr) (ju ids r.1 r.2.mo) r.2.pc,none,r.2.ex,r.2.mr,r.2.mo⟩
  |none=>some gB)
 |rm,.loop a,S=>
  match iter (fun S=>comp C fn s n ids R rm a S) 8 S with
  |some r=>some ⟨.loop (ku r.1 r.2.mr) (ju ids r.1 r.2.mo) r.2.pc,none,r.2.ex,r.2.mr,r.2.mo⟩
  |none=>some gB
 |_,.exit id,S=>bif Nat.beq id cN then some gB else some ⟨.exit id,none,[(id,S)],0,[]⟩
 |rm,.ret,S=>
  bif rm then some ⟨.exit cN,none,[(cN,S)],0,[]⟩ else
  match xV C fn s (S.st ids) with
  |some e=>some ⟨.ret e,none,[],0,[]⟩
  |none=>some gB
 |rm,.rangeFunc g ps a b,S=>
  match rm,C.yl,use C (S.st ids) [] g with
  |false,none,some (.fn aa r,e)=>
   match mf aa r with
   |some ys=>
    match iter (fun S=>(comp C fn s n ids R true a (S.start ps.toList ys)).bind fun ra=>
          match ra.out,ra.ex with
          |some S1,[]=>(comp C fn s n ids R true b S1).map (aqM (xq (ps.toList++cv a++cv b)) ra)
          |_,_=>none) 8 S with
    |some r=>
     bif Nat.beq ys.length ps.size&&gx ps.toList&&ps.toList.all (fun p=>Nat.blt p n)&&Nat.ble r.1.rs.length n then
           some ⟨.seq (.is [.callc [] n e []]) (.each (.r n) ps.toList (Zz ids (r.1::r.2.ex.map (·.2)) r.2.mo) ((ou cN r.2.ex none).bind fun M=>xV C fn s (M.st ids)) r.2.pc),
            some r.1,r.2.ex.filter (fun x=> !Nat.beq x.1 cN),dN n,r.2.mo⟩
     else some gB
    |none=>some gB
   |none=>some gB
  |_,_,_=>some gB
 |_,_,_=>some gB
termination_by structural _ c=>c
def xo:Code→Option (MP×Code×List Nat)
 |.seq x (.seq y (.block k (.seq z code)))=>(At x y k z).map fun p=>(p,code,cv x++(cv y++(cv z++cv code)))
 |_=>none
theorem Wf (C:Ctx)(fn:Func)(s:Sig)(n:Nat)(ids:List Nat)(R:Array Oper→Bool→Snap→Option (Snap×List PI))(rm:Bool)(a:Code)(S:Snap):comp C fn s n ids R rm (.loop a) S=
 match xo a with
 |some q=>Au ids n q.1 q.2.2 (fun S=>comp C fn s n ids R rm q.2.1 S) S
 |none=>
  match iter (fun S=>comp C fn s n ids R rm a S) 8 S with
  |some r=>some ⟨.loop (ku r.1 r.2.mr) (ju ids r.1 r.2.mo) r.2.pc,none,r.2.ex,r.2.mr,r.2.mo⟩
  |none=>some gB:=by
 by_cases h:∃x y k z code,a=.seq x (.seq y (.block k (.seq z code)))
 ·obtain⟨x,y,k,z,code,rfl⟩:=h
  conv=>lhs;unfold comp
  simp only[xo];cases At x y k z<;>rfl
 ·have e:xo a=none:=by
   unfold xo;split
   ·rename_i x y k z code;exact absurd ⟨x,y,k,z,code,rfl⟩ h
   ·rfl
  rw[e];rw[comp];intro x y k z code e;exact h ⟨x,y,k,z,code,e⟩
def subs:Code→List Code
 |.seq a b=>.seq a b::(subs a++subs b)
 |.cond c a b=>.cond c a b::(subs a++subs b)
 |.block i a=>.block i a::subs a
 |.loop a=>.loop a::subs a
 |.rangeFunc g ps a b=>.rangeFunc g ps a b::(subs a++subs b)
 |c=>[c]
theorem arl (c:Code):c∈subs c:=by cases c<;>simp[subs]
theorem azM {a code:Code}{p:MP}{ws:List Nat}(h:xo a=some (p,code,ws)):code∈subs a:=by
 unfold xo at h;split at h
 ·simp only[aA] at h;obtain⟨q,_,e⟩:=h;cases e;simp[subs,arl]
 ·cases h
def LA (C:Ctx)(n:Nat)(ids:List Nat)(Φ:aQ)(R:Array Oper→Bool→Snap→Option (Snap×List PI)):Prop:=
 ∀(id:Nat) (ops:Array Oper) (draw:Bool) (S:Snap) (r:Snap×List PI),R ops draw S=some r→
  ∀(rd:Option Nat) (w0:World) (σ0:Base) (ρ ρ':Env) (a:Act) (w:World) (Q:Exit→Act→World→Prop),CtxOK C σ0→pf C Φ w0 σ0→a.tmps.size=n→Good C w0 σ0 (S.st ids) ρ (fun _=>False) a w→PI.runs Φ r.2 ρ=some ρ'→
   (∀a' w',SameBut (qH ops) a a'→Good C w0 σ0 (r.1.st ids) ρ' (fun _=>False) a' w'→Q .normal a' w')→(Code.region id ops draw).wpIn (FR rd) 0 C.P Q a w
section
variable {C:Ctx} {ρ ρ':Env} {σ:Im} {own:Nat→Option Nat} {hv:Nat→Value} {w0:World} {σ0:Base} {A:Nat→Prop} {a:Act} {w:World} {Φ:aQ} {n:Nat} {ids:List Nat} {fn:Func} {s:Sig}
 {R:Array Oper→Bool→Snap→Option (Snap×List PI)}
def gG (C:Ctx)(w0:World)(σ0:Base)(ids:List Nat)(fn:Func)(s:Sig)(rm:Bool)(wr:Nat→Prop)(a0:Act)(out:Option Snap)(ex:List (Nat×Snap))(x:Out):Exit→Act→World→Prop
 |.normal,a,w=>∃ρ S,x=.next ρ∧out=some S∧SameBut wr a0 a∧Good C w0 σ0 (S.st ids) ρ (fun _=>False) a w
 |.exit id,a,w=>∃ρ S,x=.exit id ρ∧id≠cN∧(id,S)∈ex∧SameBut wr a0 a∧Good C w0 σ0 (S.st ids) ρ (fun _=>False) a w
 |.ret,a,w=>match rm with
  |false=>∃d,x=.ret d∧qy C w0 σ0 fn s d a.tmps a.defers w∧SameBut wr a0 a
  |true=>∃ρ S,x=.exit cN ρ∧(cN,S)∈ex∧SameBut wr a0 a∧Good C w0 σ0 (S.st ids) ρ (fun _=>False) a w
 |_,_,_=>False
theorem Good.meet1 {x y:Snap}(h:Good C w0 σ0 (x.st ids) ρ A a w):Good C w0 σ0 ((x.meet y).st ids) ρ (fun _=>False) a w:=by
 obtain⟨σ,own,hv,h⟩:=h;exact⟨σ,own,hv,Snap.meet_ok1 h⟩
theorem Good.meet2 {x y:Snap}(h:Good C w0 σ0 (y.st ids) ρ A a w):Good C w0 σ0 ((x.meet y).st ids) ρ (fun _=>False) a w:=by
 obtain⟨σ,own,hv,h⟩:=h;exact⟨σ,own,hv,Snap.meet_ok2 h⟩
theorem ZN {x:Snap}{y:Option Snap}{M:Snap}(h:Good C w0 σ0 (x.st ids) ρ (fun _=>False) a w)(hm:mj (some x) y=some M):Good C w0 σ0 (M.st ids) ρ (fun _=>False) a w:=by
 cases y<;>simp[mj] at hm<;>subst hm
 ·exact h
 ·exact h.meet1
theorem ZO {x:Option Snap}{y:Snap}{M:Snap}(h:Good C w0 σ0 (y.st ids) ρ (fun _=>False) a w)(hm:mj x (some y)=some M):Good C w0 σ0 (M.st ids) ρ (fun _=>False) a w:=by
 cases x<;>simp[mj] at hm<;>subst hm
 ·exact h
 ·exact h.meet2
theorem ZP {x:Snap}{y:Option Snap}:∃M,mj (some x) y=some M:=by cases y<;>simp[mj]
theorem ZQ {x:Option Snap}{y:Snap}:∃M,mj x (some y)=some M:=by cases x<;>simp[mj]
theorem Jg {id:Nat}:∀(l:List (Nat×Snap)) {x:Snap},Good C w0 σ0 (x.st ids) ρ (fun _=>False) a w→∃M,ou id l (some x)=some M∧Good C w0 σ0 (M.st ids) ρ (fun _=>False) a w
 |[],x,h=>⟨x,rfl,h⟩
 |y::l,x,h=>by
  simp only[ou];cases Nat.beq y.1 id
  ·exact Jg l h
  ·obtain⟨M,hM⟩:=@ZP x (some y.2);simp only[cond_true,hM];exact Jg l (ZN h hM)
theorem Pt {id:Nat}{S:Snap}(h:Good C w0 σ0 (S.st ids) ρ (fun _=>False) a w):∀(l:List (Nat×Snap)) (x:Option Snap),(id,S)∈l→∃M,ou id l x=some M∧Good C w0 σ0 (M.st ids) ρ (fun _=>False) a w
 |y::l,x,hm=>by
  simp only[ou];rcases cD.1 hm with e|hm
  ·subst e;simp only[gE,cond_true];obtain⟨M,hM⟩:=@ZQ x S;rw[hM];exact Jg l (ZO h hM)
  ·exact Pt h l _ hm
theorem DZ {step:Snap→Option Res2}:∀(k:Nat) {S:Snap} {r:Snap×Res2},iter step k S=some r→
 step r.1=some r.2∧(∀T,r.2.out=some T→r.1.meet T=r.1)∧∀{ρ:Env} {a:Act} {w:World},Good C w0 σ0 (S.st ids) ρ (fun _=>False) a w→Good C w0 σ0 (r.1.st ids) ρ (fun _=>False) a w
 |0,S,r,h=>by simp[iter] at h
 |k+1,S,r,h=>by
  simp only[iter,av] at h;obtain⟨q,hq,h⟩:=h;split at h
  ·rename_i ho;cases h;exact⟨hq,fun T hT=>by simp[ho] at hT,fun g=>g⟩
  ·rename_i T ho;cases hb:(S.meet T).beq S<;>simp only[hb,cond_true,cond_false] at h
   ·obtain⟨h1,h2,h3⟩:=DZ k h;exact⟨h1,h2,fun g=>h3 g.meet1⟩
   ·cases h;refine⟨hq,fun T' hT=>?_,fun g=>g⟩;simp only[ho,aU] at hT;subst hT;exact Snap.beq_eq _ _ hb
theorem YL {step:Snap→Option Res2}{hv:Nat→Value}:∀(k:Nat) {S:Snap} {r:Snap×Res2},iter step k S=some r→Inv C (S.st ids) ρ σ own hv w0 σ0 (fun _=>False) a w→Inv C (r.1.st ids) ρ σ own hv w0 σ0 (fun _=>False) a w
 |0,S,r,h,_=>by simp[iter] at h
 |k+1,S,r,h,i=>by
  simp only[iter,av] at h;obtain⟨q,hq,h⟩:=h;split at h
  ·cases h;exact i
  ·rename_i T ho;cases hb:(S.meet T).beq S<;>simp only[hb,cond_true,cond_false] at h
   ·exact YL k h (Snap.meet_ok1 i)
   ·cases h;exact i
theorem Good.joined {M:Snap}{m:Nat}{mo mr' mo':List Nat}(h:Good C w0 σ0 (M.st ids) ρ' (fun _=>False) a w)(hb:ρ.but ρ' mr' mo')(h1:∀t,t∈mr'→aw m t=true)(h2:∀j,j∈mo'→j∈mo):
 Good C w0 σ0 (M.st ids) (ρ.join (ku M m) (ju ids M mo) ρ') (fun _=>False) a w:=by
 obtain⟨σ,own,hv,h⟩:=h;refine⟨σ,own,hv,h.env (Snap.noOpt _ _) (fun t ht=>?_) (fun j hj=>?_)⟩
 ·simp only[Env.join,Env.put,tl];split
  ·rfl
  ·rename_i hm;refine(hb.r t fun Dw=>hm ?_).symm;have ah:t<M.rs.length:=by
        refine Vw fun hle=>?_;simp only[Snap.st,aJ,rS hle,Option.getD_none,cA,isNone] at ht;cases ht
   exact cY.2 ⟨bP.2 ah,by rw[h1 t Dw];simpa [Snap.st] using ht⟩
 ·simp only[Env.join,Env.put,tl];split
  ·rfl
  ·rename_i hm;refine(hb.o j fun Dw=>hm ?_).symm;exact cY.2 ⟨h2 j Dw,by simpa [Snap.st] using hj⟩
theorem Jh {S:Snap}{m t:Nat}(h:t∈ku S m):aw m t=true:=by
 have:=(cY.1 h).2;simp only[ao] at this;exact this.1
theorem Av {S:Snap}{l:List Nat}{j:Nat}(h:j∈ju ids S l):j∈l:=(cY.1 h).1
theorem VS {id:Nat}{q:Res2}(h:(∀t,t∈q.pc.modR→aw q.mr t=true)∧∀j,j∈q.pc.modO→j∈q.mo):(∀t,t∈(gm ids id q).pc.modR→aw (gm ids id q).mr t=true)∧∀j,j∈(gm ids id q).pc.modO→j∈(gm ids id q).mo:=by
 unfold gm;cases hm:ou id q.ex q.out<;>simp only
 ·simpa [PC.modR,PC.modO] using h
 ·refine⟨fun t ht=>?_,fun j hj=>?_⟩
  ·simp only[PC.modR,dy] at ht;exact ht.elim Jh (h.1 t)
  ·simp only[PC.modO,dy] at hj;exact hj.elim Av (h.2 j)
theorem anQ {p:MP}{ws:List Nat}{f:Snap→Option Res2}{S:Snap}{r:Res2}(h:Au ids n p ws f S=some r):(∀t,t∈r.pc.modR→aw r.mr t=true)∧∀j,j∈r.pc.modO→j∈r.mo:=by
 unfold Au at h;split at h
 case h_2=>cases h;exact mI
 split at h
 case h_2=>cases h;exact mI
 simp only at h;split at h
 case h_2=>cases h;exact mI
 rw[oV] at h;split at h
 ·cases h;refine⟨fun t ht=>by simp[PC.modR] at ht,fun j hj=>?_⟩;simp only[PC.modO,lf] at hj;exact Av hj
 ·cases h;exact mI
theorem tZ:∀(c:Code) {rm:Bool} {S:Snap} {r:Res2},comp C fn s n ids R rm c S=some r→(∀t,t∈r.pc.modR→aw r.mr t=true)∧∀j,j∈r.pc.modO→j∈r.mo:=by
 intro c
 induction c with
 |skip=>intro rm S r h;simp only[comp,aU] at h;subst h;simp[PC.modR,PC.modO]
 |region id ops draw=>
  intro rm S r h;simp only[comp,aA] at h;obtain⟨q,_,rfl⟩:=h;exact⟨fun t ht=>ZG _ ht,fun j hj=>anX _ hj⟩
 |seq x y jr xh=>
  intro rm S r h;simp only[comp,av] at h;obtain⟨q,hq,h⟩:=h;split at h
  ·cases h;exact jr hq
  ·simp only[aA] at h;obtain⟨p,hp,rfl⟩:=h;refine⟨fun t ht=>?_,fun j hj=>?_⟩
   ·simp only[PC.modR,dy] at ht;rw[eY,gC];exact ht.imp ((jr hq).1 t) ((xh hp).1 t)
   ·simp only[PC.modO,dy] at hj;rw[pY];exact hj.imp ((jr hq).2 j) ((xh hp).2 j)
 |cond c x y jr xh=>
  intro rm S r h;simp only[comp] at h;split at h
  case h_2=>cases h;exact mI
  rename_i e _;simp only[av,aA] at h;obtain⟨q,hq,p,hp,rfl⟩:=h;cases hm:mj q.out p.out<;>simp only[hm]
  ·refine⟨fun t ht=>?_,fun j hj=>?_⟩
   ·simp only[PC.modR,dy,tR] at ht;rw[eY,gC];exact ht.imp ((jr hq).1 t) ((xh hp).1 t)
   ·simp only[PC.modO,dy,tR] at hj;rw[pY];exact hj.imp ((jr hq).2 j) ((xh hp).2 j)
  ·refine⟨fun t ht=>?_,fun j hj=>?_⟩
   ·simp only[PC.modR,dy] at ht;rw[eY,gC];rcases ht with(ht|ht)|ht
    ·have:=Jh ht;rw[eY,gC] at this;exact this
    ·exact .inl ((jr hq).1 t ht)
    ·exact .inr ((xh hp).1 t ht)
   ·simp only[PC.modO,dy] at hj;rcases hj with(hj|hj)|hj
    ·exact Av hj
    ·exact pY.2 (.inl ((jr hq).2 j hj))
    ·exact pY.2 (.inr ((xh hp).2 j hj))
 |block id x jr=>
  intro rm S r h;simp only[comp] at h;cases cG:Nat.beq id cN<;>simp only[cG,cond_true,cond_false] at h
  case true=>cases h;exact mI
  simp only[aA] at h;obtain⟨q,hq,rfl⟩:=h;exact VS (jr hq)
 |loop x jr=>
  intro rm S r h;rw[Wf] at h;split at h
  ·exact anQ h
  split at h
  case h_2=>cases h;exact mI
  rename_i q hq;cases h;have hs:=(DZ (C:=C) (w0:=default) (σ0:=Base.mk0 ⟨fun _ _=>none,fun _=>none⟩ 0) (ids:=ids) 8 hq).1;refine⟨fun t ht=>?_,fun j hj=>?_⟩
  ·simp only[PC.modR,dy] at ht;exact ht.elim Jh ((jr hs).1 t)
  ·simp only[PC.modO,dy] at hj;exact hj.elim Av ((jr hs).2 j)
 |exit id=>
  intro rm S r h;simp only[comp] at h;cases cG:Nat.beq id cN<;>simp only[cG,cond_true,cond_false] at h<;>cases h
  ·simp[PC.modR,PC.modO]
  ·exact mI
 |ret=>
  intro rm S r h;simp only[comp] at h;cases rm<;>simp only[cond_true,cond_false] at h
  case true=>cases h;simp[PC.modR,PC.modO]
  split at h
  ·cases h;simp[PC.modR,PC.modO]
  ·cases h;exact mI
 |rangeFunc g ps x y _ _=>
  intro rm S r h;simp only[comp] at h;split at h
  case h_2=>cases h;exact mI
  split at h
  case h_2=>cases h;exact mI
  split at h
  case h_2=>cases h;exact mI
  rename_i q hq;rw[oV] at h;split at h
  ·cases h;refine⟨fun t ht=>?_,fun j hj=>?_⟩
   ·simp[PC.modR,PI.modR] at ht;subst ht;exact qE _
   ·simp only[PC.modO,PI.modO,vT,Vo,lf,tR] at hj;exact(cY.1 hj).1
  ·cases h;exact mI
 |_=>intro rm S r h;simp only[comp,aU] at h;subst h;exact mI
theorem gG.mono {rm:Bool}{wr:Nat→Prop}{a0 a1:Act}{out abz:Option Snap}{ex WD:List (Nat×Snap)}{x:Out}{e:Exit}(h:gG C w0 σ0 ids fn s rm wr a0 out ex x e a w)(he:∀y,y∈ex→y∈WD)(hs:SameBut wr a1 a0)
 (ho:e=.normal→abz=out):gG C w0 σ0 ids fn s rm wr a1 abz WD x e a w:=by
 cases e with
 |normal=>obtain⟨ρ,S,h1,h2,h3,h4⟩:=h;exact⟨ρ,S,h1,by rw[ho rfl];exact h2,hs.trans h3,h4⟩
 |exit id=>obtain⟨ρ,S,h1,h2,h3,h4,h5⟩:=h;exact⟨ρ,S,h1,h2,he _ h3,hs.trans h4,h5⟩
 |ret=>
  cases rm with
  |false=>obtain⟨d,h1,h2,h3⟩:=h;exact⟨d,h1,h2,hs.trans h3⟩
  |true=>obtain⟨ρ,S,h1,h3,h4,h5⟩:=h;exact⟨ρ,S,h1,he _ h3,hs.trans h4,h5⟩
 |_=>exact h.elim
theorem Ws {body:Env→Option Out}{ρ:Env}{ps lo:List Nat}{rt:Option PE}{x:Out}:∀{xs vo:List D},gn body ρ ps lo rt xs vo=some x→
 ∃(m:Nat) (mN:Nat→List D),m≤xs.length∧mN 0=vo∧
  (∀i,i<m→∃y ρ',xs[i]?=some y∧body (ρ.put ps (partsOf ps y) lo (mN i))=some (.next ρ')∧lo.map ρ'.o=mN (i+1))∧
  ((m=xs.length∧x=.next (ρ.put [] [] lo (mN m)))∨
   (m<xs.length∧∃y id ρ',xs[m]?=some y∧body (ρ.put ps (partsOf ps y) lo (mN m))=some (.exit id ρ')∧
    ((id≠cN∧x=.exit id (ρ.put [] [] lo (lo.map ρ'.o)))∨(id=cN∧∃e,rt=some e∧x=.ret (e.ev (ρ.put [] [] lo (lo.map ρ'.o)))))))
 |[],vo,h=>by
  simp only[gn,aU] at h;exact⟨0,fun _=>vo,bk _,rfl,fun i hi=>by omega,.inl ⟨rfl,h.symm⟩⟩
 |y::xs,vo,h=>by
  simp only[gn] at h;split at h
  ·rename_i ρ' hb;obtain⟨m,mN,h1,h2,h3,h4⟩:=Ws h;refine⟨m+1,fun i=>match i with|0=>vo|i+1=>mN i,by simp;omega,rfl,fun i hi=>?_,?_⟩
   ·cases i with
    |zero=>exact⟨y,ρ',rfl,hb,h2.symm⟩
    |succ i=>simpa using h3 i (by omega)
   ·rcases h4 with⟨e1,e2⟩|⟨e1,z,id,ρ2,e2,e3,e4⟩
    ·exact .inl ⟨by simp[e1],e2⟩
    ·exact .inr ⟨by simp;omega,z,id,ρ2,by simpa using e2,e3,e4⟩
  ·rename_i id ρ' hb;refine⟨0,fun _=>vo,nK _,rfl,fun i hi=>by omega,.inr ⟨by simp,y,id,ρ',rfl,hb,?_⟩⟩;cases cG:Nat.beq id cN<;>simp only[cG,cond_true,cond_false] at h
   ·refine .inl ⟨fun e=>?_,(BQ h).symm⟩;subst e;simp at cG
   ·simp only[aA] at h;obtain⟨e,he,e2⟩:=h;exact .inr ⟨az cG,e,he,e2.symm⟩
  ·cases h
theorem VQ {l:List Nat}{t:Nat}(h:t∈l):aw (xq l) t=true:=by
 induction l with
 |nil=>cases h
 |cons x l ih=>
  have e:xq (x::l)=Nat.lor (dN x) (xq l):=rfl;rw[e,eY];rcases cD.1 h with e|e
  ·subst e;rw[qE];rfl
  ·rw[ih e];simp
theorem Pq (m:Nat):∀(l:List Sh) (k t:Nat),(tc m k l).getD t .none=if aw m (k+t)=true then .none else l.getD t .none
 |[],k,t=>by simp[tc]
 |s::l,k,0=>by
  simp only[tc,tN,iw];cases aw m k<;>rfl
 |s::l,k,t+1=>by
  simp only[tc,BL];rw[Pq m l (k+1) t,show k+1+t=k+(t+1) by omega]
theorem D6 (m:Nat)(S:Snap)(t:Nat):((S.mask m).st ids).r t=if aw m t=true then .none else(S.st ids).r t:=by
 show cA ((tc m 0 S.rs).getD t .none)=if aw m t=true then .none else cA (S.rs.getD t .none);rw[Pq,gF];split<;>rfl
theorem anV {m:Nat}{x S:Snap}{t:Nat}(h:aw m t=true):((x.meet (S.mask m)).st ids).r t=.none:=by
 show cA ((List.zipWith jv x.rs (tc m 0 S.rs)).getD t .none)=.none;rcases Lf (f:=jv) x.rs (tc m 0 S.rs) t with h0|⟨s,u,h1,h2,h3⟩
 ·rw[h0];rfl
 ·rw[Pq,gF,if_pos h] at h2;subst h2;rw[h3];cases s<;>rfl
theorem Inv.maskR {S:Snap}{hv:Nat→Value}(h:Inv C (S.st ids) ρ σ own hv w0 σ0 A a w)(m:Nat):Inv C ((S.mask m).st ids) ρ σ own hv w0 σ0 (fun _=>False) a w:=by
 have hc:Compat (S.st ids) hv ((S.mask m).st ids) hv:=⟨fun _=>bk _,fun _ _=>rfl⟩
 refine h.weaken (fun t=>?_) (fun j=>?_) (Snap.noOpt _ _) (fun j hj=>⟨hj,rfl⟩)
 ·refine aH.mono' (ρ:=ρ) (.refl σ) hc (Snap.noOpt _ _ t) ?_;rw[D6];split
  ·trivial
  ·exact h.regs t
 ·exact(h.objs j).mono (.refl σ) hc rfl rfl (fun k hk=>⟨hk,rfl⟩)
theorem R8:∀(ps:List Nat) (ys:List Ty) (l:List Sh),ps.length=ys.length→gx ps=true→∀t,(rG ps ys l).getD t .none=.none∨(t∉ps∧(rG ps ys l).getD t .none=l.getD t .none)∨∃(i:Nat) (y:Ty),ps[i]?=some t∧ys[i]?=some y∧(rG ps ys l).getD t .none=.dat y
 |[],ys,l,_,_,t=>.inr (.inl ⟨by simp,by cases ys<;>rfl⟩)
 |p::ps,[],l,h,_,t=>by simp at h
 |p::ps,y::ys,l,h,hn,t=>by
  have jR:=ml hn;rw[mS] at jR;have dA:gx ps=true:=by
   simp only[gx,ao] at hn;exact hn.2
  show(rG ps ys (l.set p (.dat y))).getD t .none=_∨_∨_;rcases R8 ps ys (l.set p (.dat y)) (by simpa using h) dA t with e|⟨e1,e2⟩|⟨i,z,e1,e2,e3⟩
  ·exact .inl e
  ·by_cases hp:t=p
   ·subst hp;by_cases ah:t<l.length
    ·exact .inr (.inr ⟨0,y,rfl,rfl,by show(rG ps ys (l.set t (.dat y))).getD t .none=_;rw[e2];simp[aJ,ah]⟩)
    ·left;rw[e2];simp[aJ,ah]
   ·refine .inr (.inl ⟨by simp[hp,e1],?_⟩);show(rG ps ys (l.set p (.dat y))).getD t .none=_;rw[e2];simp only[aJ,BM];rw[if_neg (fun e=>hp e.symm)]
  ·exact .inr (.inr ⟨i+1,z,by simpa using e1,by simpa using e2,e3⟩)
def mG:List Nat→List Value→Array Value→Array Value
 |p::ps,v::vs,T=>mG ps vs (T.setIfInBounds p v)
 |_,_,T=>T
theorem aq2 (ps:Array Nat)(vs:Array Value)(T:Array Value):(ps.zip vs).foldl (fun T x=>T.setIfInBounds x.1 x.2) T=mG ps.toList vs.toList T:=by
 rw[←Array.foldl_toList,Array.toList_zip];generalize ps.toList=l;generalize vs.toList=k
 induction l generalizing k T with
 |nil=>rfl
 |cons p l ih=>
  cases k with
  |nil=>rfl
  |cons v k=>simpa [mG] using ih (T.setIfInBounds p v) k
theorem ads:∀(ps:List Nat) (vs:List Value) (T:Array Value),(mG ps vs T).size=T.size
 |[],vs,T=>by cases vs<;>rfl
 |p::ps,[],T=>rfl
 |p::ps,v::vs,T=>by simp[mG,ads ps vs]
theorem KS:∀(ps:List Nat) (vs:List Value) (T:Array Value) (t:Nat),t∉ps→(mG ps vs T).getD t undef=T.getD t undef
 |[],vs,T,t,_=>by cases vs<;>rfl
 |p::ps,[],T,t,_=>rfl
 |p::ps,v::vs,T,t,h=>by
  simp only[cD,not_or] at h;simp only[mG];rw[KS ps vs _ t h.2];simp only[dU,vL];rw[if_neg (fun e=>h.1 e.symm)]
theorem adr:∀(ps:List Nat) (vs:List Value) (T:Array Value) (i t:Nat),ps.Nodup→ps.length=vs.length→(∀p,p∈ps→p<T.size)→ps[i]?=some t→(mG ps vs T).getD t undef=vs.getD i undef
 |p::ps,v::vs,T,0,t,hn,hl,ah,h=>by
  simp at h;subst h;rw[mS] at hn;simp only[mG];rw[KS ps vs _ p hn.1];simp[vL,ah p (dq ..)]
 |p::ps,v::vs,T,i+1,t,hn,hl,ah,h=>by
  rw[mS] at hn;simp only[mG];have:=adr ps vs (T.setIfInBounds p v) i t hn.2 (by simpa using hl) (fun q hq=>by simpa using ah q (dj _ hq)) (by simpa using h);simpa using this
 |p::ps,[],T,i,t,hn,hl,ah,h=>by simp at hl
 |[],vs,T,i,t,hn,hl,ah,h=>by simp at h
theorem AU (f:Nat→D):∀(ps:List Nat) (vs:List D) (t:Nat),t∉ps→putL f ps vs t=f t
 |[],vs,t,_=>by cases vs<;>rfl
 |p::ps,[],t,_=>rfl
 |p::ps,v::vs,t,h=>by
  simp only[cD,not_or] at h;simp only[putL,bq _ _ h.1];exact AU f ps vs t h.2
theorem Qx (f:Nat→D):∀(ps:List Nat) (vs:List D) (i t:Nat),ps.Nodup→ps.length=vs.length→ps[i]?=some t→putL f ps vs t=vs.getD i .none
 |p::ps,v::vs,0,t,hn,hl,h=>by
  simp at h;subst h;simp[putL,aL]
 |p::ps,v::vs,i+1,t,hn,hl,h=>by
  rw[mS] at hn;have ht:t∈ps:=lV (by simpa using h);have ay:t≠p:=fun e=>hn.1 (e▸ht);simp only[putL,bq _ _ ay];have:=Qx f ps vs i t hn.2 (by simpa using hl) (by simpa using h);simpa using this
 |p::ps,[],i,t,hn,hl,h=>by simp at hl
 |[],vs,i,t,hn,hl,h=>by simp at h
theorem api (ps:List Nat)(ds:List D)(i:Nat)(h:i<ps.length):(partsOf ps (.tup ds)).getD i .none=ds.getD i .none:=by
 simp[partsOf,aJ,h,D.tget]
theorem aph (ps:List Nat)(x:D):(partsOf ps x).length=ps.length:=by simp[partsOf]
theorem Inv.startR {S:Snap}{hv:Nat→Value}(h:Inv C (S.st ids) ρ σ own hv w0 σ0 A a w){ps:List Nat}{ys:List Ty}{args:List Value}{ds:List D}{lo:List Nat}{vo:List D}(hl:ps.length=ys.length)(bp:gx ps=true)(ah:∀p,p∈ps→p<a.tmps.size)(ha:oU C σ ys args ds)
 (hρ:ρ=ρ'.put [] [] lo vo):Inv C ((S.start ps ys).st ids) (ρ'.put ps (partsOf ps (.tup ds)) lo vo) σ own hv w0 σ0 (fun _=>False) {tmps:=mG ps args a.tmps,defers:=[]} w:=by
 obtain⟨a1,a2,a3⟩:=ha;have hn:=ml bp;have hc:Compat (S.st ids) hv ((S.start ps ys).st ids) hv:=⟨fun _=>bk _,fun _ _=>rfl⟩
 have ho:∀j,(ρ'.put ps (partsOf ps (.tup ds)) lo vo).o j=ρ.o j:=fun j=>by rw[hρ];rfl
 refine⟨trivial,h.ok,h.le,h.old,h.newc,h.newm,h.below,h.bw,h.owns,fun t=>?_,fun j=>(h.objs j).mono (.refl σ) hc rfl (ho j) (fun k hk=>⟨hk,rfl⟩),fun t gs s e=>absurd e (Snap.noOpt _ _ t gs s),?_⟩
 ·show aH C _ _ σ hv (cA ((rG ps ys (S.rs.map sO)).getD t .none)) ((mG ps args a.tmps).getD t undef) (putL ρ'.r ps (partsOf ps (.tup ds)) t);rcases R8 ps ys (S.rs.map sO) hl bp t with e|⟨e1,e2⟩|⟨i,y,e1,e2,e3⟩
  ·rw[e];trivial
  ·rw[e2,KS _ _ _ _ e1,AU _ _ _ _ e1];have hr:=h.regs t;change aH C _ ρ σ hv (cA (S.rs.getD t .none)) _ _ at hr;have hρr:ρ.r t=ρ'.r t:=by rw[hρ];show putL ρ'.r [] [] t=_;rfl
   rw[hρr] at hr;have e3:(S.rs.map sO).getD t .none=sO (S.rs.getD t .none):=by
        simp only[aJ,cC];cases S.rs[t]?<;>rfl
   rw[e3];generalize S.rs.getD t .none=s at hr;cases s with
   |yv=>trivial
   |opt gs s=>trivial
   |none=>trivial
   |fclo f c=>exact aH.mono' (.refl σ) hc (fun _ _ e=>by cases e) hr
   |agg l=>exact aH.mono' (.refl σ) hc (fun _ _ e=>by cases e) hr
   |dat t=>exact hr
   |obj j v=>exact aH.mono' (.refl σ) hc (fun _ _ e=>by cases e) hr
   |ptr j v o=>exact aH.mono' (.refl σ) hc (fun _ _ e=>by cases e) hr
   |eptr j v o q=>exact aH.mono' (.refl σ) hc (fun _ _ e=>by cases e) hr
  ·rw[e3];have hi:i<ps.length:=(eC.1 e1).1;rw[adr ps args a.tmps i t hn (by omega) ah e1,Qx _ ps _ i t hn (by rw[aph]) e1,api _ _ _ hi];exact a3 i y e2
 ·obtain⟨t,fx,cx,h1,h2⟩:=h.frame;exact⟨t,fx,cx,h1,fun j hj=>⟨(h2 j hj).1,by rw[ho j];exact(h2 j hj).2⟩⟩
def vX (C:Ctx)(Φ:aQ)(fn:Func)(s:Sig)(n:Nat)(ids:List Nat)(R:Array Oper→Bool→Snap→Option (Snap×List PI))(N:Nat)(c:Code):Prop:=
 ∀(rm:Bool) (S:Snap) (r:Res2),comp C fn s n ids R rm c S=some r→∀(rd:Option Nat) (w0:World) (σ0:Base) (wr:Nat→Prop) (ρ:Env) (x:Out) (a:Act) (w:World),(rm=false→rd=none∧σ0.fin)→CtxOK C σ0→pf C Φ w0 σ0→(∀t,t∈cv c→wr t)→a.tmps.size=n→
  Good C w0 σ0 (S.st ids) ρ (fun _=>False) a w→r.pc.ev Φ N ρ=some x→c.wpIn (FR rd) 0 C.P (gG C w0 σ0 ids fn s rm wr a r.out r.ex x) a w
structure Seg (σ:Im) (own:Nat→Option Nat) (w:World) (σ':Im) (own':Nat→Option Nat) (w':World):Prop where
 le:σ.le σ'
 below:Below 0 w w'
 same:∀k,k<w.heap.size→own k=none→w'.heap[k]?=w.heap[k]?
 ow:∀k j,own' k=some j→(∃i,own k=some i)∨w.heap.size≤k
 imm:∀k,((∃o x,σ'.c k o=some x)∨∃x,σ'.m k=some x)→(∃o x,σ.c k o=some x)∨(∃x,σ.m k=some x)∨(∃i,own k=some i)∨w.heap.size≤k
structure Free (L:Nat) (σ:Im) (own:Nat→Option Nat):Prop where
 own:own L=none
 c:∀o,σ.c L o=none
 m:σ.m L=none
theorem Free.seg {L:Nat}{σ':Im}{own':Nat→Option Nat}{w':World}(h:Free L σ own)(hL:L<w.heap.size)(k:Seg σ own w σ' own' w'):Free L σ' own':=by
 have Dk:¬((∃o x,σ'.c L o=some x)∨∃x,σ'.m L=some x):=fun e=>by
  rcases k.imm L e with⟨o,x,e⟩|⟨x,e⟩|⟨i,e⟩|e
  ·rw[h.c o] at e;cases e
  ·rw[h.m] at e;cases e
  ·rw[h.own] at e;cases e
  ·omega
 refine⟨?_,fun o=>?_,?_⟩
 ·cases e:own' L with
  |none=>rfl
  |some j=>
   rcases k.ow L j e with⟨i,e⟩|e
   ·rw[h.own] at e;cases e
   ·omega
 ·cases e:σ'.c L o with
  |none=>rfl
  |some x=>exact absurd (.inl ⟨o,x,e⟩) Dk
 ·cases e:σ'.m L with
  |none=>rfl
  |some x=>exact absurd (.inr ⟨x,e⟩) Dk
def aeo (C:Ctx)(w0:World)(σ0:Base)(ids:List Nat)(wr:Nat→Prop)(a0:Act)(σ:Im)(own:Nat→Option Nat)(w:World)(out:Option Snap)(ex:List (Nat×Snap))(x:Out)(e:Exit)(a':Act)(w':World):Prop:=
 ∃ρ' S' σ' own' hv',Inv C (S'.st ids) ρ' σ' own' hv' w0 σ0 (fun _=>False) a' w'∧Seg σ own w σ' own' w'∧SameBut wr a0 a'∧
  match e with
  |.normal=>x=.next ρ'∧out=some S'
  |.exit id=>x=.exit id ρ'∧id≠cN∧(id,S')∈ex
  |.ret=>x=.exit cN ρ'∧(cN,S')∈ex
  |_=>False
theorem adm {N:Nat}{c:Code}(hc:vX C Φ fn s n ids R N c){S:Snap}{r:Res2}(hr:comp C fn s n ids R true c S=some r)(kq:C.yl=none)(hC:CtxOK C σ0){wr:Nat→Prop}{ρ:Env}{x:Out}{hv:Nat→Value}(h:Inv C (S.st ids) ρ σ own hv w0 σ0 (fun _=>False) a w)
 (ic:∀t,t∈cv c→wr t) (hn:a.tmps.size=n) (he:r.pc.ev Φ N ρ=some x) (L:Nat):c.wpIn (FR (some L)) 0 C.P (aeo C w0 σ0 ids wr a σ own w r.out r.ex x) a w:=by
 obtain⟨t,fx,cx,dg,ht⟩:=h.frame;have h1:=h.toRnd (X:=fun _=>False) ht;refine wpIn_mono (hc true S r hr (some L) w0 (σ0.rnd σ own w t fun _=>False) wr ρ x a w (fun e=>by cases e) (hC.mono h.le) (fun J ys e=>by rw[kq] at e;cases e) ic hn ⟨_,_,_,h1⟩ he) fun e a' w' ho=>?_
 have main:∀{S':Snap} {ρ':Env},SameBut wr a a'→Good C w0 (σ0.rnd σ own w t fun _=>False) (S'.st ids) ρ' (fun _=>False) a' w'→∃σ' own' hv',Inv C (S'.st ids) ρ' σ' own' hv' w0 σ0 (fun _=>False) a' w'∧Seg σ own w σ' own' w'∧SameBut wr a a':=by
  intro S' ρ' hs hg;obtain⟨σ',own',hv',h2⟩:=hg;exact⟨σ',own',hv',h.ofRnd dg (fun _ _=>id) h2,⟨h2.le,h.rndBelow h2,fun k hk ho=>Inv.rndSame h.ok h2 hk ho id,fun k j e=>Inv.rndOwn h2 e id,fun k e=>Inv.rndC h2 e id⟩,hs⟩
 cases e with
 |normal=>
  obtain⟨ρ',S',e1,e2,e3,e4⟩:=ho;obtain⟨σ',own',hv',g1,g2,g3⟩:=main e3 e4;exact⟨ρ',S',σ',own',hv',g1,g2,g3,e1,e2⟩
 |exit id=>
  obtain⟨ρ',S',e1,e0,e2,e3,e4⟩:=ho;obtain⟨σ',own',hv',g1,g2,g3⟩:=main e3 e4;exact⟨ρ',S',σ',own',hv',g1,g2,g3,e1,e0,e2⟩
 |ret=>
  obtain⟨ρ',S',e1,e2,e3,e4⟩:=ho;obtain⟨σ',own',hv',g1,g2,g3⟩:=main e3 e4;exact⟨ρ',S',σ',own',hv',g1,g2,g3,e1,e2⟩
 |_=>exact ho.elim
theorem Inv.putL {L:Nat}{hv:Nat→Value}{S:St}{ρ:Env}(h:Inv C S ρ σ own hv w0 σ0 A a w)(hL:w0.heap.size≤L)(hf:Free L σ own)(hx:∀t fx cx,FrOK σ own w0.heap.size σ0 w t fx cx→¬fx L)(o:Obj):Inv C S ρ σ own hv w0 σ0 A a (w.putObj L o):=
 h.keep (X:=fun k=>k≠L) ⟨rfl,rfl,rfl,by simp,fun k hk=>by omega⟩ (fun k hk=>World.putObj_heap_other hk) (fun k hk=>by omega) (fun k j e1 e2=>by subst e2;rw[hf.own] at e1;cases e1) (fun k o v e1 e2=>by subst e2;rw[hf.c] at e1;cases e1)
  (fun k v e1 e2=>by subst e2;rw[hf.m] at e1;cases e1) (fun t fx cx dg k hk e=>by subst e;exact hx t fx cx dg hk)
theorem auq {o:Oper}{L:Nat}{x:Operand}{aa:Array Operand}{ts:Array TypeId}{r:Loop}(cd:o.op=.call {callee:=.value x,args:=aa,argTypes:=ts})(hx:a.eval x=.func (.yield L) #[] #[])(hL:w.heap[L]?=some (.loop r))(hs:aa.size=r.params.size):
 (execOp a.eval o).run C.P w=.ok (.round L r.fn ((r.params.zip (aa.map a.eval)).foldl (fun tmps (t,v)=>tmps.setIfInBounds t v) r.tmps) r.assign r.body) w:=by
 have hy:=run_yield (P:=C.P) (args:=aa.map a.eval) hL (by simpa using hs);simp[execOp,cd,resolve,hx,Deferred.ofValue,invoke,hy]
theorem aqg {g:Operand}{f:Nat}{vs:List Value}{L:Nat}(hf:∃fn,C.P.funcs[f]?=some fn∧fn.body.isSome=true∧(fn.name== "runtime.NumGoroutine")=false)(hg:a.eval g=.func (.func f) #[] vs.toArray):
 (resolve a.eval (rangeCall g L) 0).run C.P w=.ok {target:=.fn (.func f) vs.toArray,args:=#[.func (.yield L) #[] #[]]} w∧
 (invoke (.fn (.func f) vs.toArray) #[.func (.yield L) #[] #[]]).run C.P w=.ok (.enter f (#[.func (.yield L) #[] #[]]++vs.toArray)) w:=by
 obtain⟨fn,h1,h2,h3⟩:=hf;obtain⟨bd,iK⟩:=Vx.1 h2;have h4:¬fn.name= "runtime.NumGoroutine" :=by simpa using h3
 constructor
 ·simp only[resolve,hg];simp[go_sem]
 ·simp[invoke,callFunc,h1,iK,h4]
theorem FrOK.enter {hv:Nat→Value}{S:St}{ρ:Env}(h:Inv C S ρ σ own hv w0 σ0 A a w){t:D}{fx cx:Nat→Prop}(hf:FrOK σ own w0.heap.size σ0 w t fx cx)(r:Loop):FrOK (σ.mark w.heap.size) own w0.heap.size σ0 ((w.alloc (.deferred (some []))).alloc (.loop r)) t fx cx:=by
 have hb:=Wx w (.deferred (some [])) (.loop r);have ah:=σ0.lt _ _ _ _ hf.F;have bS:=σ0.sub _ _ _ _ hf.F;have Du:∀k x,(σ.mark w.heap.size).m k=some x→σ.m k=some x∨k=w.heap.size:=by
  intro k x e;simp only[Im.mark] at e;split at e
  ·rename_i e2;exact .inr e2
  ·exact .inl e
 refine⟨σ0.keep _ _ _ _ _ hf.F (hb.mono (nK _)) fun k hk=>hb.block k (ah k hk),hf.own,hf.c,fun k x e hc=>?_,fun k e hB hk=>?_⟩
 ·rcases Du k x e with e|e
  ·exact hf.m k x e hc
  ·have:=ah k (bS k hc);omega
 ·rcases Du k _ e with e|e
  ·exact hf.d k e hB hk
  ·have:=ah k hk;omega
structure RSt (C:Ctx) (w0:World) (σR:Base) (ids:List Nat) (ρ1:Env) (lo:List Nat) (aM:Act) (L:Nat) (W1:World) (σ1:Im) (rec:LoopState→Option Code→Loop) (xs:List D) (P:Nat→List D→Snap→LoopState→Option Code→Prop) (t:D) (fx cx:Nat→Prop) (w:World):Prop where
 lt:∀k,fx k→k<w.heap.size
 sub:∀k,cx k→fx k
 old:∀k,k<W1.heap.size→fx k
 ex:∃(i:Nat) (vo:List D) (Sx:Snap) (st:LoopState) (pe:Option Code) (σ:Im) (own:Nat→Option Nat) (hv:Nat→Value),t=.list (xs.take i)∧P i vo Sx st pe∧Inv C (Sx.st ids) (ρ1.put [] [] lo vo) σ own hv w0 σR (fun _=>False) aM w∧
  σ1.le σ∧Free L σ own∧w.heap[L]?=some (.loop (rec st pe))∧(∀k j,own k=some j→fx k)∧(∀k o x,σ.c k o=some x→fx k)∧(∀k x,σ.m k=some x→fx k)∧∀k,cx k↔((∃j,own k=some j)∨k=L)
theorem RSt.keep {σR:Base}{ρ1:Env}{lo:List Nat}{aM:Act}{L:Nat}{W1:World}{σ1:Im}{rec:LoopState→Option Code→Loop}{xs:List D}{P:Nat→List D→Snap→LoopState→Option Code→Prop}{t:D}{fx cx:Nat→Prop}{w w':World}
 (h0:w0.heap.size≤W1.heap.size) (hL:L<W1.heap.size) (hR:∀t f c w,σR.F t f c w→∀k,f k→k<W1.heap.size) (h:RSt C w0 σR ids ρ1 lo aM L W1 σ1 rec xs P t fx cx w) (hb:Below 0 w w') (hs:∀k,fx k→w'.heap[k]?=w.heap[k]?):
 RSt C w0 σR ids ρ1 lo aM L W1 σ1 rec xs P t fx cx w':=by
 obtain⟨i,vo,Sx,st,pe,σ,own,hv,e1,e2,e3,e4,e5,e6,e7,e8,e9,e10⟩:=h.ex;refine⟨fun k hk=>vV (h.lt k hk) hb.size,h.sub,h.old,i,vo,Sx,st,pe,σ,own,hv,e1,e2,?_,e4,e5,(hs L (h.old L hL)).trans e6,e7,e8,e9,e10⟩;exact e3.keep (X:=fx) hb hs (fun k hk=>h.old k (by omega)) e7 e8 e9 (fun t f c hf k hk=>h.old k (hR _ _ _ _ hf.F k hk))
theorem Im.noM_m {σ:Im}{k:Nat}{v:List (Value×Value)}(h:σ.noM.m k=some v):σ.m k=some v∧v≠cZ:=by
 simp only[Im.noM] at h;split at h
 ·cases h
 ·rename_i ay;exact⟨h,fun e=>ay (by rw[h,e])⟩
structure SegL (L:Nat) (σ:Im) (own:Nat→Option Nat) (w:World) (σ':Im) (own':Nat→Option Nat) (w':World):Prop where
 le:σ.le σ'
 below:Below 0 w w'
 same:∀k,k<w.heap.size→own k=none→k≠L→w'.heap[k]?=w.heap[k]?
 ow:∀k j,own' k=some j→(∃i,own k=some i)∨w.heap.size≤k
 imm:∀k,((∃o x,σ'.c k o=some x)∨∃x,σ'.m k=some x)→(∃o x,σ.c k o=some x)∨(∃x,σ.m k=some x)∨(∃i,own k=some i)∨w.heap.size≤k
theorem abL (w:World)(L:Nat)(o:Obj):Below 0 w (w.putObj L o):=⟨rfl,rfl,rfl,by simp,fun k hk=>by omega⟩
theorem Seg.round {L:Nat}{σ' σ'':Im}{own' abA:Nat→Option Nat}{w' kF:World}{o o':Obj}(h:Seg σ own w σ' own' w')(k:Seg σ' own' (w'.putObj L o) σ'' abA kF):SegL L σ own w σ'' abA (kF.putObj L o'):=by
 have aK:=h.below.size;have IX:=k.below.size;simp only[World.putObj_size] at IX;refine⟨h.le.trans k.le,h.below.trans ((abL _ _ _).trans (k.below.trans (abL _ _ _))),fun q hq ho hL=>?_,fun q j e=>?_,fun q e=>?_⟩
 ·have h1:own' q=none:=by
   cases e:own' q with
   |none=>rfl
   |some j=>
    rcases h.ow q j e with⟨i,e⟩|e
    ·rw[ho] at e;cases e
    ·omega
  rw[World.putObj_heap_other hL,k.same q (by simp;omega) h1,World.putObj_heap_other hL,h.same q hq ho]
 ·rcases k.ow q j e with⟨i,e⟩|e
  ·exact h.ow q i e
  ·simp only[World.putObj_size] at e;exact .inr (by omega)
 ·rcases k.imm q e with e|e|⟨i,e⟩|e
  ·exact h.imm q (.inl e)
  ·exact h.imm q (.inr e)
  ·rcases h.ow q i e with e|e
   ·exact .inr (.inr (.inl e))
   ·exact .inr (.inr (.inr e))
  ·simp only[World.putObj_size] at e;exact .inr (.inr (.inr (by omega)))
theorem Env.put_self (ρ:Env)(lo:List Nat):ρ.put [] [] lo (lo.map ρ.o)=ρ:=by
 have h2:∀u,putL ρ.o lo (lo.map ρ.o) u=ρ.o u:=fun u=>by rw[tl];split<;>rfl
 show Env.mk ρ.r (putL ρ.o lo (lo.map ρ.o))=ρ;rw[funext h2]
theorem aqh {N:Nat}(fE:gk C Φ){g:Operand}{ps:Array Tmp}{ca cb:Code}(bm:vX C Φ fn s n ids R N ca)(dC:vX C Φ fn s n ids R N cb):vX C Φ fn s n ids R N (.rangeFunc g ps ca cb):=by
 intro rm S r hr rd w0 σ0 wr ρ x a w gw hC hY ic hn hg he;simp only[comp] at hr;split at hr
 case h_2=>cases hr;exact absurd he (mH _ _ _ _)
 rename_i aa rr e kq hu;split at hr
 case h_2=>cases hr;exact absurd he (mH _ _ _ _)
 rename_i ys xf;split at hr
 case h_2=>cases hr;exact absurd he (mH _ _ _ _)
 rename_i q hq;rw[oV] at hr;split at hr
 case isFalse=>cases hr;exact absurd he (mH _ _ _ _)
 rename_i qQ;cases hr;simp only[ao] at qQ;obtain⟨⟨⟨hl,bp⟩,ah⟩,w6⟩:=qQ;have hl:=az hl;have w6:=jI w6;obtain⟨hrd,ls⟩:=gw rfl;subst hrd;obtain⟨hs,zX,_⟩:=DZ (C:=C) (w0:=w0) (σ0:=σ0) (ids:=ids) 8 hq;simp only[av] at hs;obtain⟨ra,Oy,hs⟩:=hs;split at hs
 case h_2=>cases hs
 rename_i S1 hao Xo;simp only[aA] at hs;obtain⟨rb,Yf,jo⟩:=hs;have XY:=tZ ca Oy;have XZ:=tZ cb Yf;obtain⟨q1,q2⟩:=q;simp only at Oy jo w6 zX he ⊢;generalize wT:Zz ids (q1::q2.ex.map (·.2)) q2.mo=lo at he;generalize uI:((ou cN q2.ex none).bind fun M=>xV C fn s (M.st ids))=rt at he;have DF:∃f caps d,e.ev ρ=.clo f caps∧Φ f caps=some d∧gn (q2.pc.ev Φ N) (ρ.setR n d) ps.toList lo rt d.l (lo.map ρ.o)=some x:=by
  simp only[PC.ev,PI.runs,PI.run,holds,List.all_nil,cond_true] at he;cases bQ:e.ev ρ with
  |clo f caps=>
   rw[bQ] at he;simp only[PE.evs,tR] at he;cases hΦ:Φ f caps with
   |none=>rw[hΦ] at he;simp at he
   |some d=>
    rw[hΦ] at he;simp only[ka,j9,PE.ev,Env.setR,aL] at he;exact⟨f,caps,d,rfl,hΦ,he⟩
  |_=>rw[bQ] at he;simp at he
 obtain⟨f,caps,d,bQ,hΦ,he⟩:=DF;obtain⟨σ,own,hv,i⟩:=hg;have hx:=cq (gs:=[]) i hC rfl hu;rw[bQ] at hx;generalize NO:a.eval g=gv at hx;generalize bh:Ty.fn aa rr=ty at hx;cases hx with
 |fn f cs vs ds fU h1 h2 aO=>
 cases bh;obtain⟨hfn,ake⟩:=fE f cs ys fU xf;obtain⟨xs,rfl,azt,NR⟩:=ake caps d hΦ;simp only[D.l_list] at he;obtain⟨m,mN,hm,sT,IK,kQ⟩:=Ws he;have iq0:=YL 8 hq i
 have iq:Inv C (q1.st ids) (ρ.setR n (.list xs)) σ own hv w0 σ0 (fun _=>False) a w:=by
  refine iq0.env (Snap.noOpt _ _) (fun t ht=>?_) (fun _ _=>rfl);have ah:t<q1.rs.length:=by
   refine Vw fun hle=>?_;simp only[Snap.st,aJ,rS hle,Option.getD_none,cA,isNone] at ht;cases ht
  simp[Env.setR,bq _ _ (show t≠n by omega)]
 obtain⟨ρ1,hρ1⟩:∃ρ1,ρ.setR n (.list xs)=ρ1:=⟨_,rfl⟩
 rw[hρ1] at he iq IK kQ;have jT:ρ.o=ρ1.o:=by rw[←hρ1];rfl
 rw[jT] at sT;refine wpIn_rangeFunc ?_;intro M9 ay9;obtain⟨L,Xf⟩:∃L,w.heap.size+1=L:=⟨_,rfl⟩
 obtain⟨rec,iQ⟩:∃rec:LoopState→Option Code→Loop,rec=fun st pe=>{state:=st,pending:=pe,fn:=M9,tmps:=a.tmps,params:=ps,assign:=ca,body:=cb,defers:=w.heap.size}:=⟨_,rfl⟩
 have i1:=iq.enter (rec .ready none);obtain⟨t,fx0,cx0,XG,OJ⟩:=iq.frame;have ajS:=σ0.lt _ _ _ _ XG.F;have NI:=FrOK.enter iq XG (rec .ready none);have azr:=iq.below.size;have zO:Free L (σ.mark w.heap.size) own:=by
  refine⟨?_,fun o=>?_,?_⟩
  ·cases e:own L with
   |none=>rfl
   |some j=>have:=(iq.owns L j e).2.1;omega
  ·cases e:σ.c L o with
   |none=>exact e
   |some x=>have:=iq.lt e;omega
  ·simp only[Im.mark,show L≠w.heap.size by omega,if_false];cases e:σ.m L with
   |none=>rfl
   |some x=>have:=iq.ltm e;omega
 have lu:σ.le (σ.mark w.heap.size):=by
  refine⟨fun _ _ _ e=>e,fun k x e=>?_⟩;have:k≠w.heap.size:=by have:=iq.ltm e;omega
  simp[Im.mark,this,e]
 have Xc:((w.alloc (.deferred (some []))).alloc (.loop (rec .ready none))).heap[L]?=some (.loop (rec .ready none)):=by
  have:=World.alloc_heap_new (w.alloc (.deferred (some []))) (.loop (rec .ready none));rw[World.size_alloc,Xf] at this;exact this
 obtain⟨W1,Nn⟩:∃W1,(w.alloc (.deferred (some []))).alloc (.loop (rec .ready none))=W1:=⟨_,rfl⟩
 have ay3:W1.heap.size=w.heap.size+2:=by rw[←Nn];simp
 rw[Nn] at i1 NI Xc;have NF:(Instr.enterLoop M9 a.tmps ps ca cb none).run C.P w=.ok (L,[{target:=.collected w.heap.size,args:=#[]}]) W1:=by
  rw[←Nn,iQ,←Xf];exact run_enterLoop_outer _ _ _ _ _
 obtain⟨σ1,hσ1⟩:∃σ1,σ.mark w.heap.size=σ1:=⟨_,rfl⟩
 rw[hσ1] at i1 NI zO lu;obtain⟨aM,No⟩:∃aM:Act,{a with defers:={target:=.collected w.heap.size,args:=#[]}::a.defers}=aM:=⟨_,rfl⟩
 have CZ:aM.tmps=a.tmps:=by rw[←No]
 rw[No] at i1;have iR:=i1.toRnd (t:=t) (X:=fun k=>k=L) OJ;obtain⟨σR,hσR⟩:∃σR,σ0.rnd σ1 own W1 t (fun k=>k=L)=σR:=⟨_,rfl⟩
 have uo:∀t' f c w',σR.F t' f c w'→(∀k,f k→k<W1.heap.size∧k≠L)∧∀k,c k→f k∧(∀o,σ1.c k o=none)∧σ1.m k=none:=by
  rw[←hσR];rintro t' f c w' ⟨_,h2,h3,_⟩;exact⟨fun k hk=>⟨((h2 k).1 hk).1,((h2 k).1 hk).2.2.2⟩,fun k hk=>(h3 k).1 hk⟩
 have Xi:CtxOK C σR:=by rw[←hσR];exact hC.mono i1.le
 rw[hσR] at iR
 obtain⟨P,hP⟩:∃P:Nat→List D→Snap→LoopState→Option Code→Prop,P=fun i vo Sx st pe=>(i≤m∧vo=mN i∧Sx=q1∧st=.ready∧pe=none)∨
  (i=m+1∧m<xs.length∧st=.done∧∃y id ρ',xs[m]?=some y∧q2.pc.ev Φ N (ρ1.put ps.toList (partsOf ps.toList y) lo (mN m))=some (.exit id ρ')∧vo=lo.map ρ'.o∧(id,Sx)∈q2.ex∧((id≠cN∧pe=some (.exit id))∨(id=cN∧pe=some .ret))):=⟨_,rfl⟩
 obtain⟨c1,c2⟩:=aqg (C:=C) (w:=W1) (L:=L) hfn NO;refine⟨L,[{target:=.collected w.heap.size,args:=#[]}],W1,_,W1,f,_,W1,NF,c1,fun _ _=>trivial,c2,(fun e=>by cases e),?_⟩
 refine VZ ((NR σ1 W1 (.func (.yield L) #[] #[]) vs (RSt C w0 σR ids ρ1 lo aM L W1 σ1 rec xs P) (fun k=>k<W1.heap.size) (fun k=>(∃j,own k=some j)∨k=L) m i1.ok (hC.mono i1.le) ⟨h1,h2,fun j t e=>(aO j t e).mono lu⟩ hm
  (fun t f c w h=>h.lt) (fun t f c w h=>h.sub) (fun t f c w w' h hb hs=>h.keep (by omega) (by omega) (fun t f c w hF k hk=>((uo t f c w hF).1 k hk).1) hb hs) ?_ ?_ ?_ ?_).mono ?_)
 ·refine⟨fun k hk=>hk,fun k hk=>?_,fun k hk=>hk,0,mN 0,q1,.ready,none,σ1,own,hv,by simp,by rw[hP];exact .inl ⟨nK _,rfl,rfl,rfl,rfl⟩,?_,.refl σ1,zO,Xc,fun k j e=>(iR.owns k j e).2.1,fun k o x e=>iR.lt e,fun k x e=>iR.ltm e,fun k=>.rfl⟩
  ·rcases hk with⟨j,e⟩|e
   ·exact(iR.owns k j e).2.1
   ·show k<W1.heap.size;omega
  ·rw[sT,Env.put_self];exact iR
 ·rintro k o x e (⟨j,hj⟩|rfl)
  ·have:=(iR.owns k j hj).2.2.1 o;rw[e] at this;cases this
  ·rw[zO.c] at e;cases e
 ·rintro k x e (⟨j,hj⟩|rfl)
  ·have:=(iR.owns k j hj).2.2.2;rw[e] at this;cases this
  ·rw[zO.m] at e;cases e
 ·intro i fx cx w1 σx args ds' hi dK hF hσx iL iM nX da cR rd' o a' x' aa ts K Q cd cu Xm hK;have azb:i<xs.length:=(eC.1 dK).1;obtain⟨i',vo,Sx,st,pe,σa,xC,hva,e1,e2,iA,IC,CW,H9,Oc,Xs,Dt,zV⟩:=hF.ex;have hii:i'=i:=by
   have h9:=congrArg List.length (congrArg D.l e1);simp only[D.l_list,dE] at h9;omega
  subst hii;rw[hP] at e2;rcases e2 with⟨_,rfl,CY,rfl,rfl⟩|⟨e2,_⟩
  case inr=>omega
  rw[CY] at iA;have Xg:L<w1.heap.size:=hF.lt L (hF.old L (by omega));have Il:cx L:=(zV L).2 (.inr rfl)
  have akD:∀k o v,σx.c k o=some v→xC k=none:=fun k o v e=>by
   cases e2:xC k with
   |none=>rfl
   |some j=>exact absurd ((zV k).2 (.inl ⟨j,e2⟩)) (iM k o v e)
  have Dx:∀k v,σx.m k=some v→xC k=none:=fun k v e=>by
   cases e2:xC k with
   |none=>rfl
   |some j=>exact absurd ((zV k).2 (.inl ⟨j,e2⟩)) (nX k v e)
  have hτok:σx.noM.ok w1:=⟨hσx.c,fun k v e=>hσx.m k v (Im.noM_m e).1⟩
  have iB:=iA.joinIm (τ:=σx.noM) hτok (fun k e=>(Im.noM_m e).2 rfl) akD (fun k v e=>Dx k v (Im.noM_m e).1)
   (fun k o v e=>(da k o v e).imp (fun e=>IC.c k o v e) fun e=>by omega) (fun k v e=>(cR k v (Im.noM_m e).1).imp (fun e=>IC.m k v e) fun e=>by omega)
   (fun t' f c hf=>⟨fun k o v e hc=>by
        obtain⟨g1,g2,g3⟩:=(uo _ _ _ _ hf.F).2 k hc;rcases da k o v e with e|e
        ·rw[g2 o] at e;cases e
        ·have:=((uo _ _ _ _ hf.F).1 k g1).1;omega,fun k v e hc=>by
        obtain⟨g1,g2,g3⟩:=(uo _ _ _ _ hf.F).2 k hc;rcases cR k v (Im.noM_m e).1 with e|e
        ·rw[g3] at e;cases e
        ·have:=((uo _ _ _ _ hf.F).1 k g1).1;omega⟩)
  have W9:Free L (σa.plus σx.noM) xC:=by
   refine⟨CW.own,fun o=>?_,?_⟩
   ·cases e:(σa.plus σx.noM).c L o with
    |none=>rfl
    |some v=>
     rcases Im.plus_c e with e|e
     ·rw[CW.c] at e;cases e
     ·exact absurd Il (iM L o v e)
   ·cases e:(σa.plus σx.noM).m L with
    |none=>rfl
    |some v=>
     rcases Im.plus_m e with e|e
     ·rw[CW.m] at e;cases e
     ·exact absurd Il (nX L v (Im.noM_m e).1)
  have sQ:ps.toList.length=ys.length:=by rw[BF];exact hl.symm
  have ajf:oU C (σa.plus σx.noM) ys args ds':=⟨iL.1,iL.2.1,fun j t e=>((iL.2.2 j t e).noM).mono (Im.plus_le2 iA.ok hτok)⟩
  have iC:=iB.startR (ρ':=ρ1) sQ bp (fun p hp=>by
   have:=bJ.1 ah p hp;rw[CZ,hn];simpa [ix] using this) ajf rfl
  have Ot:∃xi,q2.pc.ev Φ N (ρ1.put ps.toList (partsOf ps.toList (.tup ds')) lo (mN i'))=some xi∧((i'<m∧∃ρ',xi=.next ρ'∧lo.map ρ'.o=mN (i'+1))∨(i'=m∧m<xs.length∧∃id ρ',xi=.exit id ρ')):=by
   by_cases kP:i'<m
   ·obtain⟨y,ρ',g1,g2,g3⟩:=IK i' kP;rw[dK] at g1;cases g1;exact⟨_,g2,.inl ⟨kP,ρ',rfl,g3⟩⟩
   ·obtain rfl:i'=m:=by omega
    rcases kQ with⟨g1,_⟩|⟨g1,y,id,ρ',g2,g3,_⟩
    ·omega
    ·rw[dK] at g2;cases g2;exact⟨_,g3,.inr ⟨rfl,g1,id,ρ',rfl⟩⟩
  obtain⟨xi,sW,O0⟩:=Ot;have ae:q2.pc=.seq ra.pc rb.pc:=by rw[←jo];rfl
  rw[ae] at sW;have aK:(mG ps.toList args aM.tmps).size=n:=by rw[ads,CZ,hn]
  refine⟨fun _ _=>trivial,?_⟩;rw[Oper.semAt_eq _ _ _ (fun c e=>by rw[cd] at e;cases e)];have ajg:aa.size=ps.size:=by
   have:=iL.1;rw[←Xm,gT,BF] at this;omega
  have ak:=auq (C:=C) cd cu H9 (by rw[iQ];exact ajg);have ak5:(rec .ready none).fn=M9∧(rec .ready none).tmps=a.tmps∧(rec .ready none).params=ps∧(rec .ready none).assign=ca∧(rec .ready none).body=cb:=by rw[iQ];exact⟨rfl,rfl,rfl,rfl,rfl⟩
  obtain⟨r1,r2,r3,r4,r5⟩:=ak5;rw[r1,r2,r3,r4,r5] at ak
  have sR:(ps.zip (aa.map a'.eval)).foldl (fun tmps (t,v)=>tmps.setIfInBounds t v) a.tmps=mG ps.toList args aM.tmps:=by
   rw[CZ,←Xm,←vM];exact aq2 ps (aa.map a'.eval) a.tmps
  rw[sR] at ak;rw[ak];refine⟨(fun e=>by cases e),?_⟩;refine roundIn_of_wpIn (F:=FR rd') trivial ?_;show ca.wpIn (FR (some L)) 0 C.P _ _ _;cases ma:ra.pc.ev Φ N (ρ1.put ps.toList (partsOf ps.toList (.tup ds')) lo (mN i')) with
  |none=>simp only[PC.ev,ma] at sW;cases sW
  |some xa=>
  refine wpIn_mono (adm bm Oy kq Xi iC (wr:=fun t=>t∈cv ca) (fun _ h=>h) aK ma L) fun e2 a1 U0 ale=>?_;obtain⟨ρ2,S2,σ2,iW,ia,iD,uJ,jq,kl⟩:=ale;cases e2 with
  |normal=>
   obtain⟨rfl,pI⟩:=kl;rw[hao] at pI;cases pI;simp only[PC.ev,ma] at sW;have Xd:U0.heap[L]?=some (.loop (rec .ready none)):=(uJ.same L Xg W9.own).trans H9;have Nk:=W9.seg Xg uJ;have Nl:L<U0.heap.size:=(gj.1 Xd).1;have Xb:w0.heap.size≤L:=by omega
   refine⟨_,run_beginRound Xd (by rw[iQ]),?_⟩;have iE:=iD.putL Xb Nk (fun t' f c hf Dc=>((uo _ _ _ _ hf.F).1 L Dc).2 rfl) (.loop {rec .ready none with state:=.busy});have hL3:(U0.putObj L (.loop {rec .ready none with state:=.busy})).heap[L]?=some (.loop {rec .ready none with state:=.busy}):=World.putObj_heap_same Nl;show cb.wpIn (FR (some L)) 0 C.P _ _ _;refine wpIn_mono (adm dC Yf kq Xi iE (wr:=fun t=>t∈cv cb) (fun _ h=>h) (jq.size.trans aK) sW L) fun e3 a3 w3 alf=>?_;obtain⟨ρ3,S3,σ3,xB,DQ,iF,IW,ald,og⟩:=alf;have Xe:w3.heap[L]?=some (.loop {rec .ready none with state:=.busy}):=(IW.same L (by simpa using Nl) Nk.own).trans hL3;have W8:=Nk.seg (by simpa using Nl) IW;have ai1:L<w3.heap.size:=(gj.1 Xe).1;obtain⟨mk,IG⟩:∃mk,Nat.lor (xq (ps.toList++cv ca++cv cb)) (Nat.lor ra.mr rb.mr)=mk:=⟨_,rfl⟩
   have akw:∀t,aw mk t=false→t∉ps.toList∧t∉cv ca∧t∉cv cb∧aw ra.mr t=false∧aw rb.mr t=false:=by
        intro t ht;rw[←IG,eY,eY,Vd,Vd] at ht;obtain⟨t1,t2,t3⟩:=ht;have:t∉ps.toList++cv ca++cv cb:=fun hm=>by rw[VQ hm] at t1;cases t1
        simp only[dy,not_or] at this;exact⟨this.1.1,this.1.2,this.2,t2,t3⟩
   have Oz:∀t,aw mk t=false→aM.tmps.getD t undef=a3.tmps.getD t undef∧(ρ1.put [] [] lo (lo.map ρ3.o)).r t=ρ3.r t:=by
        intro t ht;obtain⟨t1,t2,t3,t4,t5⟩:=akw t ht;refine⟨?_,?_⟩
        ·rw[ald.get t t3,jq.get t t2];exact(KS _ _ _ _ t1).symm
        ·have hb3:∀ρ',xi=.next ρ'∨(∃id,xi=.exit id ρ')→ρ'.r t=ρ2.r t:=fun ρ' h=>by
          have wL:xi.env?=some ρ':=by rcases h with h|⟨id,h⟩<;>rw[h]<;>rfl
          exact(PC.ev_but rb.pc _ _ ρ' sW wL).r t fun hm=>by rw[XZ.1 t hm] at t5;cases t5
         have dk:ρ2.r t=putL ρ1.r ps.toList (partsOf ps.toList (.tup ds')) t:=(PC.ev_but ra.pc _ _ ρ2 ma rfl).r t fun hm=>by rw[XY.1 t hm] at t4;cases t4
         rw[AU _ _ _ _ t1] at dk;show ρ1.r t=ρ3.r t;rw[hb3 ρ3 (by
          cases e3 with
          |normal=>exact .inl og.1
          |exit id=>exact .inr ⟨id,og.1⟩
          |ret=>exact .inr ⟨_,og.1⟩
          |_=>exact og.elim),dk]
   have N2:q2.mo=jC ra.mo rb.mo:=by rw[←jo];rfl
   have Of:∀j,j∉q2.mo→ρ3.o j=ρ1.o j:=by
        intro j hj;rw[N2,pY,not_or] at hj;have wL:xi.env?=some ρ3:=by
         cases e3 with
         |normal=>rw[og.1];rfl
         |exit id=>rw[og.1];rfl
         |ret=>rw[og.1];rfl
         |_=>exact og.elim
        rw[(PC.ev_but rb.pc _ _ ρ3 sW wL).o j fun hm=>hj.2 (XZ.2 j hm),(PC.ev_but ra.pc _ _ ρ2 ma rfl).o j fun hm=>hj.1 (XY.2 j hm)]
        exact AU _ _ _ _ fun hm=>by
         rw[←wT] at hm;have:=(cY.1 hm).1;rw[N2,pY] at this;exact this.elim hj.1 hj.2
   have Oe:∀(S:Snap),S∈(q1::q2.ex.map (·.2))→∀j,oq ((S.st ids).o j)=false→(ρ1.put [] [] lo (lo.map ρ3.o)).o j=ρ3.o j:=by
        intro S hS j hj;show putL ρ1.o lo (lo.map ρ3.o) j=ρ3.o j;rw[tl];split
        ·rfl
        ·rename_i fW;refine(Of j fun uD=>fW ?_).symm;rw[←wT];exact cY.2 ⟨uD,mQ.2 ⟨S,hS,by simpa [Snap.st] using hj⟩⟩
   have fin:∀(jump:Option Code) (Sx:Snap),Inv C (Sx.st ids) (ρ1.put [] [] lo (lo.map ρ3.o)) σ3 xB DQ w0 σR (fun _=>False) aM w3→P (i'+1) (lo.map ρ3.o) Sx (if jump.isNone then .ready else .done) jump→jump.isNone=decide (i'<m)→
        ∃v w',(Instr.endRound L jump).run C.P w3=.ok v w'∧K (a'.put o.dst v) w':=by
        intro jump Sx iG hPn uD;refine⟨_,_,run_endRound jump Xe,?_⟩;have ak4:({{rec .ready none with state:=.busy} with state:=if jump.isNone then .ready else .done,pending:=jump}:Loop)=rec (if jump.isNone then .ready else .done) jump:=by rw[iQ]
        rw[ak4];have aO:=uJ.round (L:=L) (o':=.loop (rec (if jump.isNone then .ready else .done) jump)) IW;have iH:=iG.putL Xb W8 (fun t' f c hf Dc=>((uo _ _ _ _ hf.F).1 L Dc).2 rfl) (.loop (rec (if jump.isNone then .ready else .done) jump));obtain⟨w4,OV⟩:∃w4,w3.putObj L (.loop (rec (if jump.isNone then .ready else .done) jump))=w4:=⟨_,rfl⟩
        have hL5:w4.heap[L]?=some (.loop (rec (if jump.isNone then .ready else .done) jump)):=by rw[←OV];exact World.putObj_heap_same ai1
        have azw:w4.heap.size=w3.heap.size:=by rw[←OV];simp
        rw[OV] at aO iH ⊢;have ay2:W1.heap.size≤w1.heap.size:=by
         have:=hF.lt (W1.heap.size-1) (hF.old _ (by omega));omega
        have azs:=aO.below.size
        refine hK _ _ ⟨by rw[uD],aO.below,fun k hk hc=>aO.same k hk (by
         cases e:xC k with
         |none=>rfl
         |some j=>exact absurd ((zV k).2 (.inl ⟨j,e⟩)) hc) (fun e=>hc (by rw[e];exact Il)),(fun k=>k<w4.heap.size∧(k<W1.heap.size∨(∃j,xB k=some j)∨(∃o x,σ3.c k o=some x)∨∃x,σ3.m k=some x)),(fun k=>(∃j,xB k=some j)∨k=L),?_,?_,?_⟩
        ·refine⟨fun k hk=>hk.1,fun k hk=>?_,fun k hk=>⟨by omega,.inl hk⟩,i'+1,lo.map ρ3.o,Sx,_,jump,σ3,xB,DQ,rfl,hPn,iH,IC.trans ((Im.plus_le1 _ _).trans aO.le),W8,hL5,fun k j e=>⟨(iH.owns k j e).2.1,.inr (.inl ⟨j,e⟩)⟩,fun k o x e=>⟨iH.lt e,.inr (.inr (.inl ⟨o,x,e⟩))⟩,fun k x e=>⟨iH.ltm e,.inr (.inr (.inr ⟨x,e⟩))⟩,fun k=>.rfl⟩;rcases hk with⟨j,e⟩|e
         ·exact⟨(iH.owns k j e).2.1,.inr (.inl ⟨j,e⟩)⟩
         ·exact⟨by omega,.inl (by omega)⟩
        ·rintro k ⟨_,hk⟩ bl
         have Dk:((∃o x,σ3.c k o=some x)∨∃x,σ3.m k=some x)→fx k∨(∃o x,σx.c k o=some x)∨(∃x,σx.m k=some x∧x≠cZ):=fun h=>by
          rcases aO.imm k h with⟨o,x,e⟩|⟨x,e⟩|⟨j,e⟩|e
          ·rcases Im.plus_c e with e|e
           ·exact .inl (Xs k o x e)
           ·exact .inr (.inl ⟨o,x,e⟩)
          ·rcases Im.plus_m e with e|e
           ·exact .inl (Dt k x e)
           ·exact .inr (.inr ⟨x,(Im.noM_m e).1,(Im.noM_m e).2⟩)
          ·exact .inl (Oc k j e)
          ·omega
         rcases hk with hk|⟨j,e⟩|e|e
         ·exact .inl (hF.old k hk)
         ·rcases aO.ow k j e with⟨j',e⟩|e
          ·exact .inl (Oc k j' e)
          ·omega
         ·exact Dk (.inl e)
         ·exact Dk (.inr e)
        ·rintro k (⟨j,e⟩|e) bl
         ·rcases aO.ow k j e with⟨j',e⟩|e
          ·exact(zV k).2 (.inl ⟨j',e⟩)
          ·omega
         ·rw[e];exact Il
   have nY:kG σ3 w0.heap.size aM.defers:=iA.defers.mono ((Im.plus_le1 _ _).trans (uJ.le.trans IW.le));have Ou:q2.out=rb.out.map (Snap.mask mk)∧q2.ex=rb.ex.map (fun x=>(x.1,x.2.mask mk)):=by rw[←jo,←IG];exact⟨rfl,rfl⟩
   cases e3 with
   |normal=>
    obtain⟨e4,e5⟩:=og;have hT:q2.out=some (S3.mask mk):=by rw[Ou.1,e5];rfl
    have XH:=zX _ hT
    have iG:Inv C (q1.st ids) ρ3 σ3 xB DQ w0 σR (fun _=>False) a3 w3:=by
        have:=Snap.meet_ok2 (x:=q1) (iF.maskR mk)
        rwa [XH] at this
    have iH:=iG.restore (ρ':=ρ1.put [] [] lo (lo.map ρ3.o)) (a':=aM) (Snap.noOpt _ _) nY (fun t ht=>Oz t (by
        cases e:aw mk t with
        |false=>rfl
        |true=>
         have h9:=anV (x:=q1) (S:=S3) (ids:=ids) e;rw[XH] at h9;rw[h9] at ht;cases ht)) (fun j hj=>Oe q1 (dq ..) j hj)
    rcases O0 with⟨kP,ρ',e6,e7⟩|⟨_,_,id,ρ',e6⟩
    ·rw[e4] at e6;cases e6;exact fin none q1 iH (by rw[hP];exact .inl ⟨by omega,e7,rfl,rfl,rfl⟩) (by simp[kP])
    ·rw[e4] at e6;cases e6
   |exit id=>
    obtain⟨e4,e5,e6⟩:=og;have cQ:(id,S3.mask mk)∈q2.ex:=by rw[Ou.2];exact dM.2 ⟨_,e6,rfl⟩
    have iH:=(iF.maskR mk).restore (ρ':=ρ1.put [] [] lo (lo.map ρ3.o)) (a':=aM) (Snap.noOpt _ _) nY (fun t ht=>Oz t (by
        cases e:aw mk t with
        |false=>rfl
        |true=>rw[D6,if_pos e] at ht;cases ht)) (fun j hj=>Oe (S3.mask mk) (dj _ (dM.2 ⟨_,cQ,rfl⟩)) j hj)
    rcases O0 with⟨kP,ρ',e7,_⟩|⟨kP,l7,bX,ρ',e7⟩
    ·rw[e4] at e7;cases e7
    ·subst kP;refine fin (some (.exit id)) (S3.mask mk) iH ?_ (by simp);rw[hP];refine .inr ⟨rfl,l7,rfl,_,id,ρ3,dK,?_,rfl,cQ,.inl ⟨e5,rfl⟩⟩;rw[ae];simp only[PC.ev,ma];rw[sW,e4]
   |ret=>
    obtain⟨e4,e6⟩:=og;have cQ:(cN,S3.mask mk)∈q2.ex:=by rw[Ou.2];exact dM.2 ⟨_,e6,rfl⟩
    have iH:=(iF.maskR mk).restore (ρ':=ρ1.put [] [] lo (lo.map ρ3.o)) (a':=aM) (Snap.noOpt _ _) nY (fun t ht=>Oz t (by
        cases e:aw mk t with
        |false=>rfl
        |true=>rw[D6,if_pos e] at ht;cases ht)) (fun j hj=>Oe (S3.mask mk) (dj _ (dM.2 ⟨_,cQ,rfl⟩)) j hj)
    rcases O0 with⟨kP,ρ',e7,_⟩|⟨kP,l7,bX,ρ',e7⟩
    ·rw[e4] at e7;cases e7
    ·subst kP;refine fin (some .ret) (S3.mask mk) iH ?_ (by simp);rw[hP];refine .inr ⟨rfl,l7,rfl,_,cN,ρ3,dK,?_,rfl,cQ,.inr ⟨rfl,rfl⟩⟩;rw[ae];simp only[PC.ev,ma];rw[sW,e4]
   |_=>exact og.elim
  |exit id=>obtain⟨_,_,e6⟩:=kl;rw[Xo] at e6;cases e6
  |ret=>obtain⟨_,e6⟩:=kl;rw[Xo] at e6;cases e6
  |_=>exact kl.elim
 ·rintro e' w' ⟨⟨v,rfl⟩,fx,cx,hF⟩;rw[show({tmps:=a.tmps,defers:=[{target:=Target.collected w.heap.size,args:=#[]}]++a.defers}:Act)=aM from No];obtain⟨i',vo,Sx,st,pe,σa,xC,hva,e1,e2,iA,IC,CW,H9,Oc,Xs,Dt,zV⟩:=hF.ex;have h9:=congrArg List.length (congrArg D.l e1);simp only[D.l_list,dE] at h9;have bM:(rec st pe).state≠.busy:=by
   rw[hP] at e2;rw[iQ];rcases e2 with⟨_,_,_,e3,_⟩|⟨_,_,e3,_⟩<;>(rw[e3];intro e;cases e)
  have nf:(rec st pe).pending=pe:=by rw[iQ]
  have NG:(Instr.endLoop L).run C.P w'=.ok pe (w'.putObj L (.loop {rec st pe with state:=.exhausted})):=(run_endLoop (P:=C.P) H9 bM).trans (congrArg (fun z=>Result.ok z _) nf);have iF:=iA.putL (by omega:w0.heap.size≤L) CW (fun t' f c hf Dc=>((uo _ _ _ _ hf.F).1 L Dc).2 rfl) (.loop {rec st pe with state:=.exhausted});rw[←hσR] at iF;have iG:=i1.ofRnd NI (fun k hk e=>by have:=ajS k hk;omega) iF;have ko:SameBut wr a aM:=⟨by rw[CZ],fun t _=>by rw[CZ]⟩
  refine⟨pe,_,NG,?_⟩;rw[hP] at e2;rcases e2 with⟨e3,rfl,CY,_,rfl⟩|⟨rfl,l7,_,y,id,ρ',g1,g2,rfl,g4,g5⟩
  ·rcases kQ with⟨g1,g2⟩|⟨g1,_⟩
   ·obtain rfl:i'=m:=by omega
    rw[CY] at iG;exact⟨_,q1,g2,rfl,ko,_,_,_,iG⟩
   ·omega
  ·rcases kQ with⟨g6,_⟩|⟨_,y',bX,ρ'',k1,k2,k3⟩
   ·omega
   ·rw[g1] at k1;cases k1;rw[g2] at k2;cases k2;rcases k3 with⟨k3,k4⟩|⟨k3,pe',k4,k5⟩
    ·rcases g5 with⟨_,rfl⟩|⟨g5,_⟩
     ·exact wpIn_exit ⟨_,Sx,k4,k3,cY.2 ⟨g4,by simp[ej k3]⟩,ko,_,_,_,iG⟩
     ·exact absurd g5 k3
    ·rcases g5 with⟨g5,_⟩|⟨_,rfl⟩
     ·exact absurd k3 g5
     ·subst k3;rw[←uI,av] at k4;obtain⟨M,hM,DI⟩:=k4;obtain⟨M',Xh,sM⟩:=Pt (⟨_,_,_,iG⟩:Good C w0 σ0 (Sx.st ids) _ (fun _=>False) aM _) q2.ex none g4;rw[hM] at Xh;cases Xh;obtain⟨σm,aAq,Yr,im⟩:=sM;exact wpIn_ret ⟨_,k5,Inv.retD hC (fun _=>rfl) ls DI _ im rfl,ko⟩
theorem ZD {arr:Array MapEntry}{clock:Nat}(hb:mP arr clock){idx:List Nat}(hi:∀i,i∈idx→i<arr.size){i:Nat}{e:MapEntry}(he:arr[i]?=some e):(gi arr idx).contains e.born=true↔i∈idx:=by
 simp only[gi,List.contains_toArray,List.contains_iff_mem,dM];constructor
 ·rintro⟨j,hj,h⟩;have ah:=hi j hj;rw[fB ah] at h;simp only at h;have:=hb.2 j i arr[j] e (fB ah) he h;rw[←this];exact hj
 ·intro h;exact⟨i,h,by rw[he]⟩
theorem aqZ (arr:Array MapEntry)(idx:List Nat){i:Nat}{e:MapEntry}(he:arr[i]?=some e):(gi arr idx).push e.born=gi arr (idx++[i]):=by
 simp[gi,he]
theorem aob {P:Program}{w:World}{k m:Nat}{arr:Array MapEntry}{clock:Nat}{idx:List Nat}(hk:w.heap[k]?=some (.mapIter (some m) clock (gi arr idx) clock))(hm:w.heap[m]?=some (.map arr clock))(hb:mP arr clock)(hi:∀i,i∈idx→i<arr.size)(T:TypeId):
 ∃w1:World,(w1=w∨w1=w.drew)∧(((∀i,i<arr.size→i∈idx)∧(Instr.next (.pointer (some ⟨k,0,none⟩)) false T).run P w=.ok (.tuple #[.bool false]) w1)∨
  ∃i e,arr[i]?=some e∧i∉idx∧(Instr.next (.pointer (some ⟨k,0,none⟩)) false T).run P w=.ok (.tuple #[.bool true,e.key,e.val]) {w1 with heap:=w1.heap.setIfInBounds k (.mapIter (some m) clock (gi arr (idx++[i])) clock)}):=by
 have cQ:∀{e:MapEntry},e∈arr→∃i:Nat,arr[i]?=some e:=fun he=>by
  obtain⟨i,hi,rfl⟩:=Array.mem_iff_getElem.1 he;exact⟨i,fB hi⟩
 have hold:∀(l:Array MapEntry),(∀e,e∈l→e.born<clock)→l.filter (fun x=>decide (x.born<clock))=l:=fun l h=>by
  rw[Array.filter_eq_self];intro e he;simpa using h e he
 have lz:∀(l:Array MapEntry),(∀e,e∈l→e.born<clock)→l.filter (fun x=>decide (x.born≥clock))=#[]:=fun l h=>by
  rw[Array.filter_eq_empty_iff];intro e he;have:=h e he;simp;omega
 have Xp:∀e,e∈arr→e.born<clock:=fun e he=>by obtain⟨i,hi⟩:=cQ he;exact hb.1 i e hi
 have sJ:(!(gi arr idx).isEmpty&& !arr.isEmpty&&arr.all (fun x=>decide (x.born≥clock)))=false:=by
  cases ha:arr.isEmpty
  ·have ay:arr.size≠0:=by simpa using ha
   have:arr.all (fun x=>decide (x.born≥clock))=false:=by
        rw[Vc];intro h;rw[Array.all_eq_true] at h;have h0:=h 0 (by omega);have h1:=Xp arr[0] (U9 _);simp at h0;omega
   rw[this,tL]
  ·simp
 let left:=arr.filter fun e=> !(gi arr idx).contains e.born
 have hl:∀e,e∈left→e.born<clock:=fun e he=>Xp e (Va.1 he).1;by_cases hz:left.size=0
 ·refine⟨w,.inl rfl,.inl ⟨fun i ah=>?_,?_⟩⟩
  ·by_cases aY:i∈idx
   ·exact aY
   ·exfalso;have IE:arr[i]∈left:=Va.2 ⟨U9 _,by
     have:=ZD hb hi (fB ah);cases hc:(gi arr idx).contains arr[i].born with
     |false=>rfl
     |true=>exact absurd (this.1 hc) aY⟩
    have:left=#[]:=Lg hz;rw[this] at IE;simp at IE
  ·have he:left=#[]:=Lg hz;have pO:arr.filter (fun e=> !(gi arr idx).contains e.born)=#[]:=he;simp only[Instr.next,getObj,Sem.run_bind,Sem.run,hk,hm,Result.andThen_ok,sJ,pO];simp[Question.forced,Sem.run]
 ·have gJ:left.filter (fun x=>decide (x.born<clock))=left:=hold left hl;have iO:left.filter (fun x=>decide (x.born≥clock))=#[]:=lz left hl;have hem:left.isEmpty=false:=by simpa using hz
  have key:∀c,c<left.size→∃i e,arr[i]?=some e∧i∉idx∧left[c]?=some e:=fun c hc=>by
   have IE:left[c]∈left:=U9 _;obtain⟨h1,h2⟩:=Va.1 IE;obtain⟨i,cw⟩:=cQ h1;refine⟨i,left[c],cw,fun aY=>?_,fB hc⟩;rw[(ZD hb hi cw).2 aY] at h2;cases h2
  obtain⟨w1,c,fm,hc,jj⟩:∃w1 c,(w1=w∨w1=w.drew)∧c<left.size∧(choose (.mapNext left.size)).run P w=.ok c w1:=by
   by_cases h1:left.size≤1
   ·exact⟨w,0,.inl rfl,by omega,by simp[Question.forced,h1]⟩
   ·exact⟨w.drew,_,.inr rfl,Nat.mod_lt _ (by omega),by simp[Question.forced,h1,Question.cut];rfl⟩
  obtain⟨i,e,h1,h2,h3⟩:=key c hc;refine⟨w1,fm,.inr ⟨i,e,h1,h2,?_⟩⟩;have wS:arr.filter (fun e=> !(gi arr idx).contains e.born)=left:=rfl;have Dh:(getObj k).run P w=.ok (.mapIter (some m) clock (gi arr idx) clock) w:=by simp[getObj,Sem.run,hk]
  have gL:(getObj m).run P w=.ok (.map arr clock) w:=by simp[getObj,Sem.run,hm]
  have bl:w1.heap[k]?=some (.mapIter (some m) clock (gi arr idx) clock):=by rcases fm with rfl|rfl<;>exact hk
  have XJ:(setObj k (.mapIter (some m) clock ((gi arr idx).push e.born) clock)).run P w1=.ok () {w1 with heap:=w1.heap.setIfInBounds k (.mapIter (some m) clock ((gi arr idx).push e.born) clock)}:=by simp[setObj,Sem.run,bl]
  have ajo:((if false=true then #[none] else #[])++Array.map some (left++#[]):Array (Option MapEntry))=left.map some:=by simp
  have iM:(left.map some)[c]?=some (some e):=by simp[h3]
  have XM:∀(Cc:Array (Option MapEntry)) (cc:Nat),(choose (.mapNext Cc.size)).run P w=.ok cc w1→Cc[cc]?=some (some e)→(do
        match Cc[←choose (.mapNext Cc.size)]? with
        |some (some e)=>
         setObj k (.mapIter (some m) clock ((gi arr idx).push e.born) clock)
         pure (.tuple #[.bool true,e.key,e.val])
        |some none=>(pure (.tuple #[.bool false]):Sem Value)
        |none=>stuck "Next: no such candidate" :Sem Value).run P w=.ok (.tuple #[.bool true,e.key,e.val]) {w1 with heap:=w1.heap.setIfInBounds k (.mapIter (some m) clock ((gi arr idx).push e.born) clock)}:=by
   intro Cc cc h4 h5;rw[Sem.run_bind,h4];simp only[Result.andThen_ok,h5];rw[Sem.run_bind,XJ];rfl
  rw[aqZ arr idx h1] at XM XJ;have:=XM (left.map some) c (by rw[Array.size_map];exact jj) iM;simp only[Instr.next];rw[Sem.run_bind,Dh];simp only[Result.andThen_ok];rw[Sem.run_bind,gL];simp only[Result.andThen_ok,sJ,wS,gJ,iO,hem];rw[ajo,if_neg (by decide)];exact this
theorem ag2 {P:Program}{w:World}{k m:Nat}{arr:Array MapEntry}{clock:Nat}{idx:List Nat}{i:Nat}{e:MapEntry}(hk:w.heap[k]?=some (.mapIter (some m) clock (gi arr (idx++[i])) clock))(hm:w.heap[m]?=some (.map arr clock))(hb:mP arr clock)(he:arr[i]?=some e):
 (Instr.entry (.pointer (some ⟨k,0,none⟩))).run P w=.ok (.tuple #[e.key,e.val]) w:=by
 have ajj:(gi arr (idx++[i])).back?=some e.born:=by simp[gi,he]
 have De:arr.find? (fun x=>x.born==e.born)=some e:=by
  have ah:i<arr.size:=(gj.1 he).1;have hei:arr[i]=e:=(gj.1 he).2;rw[Array.find?_eq_some_iff_getElem];refine⟨by simp,i,ah,hei,fun j hj=>?_⟩;have fW:j<arr.size:=by omega
  cases hc:(arr[j].born==e.born) with
  |false=>rfl
  |true=>
   have:=hb.2 j i arr[j] e (fB fW) he (by simpa using hc);omega
 simp[Instr.entry,getObj,Sem.run_bind,Sem.run,hk,hm,ajj,De]
theorem anP {x y z:Code}{k:Nat}{p:MP}(h:At x y k z=some p):∃i1 i2 o1 o2 o3 l,x=.region i1 p.ops1 false∧y=.cond (.tmp p.mo) .skip (.exit p.out)∧z=.region i2 p.ops2 false∧p.next=k∧p.ops1.toList=[o1,o2]∧p.ops2.toList=o3::l∧
 o1.dst=some p.nx∧o1.guard=none∧o1.op=.next (.tmp p.it) false∧o2.dst=some p.mo∧o2.guard=none∧o2.op=.extract (.tmp p.nx) 0∧o3.dst=some p.pr∧o3.guard=none∧o3.op=.entry (.tmp p.it)∧kX p.pr l []=some p.aa∧
 p.it≠p.nx∧p.it≠p.mo∧p.it≠p.pr∧p.nx≠p.mo∧p.out≠cN∧k≠cN:=by
 unfold At at h;split at h
 case h_2=>cases h
 rename_i i1 ops1 mo out i2 ops2;split at h
 case h_2=>cases h
 rename_i o1 o2 o3 l e1 e2;split at h
 case h_2=>cases h
 rename_i nx it mo' Z0 pr YK d1 g1 q1 d2 g2 q2 d3 g3 q3;rw[oV] at h;split at h
 case isFalse=>cases h
 rename_i hc;simp only[aA] at h;obtain⟨aa,h4,rfl⟩:=h;simp only[ao,gS] at hc;obtain⟨⟨⟨⟨⟨⟨⟨⟨c1,c2⟩,c3⟩,c4⟩,c5⟩,c6⟩,c7⟩,c8⟩,c9⟩:=hc;have ne:∀{a b:Nat},Nat.beq a b=false→a≠b:=fun h e=>by subst e;simp at h
 obtain rfl:=az c1;obtain rfl:=az c2;obtain rfl:=az c3;exact⟨i1,i2,o1,o2,o3,l,rfl,rfl,rfl,rfl,e1,e2,d1,g1,q1,d2,g2,q2,d3,g3,q3,h4,ne c4,ne c5,ne c6,ne c7,ne c8,ne c9⟩
theorem JG {pr:Nat}:∀(l:List Oper) {acc aa:List (Nat×Nat)},kX pr l acc=some aa→∀x,x∈acc→x∈aa
 |[],acc,aa,h,x,hx=>by simp only[kX,aU] at h;subst h;exact hx
 |o::l,acc,aa,h,x,hx=>by
  simp only[kX] at h;split at h
  case h_2=>cases h
  rw[oV] at h;split at h
  ·cases h
  split at h
  ·rw[oV] at h;split at h
   ·exact JG l h x (jH _ hx)
   ·cases h
  ·simp only[av] at h;obtain⟨i,_,h⟩:=h;exact JG l h x (jH _ hx)
  ·simp only[av] at h;obtain⟨i,_,h⟩:=h;exact JG l h x (jH _ hx)
  ·cases h
theorem D5:∀{l:List (Nat×Nat)} {t i:Nat},uV l t=some i→(t,i)∈l
 |x::l,t,i,h=>by
  simp only[uV] at h;cases hb:Nat.beq x.1 t<;>simp only[hb,cond_true,cond_false] at h
  ·exact dj _ (D5 h)
  ·cases h;have:=az hb;subst this;exact dq ..
theorem Zp:∀{l:List (Nat×Nat)} {t:Nat},(uV l t).isSome=false→∀x,x∈l→x.1≠t
 |y::l,t,h,x,hx=>by
  simp only[uV] at h;cases hb:Nat.beq y.1 t<;>simp only[hb,cond_true,cond_false] at h
  ·rcases cD.1 hx with e|hx
   ·subst e;intro e;subst e;simp at hb
   ·exact Zp h x hx
  ·cases h
theorem Qp {pr:Nat}:∀(l:List Oper) {acc aa:List (Nat×Nat)},kX pr l acc=some aa→(∀x,x∈acc→x.2≤1)→∀x,x∈aa→x∈acc∨(x.2≤1∧∃o,o∈l∧o.dst=some x.1)
 |[],acc,aa,h,_,x,hx=>by simp only[kX,aU] at h;subst h;exact .inl hx
 |o::l,acc,aa,h,ha,x,hx=>by
  simp only[kX] at h;split at h
  case h_2=>cases h
  rename_i d hd kj;rw[oV] at h;split at h
  ·cases h
  have go:∀(pt:Nat),pt≤1→kX pr l (acc++[(d,pt)])=some aa→x∈acc∨(x.2≤1∧∃o',o'∈o::l∧o'.dst=some x.1):=by
   intro pt uG hp
   rcases Qp l hp (fun y hy=>by
        rcases dy.1 hy with h|h
        ·exact ha y h
        ·simp at h;subst h;exact uG) x hx with h|⟨h1,o',h2,h3⟩
   ·rcases dy.1 h with h|h
    ·exact .inl h
    ·simp at h;subst h;exact .inr ⟨uG,o,dq ..,hd⟩
   ·exact .inr ⟨h1,o',dj _ h2,h3⟩
  split at h
  ·rw[oV] at h;split at h
   case isFalse=>cases h
   rename_i iM;simp only[ao] at iM;exact go _ (jI iM.2) h
  ·simp only[av] at h;obtain⟨i,hi,h⟩:=h;exact go i (ha _ (D5 hi)) h
  ·simp only[av] at h;obtain⟨i,hi,h⟩:=h;exact go i (ha _ (D5 hi)) h
  ·cases h
theorem AP {P:Program}{ops:Array Oper}{i:Nat}{rest:List Nat}{o:Oper}{rd:Option Nat}{a:Act}{w w':World}{Q:Exit→Act→World→Prop}{v:Value}(ho:ops[i]?=some o)(hg:o.guard=none)(bp:ox o.op=true)(hx:(execOp a.eval o).run P w=.ok (.value v) w')
 (k:wpOpsIn (FR rd) 0 P ops Q rest (a.put o.dst v) w'):wpOpsIn (FR rd) 0 P ops Q (i::rest) a w:=by
 simp only[wpOpsIn,ho];rw[if_pos (by simp[Region.wanted,hg])];exact aby bp (by unfold Oper.wp;rw[hx];exact k)
theorem aqV {ops:Array Oper}{o:Oper}(ho:o∈ops.toList)(a:Act)(v:Value):SameBut (qH ops) a (a.put o.dst v):=by
 have:=SameBut.put a o.dst v a.defers;exact this.mono fun t e=>⟨o,ho,e⟩
theorem AV {a:Act}{d:Nat}{v:Value}(h:d<a.tmps.size):(a.put (some d) v).tmps.getD d undef=v:=by rw[xZ];simp[h]
theorem JP {a:Act}{d t:Nat}{v:Value}(h:t≠d):(a.put (some d) v).tmps.getD t undef=a.tmps.getD t undef:=by rw[xZ];simp[h]
theorem put_defers (a:Act)(d:Option Nat)(v:Value):(a.put d v).defers=a.defers:=by cases d<;>rfl
def Eg (kv vv:Value)(i:Nat):Value:=if i=0 then kv else vv
theorem abE {P:Program}{ops:Array Oper}{rd:Option Nat}{Q:Exit→Act→World→Prop}{pr:Nat}{kv vv:Value}{w:World}:∀(l:List Oper) (acc aa:List (Nat×Nat)) (i:Nat) (a:Act),kX pr l acc=some aa→ops.toList.drop i=l→(∀x,x∈aa→x.1<a.tmps.size)→a.tmps.getD pr undef=.tuple #[kv,vv]→
 (∀x,x∈acc→a.tmps.getD x.1 undef=Eg kv vv x.2)→(∀a',SameBut (qH ops) a a'→a'.defers=a.defers→(∀x,x∈aa→a'.tmps.getD x.1 undef=Eg kv vv x.2)→Q .normal a' w)→wpOpsIn (FR rd) 0 P ops Q (List.range' i (ops.size-i)) a w
 |[],acc,aa,i,a,h,hl,ah,pS,m4,hQ=>by
  simp only[kX,aU] at h;subst h;have:ops.size-i=0:=by
    have:=Ll.1 hl;simp at this;omega
  rw[this];exact hQ a (.refl _ _) rfl m4
 |o::l,acc,aa,i,a,h,hl,ah,pS,m4,hQ=>by
  have hi:i<ops.toList.length:=by
   refine Vw fun hle=>?_;rw[Ll.2 hle] at hl;cases hl
  rw[Lj hi] at hl;have ho:ops[i]?=some o:=by
   have:ops.toList[i]=o:=by injection hl
   rw[←this];simp at hi ⊢
  have z8:ops.toList.drop (i+1)=l:=by injection hl
  have aK:ops.size-i=(ops.size-(i+1))+1:=by simp at hi;omega
  rw[aK,F6];have cQ:o∈ops.toList:=by simpa using gR ho
  simp only[kX] at h;split at h
  case h_2=>cases h
  rename_i d hd kj;rw[oV] at h;split at h
  ·cases h
  rename_i hc;simp only[gC,not_or,Bool.not_eq_true] at hc;have hdp:pr≠d:=fun e=>by subst e;simp at hc
  have Xu:∀x,x∈acc→x.1≠d:=Zp hc.2;have go:∀(pt:Nat) (v:Value),kX pr l (acc++[(d,pt)])=some aa→ox o.op=true→v=Eg kv vv pt→(execOp a.eval o).run P w=.ok (.value v) w→wpOpsIn (FR rd) 0 P ops Q (i::List.range' (i+1) (ops.size-(i+1))) a w:=by
   intro pt v hp bp hv hx;have NB:d<a.tmps.size:=ah _ (JG l hp (d,pt) (by simp));refine AP ho kj bp hx ?_;have ko:=aqV cQ a v;rw[hd] at ko ⊢;refine abE l _ aa (i+1) _ hp z8 (fun x hx=>by rw[ko.size];exact ah x hx) (by rw[JP hdp];exact pS) (fun x hx=>?_) (fun a' h1 h2 h3=>hQ a' (ko.trans h1) (h2.trans (put_defers _ _ _)) h3);rcases dy.1 hx with hx|hx
   ·rw[JP (Xu x hx)];exact m4 x hx
   ·simp at hx;subst hx;rw[AV NB];exact hv
  split at h
  ·rename_i t pt e;rw[oV] at h;split at h
   case isFalse=>cases h
   rename_i iM;simp only[ao] at iM;have ht:=az iM.1;have uG:=jI iM.2;subst ht;have bQ:a.eval (.tmp t)=.tuple #[kv,vv]:=by simpa [Act.eval] using pS
   refine go pt (Eg kv vv pt) h (by rw[e];rfl) rfl ?_;rcases(by omega:pt=0∨pt=1) with rfl|rfl<;>simp[execOp,e,bQ,Instr.extract,Eg]
  ·rename_i t e;simp only[av] at h;obtain⟨pt,wS,h⟩:=h;have:=m4 _ (D5 wS);exact go pt (a.eval (.tmp t)) h (by rw[e];rfl) (by simpa [Act.eval] using this) (by simp[execOp,e])
  ·rename_i t e;simp only[av] at h;obtain⟨pt,wS,h⟩:=h;have:=m4 _ (D5 wS);exact go pt (a.eval (.tmp t)) h (by rw[e];rfl) (by simpa [Act.eval] using this) (by simp[execOp,e])
  ·cases h
theorem Pb (ids:List Nat)(J j:Nat)(S:Snap):((S.kill ids J).st ids).o j=if j=J then .dead else(S.st ids).o j:=by
 show dw ids (xj ids J S.os) j=_;have:∀(is:List Nat) (os:List Ob),dw is (xj is J os) j=if j=J then .dead else dw is os j:=by
  intro is
  induction is with
  |nil=>intro os;simp[xj,dw]
  |cons i is ih=>
   intro os;cases os with
   |nil=>simp[xj,dw]
   |cons o os=>
    simp only[xj,dw];cases hb:Nat.beq i j
    ·simp only[cond_false];exact ih os
    ·have:=az hb;subst this;simp only[cond_true];by_cases cU:i=J
     ·subst cU;simp
     ·simp[ej cU,cU]
 exact this ids S.os
theorem VT {N:Nat}{id:Nat}(Iv:id≠cN){rm:Bool}{wr:Nat→Prop}{a:Act}{q:Res2}{x xi:Out}(qV:(∀t,t∈q.pc.modR→aw q.mr t=true)∧∀j,j∈q.pc.modO→j∈q.mo)(dK:q.pc.ev Φ N ρ=some xi)(bQ:(gm ids id q).pc.ev Φ N ρ=some x){e:Exit}{a':Act}{w':World}
 (fH:gG C w0 σ0 ids fn s rm wr a q.out q.ex xi e a' w'):Exit.inBlock id (gG C w0 σ0 ids fn s rm wr a (gm ids id q).out (gm ids id q).ex x) e a' w':=by
 have XF:∀bX S1,(bX,S1)∈q.ex→bX≠id→(bX,S1)∈q.ex.filter fun x=> !Nat.beq x.1 id:=fun bX S1 hm ay=>cY.2 ⟨hm,by simp[ej ay]⟩;have main:∀(o:Option Snap) (lr lo:List Nat),ou id q.ex q.out=o→(∀M,o=some M→lr=ku M q.mr∧lo=ju ids M q.mo)→(PC.block id lr lo q.pc).ev Φ N ρ=some x→
        Exit.inBlock id (gG C w0 σ0 ids fn s rm wr a o (q.ex.filter fun x=> !Nat.beq x.1 id) x) e a' w':=by
  intro o lr lo ho hl bQ;simp only[PC.ev] at bQ;rw[dK] at bQ
  have fin:∀{ρ1:Env} {a':Act} {w':World},(∃M,o=some M∧Good C w0 σ0 (M.st ids) ρ1 (fun _=>False) a' w')→xi.env?=some ρ1→x=.next (ρ.join lr lo ρ1)→SameBut wr a a'→
   gG C w0 σ0 ids fn s rm wr a o (q.ex.filter fun x=> !Nat.beq x.1 id) x .normal a' w':=by
        intro ρ1 a' w' hM wL hx fj;obtain⟨M,hM,sM⟩:=hM;obtain⟨l1,l2⟩:=hl M hM;subst l1 l2;exact⟨_,M,hx,hM,fj,sM.joined (PC.ev_but q.pc ρ _ ρ1 dK wL) qV.1 qV.2⟩
  cases e with
  |normal=>
   obtain⟨ρ1,S2,e1,e2,fj,gL⟩:=fH;subst e1;simp only[aU] at bQ;refine fin ?_ rfl bQ.symm fj;rw[e2] at ho;obtain⟨M,h1,h2⟩:=Jg (id:=id) q.ex gL;rw[ho] at h1;exact⟨M,h1,h2⟩
  |exit bX=>
   obtain⟨ρ1,S2,e1,e0,e2,fj,gL⟩:=fH;subst e1;simp only at bQ;show if bX=id then _ else _;by_cases cG:bX=id
   ·subst cG;simp only[gE,cond_true,aU] at bQ;simp only[if_true];refine fin ?_ rfl bQ.symm fj;rw[←ho];exact Pt gL q.ex q.out e2
   ·simp only[ej cG,cond_false,aU] at bQ;subst bQ;simp only[cG,if_false];exact⟨ρ1,S2,rfl,e0,XF _ _ e2 cG,fj,gL⟩
  |ret=>
   cases rm with
   |false=>
    have hy:=fH;obtain⟨d,e1,_⟩:=hy;subst e1;simp only[aU] at bQ;subst bQ;exact fH
   |true=>
    obtain⟨ρ1,S2,e1,e2,fj,gL⟩:=fH;subst e1;simp only[ej (fun e=>Iv e.symm:cN≠id),cond_false,aU] at bQ;subst bQ;exact⟨ρ1,S2,rfl,XF _ _ e2 (fun e=>Iv e.symm),fj,gL⟩
  |_=>exact fH.elim
 unfold gm at bQ ⊢;cases hm:ou id q.ex q.out with
 |none=>
  simp only[hm] at bQ ⊢;exact main none [] [] hm (fun M e=>by cases e) bQ
 |some M=>
  simp only[hm] at bQ ⊢;exact main (some M) _ _ hm (fun M' e=>by cases e;exact⟨rfl,rfl⟩) bQ
theorem VR {N id:Nat}{q:Res2}{x:Out}(bQ:(gm ids id q).pc.ev Φ N ρ=some x):∃xi,q.pc.ev Φ N ρ=some xi:=by
 unfold gm at bQ;cases hm:ou id q.ex q.out<;>simp only[hm,PC.ev] at bQ<;>cases dK:q.pc.ev Φ N ρ<;>first|exact⟨_,rfl⟩|(rw[dK] at bQ;cases bQ)
theorem adk {es:List (D×D)}{idx:List Nat}(hn:idx.Nodup)(ah:∀i,i∈idx→i<es.length)(aO:∀i,i<es.length→i∈idx):(gz es idx).Perm (il (.map es)):=by
 have h1:idx.Perm (List.range es.length):=by
  rw[List.perm_ext_iff_of_nodup hn Lu];intro i;rw[bP];exact⟨ah i,aO i⟩
 have h2:gz es (List.range es.length)=il (.map es):=by
  refine List.ext_getElem (by simp[gz,il,D.m]) fun i g1 g2=>?_;have hi:i<es.length:=by simpa [gz] using g1
  simp[gz,il,D.m,bA hi]
 rw[←h2];exact h1.map _
theorem aq0 {es:List (D×D)}{idx:List Nat}(hn:idx.Nodup)(ah:∀i,i∈idx→i<es.length):∃rest,(gz es idx++rest).Perm (il (.map es)):=by
 refine⟨gz es ((List.range es.length).filter fun i=> !idx.contains i),?_⟩;have e:gz es idx++gz es ((List.range es.length).filter fun i=> !idx.contains i)=gz es (idx++(List.range es.length).filter fun i=> !idx.contains i):=by simp[gz]
 rw[e];refine adk ?_ (fun i hi=>?_) (fun i hi=>?_)
 ·rw[BN];refine⟨hn,Lu.filter _,fun a ha b hb e=>?_⟩;subst e;have:=(cY.1 hb).2;simp[ha] at this
 ·rcases dy.1 hi with h|h
  ·exact ah i h
  ·exact bP.1 (cY.1 h).1
 ·by_cases h:i∈idx
  ·exact jH _ h
  ·exact j8 _ (cY.2 ⟨bP.2 hi,by simp[h]⟩)
theorem adl (es:List (D×D))(idx:List Nat){i:Nat}{p:D×D}(h:es[i]?=some p):gz es (idx++[i])=gz es idx++[.tup [p.1,p.2]]:=by simp[gz,h]
theorem anR {N:Nat}{x y z code:Code}{k:Nat}{p:MP}(hp:At x y k z=some p)(ihc:vX C Φ fn s n ids R N code){rm:Bool}{S:Snap}{r:Res2}
 (hr:Au ids n p (cv x++(cv y++(cv z++cv code))) (fun S=>comp C fn s n ids R rm code S) S=some r) {rd:Option Nat} {wr:Nat→Prop} {x0:Out} (gw:rm=false→rd=none∧σ0.fin) (hC:CtxOK C σ0) (hY:pf C Φ w0 σ0)
 (ic:∀t,t∈cv (.loop (.seq x (.seq y (.block k (.seq z code)))))→wr t) (hn:a.tmps.size=n) (hg:Good C w0 σ0 (S.st ids) ρ (fun _=>False) a w) (he:r.pc.ev Φ N ρ=some x0):
 (Code.loop (.seq x (.seq y (.block k (.seq z code))))).wpIn (FR rd) 0 C.P (gG C w0 σ0 ids fn s rm wr a r.out r.ex x0) a w:=by
 obtain⟨i1,i2,o1,o2,o3,l,rfl,rfl,rfl,hk,e1,e2,d1,g1,q1,d2,g2,q2,d3,g3,q3,ng,n1,n2,n3,n4,n5,n6⟩:=anP hp;subst hk;unfold Au at hr;split at hr
 case h_2=>cases hr;exact absurd he (mH _ _ _ _)
 rename_i J hJ;split at hr
 case h_2=>cases hr;exact absurd he (mH _ _ _ _)
 rename_i kt et IA;simp only at hr;split at hr
 case h_2=>cases hr;exact absurd he (mH _ _ _ _)
 rename_i q hq;rw[oV] at hr;split at hr
 case isFalse=>cases hr;exact absurd he (mH _ _ _ _)
 rename_i qQ;cases hr;generalize I1:cv (.region i1 p.ops1 false)++(cv (.cond (.tmp p.mo) .skip (.exit p.out))++(cv (.region i2 p.ops2 false)++cv code))=ws at*;simp only[ao,gS] at qQ;obtain⟨⟨⟨⟨⟨⟨⟨⟨c1,c2⟩,c3⟩,c4⟩,c5⟩,c6⟩,c7⟩,c8⟩,c9⟩:=qQ;have hex:q.2.ex=[]:=tO.1 c1;have Xa:J∉q.2.mo:=fun h=>by rw[(pX _ _).2 h] at c2;cases c2
 simp only[YH,ao,gS] at c3;obtain⟨⟨c3a,c3b⟩,c3c⟩:=c3;have ak7:q.1.rs.getD p.it .none=.obj J 0:=Sh.beq_eq _ _ c3a;have IN:dw ids q.1.os J=.it kt et:=Ob.beq_eq _ _ c3b;have akZ:∀t,t∈p.aa.map (·.1)→t<n:=fun t ht=>by have:=bJ.1 c5 t ht;rwa [ix] at this
 have m9:p.nx<n:=by rwa [ix] at c6
 have N2:p.mo<n:=by rwa [ix] at c7
 have pS:p.pr<n:=by rwa [ix] at c8
 have Dw:=az c9;obtain⟨hs,zX,aY⟩:=DZ (C:=C) (w0:=w0) (σ0:=σ0) (ids:=ids) 8 hq;simp only[aA] at hs;obtain⟨q0,wY,jo⟩:=hs;obtain⟨qS,qR⟩:=q;simp only at*;subst jo;generalize hm:xq ws=m at*;generalize wT:ju ids qS (gm ids p.next q0).mo=lo at*;have N4:=VS (ids:=ids) (id:=p.next) (tZ code wY);have ako:∀j,j∈lo→j∈(gm ids p.next q0).mo:=fun j hj=>by rw[←wT] at hj;exact Av hj
 have ay0:J∉lo:=fun h=>Xa (ako J h);have DF:∃Bz,JJ ((gm ids p.next q0).pc.ev Φ N) ρ J (p.aa.map (·.1)) (p.aa.map (·.2)) lo Bz∧x0=.exit p.out (ρ.put [] [] lo Bz):=by
  simp only[PC.ev] at he;cases pS:JK ((gm ids p.next q0).pc.ev Φ N) ρ J (p.aa.map (·.1)) (p.aa.map (·.2)) lo with
  |none=>rw[pS] at he;cases he
  |some y=>
   obtain⟨Bz,h1,rfl⟩:=xE.1 pS;rw[pS] at he;simp only[aU] at he;exact⟨Bz,h1,he.symm⟩
 obtain⟨Bz,⟨DB,ai9⟩,hx0⟩:=DF;generalize jm:(ρ.o J).tget 1=es at*
 have fm:∀o,o∈p.ops1.toList→∀d,o.dst=some d→d∈ws:=fun o ho d hd=>by
  rw[←I1];exact jH _ (tQ.2 ⟨o,ho,hd⟩)
 have db:∀o,o∈p.ops2.toList→∀d,o.dst=some d→d∈ws:=fun o ho d hd=>by
  rw[←I1];exact j8 _ (j8 _ (jH _ (tQ.2 ⟨o,ho,hd⟩)))
 have hwc:∀d,d∈cv code→d∈ws:=fun d hd=>by
  rw[←I1];exact j8 _ (j8 _ (j8 _ hd))
 have OX:∀t,t∈ws→wr t:=fun t ht=>ic t (by rw[←I1] at ht;exact ht);have sV:∀t,t∈ws→aw m t=true:=fun t ht=>by rw[←hm];exact VQ ht
 have N0:∀t,aw m t=true→((qS.mask m).st ids).r t=.none:=fun t ht=>by rw[D6,if_pos ht]
 have aku:∀t,isNone (((qS.mask m).st ids).r t)=false→aw m t=false:=fun t ht=>by
  cases hb:aw m t with
  |false=>rfl
  |true=>rw[N0 t hb] at ht;cases ht
 have gM:((qS.mask m).st ids).r p.it=.obj J 0:=by
  rw[D6,c3c];show cA (qS.rs.getD p.it .none)=_;rw[ak7];rfl
 have cS:((qS.mask m).st ids).o J=.it kt et:=IN;have jT:p.ops1[0]?=some o1:=by rw[←BE,e1];rfl
 have eH:p.ops1[1]?=some o2:=by rw[←BE,e1];rfl
 have ho3:p.ops2[0]?=some o3:=by rw[←BE,e2];rfl
 have als:List.range p.ops1.size=[0,1]:=by
  have:p.ops1.size=2:=by rw[←BF,e1];rfl
  rw[this];rfl
 have IX:List.range p.ops2.size=0::List.range' 1 (p.ops2.size-1):=by
  have:p.ops2.size=l.length+1:=by rw[←BF,e2];rfl
  rw[this,Lv,F6];rfl
 have key:∀(kk:Nat) (done vo:List D) (a':Act) (w':World),SameBut wr a a'→Good C w0 σ0 ((qS.mask m).st ids) ((ρ.put [] [] lo vo).setO J (.tup [.list done,es])) (fun _=>False) a' w'→
  (∀ys,(done++ys).Perm (il es)→lE ((gm ids p.next q0).pc.ev Φ N) ρ J es (p.aa.map (·.1)) (p.aa.map (·.2)) lo ys done vo=some Bz)→done.length+kk=(il es).length+1→
  Code.roundsIn (FR rd) 0 C.P (.seq (.region i1 p.ops1 false) (.seq (.cond (.tmp p.mo) .skip (.exit p.out)) (.block p.next (.seq (.region i2 p.ops2 false) code)))) (gG C w0 σ0 ids fn s rm wr a none [(p.out,(qS.mask m).kill ids J)] x0) kk a' w':=by
  intro kk
  induction kk with
  |zero=>
   intro done vo a' w' _ fG _ hlen;exfalso;obtain⟨σ,own,hv,h⟩:=fG;have bf:=h.objs J;rw[cS] at bf;obtain⟨kb,mb,arr,clock,fD,idx,h1,h2,h3,ay,h4,h5,h6,h7,h8,h9,jM,nU⟩:=bf;simp only[Env.setO,aL] at h6;injection h6 with h6;injection h6 with wD wE;injection wE with wE _;injection wD with wD;subst wD;subst wE;have hle:idx.length≤arr.size:=by
        have:=List.Nodup.length_le_of_subset h7 (l₂:=List.range arr.size) (fun i hi=>bP.2 (h8 i hi));simpa using this
   simp[gz,il,D.m] at hlen;omega
  |succ kk ih=>
   intro done vo a' w' ko fG aO hlen;rw[roundsIn_succ];obtain⟨σ,own,hv,h⟩:=fG;have bf:=h.objs J;rw[cS] at bf;obtain⟨kb,mb,arr,clock,fD,idx,h1,h2,h3,ay,h4,h5,h6,h7,h8,h9,jM,nU⟩:=bf;simp only[Env.setO,aL] at h6;injection h6 with h6;injection h6 with wD wE;injection wE with wE _;injection wD with wD;subst wD;subst wE;have fY:=h.regs p.it;rw[gM] at fY;have Iw:a'.eval (.tmp p.it)=.pointer (some ⟨kb,0,none⟩):=by
        have:=fY.2 rfl;simp only[Act.eval];rw[this];exact h1
   have q6:a'.tmps.size=n:=ko.size.trans hn;obtain⟨w1,Yt,IK⟩:=aob (P:=C.P) h5 h4 jM h8 o1.type;have DS:Below w'.heap.size w' w1:=by rcases Yt with rfl|rfl;exact .refl _ _;exact⟨rfl,rfl,rfl,bk _,fun _ _=>rfl⟩
   have Ak:w1.heap=w'.heap:=by rcases Yt with rfl|rfl<;>rfl
   have XS:kb<w'.heap.size:=(h.owns kb J h2).2.1;have l7:mb<w'.heap.size:=(h.owns mb J h3).2.1;refine wpIn_seq (wpIn_region ?_);rw[als];rcases IK with⟨NJ,ak⟩|⟨i,e,sN,Iu,ak⟩
   ·
        refine AP jT g1 (by rw[q1];rfl) (v:=.tuple #[.bool false]) (w':=w1) (by simp only[execOp,q1,Iw];simp[ak]) ?_;rw[d1]
        refine AP eH g2 (by rw[q2];rfl) (v:=.bool false) (w':=w1) (by
         have:(a'.put (some p.nx) (.tuple #[.bool false])).eval (.tmp p.nx)=.tuple #[.bool false]:=by simp only[Act.eval];exact AV (by omega)
         simp only[execOp,q2,this];simp[Instr.extract]) ?_
        rw[d2];simp only[wpOpsIn]
        have w7:SameBut (fun t=>t∈ws) a' ((a'.put (some p.nx) (.tuple #[.bool false])).put (some p.mo) (.bool false)):=by
         have s1:=SameBut.put a' (some p.nx) (.tuple #[.bool false]) a'.defers;have s2:=SameBut.put (a'.put (some p.nx) (.tuple #[.bool false])) (some p.mo) (.bool false) (a'.put (some p.nx) (.tuple #[.bool false])).defers;exact(s1.mono fun t e=>by cases e;exact fm o1 (by rw[e1];simp) _ d1).trans (s2.mono fun t e=>by cases e;exact fm o2 (by rw[e1];simp) _ d2)
        generalize wG:(a'.put (some p.nx) (.tuple #[.bool false])).put (some p.mo) (.bool false)=a1 at w7;have N3:a1.eval (.tmp p.mo)=.bool false:=by
         rw[←wG];simp only[Act.eval];exact AV (by rw[size_put];omega)
        have nY:a1.defers=a'.defers:=by rw[←wG,put_defers,put_defers]
        refine wpIn_seq (wpIn_cond_false N3 (wpIn_exit ?_));have akU:(gz fD idx++[]).Perm (il (.map fD)):=by
         rw[lf];exact adk h7 (fun i hi=>by rw[h9];exact h8 i hi) (fun i hi=>NJ i (by omega))
        have Ys:=aO [] akU;simp only[lE,aU] at Ys;subst Ys;refine⟨_,_,hx0,n5,qx.2 rfl,ko.trans (w7.mono OX),?_⟩;refine⟨σ,own,hv,?_⟩
        refine h.step (S':=((qS.mask m).kill ids J).st ids) (ρ':=ρ.put [] [] lo vo) (A':=fun _=>False) (fun j=>j=J) nY (.refl σ) (h.ok.below DS) (fun _ _ _ hx=>.inl hx) (fun _ _ hx=>.inl hx) (DS.mono h.below.size) ⟨fun _=>bk _,fun _ _=>rfl⟩
         (fun j hj=>⟨by rw[Pb,if_neg hj],by simp[Env.setO,bq _ _ hj],rfl,fun b hb=>⟨hb,by rw[Ak]⟩⟩) (fun j hj=>?_) (fun b j hb=>?_) (fun _=>id) (fun t=>?_) (fun _ hf=>hf.elim) (fun b hb _=>by rw[Ak]) (fun b j hb=>.inl ⟨j,hb⟩) (fun j hj=>?_)
        ·rw[Pb,if_pos hj];trivial
        ·obtain⟨b1,b2,b3,b4⟩:=h.owns b j hb;exact⟨b1,by rw[Ak];exact b2,b3,b4⟩
        ·by_cases ht:t∈ws
         ·refine .inr ⟨?_,fun gs s' e=>absurd e (Snap.noOpt _ _ t gs s')⟩;have:(((qS.mask m).kill ids J).st ids).r t=.none:=N0 t (sV t ht);rw[this];trivial
         ·exact .inl ⟨rfl,w7.get t ht,rfl⟩
        ·rw[Pb,if_pos hj];intro e;cases e
   ·
        obtain⟨pd,On⟩:∃pd,fD[i]?=some pd:=⟨_,bA (by rw[h9];exact(gj.1 sN).1)⟩
        obtain⟨bl,bE⟩:=nU i e pd sN On;generalize Al:({w1 with heap:=w1.heap.setIfInBounds kb (.mapIter (some mb) clock (gi arr (idx++[i])) clock)}:World)=w2 at ak;have Yu:w2.heap[kb]?=some (.mapIter (some mb) clock (gi arr (idx++[i])) clock):=by rw[←Al];simp[Ak,XS]
        have Am:∀b,b≠kb→w2.heap[b]?=w'.heap[b]?:=fun b hb=>by rw[←Al];simp only[Ak];rw[U8 (tS hb)]
        have azv:w2.heap.size=w'.heap.size:=by rw[←Al];simp[Ak]
        have Yv:w2.heap[mb]?=some (.map arr clock):=by rw[Am mb (tS ay)];exact h4
        refine AP jT g1 (by rw[q1];rfl) (v:=.tuple #[.bool true,e.key,e.val]) (w':=w2) (by simp only[execOp,q1,Iw];simp[ak]) ?_;rw[d1]
        refine AP eH g2 (by rw[q2];rfl) (v:=.bool true) (w':=w2) (by
         have:(a'.put (some p.nx) (.tuple #[.bool true,e.key,e.val])).eval (.tmp p.nx)=.tuple #[.bool true,e.key,e.val]:=by simp only[Act.eval];exact AV (by omega)
         simp only[execOp,q2,this];simp[Instr.extract]) ?_
        rw[d2];simp only[wpOpsIn]
        have w7:SameBut (fun t=>t∈ws) a' ((a'.put (some p.nx) (.tuple #[.bool true,e.key,e.val])).put (some p.mo) (.bool true)):=by
         have s1:=SameBut.put a' (some p.nx) (.tuple #[.bool true,e.key,e.val]) a'.defers;have s2:=SameBut.put (a'.put (some p.nx) (.tuple #[.bool true,e.key,e.val])) (some p.mo) (.bool true) (a'.put (some p.nx) (.tuple #[.bool true,e.key,e.val])).defers;exact(s1.mono fun t e=>by cases e;exact fm o1 (by rw[e1];simp) _ d1).trans (s2.mono fun t e=>by cases e;exact fm o2 (by rw[e1];simp) _ d2)
        have XQ:(((a'.put (some p.nx) (.tuple #[.bool true,e.key,e.val])).put (some p.mo) (.bool true))).eval (.tmp p.it)=.pointer (some ⟨kb,0,none⟩):=by
         simp only[Act.eval] at Iw ⊢;rw[JP n2,JP n1];exact Iw
        generalize wG:(a'.put (some p.nx) (.tuple #[.bool true,e.key,e.val])).put (some p.mo) (.bool true)=a1 at w7 XQ;have N3:a1.eval (.tmp p.mo)=.bool true:=by
         rw[←wG];simp only[Act.eval];exact AV (by rw[size_put];omega)
        have nY:a1.defers=a'.defers:=by rw[←wG,put_defers,put_defers]
        refine wpIn_seq (wpIn_cond_true N3 (wpIn_skip ?_));refine wpIn_block (wpIn_seq (wpIn_region ?_));rw[IX];refine AP ho3 g3 (by rw[q3];rfl) (v:=.tuple #[e.key,e.val]) (w':=w2) (by simp only[execOp,q3,XQ];simp[ag2 Yu Yv jM sN]) ?_;rw[d3]
        have Yi:SameBut (fun t=>t∈ws) a1 (a1.put (some p.pr) (.tuple #[e.key,e.val])):=
         (SameBut.put a1 (some p.pr) (.tuple #[e.key,e.val]) a1.defers).mono fun t e=>by cases e;exact db o3 (by rw[e2];simp) _ d3
        have Ym:a1.tmps.size=n:=w7.size.trans q6;refine abE (kv:=e.key) (vv:=e.val) l [] p.aa 1 _ ng (by rw[e2];rfl) (fun x hx=>by rw[Yi.size,Ym];exact akZ _ (dM.2 ⟨x,hx,rfl⟩)) (AV (by rw[Ym];exact pS)) (fun x hx=>by cases hx) (fun a2 fj dI akS=>?_);have OA:SameBut (fun t=>t∈ws) a' a2:=(w7.trans Yi).trans (fj.mono fun t ⟨o,ho,hd⟩=>db o ho t hd);have ajD:a2.defers=a'.defers:=by rw[dI,put_defers,nY]
        have alo:Good C w0 σ0 (((qS.mask m).start (p.aa.map (·.1)) (p.aa.map fun x=>bif Nat.beq x.2 0 then kt else et)).st ids) ((ρ.put (p.aa.map (·.1)) ((p.aa.map (·.2)).map (D.tup [pd.1,pd.2]).tget) lo vo).setO J (.tup [.list (gz fD idx++[.tup [pd.1,pd.2]]),.map fD])) (fun _=>False) a2 w2:=by
         have C6:Below w0.heap.size w' w2:=⟨by rw[←Al];exact DS.os,by rw[←Al];exact DS.tape,by rw[←Al];exact DS.output,by omega,fun b hb=>Am b (fun e=>by subst e;have:=(h.owns b J h2).1;omega)⟩
         have jU:σ.ok w2:=by
          refine⟨fun b o v hc=>?_,fun b es hc=>?_⟩
          ·have nW:b≠kb:=fun e=>by subst e;rw[(h.owns b J h2).2.2.1 o] at hc;cases hc
           have:=h.ok.c b o v hc;simp only[World.cell?] at this ⊢;rw[Am b nW];exact this
          ·have nW:b≠kb:=fun e=>by subst e;rw[(h.owns b J h2).2.2.2] at hc;cases hc
           exact(h.ok.m b es hc).keep (Am b nW)
         have fH:∀j,((ρ.put (p.aa.map (·.1)) ((p.aa.map (·.2)).map (D.tup [pd.1,pd.2]).tget) lo vo).setO J (.tup [.list (gz fD idx++[.tup [pd.1,pd.2]]),.map fD])).o j=if j=J then .tup [.list (gz fD idx++[.tup [pd.1,pd.2]]),.map fD] else putL ρ.o lo vo j:=fun j=>by
          simp only[Env.setO,eV];rfl
         refine⟨σ,own,hv,h.step (fun j=>j=J) ajD (.refl σ) jU (fun _ _ _ hx=>.inl hx) (fun _ _ hx=>.inl hx) C6 ⟨fun _=>bk _,fun _ _=>rfl⟩
          (fun j hj=>⟨rfl,by rw[fH,if_neg hj];simp[Env.setO,bq _ _ hj,Env.put],rfl,fun b hb=>⟨hb,Am b (fun e=>by subst e;rw[h2] at hb;cases hb;exact hj rfl)⟩⟩) (fun j hj=>?_) (fun b j hb=>?_) (fun _=>id) (fun t=>?_) (fun _ hf=>hf.elim)
          (fun b hb ho=>Am b (fun e=>by subst e;rw[h2] at ho;cases ho)) (fun b j hb=>.inl ⟨j,hb⟩) (fun j hj=>?_)⟩
         ·subst hj;have:(((qS.mask m).start (p.aa.map (·.1)) (p.aa.map fun x=>bif Nat.beq x.2 0 then kt else et)).st ids).o j=.it kt et:=IN;rw[this];refine⟨kb,mb,arr,clock,fD,idx++[i],h1,h2,h3,ay,Yv,Yu,by rw[fH,if_pos rfl,adl fD idx On],?_,?_,h9,jM,nU⟩
          ·rw[BN];exact⟨h7,by simp,fun a ha b hb e=>by simp at hb;subst hb;subst e;exact Iu ha⟩
          ·intro i' cw;rcases dy.1 cw with h|h
           ·exact h8 i' h
           ·simp at h;subst h;exact(gj.1 sN).1
         ·obtain⟨b1,b2,b3,b4⟩:=h.owns b j hb;exact⟨b1,by omega,b3,b4⟩
         ·have hc:Compat ((qS.mask m).st ids) hv (((qS.mask m).start (p.aa.map (·.1)) (p.aa.map fun x=>bif Nat.beq x.2 0 then kt else et)).st ids) hv:=⟨fun _=>bk _,fun _ _=>rfl⟩
          refine .inr ⟨?_,fun gs s' e=>absurd e (Snap.noOpt _ _ t gs s')⟩;show aH C _ _ σ hv (cA ((rG (p.aa.map (·.1)) (p.aa.map fun x=>bif Nat.beq x.2 0 then kt else et) ((qS.mask m).rs.map sO)).getD t .none)) (a2.tmps.getD t undef) (putL ρ.r (p.aa.map (·.1)) ((p.aa.map (·.2)).map (D.tup [pd.1,pd.2]).tget) t);rcases R8 (p.aa.map (·.1)) (p.aa.map fun x=>bif Nat.beq x.2 0 then kt else et) ((qS.mask m).rs.map sO) (by simp) c4 t with e|⟨zz,ub⟩|⟨i',y,zz,ub,MR⟩
          ·rw[e];trivial
          ·rw[ub,AU _ _ _ _ zz];have e3:((qS.mask m).rs.map sO).getD t .none=sO ((qS.mask m).rs.getD t .none):=by
            simp only[aJ,cC];cases(qS.mask m).rs[t]?<;>rfl
           rw[e3];by_cases Yo:t∈ws
           ·have Ac:=N0 t (sV t Yo);change cA ((qS.mask m).rs.getD t .none)=.none at Ac;generalize (qS.mask m).rs.getD t .none=s' at Ac;cases s'<;>simp[cA] at Ac<;>trivial
           ·have hr:=h.regs t;change aH C _ _ σ hv (cA ((qS.mask m).rs.getD t .none)) _ (ρ.r t) at hr;rw[OA.get t Yo];generalize (qS.mask m).rs.getD t .none=s' at hr;cases s' with
            |yv=>trivial
            |opt gs s=>trivial
            |none=>trivial
            |fclo f c=>exact aH.mono' (.refl σ) hc (fun _ _ e=>by cases e) hr
            |agg l=>exact aH.mono' (.refl σ) hc (fun _ _ e=>by cases e) hr
            |dat t=>exact hr
            |obj j v=>exact aH.mono' (.refl σ) hc (fun _ _ e=>by cases e) hr
            |ptr j v o=>exact aH.mono' (.refl σ) hc (fun _ _ e=>by cases e) hr
            |eptr j v o q=>exact aH.mono' (.refl σ) hc (fun _ _ e=>by cases e) hr
          ·rw[MR];have aj4:i'<p.aa.length:=by have:=(eC.1 zz).1;simpa using this
           rw[Qx _ (p.aa.map (·.1)) _ i' t (ml c4) (by simp) zz];obtain⟨xa,ma⟩:∃xa,p.aa[i']?=some xa:=⟨_,bA aj4⟩
           simp only[cC,ma,ka,aU] at zz ub;subst zz;subst ub;rw[akS xa (lV ma)];have hd:((p.aa.map (·.2)).map (D.tup [pd.1,pd.2]).tget).getD i' .none=(D.tup [pd.1,pd.2]).tget xa.2:=by simp[aJ,ma]
           rw[hd];have h2x:xa.2≤1:=by
            rcases Qp l ng (fun x hx=>by cases hx) xa (lV ma) with h|h
            ·cases h
            ·exact h.1
           rcases(by omega:xa.2=0∨xa.2=1) with e0|e0<;>rw[e0]
           ·exact bl
           ·exact bE
         ·have:(((qS.mask m).start (p.aa.map (·.1)) (p.aa.map fun x=>bif Nat.beq x.2 0 then kt else et)).st ids).o j=.it kt et:=by rw[hj];exact IN
          rw[this];intro e;cases e
        have akT:=adl fD idx On;obtain⟨rest,uH⟩:∃rest,(gz fD idx++(D.tup [pd.1,pd.2])::rest).Perm (il (.map fD)):=by
         obtain⟨rest,hr⟩:=aq0 (es:=fD) (idx:=idx++[i]) (by rw[BN];exact⟨h7,by simp,fun a ha b hb e=>by simp at hb;subst hb;subst e;exact Iu ha⟩) (fun i' cw=>by
          rcases dy.1 cw with h|h
          ·rw[h9];exact h8 i' h
          ·simp at h;subst h;rw[h9];exact(gj.1 sN).1)
         rw[akT] at hr;exact⟨rest,by simpa using hr⟩
        have gZ:=aO _ uH;simp only[lE] at gZ;split at gZ
        case h_2=>cases gZ
        rename_i ρ2 Ij;obtain⟨xi,dK⟩:=VR Ij;refine wpIn_mono (ihc rm _ q0 wY rd w0 σ0 wr _ xi a2 w2 gw hC hY (fun t ht=>OX t (hwc t ht)) (OA.size.trans q6) alo dK) fun ee a3 w3 fH=>?_;have km:=VT n6 (tZ code wY) dK Ij fH;have conv:∀ee a3 w3,gG C w0 σ0 ids fn s rm wr a2 (gm ids p.next q0).out (gm ids p.next q0).ex (.next ρ2) ee a3 w3→Exit.then (Code.roundsIn (FR rd) 0 C.P (.seq (.region i1 p.ops1 false) (.seq (.cond (.tmp p.mo) .skip (.exit p.out)) (.block p.next (.seq (.region i2 p.ops2 false) code)))) (gG C w0 σ0 ids fn s rm wr a none [(p.out,(qS.mask m).kill ids J)] x0) kk) (gG C w0 σ0 ids fn s rm wr a none [(p.out,(qS.mask m).kill ids J)] x0) ee a3 w3:=by
         intro ee a3 w3 ho;cases ee with
         |normal=>
          obtain⟨ρ3,T,f1,f2,f3,f4⟩:=ho;cases f1;refine ih (gz fD idx++[.tup [pd.1,pd.2]]) (lo.map ρ2.o) a3 w3 (ko.trans ((OA.mono OX).trans f3)) ?_ (fun ys xf=>?_) (by simp at hlen ⊢;omega)
          ·have sM:Good C w0 σ0 (qS.st ids) ρ2 (fun _=>False) a3 w3:=by
            have:=f4.meet2 (x:=qS)
            rwa [zX T f2] at this
           obtain⟨σ3,xB,DQ,eF⟩:=sM;have Nw:=PC.ev_but _ _ _ ρ2 Ij rfl;refine⟨σ3,xB,DQ,(eF.maskR m).env (Snap.noOpt _ _) (fun t ht=>?_) (fun j hj=>?_)⟩
           ·have Ac:=aku t ht
            have cR:t∉(gm ids p.next q0).pc.modR:=fun fg=>by
                 have:=N4.1 t fg;have h2:aw (Nat.lor m (gm ids p.next q0).mr) t=true:=by rw[eY,this,nH]
                 rw[Dw,Ac] at h2;cases h2
            rw[Nw.r t cR]
            have qW:t∉p.aa.map (·.1):=fun aT=>by
                 have:aw m t=true:=by
                  refine sV t ?_;obtain⟨xa,ma,rfl⟩:=dM.1 aT;rcases Qp l ng (fun x hx=>by cases hx) xa ma with h|⟨_,o,ho,hd⟩
                  ·cases h
                  ·exact db o (by rw[e2];exact dj _ ho) _ hd
                 rw[Ac] at this;cases this
            show ρ.r t=putL ρ.r (p.aa.map (·.1)) _ t;rw[AU _ _ _ _ qW]
           ·have hjd:oq (dw ids qS.os j)=false:=hj;show bY (putL ρ.o lo (lo.map ρ2.o)) J _ j=ρ2.o j;by_cases z7:j=J
            ·subst z7;rw[aL,Nw.o j (fun fg=>Xa (N4.2 j fg))];simp[Env.setO,aL]
            ·rw[bq _ _ z7,tl];split
             ·rfl
             ·rename_i fW;have cR:j∉(gm ids p.next q0).pc.modO:=fun fg=>fW (by rw[←wT];exact cY.2 ⟨N4.2 j fg,by rw[hjd];rfl⟩);rw[Nw.o j cR];simp only[Env.setO,bq _ _ z7];exact(Qy _ _ _ _ fW).symm
          ·have:=aO ((D.tup [pd.1,pd.2])::ys) (by simpa using xf);simp only[lE,Ij] at this;exact this
         |exit id=>obtain⟨ρ3,T,f1,_⟩:=ho;cases f1
         |ret=>
          cases rm with
          |false=>obtain⟨d,f1,_⟩:=ho;cases f1
          |true=>obtain⟨ρ3,T,f1,_⟩:=ho;cases f1
         |_=>exact ho.elim
        cases ee with
        |exit id=>
         simp only[Exit.inBlock] at km;show if id=p.next then _ else _;split
         ·rename_i cG;rw[if_pos cG] at km;exact conv .normal a3 w3 km
         ·rename_i cG;rw[if_neg cG] at km;exact conv (.exit id) a3 w3 km
        |normal=>exact conv .normal a3 w3 km
        |ret=>exact conv .ret a3 w3 km
        |panic c=>exact fH.elim
        |goto l=>exact fH.elim
        |_=>exact fH.elim
 have hgq:Good C w0 σ0 (qS.st ids) ρ (fun _=>False) a w:=aY hg;obtain⟨σ,own,hv,h⟩:=hgq;have bf:=h.objs J;have:(qS.st ids).o J=.it kt et:=IN;rw[this] at bf;obtain⟨kb,mb,arr,clock,fD,idx,h1,h2,h3,ay,h4,h5,h6,h7,h8,h9,jM,nU⟩:=bf;have hρJ:ρ.o J=.tup [.list [],es]:=by
  rw[h6] at DB jm;simp[D.tget] at DB jm;rw[h6,DB,←jm]
 have wL:(ρ.put [] [] lo (lo.map ρ.o)).setO J (.tup [.list [],es])=ρ:=by
  rw[Env.put_self];show Env.mk _ _=_;have:bY ρ.o J (.tup [.list [],es])=ρ.o:=by
   funext j;rw[eV];split
   ·rename_i e;rw[e];exact hρJ.symm
   ·rfl
  rw[this]
 exact wpIn_loop_rounds _ (key ((il es).length+1) [] (lo.map ρ.o) a w (.refl _ _) (by rw[wL];exact⟨σ,own,hv,h.maskR m⟩) (fun ys xf=>ai9 ys xf) (by simp))
theorem afN {N:Nat}(fE:gk C Φ)(hR:LA C n ids Φ R):∀(k:Nat) (c:Code),sizeOf c<k→vX C Φ fn s n ids R N c:=by
 intro k;refine Nat.rec (fun c h=>absurd h (Nat.not_lt_zero _)) (fun k IH=>?_) k;intro c hc;cases c with
 |skip=>
  intro rm S r h rd w0 σ0 wr ρ x a w gw hC hY ic hn hg he;simp only[comp,aU] at h;subst h;simp only[PC.ev,aU] at he;subst he;exact wpIn_skip ⟨ρ,S,rfl,rfl,.refl _ _,hg⟩
 |region id ops draw=>
  intro rm S r h rd w0 σ0 wr ρ x a w gw hC hY ic hn hg he;simp only[comp,aA] at h;obtain⟨q,hq,rfl⟩:=h;simp only[PC.ev,aA] at he;obtain⟨ρ',hr,rfl⟩:=he;exact hR id ops draw S q hq rd w0 σ0 ρ ρ' a w _ hC hY hn hg hr (fun a' w' eI fG=>⟨ρ',q.1,rfl,rfl,eI.mono (fun t ⟨o,h1,h2⟩=>ic t (tQ.2 ⟨o,h1,h2⟩)),fG⟩)
 |seq c1 c2=>
  have uP:=IH c1 (by simp at hc;omega);have me:=IH c2 (by simp at hc;omega);intro rm S r h rd w0 σ0 wr ρ x a w gw hC hY ic hn hg he;have fm:∀t,t∈cv c1→wr t:=fun t ht=>ic t (jH _ ht);have db:∀t,t∈cv c2→wr t:=fun t ht=>ic t (j8 _ ht);simp only[comp,av] at h;obtain⟨q,hq,h⟩:=h;split at h
  ·rename_i kl;cases h;refine wpIn_seq (wpIn_mono (uP rm S _ hq rd w0 σ0 wr ρ x a w gw hC hY fm hn hg he) fun e a' w' ho=>?_);cases e with
   |normal=>obtain⟨_,_,_,h2,_⟩:=ho;rw[kl] at h2;cases h2
   |_=>exact ho
  ·rename_i S1 kl;simp only[aA] at h;obtain⟨p,hp,rfl⟩:=h;simp only[PC.ev] at he
   have key:∀x1,q.pc.ev Φ N ρ=some x1→(match some x1 with|some (.next ρ')=>p.pc.ev Φ N ρ'|y=>y)=some x→(Code.seq c1 c2).wpIn (FR rd) 0 C.P (gG C w0 σ0 ids fn s rm wr a p.out (q.ex++p.ex) x) a w:=by
      intro x1 h1 h2;refine wpIn_seq (wpIn_mono (uP rm S _ hq rd w0 σ0 wr ρ x1 a w gw hC hY fm hn hg h1) fun e a' w' ho=>?_);have other:∀{e:Exit},e≠.normal→gG C w0 σ0 ids fn s rm wr a q.out q.ex x1 e a' w'→x1=x→gG C w0 σ0 ids fn s rm wr a p.out (q.ex++p.ex) x e a' w':=by
       intro e ay ho hx;subst hx;exact ho.mono (fun y hy=>jH _ hy) (.refl _ _) (fun e=>absurd e ay)
      cases e with
      |normal=>
       obtain⟨ρ1,S2,e1,e2,fj,gL⟩:=ho;subst e1;rw[kl] at e2;cases e2;simp only at h2;refine wpIn_mono (me rm S1 _ hp rd w0 σ0 wr ρ1 x a' w' gw hC hY db (fj.size.trans hn) gL h2) fun e a2 w2 eH=>?_;exact eH.mono (fun y hy=>j8 _ hy) fj (fun _=>rfl)
      |exit id=>
       refine other (by simp) ho ?_;obtain⟨ρ1,S2,e1,_⟩:=ho;subst e1;simpa using h2
      |ret=>
       refine other (by simp) ho ?_;cases rm with
       |false=>obtain⟨d,e1,_⟩:=ho;subst e1;simpa using h2
       |true=>obtain⟨ρ1,S2,e1,_⟩:=ho;subst e1;simpa using h2
      |_=>exact ho.elim
   cases h1:q.pc.ev Φ N ρ with
   |none=>rw[h1] at he;simp at he
   |some x1=>rw[h1] at he;exact key x1 h1 he
 |cond c c1 c2=>
  have uP:=IH c1 (by simp at hc;omega);have me:=IH c2 (by simp at hc;omega);intro rm S r h rd w0 σ0 wr ρ x a w gw hC hY ic hn hg he;have fm:∀t,t∈cv c1→wr t:=fun t ht=>ic t (jH _ ht);have db:∀t,t∈cv c2→wr t:=fun t ht=>ic t (j8 _ ht);simp only[comp] at h;split at h
  case h_2=>cases h;exact absurd he (mH _ _ _ _)
  rename_i e hu;simp only[av,aA] at h;obtain⟨q,hq,p,hp,rfl⟩:=h;have hb:∃b,a.eval c=.bool b∧e.ev ρ=.v (.bool b):=by
   obtain⟨σ,own,hv,hi⟩:=hg;have:=cq (gs:=[]) hi hC rfl hu;generalize a.eval c=v at this;generalize e.ev ρ=d at this;cases this with|bool b=>exact⟨b,rfl,rfl⟩
  obtain⟨b,gZ,dk⟩:=hb;have qV:=tZ c1 hq;have Dv:=tZ c2 hp;have main:∀(o:Option Snap) (lr lo:List Nat) (rx:Res2),rx=⟨.ite e lr lo q.pc p.pc,o,q.ex++p.ex,Nat.lor q.mr p.mr,jC q.mo p.mo⟩→
        (∀M,o=some M→lr=ku M (Nat.lor q.mr p.mr)∧lo=ju ids M (jC q.mo p.mo))→
        (∀S1 ρ1 a w,q.out=some S1→Good C w0 σ0 (S1.st ids) ρ1 (fun _=>False) a w→∃M,o=some M∧Good C w0 σ0 (M.st ids) ρ1 (fun _=>False) a w)→
        (∀S1 ρ1 a w,p.out=some S1→Good C w0 σ0 (S1.st ids) ρ1 (fun _=>False) a w→∃M,o=some M∧Good C w0 σ0 (M.st ids) ρ1 (fun _=>False) a w)→
        rx.pc.ev Φ N ρ=some x→(Code.cond c c1 c2).wpIn (FR rd) 0 C.P (gG C w0 σ0 ids fn s rm wr a rx.out rx.ex x) a w:=by
   intro o lr lo rx hrx hl qY ng bQ;subst hrx;simp only[PC.ev,dk,D.b_bool] at bQ;have fin:∀(ci:Code) (qi:Res2) (xi:Out),(∀y,y∈qi.ex→y∈q.ex++p.ex)→(∀t,t∈qi.pc.modR→aw (Nat.lor q.mr p.mr) t=true)→(∀j,j∈qi.pc.modO→j∈jC q.mo p.mo)→
    (∀S1 ρ1 a w,qi.out=some S1→Good C w0 σ0 (S1.st ids) ρ1 (fun _=>False) a w→∃M,o=some M∧Good C w0 σ0 (M.st ids) ρ1 (fun _=>False) a w)→
    qi.pc.ev Φ N ρ=some xi→(match some xi with|some (.next ρ')=>some (Out.next (ρ.join lr lo ρ'))|y=>y)=some x→
    ci.wpIn (FR rd) 0 C.P (gG C w0 σ0 ids fn s rm wr a qi.out qi.ex xi) a w→ci.wpIn (FR rd) 0 C.P (gG C w0 σ0 ids fn s rm wr a o (q.ex++p.ex) x) a w:=by
        intro ci qi xi hex iP l9 kl dK hx OW;refine wpIn_mono OW fun ee a' w' ho=>?_;have other:ee≠.normal→xi=x→gG C w0 σ0 ids fn s rm wr a o (q.ex++p.ex) x ee a' w':=by
         intro ay kp;subst kp;exact ho.mono hex (.refl _ _) (fun e=>absurd e ay)
        cases ee with
        |normal=>
         obtain⟨ρ1,S2,e1,e2,fj,gL⟩:=ho;subst e1;simp only[aU] at hx;subst hx;obtain⟨M,hM,sM⟩:=kl S2 ρ1 a' w' e2 gL;obtain⟨l1,l2⟩:=hl M hM;subst l1 l2;exact⟨_,M,rfl,hM,fj,sM.joined (PC.ev_but qi.pc ρ _ ρ1 dK rfl) iP l9⟩
        |exit id=>
         refine other (by simp) ?_;obtain⟨ρ1,S2,e1,_⟩:=ho;subst e1;simpa using hx
        |ret=>
         refine other (by simp) ?_;cases rm with
         |false=>obtain⟨d,e1,_⟩:=ho;subst e1;simpa using hx
         |true=>obtain⟨ρ1,S2,e1,_⟩:=ho;subst e1;simpa using hx
        |_=>exact ho.elim
   refine wpIn_cond gZ ?_;cases b with
   |true=>
    simp only[cond_true] at bQ;cases dK:q.pc.ev Φ N ρ with
    |none=>rw[dK] at bQ;simp at bQ
    |some xi=>
     rw[dK] at bQ;refine fin c1 q xi (fun y hy=>jH _ hy) (fun t ht=>?_) (fun j hj=>pY.2 (.inl (qV.2 j hj))) qY dK bQ (uP rm S _ hq rd w0 σ0 wr ρ xi a w gw hC hY fm hn hg dK);rw[eY,qV.1 t ht];rfl
   |false=>
    simp only[cond_false] at bQ;cases dK:p.pc.ev Φ N ρ with
    |none=>rw[dK] at bQ;simp at bQ
    |some xi=>
     rw[dK] at bQ;refine fin c2 p xi (fun y hy=>j8 _ hy) (fun t ht=>?_) (fun j hj=>pY.2 (.inr (Dv.2 j hj))) ng dK bQ (me rm S _ hp rd w0 σ0 wr ρ xi a w gw hC hY db hn hg dK);rw[eY,Dv.1 t ht,nH]
  have qY:∀S1 ρ1 a w,q.out=some S1→Good C w0 σ0 (S1.st ids) ρ1 (fun _=>False) a w→∃M,mj q.out p.out=some M∧Good C w0 σ0 (M.st ids) ρ1 (fun _=>False) a w:=by
   intro S1 ρ1 a w e1 g1;rw[e1];obtain⟨M,hM⟩:=@ZP S1 p.out;exact⟨M,hM,ZN g1 hM⟩
  have ng:∀S1 ρ1 a w,p.out=some S1→Good C w0 σ0 (S1.st ids) ρ1 (fun _=>False) a w→∃M,mj q.out p.out=some M∧Good C w0 σ0 (M.st ids) ρ1 (fun _=>False) a w:=by
   intro S1 ρ1 a w e1 g1;rw[e1];obtain⟨M,hM⟩:=@ZQ q.out S1;exact⟨M,hM,ZO g1 hM⟩
  cases hm:mj q.out p.out with
  |none=>
   rw[hm] at qY ng;simp only[hm] at he ⊢;exact main none [] [] _ rfl (fun M e=>by cases e) qY ng he
  |some M=>
   rw[hm] at qY ng;simp only[hm] at he ⊢;exact main (some M) _ _ _ rfl (fun M' e=>by cases e;exact⟨rfl,rfl⟩) qY ng he
 |block id c1=>
  have uP:=IH c1 (by simp at hc;omega);intro rm S r h rd w0 σ0 wr ρ x a w gw hC hY ic hn hg he;simp only[comp] at h;cases cG:Nat.beq id cN<;>simp only[cG,cond_true,cond_false] at h
  case true=>cases h;exact absurd he (mH _ _ _ _)
  have Iv:id≠cN:=fun e=>by subst e;simp at cG
  simp only[aA] at h;obtain⟨q,hq,rfl⟩:=h;obtain⟨xi,dK⟩:=VR he;exact wpIn_block (wpIn_mono (uP rm S _ hq rd w0 σ0 wr ρ xi a w gw hC hY ic hn hg dK) fun e a' w' fH=>VT Iv (tZ c1 hq) dK he fH)
 |loop c1=>
  have uP:=IH c1 (by simp at hc;omega);intro rm S r h rd w0 σ0 wr ρ x a w gw hC hY ic hn hg he;rw[Wf] at h;split at h
  ·rename_i qb DG;obtain⟨p,code,ws⟩:=qb;unfold xo at DG;split at DG
   case h_2=>cases DG
   rename_i cx cy ck cz cc;simp only[aA] at DG;obtain⟨p',aT,ep⟩:=DG;cases ep;exact anR aT (IH _ (by simp at hc;omega)) h gw hC hY ic hn hg he
  split at h
  case h_2=>cases h;exact absurd he (mH _ _ _ _)
  rename_i q hq;cases h;obtain⟨hs,zX,aY⟩:=DZ (C:=C) (w0:=w0) (σ0:=σ0) (ids:=ids) 8 hq;have qV:=tZ c1 hs;simp only[PC.ev] at he
  have hg0:Good C w0 σ0 (q.1.st ids) (ρ.put (ku q.1 q.2.mr) ((ku q.1 q.2.mr).map ρ.r) (ju ids q.1 q.2.mo) ((ju ids q.1 q.2.mo).map ρ.o)) (fun _=>False) a w:=by
   exact Good.joined (aY hg) (.refl ρ q.2.pc.modR q.2.pc.modO) qV.1 qV.2
  have key:∀(k:Nat) (ρ1:Env) (a':Act) (w:World),SameBut wr a a'→fL (q.2.pc.ev Φ N) ρ (ku q.1 q.2.mr) (ju ids q.1 q.2.mo) k ((ku q.1 q.2.mr).map ρ1.r) ((ju ids q.1 q.2.mo).map ρ1.o)=some x→
        Good C w0 σ0 (q.1.st ids) (ρ.join (ku q.1 q.2.mr) (ju ids q.1 q.2.mo) ρ1) (fun _=>False) a' w→Code.roundsIn (FR rd) 0 C.P c1 (gG C w0 σ0 ids fn s rm wr a none q.2.ex x) k a' w:=by
   intro k
   induction k with
   |zero=>intro ρ1 a' w hn hl hg;simp[fL] at hl
   |succ k ih=>
    intro ρ1 a' w ko hl hg;rw[roundsIn_succ];simp only[fL] at hl;change (match q.2.pc.ev Φ N (ρ.join (ku q.1 q.2.mr) (ju ids q.1 q.2.mo) ρ1) with|some (.next ρ')=>_|y=>y)=some x at hl;cases dK:q.2.pc.ev Φ N (ρ.join (ku q.1 q.2.mr) (ju ids q.1 q.2.mo) ρ1) with
    |none=>rw[dK] at hl;simp at hl
    |some xi=>
     rw[dK] at hl;refine wpIn_mono (uP rm _ _ hs rd w0 σ0 wr _ xi a' w gw hC hY ic (ko.size.trans hn) hg dK) fun e a2 w' fH=>?_;have other:e≠.normal→xi=x→gG C w0 σ0 ids fn s rm wr a none q.2.ex x e a2 w':=by
         intro ay kp;subst kp;exact fH.mono (fun y hy=>hy) ko (fun e=>absurd e ay)
     cases e with
     |normal=>
      obtain⟨ρ2,S2,e1,e2,fj,gL⟩:=fH;subst e1;simp only at hl;refine ih ρ2 a2 w' (ko.trans fj) hl ?_
      have sM:Good C w0 σ0 (q.1.st ids) ρ2 (fun _=>False) a2 w':=by
       have:=gL.meet2 (x:=q.1)
       rwa [zX S2 e2] at this
      refine sM.joined (mr':=ku q.1 q.2.mr++q.2.pc.modR) (mo':=ju ids q.1 q.2.mo++q.2.pc.modO) ?_ (fun t ht=>?_) (fun j hj=>?_)
      ·exact((Env.but.join ρ ρ1 _ _).mono (fun t ht=>jH _ ht) (fun t ht=>jH _ ht)).trans
        ((PC.ev_but q.2.pc _ _ ρ2 dK rfl).mono (fun t ht=>j8 _ ht) (fun t ht=>j8 _ ht))
      ·exact(dy.1 ht).elim Jh (qV.1 t)
      ·exact(dy.1 hj).elim Av (qV.2 j)
     |exit id=>
      refine other (by simp) ?_;obtain⟨ρ1,S2,e1,_⟩:=fH;subst e1;simpa using hl
     |ret=>
      refine other (by simp) ?_;cases rm with
      |false=>obtain⟨d,e1,_⟩:=fH;subst e1;simpa using hl
      |true=>obtain⟨ρ1,S2,e1,_⟩:=fH;subst e1;simpa using hl
     |_=>exact fH.elim
  exact wpIn_loop_rounds N (key N ρ a w (.refl _ _) he hg0)
 |exit id=>
  intro rm S r h rd w0 σ0 wr ρ x a w gw hC hY ic hn hg he;simp only[comp] at h;cases cG:Nat.beq id cN<;>simp only[cG,cond_true,cond_false] at h
  case true=>cases h;exact absurd he (mH _ _ _ _)
  cases h;simp only[PC.ev,aU] at he;subst he;exact wpIn_exit ⟨ρ,S,rfl,fun e=>by subst e;simp at cG,by simp,.refl _ _,hg⟩
 |ret=>
  intro rm S r h rd w0 σ0 wr ρ x a w gw hC hY ic hn hg he;simp only[comp] at h;cases rm<;>simp only[cond_true,cond_false] at h
  case true=>
   cases h;simp only[PC.ev,aU] at he;subst he;exact wpIn_ret ⟨ρ,S,rfl,by simp,.refl _ _,hg⟩
  split at h
  ·rename_i e DI;cases h;simp only[PC.ev,aU] at he;subst he;obtain⟨σ,own,hv,hi⟩:=hg;exact wpIn_ret ⟨_,rfl,Inv.retD hC (fun _=>rfl) (gw rfl).2 DI _ hi rfl,.refl _ _⟩
  ·cases h;exact absurd he (mH _ _ _ _)
 |rangeFunc g ps ca cb=>exact aqh fE (IH ca (by simp at hc;omega)) (IH cb (by simp at hc;omega))
 |_=>intro rm S r h rd w0 σ0 wr ρ x a w gw hC hY ic hn hg he;simp only[comp,aU] at h;subst h;exact absurd he (mH _ _ _ _)
theorem afM {N:Nat}(fE:gk C Φ)(hR:LA C n ids Φ R)(c:Code):vX C Φ fn s n ids R N c:=afN fE hR _ c (Nat.lt_succ_self _)
end
end Cx
