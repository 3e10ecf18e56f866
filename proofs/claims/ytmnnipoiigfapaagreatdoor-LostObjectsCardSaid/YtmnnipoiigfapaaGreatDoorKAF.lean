/-
  Code: sequences, choices, blocks, loops.
-/
import Derived.LoopNIn
import Derived.Test.YtmnnipoiigfapaaGreatDoorKAE
import Derived.LoopN
set_option linter.unusedSimpArgs false
set_option linter.unusedVariables false
namespace Cx
open Go Go.RowKit
def av (m t:Nat):Bool:= !Nat.beq (Nat.land 1 (Nat.shiftRight m t)) 0
theorem ry (m t:Nat):av m t=m.testBit t:=by
 unfold av Nat.testBit;show(!Nat.beq (1&&& (m>>>t)) 0)=((1&&& (m>>>t))!=0)
 generalize 1&&& (m>>>t)=x;cases x<;>rfl
def dC (t:Nat):Nat:=Nat.shiftLeft 1 t
theorem pY (t:Nat):av (dC t) t=true:=by
 rw[ry];show(1<<<t).testBit t=true;simp[Nat.testBit_shiftLeft]
theorem eP (m k t:Nat):av (Nat.lor m k) t=(av m t||av k t):=by
 simp only[ry];exact Nat.testBit_or m k t
def PI.mask:PI→Nat
 |.setR t _=>dC t|.call _ t _ _=>dC t|.callc _ t _ _=>dC t|_=>0
def H0:List PI→Nat
 |[]=>0
 |p::l=>Nat.lor p.mask (H0 l)
def PI.objs:PI→List Nat
 |.setO j _=>[j]|.mcall j _ _=>[j]|_=>[]
def eZ (l:List Nat)(x:Nat):Bool:=l.any (Nat.beq x)
def jc (a b:List Nat):List Nat:=a.foldl (fun acc x=>bif eZ acc x then acc else x::acc) b
def X6 (l:List PI):List Nat:=l.foldl (fun acc p=>jc p.objs acc) []
theorem ph (l:List Nat)(x:Nat):eZ l x=true↔x∈l:=by
 unfold eZ;rw[jL];constructor
 ·rintro⟨y,hy,h⟩;rw[ay h];exact hy
 ·intro h;exact⟨x,h,gy x⟩
theorem pj {x:Nat}:∀{a b:List Nat},x∈jc a b↔x∈a∨x∈b
 |[],b=>by simp[jc]
 |y::a,b=>by
  have ih:=@pj x a (bif eZ b y then b else y::b);have e:jc (y::a) b=jc a (bif eZ b y then b else y::b):=rfl;rw[e,ih];cases hb:eZ b y
  ·simp[or_assoc,or_left_comm]
  ·have:=(ph b y).1 hb;simp only[cond_true,cD];constructor
   ·rintro(h|h)
    ·exact .inl (.inr h)
    ·exact .inr h
   ·rintro((h|h)|h)
    ·subst h;exact .inr this
    ·exact .inl h
    ·exact .inr h
theorem alp {x:Nat}(l:List PI)(h:x∈l.flatMap PI.modO):x∈X6 l:=by
 have key:∀(l:List PI) (acc:List Nat),(x∈l.flatMap PI.modO∨x∈acc)→x∈l.foldl (fun acc p=>jc p.objs acc) acc:=by
  intro l
  induction l with
  |nil=>intro acc h;simpa using h
  |cons p l ih=>
   intro acc h;refine ih _ ?_;rw[uX,dB] at h;rcases h with(h|h)|h
   ·refine .inr (pj.2 (.inl ?_));cases p<;>simp_all [PI.modO,PI.objs]
   ·exact .inl h
   ·exact .inr (pj.2 (.inr h))
 exact key l [] (.inl h)
theorem XH {t:Nat}:∀(l:List PI),t∈l.flatMap PI.modR→av (H0 l) t=true
 |[],h=>by simp at h
 |p::l,h=>by
  rw[uX,dB] at h;simp only[H0,eP,gr];rcases h with h|h
  ·left;cases p<;>simp[PI.modR] at h<;>subst h<;>exact pY _
  ·exact .inr (XH l h)
structure Res2 where
 pc:PC
 out:Option Snap
 ex:List (Nat×Snap)
 mr:Nat
 mo:List Nat
 deriving Inhabited
def l5:Option Snap→Option Snap→Option Snap
 |none,x=>x
 |x,none=>x
 |some a,some b=>some (a.meet b)
def nI (id:Nat):List (Nat×Snap)→Option Snap→Option Snap
 |[],acc=>acc
 |x::l,acc=>nI id l (bif Nat.beq x.1 id then l5 acc (some x.2) else acc)
def iter (step:Snap→Option Res2):Nat→Snap→Option (Snap×Res2)
 |0,_=>none
 |k+1,S=>(step S).bind fun r=>
  match r.out with
  |none=>some (S,r)
  |some T=>bif (S.meet T).beq S then some (S,r) else iter step k (S.meet T)
def j6 (S:Snap)(m:Nat):List Nat:=(List.range S.rs.length).filter fun t=>av m t&& !isNone (cr (S.rs.getD t .none))
def iX (ids:List Nat)(S:Snap)(l:List Nat):List Nat:=l.filter fun j=> !nG (di ids S.os j)
def gp:Res2:=⟨.is [EI],none,[],0,[]⟩
theorem mi (Φ:aP)(N:Nat)(ρ:Env)(x:Out):gp.pc.ev Φ N ρ≠some x:=by
 intro h;simp[gp,PC.ev,PI.runs,PI.run,EI,PE.ev,D.b_bool] at h
theorem mj:(∀t,t∈gp.pc.modR→av gp.mr t=true)∧∀j,j∈gp.pc.modO→j∈gp.mo:=by
 constructor<;>intro t h<;>simp[gp,PC.modR,PC.modO,PI.modR,PI.modO,EI] at h
def cm:Code→List Nat
 |.region _ ops _=>ops.toList.filterMap (·.dst)
 |.seq a b=>cm a++cm b
 |.cond _ a b=>cm a++cm b
 |.block _ a=>cm a
 |.loop a=>cm a
 |_=>[]
def wv (l:List Nat):Nat:=l.foldr (fun t m=>Nat.lor (dC t) m) 0
def sk (m:Nat):Nat→List Sh→List Sh
 |_,[]=>[]
 |t,s::l=>(bif av m t then .none else s)::sk m (t+1) l
def Snap.mask (m:Nat)(S:Snap):Snap:=⟨sk m 0 S.rs,S.os⟩
def rU:Sh→Sh
 |.yv=>.none
 |s=>s
def qP:List Nat→List Ty→List Sh→List Sh
 |p::ps,y::ys,l=>qP ps ys (l.set p (.dat y))
 |_,_,l=>l
def Snap.start (ps:List Nat)(ys:List Ty)(S:Snap):Snap:=⟨qP ps ys (S.rs.map rU),S.os⟩
def XA (ids:List Nat)(l:List Snap)(mo:List Nat):List Nat:=mo.filter fun j=>l.any fun S=> !nG (di ids S.os j)
def anX (wm:Nat)(ra rb:Res2):Res2:=
 let m:=Nat.lor wm (Nat.lor ra.mr rb.mr)
 ⟨.seq ra.pc rb.pc,rb.out.map (Snap.mask m),rb.ex.map (fun x=>(x.1,x.2.mask m)),m,jc ra.mo rb.mo⟩
def gg (ids:List Nat)(id:Nat)(r:Res2):Res2:=
    match nI id r.ex r.out with
    |some M=>⟨.block id (j6 M r.mr) (iX ids M r.mo) r.pc,some M,r.ex.filter fun x=> !Nat.beq x.1 id,r.mr,r.mo⟩
    |none=>⟨.block id [] [] r.pc,none,r.ex.filter fun x=> !Nat.beq x.1 id,r.mr,r.mo⟩
def ug:List (Nat×Nat)→Nat→Option Nat
 |[],_=>none
 |x::l,t=>bif Nat.beq x.1 t then some x.2 else ug l t
def kK (pr:Nat):List Oper→List (Nat×Nat)→Option (List (Nat×Nat))
 |[],acc=>some acc
 |o::l,acc=>
  match o.dst,o.guard with
  |some d,none=>
   bif Nat.beq d pr||(ug acc d).isSome then none else
   match o.op with
   |.extract (.tmp t) i=>bif Nat.beq t pr&&Nat.ble i 1 then kK pr l (acc++[(d,i)]) else none
   |.assign (.tmp t)=>(ug acc t).bind fun i=>kK pr l (acc++[(d,i)])
   |.move (.tmp t)=>(ug acc t).bind fun i=>kK pr l (acc++[(d,i)])
   |_=>none
  |_,_=>none
structure MP where
 it:Nat
 nx:Nat
 mo:Nat
 out:Nat
 next:Nat
 pr:Nat
 ops1:Array Oper
 ops2:Array Oper
 aa:List (Nat×Nat)
 deriving Inhabited
def zx (x y:Code)(k:Nat)(z:Code):Option MP:=
 match x,y,z with
 |.region _ ops1 false,.cond (.tmp mo) .skip (.exit out),.region _ ops2 false=>
  match ops1.toList,ops2.toList with
  |[o1,o2],o3::l=>
   match o1.dst,o1.guard,o1.op,o2.dst,o2.guard,o2.op,o3.dst,o3.guard,o3.op with
   |some nx,none,.next (.tmp it) false,some mo',none,.extract (.tmp X2) 0,some pr,none,.entry (.tmp WS)=>
    bif Nat.beq mo mo'&&Nat.beq nx X2&&Nat.beq it WS&& !Nat.beq it nx&& !Nat.beq it mo&& !Nat.beq it pr&& !Nat.beq nx mo&& !Nat.beq out cG&& !Nat.beq k cG then
     (kK pr l []).map fun aa=>⟨it,nx,mo,out,k,pr,ops1,ops2,aa⟩
    else none
   |_,_,_,_,_,_,_,_,_=>none
  |_,_=>none
 |_,_,_=>none
def we:List Nat→Nat→List Ob→List Ob
 |i::is,J,o::os=>(bif Nat.beq i J then .dead else o)::we is J os
 |_,_,os=>os
def Snap.kill (ids:List Nat)(J:Nat)(S:Snap):Snap:=⟨S.rs,we ids J S.os⟩
def WO (J:Nat)(kt et:Ty)(ids:List Nat)(p:MP)(m:Nat)(S:Snap):Bool:=
 Sh.beq (S.rs.getD p.it .none) (.obj J 0)&&Ob.beq (di ids S.os J) (.it kt et)&& !av m p.it
def zy (ids:List Nat)(n:Nat)(p:MP)(ws:List Nat)(f:Snap→Option Res2)(S:Snap):Option Res2:=
 match cr (S.rs.getD p.it .none) with
 |.obj J 0=>
  match di ids S.os J with
  |.it kt et=>
   let ps:=p.aa.map (·.1)
   let ys:=p.aa.map fun x=>bif Nat.beq x.2 0 then kt else et
   let m:=wv ws
   match iter (fun S=>(f ((S.mask m).start ps ys)).map (gg ids p.next)) 8 S with
   |some r=>
    bif r.2.ex.isEmpty&& !eZ r.2.mo J&&WO J kt et ids p m r.1&&gl ps&&ps.all (fun t=>Nat.blt t n)&&Nat.blt p.nx n&&Nat.blt p.mo n&&Nat.blt p.pr n&&Nat.beq (Nat.lor m r.2.mr) m then
       some ⟨.seq (.meach J ps (p.aa.map (·.2)) (iX ids r.1 r.2.mo) r.2.pc) (.exit p.out),none,[(p.out,(r.1.mask m).kill ids J)],0,r.2.mo⟩
    else some gp
   |none=>some gp
  |_=>some gp
 |_=>some gp
def comp (C:Ctx)(fn:Func)(s:Sig)(n:Nat)(ids:List Nat)(R:Array Oper→Bool→Snap→Option (Snap×List PI)):Bool→Code→Snap→Option Res2
 |_,.skip,S=>some ⟨.skip,some S,[],0,[]⟩
 |_,.region _ ops draw,S=>(R ops draw S).map fun r=>⟨.is r.2,some r.1,[],H0 r.2,X6 r.2⟩
 |rm,.seq a b,S=>(comp C fn s n ids R rm a S).bind fun r=>
  match r.out with
  |none=>some r
  |some S1=>(comp C fn s n ids R rm b S1).map fun q=>⟨.seq r.pc q.pc,q.out,r.ex++q.ex,Nat.lor r.mr q.mr,jc r.mo q.mo⟩
 |rm,.cond c a b,S=>
  match use C (S.st ids) [] c with
  |some (.bool,e)=>
   (comp C fn s n ids R rm a S).bind fun r=>(comp C fn s n ids R rm b S).map fun q=>
     match l5 r.out q.out with
     |some M=>⟨.ite e (j6 M (Nat.lor r.mr q.mr)) (iX ids M (jc r.mo q.mo)) r.pc q.pc,some M,r.ex++q.ex,Nat.lor r.mr q.mr,jc r.mo q.mo⟩
     |none=>⟨.ite e [] [] r.pc q.pc,none,r.ex++q.ex,Nat.lor r.mr q.mr,jc r.mo q.mo⟩
  |_=>some gp
 |rm,.block id a,S=>bif Nat.beq id cG then some gp else(comp C fn s n ids R rm a S).map (gg ids id)
 |rm,.loop (.seq x (.seq y (.block k (.seq z code)))),S=>
  (match zx x y k z with
  |some p=>zy ids n p (cm x++(cm y++(cm z++cm code))) (fun S=>comp C fn s n ids R rm code S) S
  |none=>
  match iter (fun S=>comp C fn s n ids R rm (.seq x (.seq y (.block k (.seq z code)))) S) 8 S with
  |some r=>some ⟨.loop (j6 r.1 r.2.mr) (iX ids r.1 r.2.mo) r.2.pc,none,r.2.ex,r.2.mr,r.2.mo⟩
  |none=>some gp)
 |rm,.loop a,S=>
  match iter (fun S=>comp C fn s n ids R rm a S) 8 S with
  |some r=>some ⟨.loop (j6 r.1 r.2.mr) (iX ids r.1 r.2.mo) r.2.pc,none,r.2.ex,r.2.mr,r.2.mo⟩
  |none=>some gp
 |_,.exit id,S=>bif Nat.beq id cG then some gp else some ⟨.exit id,none,[(id,S)],0,[]⟩
 |rm,.ret,S=>
  bif rm then some ⟨.exit cG,none,[(cG,S)],0,[]⟩ else
  match wY C fn s (S.st ids) with
  |some e=>some ⟨.ret e,none,[],0,[]⟩
  |none=>some gp
 |rm,.rangeFunc g ps a b,S=>
  match rm,C.yl,use C (S.st ids) [] g with
  |false,none,some (.fn aa r,e)=>
   match lY aa r with
   |some ys=>
    match iter (fun S=>(comp C fn s n ids R true a (S.start ps.toList ys)).bind fun ra=>
          match ra.out,ra.ex with
          |some S1,[]=>(comp C fn s n ids R true b S1).map (anX (wv (ps.toList++cm a++cm b)) ra)
          |_,_=>none) 8 S with
    |some r=>
     bif Nat.beq ys.length ps.size&&gl ps.toList&&ps.toList.all (fun p=>Nat.blt p n)&&Nat.ble r.1.rs.length n then
           some ⟨.seq (.is [.callc [] n e []]) (.each (.r n) ps.toList (XA ids (r.1::r.2.ex.map (·.2)) r.2.mo) ((nI cG r.2.ex none).bind fun M=>wY C fn s (M.st ids)) r.2.pc),
            some r.1,r.2.ex.filter (fun x=> !Nat.beq x.1 cG),dC n,r.2.mo⟩
     else some gp
    |none=>some gp
   |none=>some gp
  |_,_,_=>some gp
 |_,_,_=>some gp
termination_by structural _ c=>c
def wq:Code→Option (MP×Code×List Nat)
 |.seq x (.seq y (.block k (.seq z code)))=>(zx x y k z).map fun p=>(p,code,cm x++(cm y++(cm z++cm code)))
 |_=>none
theorem Up (C:Ctx)(fn:Func)(s:Sig)(n:Nat)(ids:List Nat)(R:Array Oper→Bool→Snap→Option (Snap×List PI))(rm:Bool)(a:Code)(S:Snap):comp C fn s n ids R rm (.loop a) S=
 match wq a with
 |some q=>zy ids n q.1 q.2.2 (fun S=>comp C fn s n ids R rm q.2.1 S) S
 |none=>
  match iter (fun S=>comp C fn s n ids R rm a S) 8 S with
  |some r=>some ⟨.loop (j6 r.1 r.2.mr) (iX ids r.1 r.2.mo) r.2.pc,none,r.2.ex,r.2.mr,r.2.mo⟩
  |none=>some gp:=by
 by_cases h:∃x y k z code,a=.seq x (.seq y (.block k (.seq z code)))
 ·obtain⟨x,y,k,z,code,rfl⟩:=h
  conv=>lhs;unfold comp
  simp only[wq];cases zx x y k z<;>rfl
 ·have e:wq a=none:=by
   unfold wq;split
   ·rename_i x y k z code;exact absurd ⟨x,y,k,z,code,rfl⟩ h
   ·rfl
  rw[e];rw[comp];intro x y k z code e;exact h ⟨x,y,k,z,code,e⟩
def subs:Code→List Code
 |.seq a b=>.seq a b::(subs a++subs b)
 |.cond c a b=>.cond c a b::(subs a++subs b)
 |.block i a=>.block i a::subs a
 |.loop a=>.loop a::subs a
 |.rangeFunc g ps a b=>.rangeFunc g ps a b::(subs a++subs b)
 |c=>[c]
theorem aov (c:Code):c∈subs c:=by cases c<;>simp[subs]
theorem awK {a code:Code}{p:MP}{ws:List Nat}(h:wq a=some (p,code,ws)):code∈subs a:=by
 unfold wq at h;split at h
 ·simp only[az] at h;obtain⟨q,_,e⟩:=h;cases e;simp[subs,aov]
 ·cases h
def J9 (C:Ctx)(n:Nat)(ids:List Nat)(Φ:aP)(R:Array Oper→Bool→Snap→Option (Snap×List PI)):Prop:=
 ∀(id:Nat) (ops:Array Oper) (draw:Bool) (S:Snap) (r:Snap×List PI),R ops draw S=some r→
  ∀(rd:Option Nat) (w0:World) (σ0:Base) (ρ ρ':Env) (a:Act) (w:World) (Q:Exit→Act→World→Prop),CtxOK C σ0→ou C Φ w0 σ0→a.tmps.size=n→Good C w0 σ0 (S.st ids) ρ (fun _=>False) a w→PI.runs Φ r.2 ρ=some ρ'→
   (∀a' w',SameBut (p7 ops) a a'→Good C w0 σ0 (r.1.st ids) ρ' (fun _=>False) a' w'→Q .normal a' w')→(Code.region id ops draw).wpIn (FR rd) 0 C.P Q a w
section
variable {C:Ctx} {ρ ρ':Env} {σ:Im} {own:Nat→Option Nat} {hv:Nat→Value} {w0:World} {σ0:Base} {A:Nat→Prop} {a:Act} {w:World} {Φ:aP} {n:Nat} {ids:List Nat} {fn:Func} {s:Sig}
 {R:Array Oper→Bool→Snap→Option (Snap×List PI)}
def gA (C:Ctx)(w0:World)(σ0:Base)(ids:List Nat)(fn:Func)(s:Sig)(rm:Bool)(wr:Nat→Prop)(a0:Act)(out:Option Snap)(ex:List (Nat×Snap))(x:Out):Exit→Act→World→Prop
 |.normal,a,w=>∃ρ S,x=.next ρ∧out=some S∧SameBut wr a0 a∧Good C w0 σ0 (S.st ids) ρ (fun _=>False) a w
 |.exit id,a,w=>∃ρ S,x=.exit id ρ∧id≠cG∧(id,S)∈ex∧SameBut wr a0 a∧Good C w0 σ0 (S.st ids) ρ (fun _=>False) a w
 |.ret,a,w=>match rm with
  |false=>∃d,x=.ret d∧pS C w0 σ0 fn s d a.tmps a.defers w∧SameBut wr a0 a
  |true=>∃ρ S,x=.exit cG ρ∧(cG,S)∈ex∧SameBut wr a0 a∧Good C w0 σ0 (S.st ids) ρ (fun _=>False) a w
 |_,_,_=>False
theorem Good.meet1 {x y:Snap}(h:Good C w0 σ0 (x.st ids) ρ A a w):Good C w0 σ0 ((x.meet y).st ids) ρ (fun _=>False) a w:=by
 obtain⟨σ,own,hv,h⟩:=h;exact⟨σ,own,hv,Snap.meet_ok1 h⟩
theorem Good.meet2 {x y:Snap}(h:Good C w0 σ0 (y.st ids) ρ A a w):Good C w0 σ0 ((x.meet y).st ids) ρ (fun _=>False) a w:=by
 obtain⟨σ,own,hv,h⟩:=h;exact⟨σ,own,hv,Snap.meet_ok2 h⟩
theorem XO {x:Snap}{y:Option Snap}{M:Snap}(h:Good C w0 σ0 (x.st ids) ρ (fun _=>False) a w)(hm:l5 (some x) y=some M):Good C w0 σ0 (M.st ids) ρ (fun _=>False) a w:=by
 cases y<;>simp[l5] at hm<;>subst hm
 ·exact h
 ·exact h.meet1
theorem XP {x:Option Snap}{y:Snap}{M:Snap}(h:Good C w0 σ0 (y.st ids) ρ (fun _=>False) a w)(hm:l5 x (some y)=some M):Good C w0 σ0 (M.st ids) ρ (fun _=>False) a w:=by
 cases x<;>simp[l5] at hm<;>subst hm
 ·exact h
 ·exact h.meet2
theorem XQ {x:Snap}{y:Option Snap}:∃M,l5 (some x) y=some M:=by cases y<;>simp[l5]
theorem XR {x:Option Snap}{y:Snap}:∃M,l5 x (some y)=some M:=by cases x<;>simp[l5]
theorem H3 {id:Nat}:∀(l:List (Nat×Snap)) {x:Snap},Good C w0 σ0 (x.st ids) ρ (fun _=>False) a w→∃M,nI id l (some x)=some M∧Good C w0 σ0 (M.st ids) ρ (fun _=>False) a w
 |[],x,h=>⟨x,rfl,h⟩
 |y::l,x,h=>by
  simp only[nI];cases Nat.beq y.1 id
  ·exact H3 l h
  ·obtain⟨M,hM⟩:=@XQ x (some y.2);simp only[cond_true,hM];exact H3 l (XO h hM)
theorem NO {id:Nat}{S:Snap}(h:Good C w0 σ0 (S.st ids) ρ (fun _=>False) a w):∀(l:List (Nat×Snap)) (x:Option Snap),(id,S)∈l→∃M,nI id l x=some M∧Good C w0 σ0 (M.st ids) ρ (fun _=>False) a w
 |y::l,x,hm=>by
  simp only[nI];rcases cD.1 hm with e|hm
  ·subst e;simp only[gy,cond_true];obtain⟨M,hM⟩:=@XR x S;rw[hM];exact H3 l (XP h hM)
  ·exact NO h l _ hm
theorem C8 {step:Snap→Option Res2}:∀(k:Nat) {S:Snap} {r:Snap×Res2},iter step k S=some r→
 step r.1=some r.2∧(∀T,r.2.out=some T→r.1.meet T=r.1)∧∀{ρ:Env} {a:Act} {w:World},Good C w0 σ0 (S.st ids) ρ (fun _=>False) a w→Good C w0 σ0 (r.1.st ids) ρ (fun _=>False) a w
 |0,S,r,h=>by simp[iter] at h
 |k+1,S,r,h=>by
  simp only[iter,au] at h;obtain⟨q,hq,h⟩:=h;split at h
  ·rename_i ho;cases h;exact⟨hq,fun T hT=>by simp[ho] at hT,fun g=>g⟩
  ·rename_i T ho;cases hb:(S.meet T).beq S<;>simp only[hb,cond_true,cond_false] at h
   ·obtain⟨h1,h2,h3⟩:=C8 k h;exact⟨h1,h2,fun g=>h3 g.meet1⟩
   ·cases h;refine⟨hq,fun T' hT=>?_,fun g=>g⟩;simp only[ho,aR] at hT;subst hT;exact Snap.beq_eq _ _ hb
theorem WT {step:Snap→Option Res2}{hv:Nat→Value}:∀(k:Nat) {S:Snap} {r:Snap×Res2},iter step k S=some r→Inv C (S.st ids) ρ σ own hv w0 σ0 (fun _=>False) a w→Inv C (r.1.st ids) ρ σ own hv w0 σ0 (fun _=>False) a w
 |0,S,r,h,_=>by simp[iter] at h
 |k+1,S,r,h,i=>by
  simp only[iter,au] at h;obtain⟨q,hq,h⟩:=h;split at h
  ·cases h;exact i
  ·rename_i T ho;cases hb:(S.meet T).beq S<;>simp only[hb,cond_true,cond_false] at h
   ·exact WT k h (Snap.meet_ok1 i)
   ·cases h;exact i
theorem Good.joined {M:Snap}{m:Nat}{mo mr' mo':List Nat}(h:Good C w0 σ0 (M.st ids) ρ' (fun _=>False) a w)(hb:ρ.but ρ' mr' mo')(h1:∀t,t∈mr'→av m t=true)(h2:∀j,j∈mo'→j∈mo):
 Good C w0 σ0 (M.st ids) (ρ.join (j6 M m) (iX ids M mo) ρ') (fun _=>False) a w:=by
 obtain⟨σ,own,hv,h⟩:=h;refine⟨σ,own,hv,h.env (Snap.noOpt _ _) (fun t ht=>?_) (fun j hj=>?_)⟩
 ·simp only[Env.join,Env.put,su];split
  ·rfl
  ·rename_i hm;refine(hb.r t fun CB=>hm ?_).symm;have af:t<M.rs.length:=by
        refine TG fun hle=>?_;simp only[Snap.st,aK,re hle,Option.getD_none,cr,isNone] at ht;cases ht
   exact du.2 ⟨bX.2 af,by rw[h1 t CB];simpa [Snap.st] using ht⟩
 ·simp only[Env.join,Env.put,su];split
  ·rfl
  ·rename_i hm;refine(hb.o j fun CB=>hm ?_).symm;exact du.2 ⟨h2 j CB,by simpa [Snap.st] using hj⟩
theorem H4 {S:Snap}{m t:Nat}(h:t∈j6 S m):av m t=true:=by
 have:=(du.1 h).2;simp only[ak] at this;exact this.1
theorem zz {S:Snap}{l:List Nat}{j:Nat}(h:j∈iX ids S l):j∈l:=(du.1 h).1
theorem T5 {id:Nat}{q:Res2}(h:(∀t,t∈q.pc.modR→av q.mr t=true)∧∀j,j∈q.pc.modO→j∈q.mo):(∀t,t∈(gg ids id q).pc.modR→av (gg ids id q).mr t=true)∧∀j,j∈(gg ids id q).pc.modO→j∈(gg ids id q).mo:=by
 unfold gg;cases hm:nI id q.ex q.out<;>simp only
 ·simpa [PC.modR,PC.modO] using h
 ·refine⟨fun t ht=>?_,fun j hj=>?_⟩
  ·simp only[PC.modR,dB] at ht;exact ht.elim H4 (h.1 t)
  ·simp only[PC.modO,dB] at hj;exact hj.elim zz (h.2 j)
theorem alh {p:MP}{ws:List Nat}{f:Snap→Option Res2}{S:Snap}{r:Res2}(h:zy ids n p ws f S=some r):(∀t,t∈r.pc.modR→av r.mr t=true)∧∀j,j∈r.pc.modO→j∈r.mo:=by
 unfold zy at h;split at h
 case h_2=>cases h;exact mj
 split at h
 case h_2=>cases h;exact mj
 simp only at h;split at h
 case h_2=>cases h;exact mj
 rw[og] at h;split at h
 ·cases h;refine⟨fun t ht=>by simp[PC.modR] at ht,fun j hj=>?_⟩;simp only[PC.modO,lC] at hj;exact zz hj
 ·cases h;exact mj
theorem tj:∀(c:Code) {rm:Bool} {S:Snap} {r:Res2},comp C fn s n ids R rm c S=some r→(∀t,t∈r.pc.modR→av r.mr t=true)∧∀j,j∈r.pc.modO→j∈r.mo:=by
 intro c
 induction c with
 |skip=>intro rm S r h;simp only[comp,aR] at h;subst h;simp[PC.modR,PC.modO]
 |region id ops draw=>
  intro rm S r h;simp only[comp,az] at h;obtain⟨q,_,rfl⟩:=h;exact⟨fun t ht=>XH _ ht,fun j hj=>alp _ hj⟩
 |seq x y iV wc=>
  intro rm S r h;simp only[comp,au] at h;obtain⟨q,hq,h⟩:=h;split at h
  ·cases h;exact iV hq
  ·simp only[az] at h;obtain⟨p,hp,rfl⟩:=h;refine⟨fun t ht=>?_,fun j hj=>?_⟩
   ·simp only[PC.modR,dB] at ht;rw[eP,gr];exact ht.imp ((iV hq).1 t) ((wc hp).1 t)
   ·simp only[PC.modO,dB] at hj;rw[pj];exact hj.imp ((iV hq).2 j) ((wc hp).2 j)
 |cond c x y iV wc=>
  intro rm S r h;simp only[comp] at h;split at h
  case h_2=>cases h;exact mj
  rename_i e _;simp only[au,az] at h;obtain⟨q,hq,p,hp,rfl⟩:=h;cases hm:l5 q.out p.out<;>simp only[hm]
  ·refine⟨fun t ht=>?_,fun j hj=>?_⟩
   ·simp only[PC.modR,dB,sW] at ht;rw[eP,gr];exact ht.imp ((iV hq).1 t) ((wc hp).1 t)
   ·simp only[PC.modO,dB,sW] at hj;rw[pj];exact hj.imp ((iV hq).2 j) ((wc hp).2 j)
  ·refine⟨fun t ht=>?_,fun j hj=>?_⟩
   ·simp only[PC.modR,dB] at ht;rw[eP,gr];rcases ht with(ht|ht)|ht
    ·have:=H4 ht;rw[eP,gr] at this;exact this
    ·exact .inl ((iV hq).1 t ht)
    ·exact .inr ((wc hp).1 t ht)
   ·simp only[PC.modO,dB] at hj;rcases hj with(hj|hj)|hj
    ·exact zz hj
    ·exact pj.2 (.inl ((iV hq).2 j hj))
    ·exact pj.2 (.inr ((wc hp).2 j hj))
 |block id x iV=>
  intro rm S r h;simp only[comp] at h;cases cA:Nat.beq id cG<;>simp only[cA,cond_true,cond_false] at h
  case true=>cases h;exact mj
  simp only[az] at h;obtain⟨q,hq,rfl⟩:=h;exact T5 (iV hq)
 |loop x iV=>
  intro rm S r h;rw[Up] at h;split at h
  ·exact alh h
  split at h
  case h_2=>cases h;exact mj
  rename_i q hq;cases h;have hs:=(C8 (C:=C) (w0:=default) (σ0:=Base.mk0 ⟨fun _ _=>none,fun _=>none⟩ 0) (ids:=ids) 8 hq).1;refine⟨fun t ht=>?_,fun j hj=>?_⟩
  ·simp only[PC.modR,dB] at ht;exact ht.elim H4 ((iV hs).1 t)
  ·simp only[PC.modO,dB] at hj;exact hj.elim zz ((iV hs).2 j)
 |exit id=>
  intro rm S r h;simp only[comp] at h;cases cA:Nat.beq id cG<;>simp only[cA,cond_true,cond_false] at h<;>cases h
  ·simp[PC.modR,PC.modO]
  ·exact mj
 |ret=>
  intro rm S r h;simp only[comp] at h;cases rm<;>simp only[cond_true,cond_false] at h
  case true=>cases h;simp[PC.modR,PC.modO]
  split at h
  ·cases h;simp[PC.modR,PC.modO]
  ·cases h;exact mj
 |rangeFunc g ps x y _ _=>
  intro rm S r h;simp only[comp] at h;split at h
  case h_2=>cases h;exact mj
  split at h
  case h_2=>cases h;exact mj
  split at h
  case h_2=>cases h;exact mj
  rename_i q hq;rw[og] at h;split at h
  ·cases h;refine⟨fun t ht=>?_,fun j hj=>?_⟩
   ·simp[PC.modR,PI.modR] at ht;subst ht;exact pY _
   ·simp only[PC.modO,PI.modO,uX,TB,lC,sW] at hj;exact(du.1 hj).1
  ·cases h;exact mj
 |_=>intro rm S r h;simp only[comp,aR] at h;subst h;exact mj
theorem gA.mono {rm:Bool}{wr:Nat→Prop}{a0 a1:Act}{out Zz:Option Snap}{ex UP:List (Nat×Snap)}{x:Out}{e:Exit}(h:gA C w0 σ0 ids fn s rm wr a0 out ex x e a w)(he:∀y,y∈ex→y∈UP)(hs:SameBut wr a1 a0)
 (ho:e=.normal→Zz=out):gA C w0 σ0 ids fn s rm wr a1 Zz UP x e a w:=by
 cases e with
 |normal=>obtain⟨ρ,S,h1,h2,h3,h4⟩:=h;exact⟨ρ,S,h1,by rw[ho rfl];exact h2,hs.trans h3,h4⟩
 |exit id=>obtain⟨ρ,S,h1,h2,h3,h4,h5⟩:=h;exact⟨ρ,S,h1,h2,he _ h3,hs.trans h4,h5⟩
 |ret=>
  cases rm with
  |false=>obtain⟨d,h1,h2,h3⟩:=h;exact⟨d,h1,h2,hs.trans h3⟩
  |true=>obtain⟨ρ,S,h1,h3,h4,h5⟩:=h;exact⟨ρ,S,h1,he _ h3,hs.trans h4,h5⟩
 |_=>exact h.elim
theorem UE {body:Env→Option Out}{ρ:Env}{ps lo:List Nat}{rt:Option PE}{x:Out}:∀{xs vo:List D},gh body ρ ps lo rt xs vo=some x→
 ∃(m:Nat) (mu:Nat→List D),m≤xs.length∧mu 0=vo∧
  (∀i,i<m→∃y ρ',xs[i]?=some y∧body (ρ.put ps (partsOf ps y) lo (mu i))=some (.next ρ')∧lo.map ρ'.o=mu (i+1))∧
  ((m=xs.length∧x=.next (ρ.put [] [] lo (mu m)))∨
   (m<xs.length∧∃y id ρ',xs[m]?=some y∧body (ρ.put ps (partsOf ps y) lo (mu m))=some (.exit id ρ')∧
    ((id≠cG∧x=.exit id (ρ.put [] [] lo (lo.map ρ'.o)))∨(id=cG∧∃e,rt=some e∧x=.ret (e.ev (ρ.put [] [] lo (lo.map ρ'.o)))))))
 |[],vo,h=>by
  simp only[gh,aR] at h;exact⟨0,fun _=>vo,bf _,rfl,fun i hi=>by omega,.inl ⟨rfl,h.symm⟩⟩
 |y::xs,vo,h=>by
  simp only[gh] at h;split at h
  ·rename_i ρ' hb;obtain⟨m,mu,h1,h2,h3,h4⟩:=UE h;refine⟨m+1,fun i=>match i with|0=>vo|i+1=>mu i,by simp;omega,rfl,fun i hi=>?_,?_⟩
   ·cases i with
    |zero=>exact⟨y,ρ',rfl,hb,h2.symm⟩
    |succ i=>simpa using h3 i (by omega)
   ·rcases h4 with⟨e1,e2⟩|⟨e1,z,id,ρ2,e2,e3,e4⟩
    ·exact .inl ⟨by simp[e1],e2⟩
    ·exact .inr ⟨by simp;omega,z,id,ρ2,by simpa using e2,e3,e4⟩
  ·rename_i id ρ' hb;refine⟨0,fun _=>vo,ot _,rfl,fun i hi=>by omega,.inr ⟨by simp,y,id,ρ',rfl,hb,?_⟩⟩;cases cA:Nat.beq id cG<;>simp only[cA,cond_true,cond_false] at h
   ·refine .inl ⟨fun e=>?_,(u9 h).symm⟩;subst e;simp at cA
   ·simp only[az] at h;obtain⟨e,he,e2⟩:=h;exact .inr ⟨ay cA,e,he,e2.symm⟩
  ·cases h
theorem T3 {l:List Nat}{t:Nat}(h:t∈l):av (wv l) t=true:=by
 induction l with
 |nil=>cases h
 |cons x l ih=>
  have e:wv (x::l)=Nat.lor (dC x) (wv l):=rfl;rw[e,eP];rcases cD.1 h with e|e
  ·subst e;rw[pY];rfl
  ·rw[ih e];simp
theorem NM (m:Nat):∀(l:List Sh) (k t:Nat),(sk m k l).getD t .none=if av m (k+t)=true then .none else l.getD t .none
 |[],k,t=>by simp[sk]
 |s::l,k,0=>by
  simp only[sk,sS,hG];cases av m k<;>rfl
 |s::l,k,t+1=>by
  simp only[sk,AU];rw[NM m l (k+1) t,show k+1+t=k+(t+1) by omega]
theorem Dg (m:Nat)(S:Snap)(t:Nat):((S.mask m).st ids).r t=if av m t=true then .none else(S.st ids).r t:=by
 show cr ((sk m 0 S.rs).getD t .none)=if av m t=true then .none else cr (S.rs.getD t .none);rw[NM,gz];split<;>rfl
theorem aln {m:Nat}{x S:Snap}{t:Nat}(h:av m t=true):((x.meet (S.mask m)).st ids).r t=.none:=by
 show cr ((List.zipWith iY x.rs (sk m 0 S.rs)).getD t .none)=.none;rcases JQ (f:=iY) x.rs (sk m 0 S.rs) t with h0|⟨s,u,h1,h2,h3⟩
 ·rw[h0];rfl
 ·rw[NM,gz,if_pos h] at h2;subst h2;rw[h3];cases s<;>rfl
theorem Inv.maskR {S:Snap}{hv:Nat→Value}(h:Inv C (S.st ids) ρ σ own hv w0 σ0 A a w)(m:Nat):Inv C ((S.mask m).st ids) ρ σ own hv w0 σ0 (fun _=>False) a w:=by
 have hc:Compat (S.st ids) hv ((S.mask m).st ids) hv:=⟨fun _=>bf _,fun _ _=>rfl⟩
 refine h.weaken (fun t=>?_) (fun j=>?_) (Snap.noOpt _ _) (fun j hj=>⟨hj,rfl⟩)
 ·refine aH.mono' (ρ:=ρ) (.refl σ) hc (Snap.noOpt _ _ t) ?_;rw[Dg];split
  ·trivial
  ·exact h.regs t
 ·exact(h.objs j).mono (.refl σ) hc rfl rfl (fun k hk=>⟨hk,rfl⟩)
theorem Qz:∀(ps:List Nat) (ys:List Ty) (l:List Sh),ps.length=ys.length→gl ps=true→∀t,(qP ps ys l).getD t .none=.none∨(t∉ps∧(qP ps ys l).getD t .none=l.getD t .none)∨∃(i:Nat) (y:Ty),ps[i]?=some t∧ys[i]?=some y∧(qP ps ys l).getD t .none=.dat y
 |[],ys,l,_,_,t=>.inr (.inl ⟨by simp,by cases ys<;>rfl⟩)
 |p::ps,[],l,h,_,t=>by simp at h
 |p::ps,y::ys,l,h,hn,t=>by
  have jy:=l6 hn;rw[mA] at jy;have dm:gl ps=true:=by
   simp only[gl,ak] at hn;exact hn.2
  show(qP ps ys (l.set p (.dat y))).getD t .none=_∨_∨_;rcases Qz ps ys (l.set p (.dat y)) (by simpa using h) dm t with e|⟨e1,e2⟩|⟨i,z,e1,e2,e3⟩
  ·exact .inl e
  ·by_cases hp:t=p
   ·subst hp;by_cases af:t<l.length
    ·exact .inr (.inr ⟨0,y,rfl,rfl,by show(qP ps ys (l.set t (.dat y))).getD t .none=_;rw[e2];simp[aK,af]⟩)
    ·left;rw[e2];simp[aK,af]
   ·refine .inr (.inl ⟨by simp[hp,e1],?_⟩);show(qP ps ys (l.set p (.dat y))).getD t .none=_;rw[e2];simp only[aK,AV];rw[if_neg (fun e=>hp e.symm)]
  ·exact .inr (.inr ⟨i+1,z,by simpa using e1,by simpa using e2,e3⟩)
def mh:List Nat→List Value→Array Value→Array Value
 |p::ps,v::vs,T=>mh ps vs (T.setIfInBounds p v)
 |_,_,T=>T
theorem aob (ps:Array Nat)(vs:Array Value)(T:Array Value):(ps.zip vs).foldl (fun T x=>T.setIfInBounds x.1 x.2) T=mh ps.toList vs.toList T:=by
 rw[←Array.foldl_toList,Array.toList_zip];generalize ps.toList=l;generalize vs.toList=k
 induction l generalizing k T with
 |nil=>rfl
 |cons p l ih=>
  cases k with
  |nil=>rfl
  |cons v k=>simpa [mh] using ih (T.setIfInBounds p v) k
theorem abb:∀(ps:List Nat) (vs:List Value) (T:Array Value),(mh ps vs T).size=T.size
 |[],vs,T=>by cases vs<;>rfl
 |p::ps,[],T=>rfl
 |p::ps,v::vs,T=>by simp[mh,abb ps vs]
theorem Js:∀(ps:List Nat) (vs:List Value) (T:Array Value) (t:Nat),t∉ps→(mh ps vs T).getD t undef=T.getD t undef
 |[],vs,T,t,_=>by cases vs<;>rfl
 |p::ps,[],T,t,_=>rfl
 |p::ps,v::vs,T,t,h=>by
  simp only[cD,not_or] at h;simp only[mh];rw[Js ps vs _ t h.2];simp only[dL,uU];rw[if_neg (fun e=>h.1 e.symm)]
theorem aba:∀(ps:List Nat) (vs:List Value) (T:Array Value) (i t:Nat),ps.Nodup→ps.length=vs.length→(∀p,p∈ps→p<T.size)→ps[i]?=some t→(mh ps vs T).getD t undef=vs.getD i undef
 |p::ps,v::vs,T,0,t,hn,hl,af,h=>by
  simp at h;subst h;rw[mA] at hn;simp only[mh];rw[Js ps vs _ p hn.1];simp[uU,af p (dt ..)]
 |p::ps,v::vs,T,i+1,t,hn,hl,af,h=>by
  rw[mA] at hn;simp only[mh];have:=aba ps vs (T.setIfInBounds p v) i t hn.2 (by simpa using hl) (fun q hq=>by simpa using af q (dk _ hq)) (by simpa using h);simpa using this
 |p::ps,[],T,i,t,hn,hl,af,h=>by simp at hl
 |[],vs,T,i,t,hn,hl,af,h=>by simp at h
theorem zZ (f:Nat→D):∀(ps:List Nat) (vs:List D) (t:Nat),t∉ps→putL f ps vs t=f t
 |[],vs,t,_=>by cases vs<;>rfl
 |p::ps,[],t,_=>rfl
 |p::ps,v::vs,t,h=>by
  simp only[cD,not_or] at h;simp only[putL,bl _ _ h.1];exact zZ f ps vs t h.2
theorem OT (f:Nat→D):∀(ps:List Nat) (vs:List D) (i t:Nat),ps.Nodup→ps.length=vs.length→ps[i]?=some t→putL f ps vs t=vs.getD i .none
 |p::ps,v::vs,0,t,hn,hl,h=>by
  simp at h;subst h;simp[putL,aL]
 |p::ps,v::vs,i+1,t,hn,hl,h=>by
  rw[mA] at hn;have ht:t∈ps:=lF (by simpa using h);have aB:t≠p:=fun e=>hn.1 (e▸ht);simp only[putL,bl _ _ aB];have:=OT f ps vs i t hn.2 (by simpa using hl) (by simpa using h);simpa using this
 |p::ps,[],i,t,hn,hl,h=>by simp at hl
 |[],vs,i,t,hn,hl,h=>by simp at h
theorem amG (ps:List Nat)(ds:List D)(i:Nat)(h:i<ps.length):(partsOf ps (.tup ds)).getD i .none=ds.getD i .none:=by
 simp[partsOf,aK,h,D.tget]
theorem amF (ps:List Nat)(x:D):(partsOf ps x).length=ps.length:=by simp[partsOf]
theorem Inv.startR {S:Snap}{hv:Nat→Value}(h:Inv C (S.st ids) ρ σ own hv w0 σ0 A a w){ps:List Nat}{ys:List Ty}{args:List Value}{ds:List D}{lo:List Nat}{vo:List D}(hl:ps.length=ys.length)(bk:gl ps=true)(af:∀p,p∈ps→p<a.tmps.size)(ha:oe C σ ys args ds)
 (hρ:ρ=ρ'.put [] [] lo vo):Inv C ((S.start ps ys).st ids) (ρ'.put ps (partsOf ps (.tup ds)) lo vo) σ own hv w0 σ0 (fun _=>False) {tmps:=mh ps args a.tmps,defers:=[]} w:=by
 obtain⟨a1,a2,a3⟩:=ha;have hn:=l6 bk;have hc:Compat (S.st ids) hv ((S.start ps ys).st ids) hv:=⟨fun _=>bf _,fun _ _=>rfl⟩
 have ho:∀j,(ρ'.put ps (partsOf ps (.tup ds)) lo vo).o j=ρ.o j:=fun j=>by rw[hρ];rfl
 refine⟨trivial,h.ok,h.le,h.old,h.newc,h.newm,h.below,h.bw,h.owns,fun t=>?_,fun j=>(h.objs j).mono (.refl σ) hc rfl (ho j) (fun k hk=>⟨hk,rfl⟩),fun t gs s e=>absurd e (Snap.noOpt _ _ t gs s),?_⟩
 ·show aH C _ _ σ hv (cr ((qP ps ys (S.rs.map rU)).getD t .none)) ((mh ps args a.tmps).getD t undef) (putL ρ'.r ps (partsOf ps (.tup ds)) t);rcases Qz ps ys (S.rs.map rU) hl bk t with e|⟨e1,e2⟩|⟨i,y,e1,e2,e3⟩
  ·rw[e];trivial
  ·rw[e2,Js _ _ _ _ e1,zZ _ _ _ _ e1];have hr:=h.regs t;change aH C _ ρ σ hv (cr (S.rs.getD t .none)) _ _ at hr;have hρr:ρ.r t=ρ'.r t:=by rw[hρ];show putL ρ'.r [] [] t=_;rfl
   rw[hρr] at hr;have e3:(S.rs.map rU).getD t .none=rU (S.rs.getD t .none):=by
        simp only[aK,cw];cases S.rs[t]?<;>rfl
   rw[e3];generalize S.rs.getD t .none=s at hr;cases s with
   |yv=>trivial
   |opt gs s=>trivial
   |none=>trivial
   |fclo f c=>exact aH.mono' (.refl σ) hc (fun _ _ e=>by cases e) hr
   |agg l=>exact aH.mono' (.refl σ) hc (fun _ _ e=>by cases e) hr
   |dat t=>exact hr
   |obj j v=>exact aH.mono' (.refl σ) hc (fun _ _ e=>by cases e) hr
   |ptr j v o=>exact aH.mono' (.refl σ) hc (fun _ _ e=>by cases e) hr
   |eptr j v o q=>exact aH.mono' (.refl σ) hc (fun _ _ e=>by cases e) hr
  ·rw[e3];have hi:i<ps.length:=(eh.1 e1).1;rw[aba ps args a.tmps i t hn (by omega) af e1,OT _ ps _ i t hn (by rw[amF]) e1,amG _ _ _ hi];exact a3 i y e2
 ·obtain⟨t,fx,cx,h1,h2⟩:=h.frame;exact⟨t,fx,cx,h1,fun j hj=>⟨(h2 j hj).1,by rw[ho j];exact(h2 j hj).2⟩⟩
def vb (C:Ctx)(Φ:aP)(fn:Func)(s:Sig)(n:Nat)(ids:List Nat)(R:Array Oper→Bool→Snap→Option (Snap×List PI))(N:Nat)(c:Code):Prop:=
 ∀(rm:Bool) (S:Snap) (r:Res2),comp C fn s n ids R rm c S=some r→∀(rd:Option Nat) (w0:World) (σ0:Base) (wr:Nat→Prop) (ρ:Env) (x:Out) (a:Act) (w:World),(rm=false→rd=none∧σ0.fin)→CtxOK C σ0→ou C Φ w0 σ0→(∀t,t∈cm c→wr t)→a.tmps.size=n→
  Good C w0 σ0 (S.st ids) ρ (fun _=>False) a w→r.pc.ev Φ N ρ=some x→c.wpIn (FR rd) 0 C.P (gA C w0 σ0 ids fn s rm wr a r.out r.ex x) a w
structure Seg (σ:Im) (own:Nat→Option Nat) (w:World) (σ':Im) (own':Nat→Option Nat) (w':World):Prop where
 le:σ.le σ'
 below:Below 0 w w'
 same:∀k,k<w.heap.size→own k=none→w'.heap[k]?=w.heap[k]?
 ow:∀k j,own' k=some j→(∃i,own k=some i)∨w.heap.size≤k
 imm:∀k,((∃o x,σ'.c k o=some x)∨∃x,σ'.m k=some x)→(∃o x,σ.c k o=some x)∨(∃x,σ.m k=some x)∨(∃i,own k=some i)∨w.heap.size≤k
structure Free (L:Nat) (σ:Im) (own:Nat→Option Nat):Prop where
 own:own L=none
 c:∀o,σ.c L o=none
 m:σ.m L=none
theorem Free.seg {L:Nat}{σ':Im}{own':Nat→Option Nat}{w':World}(h:Free L σ own)(hL:L<w.heap.size)(k:Seg σ own w σ' own' w'):Free L σ' own':=by
 have Co:¬((∃o x,σ'.c L o=some x)∨∃x,σ'.m L=some x):=fun e=>by
  rcases k.imm L e with⟨o,x,e⟩|⟨x,e⟩|⟨i,e⟩|e
  ·rw[h.c o] at e;cases e
  ·rw[h.m] at e;cases e
  ·rw[h.own] at e;cases e
  ·omega
 refine⟨?_,fun o=>?_,?_⟩
 ·cases e:own' L with
  |none=>rfl
  |some j=>
   rcases k.ow L j e with⟨i,e⟩|e
   ·rw[h.own] at e;cases e
   ·omega
 ·cases e:σ'.c L o with
  |none=>rfl
  |some x=>exact absurd (.inl ⟨o,x,e⟩) Co
 ·cases e:σ'.m L with
  |none=>rfl
  |some x=>exact absurd (.inr ⟨x,e⟩) Co
def acf (C:Ctx)(w0:World)(σ0:Base)(ids:List Nat)(wr:Nat→Prop)(a0:Act)(σ:Im)(own:Nat→Option Nat)(w:World)(out:Option Snap)(ex:List (Nat×Snap))(x:Out)(e:Exit)(a':Act)(w':World):Prop:=
 ∃ρ' S' σ' own' hv',Inv C (S'.st ids) ρ' σ' own' hv' w0 σ0 (fun _=>False) a' w'∧Seg σ own w σ' own' w'∧SameBut wr a0 a'∧
  match e with
  |.normal=>x=.next ρ'∧out=some S'
  |.exit id=>x=.exit id ρ'∧id≠cG∧(id,S')∈ex
  |.ret=>x=.exit cG ρ'∧(cG,S')∈ex
  |_=>False
theorem aa5 {N:Nat}{c:Code}(hc:vb C Φ fn s n ids R N c){S:Snap}{r:Res2}(hr:comp C fn s n ids R true c S=some r)(jZ:C.yl=none)(hC:CtxOK C σ0){wr:Nat→Prop}{ρ:Env}{x:Out}{hv:Nat→Value}(h:Inv C (S.st ids) ρ σ own hv w0 σ0 (fun _=>False) a w)
 (gV:∀t,t∈cm c→wr t) (hn:a.tmps.size=n) (he:r.pc.ev Φ N ρ=some x) (L:Nat):c.wpIn (FR (some L)) 0 C.P (acf C w0 σ0 ids wr a σ own w r.out r.ex x) a w:=by
 obtain⟨t,fx,cx,cS,ht⟩:=h.frame;have h1:=h.toRnd (X:=fun _=>False) ht;refine wpIn_mono (hc true S r hr (some L) w0 (σ0.rnd σ own w t fun _=>False) wr ρ x a w (fun e=>by cases e) (hC.mono h.le) (fun J ys e=>by rw[jZ] at e;cases e) gV hn ⟨_,_,_,h1⟩ he) fun e a' w' ho=>?_
 have main:∀{S':Snap} {ρ':Env},SameBut wr a a'→Good C w0 (σ0.rnd σ own w t fun _=>False) (S'.st ids) ρ' (fun _=>False) a' w'→∃σ' own' hv',Inv C (S'.st ids) ρ' σ' own' hv' w0 σ0 (fun _=>False) a' w'∧Seg σ own w σ' own' w'∧SameBut wr a a':=by
  intro S' ρ' hs hg;obtain⟨σ',own',hv',h2⟩:=hg;exact⟨σ',own',hv',h.ofRnd cS (fun _ _=>id) h2,⟨h2.le,h.rndBelow h2,fun k hk ho=>Inv.rndSame h.ok h2 hk ho id,fun k j e=>Inv.rndOwn h2 e id,fun k e=>Inv.rndC h2 e id⟩,hs⟩
 cases e with
 |normal=>
  obtain⟨ρ',S',e1,e2,e3,e4⟩:=ho;obtain⟨σ',own',hv',g1,g2,g3⟩:=main e3 e4;exact⟨ρ',S',σ',own',hv',g1,g2,g3,e1,e2⟩
 |exit id=>
  obtain⟨ρ',S',e1,e0,e2,e3,e4⟩:=ho;obtain⟨σ',own',hv',g1,g2,g3⟩:=main e3 e4;exact⟨ρ',S',σ',own',hv',g1,g2,g3,e1,e0,e2⟩
 |ret=>
  obtain⟨ρ',S',e1,e2,e3,e4⟩:=ho;obtain⟨σ',own',hv',g1,g2,g3⟩:=main e3 e4;exact⟨ρ',S',σ',own',hv',g1,g2,g3,e1,e2⟩
 |_=>exact ho.elim
theorem Inv.putL {L:Nat}{hv:Nat→Value}{S:St}{ρ:Env}(h:Inv C S ρ σ own hv w0 σ0 A a w)(hL:w0.heap.size≤L)(hf:Free L σ own)(hx:∀t fx cx,FrOK σ own w0.heap.size σ0 w t fx cx→¬fx L)(o:Obj):Inv C S ρ σ own hv w0 σ0 A a (w.putObj L o):=
 h.keep (X:=fun k=>k≠L) ⟨rfl,rfl,rfl,by simp,fun k hk=>by omega⟩ (fun k hk=>World.putObj_heap_other hk) (fun k hk=>by omega) (fun k j e1 e2=>by subst e2;rw[hf.own] at e1;cases e1) (fun k o v e1 e2=>by subst e2;rw[hf.c] at e1;cases e1)
  (fun k v e1 e2=>by subst e2;rw[hf.m] at e1;cases e1) (fun t fx cx cS k hk e=>by subst e;exact hx t fx cx cS hk)
theorem arc {o:Oper}{L:Nat}{x:Operand}{aa:Array Operand}{ts:Array TypeId}{r:Loop}(bS:o.op=.call {callee:=.value x,args:=aa,argTypes:=ts})(hx:a.eval x=.func (.yield L) #[] #[])(hL:w.heap[L]?=some (.loop r))(hs:aa.size=r.params.size):
 (execOp a.eval o).run C.P w=.ok (.round L r.fn ((r.params.zip (aa.map a.eval)).foldl (fun tmps (t,v)=>tmps.setIfInBounds t v) r.tmps) r.assign r.body) w:=by
 have hy:=run_yield (P:=C.P) (args:=aa.map a.eval) hL (by simpa using hs);simp[execOp,bS,resolve,hx,Deferred.ofValue,invoke,hy]
theorem anr {g:Operand}{f:Nat}{vs:List Value}{L:Nat}(hf:∃fn,C.P.funcs[f]?=some fn∧fn.body.isSome=true∧(fn.name== "runtime.NumGoroutine")=false)(hg:a.eval g=.func (.func f) #[] vs.toArray):
 (resolve a.eval (rangeCall g L) 0).run C.P w=.ok {target:=.fn (.func f) vs.toArray,args:=#[.func (.yield L) #[] #[]]} w∧
 (invoke (.fn (.func f) vs.toArray) #[.func (.yield L) #[] #[]]).run C.P w=.ok (.enter f (#[.func (.yield L) #[] #[]]++vs.toArray)) w:=by
 obtain⟨fn,h1,h2,h3⟩:=hf;obtain⟨bd,jt⟩:=TH.1 h2;have h4:¬fn.name= "runtime.NumGoroutine" :=by simpa using h3
 constructor
 ·simp only[resolve,hg];simp[go_sem]
 ·simp[invoke,callFunc,h1,jt,h4]
theorem FrOK.enter {hv:Nat→Value}{S:St}{ρ:Env}(h:Inv C S ρ σ own hv w0 σ0 A a w){t:D}{fx cx:Nat→Prop}(hf:FrOK σ own w0.heap.size σ0 w t fx cx)(r:Loop):FrOK (σ.mark w.heap.size) own w0.heap.size σ0 ((w.alloc (.deferred (some []))).alloc (.loop r)) t fx cx:=by
 have hb:=UJ w (.deferred (some [])) (.loop r);have af:=σ0.lt _ _ _ _ hf.F;have bJ:=σ0.sub _ _ _ _ hf.F;have Cz:∀k x,(σ.mark w.heap.size).m k=some x→σ.m k=some x∨k=w.heap.size:=by
  intro k x e;simp only[Im.mark] at e;split at e
  ·rename_i e2;exact .inr e2
  ·exact .inl e
 refine⟨σ0.keep _ _ _ _ _ hf.F (hb.mono (ot _)) fun k hk=>hb.block k (af k hk),hf.own,hf.c,fun k x e hc=>?_,fun k e hB hk=>?_⟩
 ·rcases Cz k x e with e|e
  ·exact hf.m k x e hc
  ·have:=af k (bJ k hc);omega
 ·rcases Cz k _ e with e|e
  ·exact hf.d k e hB hk
  ·have:=af k hk;omega
structure RSt (C:Ctx) (w0:World) (σR:Base) (ids:List Nat) (ρ1:Env) (lo:List Nat) (aM:Act) (L:Nat) (W1:World) (σ1:Im) (rec:LoopState→Option Code→Loop) (xs:List D) (P:Nat→List D→Snap→LoopState→Option Code→Prop) (t:D) (fx cx:Nat→Prop) (w:World):Prop where
 lt:∀k,fx k→k<w.heap.size
 sub:∀k,cx k→fx k
 old:∀k,k<W1.heap.size→fx k
 ex:∃(i:Nat) (vo:List D) (Sx:Snap) (st:LoopState) (pe:Option Code) (σ:Im) (own:Nat→Option Nat) (hv:Nat→Value),t=.list (xs.take i)∧P i vo Sx st pe∧Inv C (Sx.st ids) (ρ1.put [] [] lo vo) σ own hv w0 σR (fun _=>False) aM w∧
  σ1.le σ∧Free L σ own∧w.heap[L]?=some (.loop (rec st pe))∧(∀k j,own k=some j→fx k)∧(∀k o x,σ.c k o=some x→fx k)∧(∀k x,σ.m k=some x→fx k)∧∀k,cx k↔((∃j,own k=some j)∨k=L)
theorem RSt.keep {σR:Base}{ρ1:Env}{lo:List Nat}{aM:Act}{L:Nat}{W1:World}{σ1:Im}{rec:LoopState→Option Code→Loop}{xs:List D}{P:Nat→List D→Snap→LoopState→Option Code→Prop}{t:D}{fx cx:Nat→Prop}{w w':World}
 (h0:w0.heap.size≤W1.heap.size) (hL:L<W1.heap.size) (hR:∀t f c w,σR.F t f c w→∀k,f k→k<W1.heap.size) (h:RSt C w0 σR ids ρ1 lo aM L W1 σ1 rec xs P t fx cx w) (hb:Below 0 w w') (hs:∀k,fx k→w'.heap[k]?=w.heap[k]?):
 RSt C w0 σR ids ρ1 lo aM L W1 σ1 rec xs P t fx cx w':=by
 obtain⟨i,vo,Sx,st,pe,σ,own,hv,e1,e2,e3,e4,e5,e6,e7,e8,e9,e10⟩:=h.ex;refine⟨fun k hk=>u7 (h.lt k hk) hb.size,h.sub,h.old,i,vo,Sx,st,pe,σ,own,hv,e1,e2,?_,e4,e5,(hs L (h.old L hL)).trans e6,e7,e8,e9,e10⟩;exact e3.keep (X:=fx) hb hs (fun k hk=>h.old k (by omega)) e7 e8 e9 (fun t f c hf k hk=>h.old k (hR _ _ _ _ hf.F k hk))
theorem Im.noM_m {σ:Im}{k:Nat}{v:List (Value×Value)}(h:σ.noM.m k=some v):σ.m k=some v∧v≠cO:=by
 simp only[Im.noM] at h;split at h
 ·cases h
 ·rename_i aB;exact⟨h,fun e=>aB (by rw[h,e])⟩
structure SegL (L:Nat) (σ:Im) (own:Nat→Option Nat) (w:World) (σ':Im) (own':Nat→Option Nat) (w':World):Prop where
 le:σ.le σ'
 below:Below 0 w w'
 same:∀k,k<w.heap.size→own k=none→k≠L→w'.heap[k]?=w.heap[k]?
 ow:∀k j,own' k=some j→(∃i,own k=some i)∨w.heap.size≤k
 imm:∀k,((∃o x,σ'.c k o=some x)∨∃x,σ'.m k=some x)→(∃o x,σ.c k o=some x)∨(∃x,σ.m k=some x)∨(∃i,own k=some i)∨w.heap.size≤k
theorem ZL (w:World)(L:Nat)(o:Obj):Below 0 w (w.putObj L o):=⟨rfl,rfl,rfl,by simp,fun k hk=>by omega⟩
theorem Seg.round {L:Nat}{σ' σ'':Im}{own' ZA:Nat→Option Nat}{w' kh:World}{o o':Obj}(h:Seg σ own w σ' own' w')(k:Seg σ' own' (w'.putObj L o) σ'' ZA kh):SegL L σ own w σ'' ZA (kh.putObj L o'):=by
 have aJ:=h.below.size;have HI:=k.below.size;simp only[World.putObj_size] at HI;refine⟨h.le.trans k.le,h.below.trans ((ZL _ _ _).trans (k.below.trans (ZL _ _ _))),fun q hq ho hL=>?_,fun q j e=>?_,fun q e=>?_⟩
 ·have h1:own' q=none:=by
   cases e:own' q with
   |none=>rfl
   |some j=>
    rcases h.ow q j e with⟨i,e⟩|e
    ·rw[ho] at e;cases e
    ·omega
  rw[World.putObj_heap_other hL,k.same q (by simp;omega) h1,World.putObj_heap_other hL,h.same q hq ho]
 ·rcases k.ow q j e with⟨i,e⟩|e
  ·exact h.ow q i e
  ·simp only[World.putObj_size] at e;exact .inr (by omega)
 ·rcases k.imm q e with e|e|⟨i,e⟩|e
  ·exact h.imm q (.inl e)
  ·exact h.imm q (.inr e)
  ·rcases h.ow q i e with e|e
   ·exact .inr (.inr (.inl e))
   ·exact .inr (.inr (.inr e))
  ·simp only[World.putObj_size] at e;exact .inr (.inr (.inr (by omega)))
theorem Env.put_self (ρ:Env)(lo:List Nat):ρ.put [] [] lo (lo.map ρ.o)=ρ:=by
 have h2:∀u,putL ρ.o lo (lo.map ρ.o) u=ρ.o u:=fun u=>by rw[su];split<;>rfl
 show Env.mk ρ.r (putL ρ.o lo (lo.map ρ.o))=ρ;rw[funext h2]
theorem ans {N:Nat}(fu:gf C Φ){g:Operand}{ps:Array Tmp}{ca cb:Code}(bh:vb C Φ fn s n ids R N ca)(dq:vb C Φ fn s n ids R N cb):vb C Φ fn s n ids R N (.rangeFunc g ps ca cb):=by
 intro rm S r hr rd w0 σ0 wr ρ x a w gk hC hY gV hn hg he;simp only[comp] at hr;split at hr
 case h_2=>cases hr;exact absurd he (mi _ _ _ _)
 rename_i aa rr e jZ hu;split at hr
 case h_2=>cases hr;exact absurd he (mi _ _ _ _)
 rename_i ys v8;split at hr
 case h_2=>cases hr;exact absurd he (mi _ _ _ _)
 rename_i q hq;rw[og] at hr;split at hr
 case isFalse=>cases hr;exact absurd he (mi _ _ _ _)
 rename_i qg;cases hr;simp only[ak] at qg;obtain⟨⟨⟨hl,bk⟩,af⟩,vW⟩:=qg;have hl:=ay hl;have vW:=ji vW;obtain⟨hrd,lQ⟩:=gk rfl;subst hrd;obtain⟨hs,y5,_⟩:=C8 (C:=C) (w0:=w0) (σ0:=σ0) (ids:=ids) 8 hq;simp only[au] at hs;obtain⟨ra,MY,hs⟩:=hs;split at hs
 case h_2=>cases hs
 rename_i S1 hao VA;simp only[az] at hs;obtain⟨rb,Wn,iT⟩:=hs;have V5:=tj ca MY;have V6:=tj cb Wn;obtain⟨q1,q2⟩:=q;simp only at MY iT vW y5 he ⊢;generalize vP:XA ids (q1::q2.ex.map (·.2)) q2.mo=lo at he;generalize tS:((nI cG q2.ex none).bind fun M=>wY C fn s (M.st ids))=rt at he;have CM:∃f caps d,e.ev ρ=.clo f caps∧Φ f caps=some d∧gh (q2.pc.ev Φ N) (ρ.setR n d) ps.toList lo rt d.l (lo.map ρ.o)=some x:=by
  simp only[PC.ev,PI.runs,PI.run,holds,List.all_nil,cond_true] at he;cases bH:e.ev ρ with
  |clo f caps=>
   rw[bH] at he;simp only[PE.evs,sW] at he;cases hΦ:Φ f caps with
   |none=>rw[hΦ] at he;simp at he
   |some d=>
    rw[hΦ] at he;simp only[jO,jN,PE.ev,Env.setR,aL] at he;exact⟨f,caps,d,rfl,hΦ,he⟩
  |_=>rw[bH] at he;simp at he
 obtain⟨f,caps,d,bH,hΦ,he⟩:=CM;obtain⟨σ,own,hv,i⟩:=hg;have hx:=cg (gs:=[]) i hC rfl hu;rw[bH] at hx;generalize Mm:a.eval g=gv at hx;generalize aZ:Ty.fn aa rr=ty at hx;cases hx with
 |fn f cs vs ds fM h1 h2 aO=>
 cases aZ;obtain⟨hfn,ahT⟩:=fu f cs ys fM v8;obtain⟨xs,rfl,awq,Mo⟩:=ahT caps d hΦ;simp only[D.l_list] at he;obtain⟨m,mu,hm,rY,Hx,kD⟩:=UE he;have iq0:=WT 8 hq i
 have iq:Inv C (q1.st ids) (ρ.setR n (.list xs)) σ own hv w0 σ0 (fun _=>False) a w:=by
  refine iq0.env (Snap.noOpt _ _) (fun t ht=>?_) (fun _ _=>rfl);have af:t<q1.rs.length:=by
   refine TG fun hle=>?_;simp only[Snap.st,aK,re hle,Option.getD_none,cr,isNone] at ht;cases ht
  simp[Env.setR,bl _ _ (show t≠n by omega)]
 obtain⟨ρ1,hρ1⟩:∃ρ1,ρ.setR n (.list xs)=ρ1:=⟨_,rfl⟩
 rw[hρ1] at he iq Hx kD;have jA:ρ.o=ρ1.o:=by rw[←hρ1];rfl
 rw[jA] at rY;refine wpIn_rangeFunc ?_;intro LK av4;obtain⟨L,Vq⟩:∃L,w.heap.size+1=L:=⟨_,rfl⟩
 obtain⟨rec,ir⟩:∃rec:LoopState→Option Code→Loop,rec=fun st pe=>{state:=st,pending:=pe,fn:=LK,tmps:=a.tmps,params:=ps,assign:=ca,body:=cb,defers:=w.heap.size}:=⟨_,rfl⟩
 have i1:=iq.enter (rec .ready none);obtain⟨t,fx0,cx0,VO,M5⟩:=iq.frame;have ahC:=σ0.lt _ _ _ _ VO.F;have Mi:=FrOK.enter iq VO (rec .ready none);have awo:=iq.below.size;have yU:Free L (σ.mark w.heap.size) own:=by
  refine⟨?_,fun o=>?_,?_⟩
  ·cases e:own L with
   |none=>rfl
   |some j=>have:=(iq.owns L j e).2.1;omega
  ·cases e:σ.c L o with
   |none=>exact e
   |some x=>have:=iq.lt e;omega
  ·simp only[Im.mark,show L≠w.heap.size by omega,if_false];cases e:σ.m L with
   |none=>rfl
   |some x=>have:=iq.ltm e;omega
 have kR:σ.le (σ.mark w.heap.size):=by
  refine⟨fun _ _ _ e=>e,fun k x e=>?_⟩;have:k≠w.heap.size:=by have:=iq.ltm e;omega
  simp[Im.mark,this,e]
 have Vn:((w.alloc (.deferred (some []))).alloc (.loop (rec .ready none))).heap[L]?=some (.loop (rec .ready none)):=by
  have:=World.alloc_heap_new (w.alloc (.deferred (some []))) (.loop (rec .ready none));rw[World.size_alloc,Vq] at this;exact this
 obtain⟨W1,LY⟩:∃W1,(w.alloc (.deferred (some []))).alloc (.loop (rec .ready none))=W1:=⟨_,rfl⟩
 have avX:W1.heap.size=w.heap.size+2:=by rw[←LY];simp
 rw[LY] at i1 Mi Vn;have Mg:(Instr.enterLoop LK a.tmps ps ca cb none).run C.P w=.ok (L,[{target:=.collected w.heap.size,args:=#[]}]) W1:=by
  rw[←LY,ir,←Vq];exact run_enterLoop_outer _ _ _ _ _
 obtain⟨σ1,hσ1⟩:∃σ1,σ.mark w.heap.size=σ1:=⟨_,rfl⟩
 rw[hσ1] at i1 Mi yU kR;obtain⟨aM,LZ⟩:∃aM:Act,{a with defers:={target:=.collected w.heap.size,args:=#[]}::a.defers}=aM:=⟨_,rfl⟩
 have B2:aM.tmps=a.tmps:=by rw[←LZ]
 rw[LZ] at i1;have iR:=i1.toRnd (t:=t) (X:=fun k=>k=L) M5;obtain⟨σR,hσR⟩:∃σR,σ0.rnd σ1 own W1 t (fun k=>k=L)=σR:=⟨_,rfl⟩
 have tC:∀t' f c w',σR.F t' f c w'→(∀k,f k→k<W1.heap.size∧k≠L)∧∀k,c k→f k∧(∀o,σ1.c k o=none)∧σ1.m k=none:=by
  rw[←hσR];rintro t' f c w' ⟨_,h2,h3,_⟩;exact⟨fun k hk=>⟨((h2 k).1 hk).1,((h2 k).1 hk).2.2.2⟩,fun k hk=>(h3 k).1 hk⟩
 have Vt:CtxOK C σR:=by rw[←hσR];exact hC.mono i1.le
 rw[hσR] at iR
 obtain⟨P,hP⟩:∃P:Nat→List D→Snap→LoopState→Option Code→Prop,P=fun i vo Sx st pe=>(i≤m∧vo=mu i∧Sx=q1∧st=.ready∧pe=none)∨
  (i=m+1∧m<xs.length∧st=.done∧∃y id ρ',xs[m]?=some y∧q2.pc.ev Φ N (ρ1.put ps.toList (partsOf ps.toList y) lo (mu m))=some (.exit id ρ')∧vo=lo.map ρ'.o∧(id,Sx)∈q2.ex∧((id≠cG∧pe=some (.exit id))∨(id=cG∧pe=some .ret))):=⟨_,rfl⟩
 obtain⟨c1,c2⟩:=anr (C:=C) (w:=W1) (L:=L) hfn Mm;refine⟨L,[{target:=.collected w.heap.size,args:=#[]}],W1,_,W1,f,_,W1,Mg,c1,fun _ _=>trivial,c2,(fun e=>by cases e),?_⟩
 refine Uc ((Mo σ1 W1 (.func (.yield L) #[] #[]) vs (RSt C w0 σR ids ρ1 lo aM L W1 σ1 rec xs P) (fun k=>k<W1.heap.size) (fun k=>(∃j,own k=some j)∨k=L) m i1.ok (hC.mono i1.le) ⟨h1,h2,fun j t e=>(aO j t e).mono kR⟩ hm
  (fun t f c w h=>h.lt) (fun t f c w h=>h.sub) (fun t f c w w' h hb hs=>h.keep (by omega) (by omega) (fun t f c w hF k hk=>((tC t f c w hF).1 k hk).1) hb hs) ?_ ?_ ?_ ?_).mono ?_)
 ·refine⟨fun k hk=>hk,fun k hk=>?_,fun k hk=>hk,0,mu 0,q1,.ready,none,σ1,own,hv,by simp,by rw[hP];exact .inl ⟨ot _,rfl,rfl,rfl,rfl⟩,?_,.refl σ1,yU,Vn,fun k j e=>(iR.owns k j e).2.1,fun k o x e=>iR.lt e,fun k x e=>iR.ltm e,fun k=>.rfl⟩
  ·rcases hk with⟨j,e⟩|e
   ·exact(iR.owns k j e).2.1
   ·show k<W1.heap.size;omega
  ·rw[rY,Env.put_self];exact iR
 ·rintro k o x e (⟨j,hj⟩|rfl)
  ·have:=(iR.owns k j hj).2.2.1 o;rw[e] at this;cases this
  ·rw[yU.c] at e;cases e
 ·rintro k x e (⟨j,hj⟩|rfl)
  ·have:=(iR.owns k j hj).2.2.2;rw[e] at this;cases this
  ·rw[yU.m] at e;cases e
 ·intro i fx cx w1 σx args ds' hi dy hF hσx ia ib nu cP cI rd' o a' x' aa ts K Q bS bZ Vy hK;have av6:i<xs.length:=(eh.1 dy).1;obtain⟨i',vo,Sx,st,pe,σa,wG,hva,e1,e2,iA,Hq,B0,GX,MF,VE,Cy,y3⟩:=hF.ex;have hii:i'=i:=by
   have h9:=congrArg List.length (congrArg D.l e1);simp only[D.l_list,dR] at h9;omega
  subst hii;rw[hP] at e2;rcases e2 with⟨_,rfl,B1,rfl,rfl⟩|⟨e2,_⟩
  case inr=>omega
  rw[B1] at iA;have Vr:L<w1.heap.size:=hF.lt L (hF.old L (by omega));have G9:cx L:=(y3 L).2 (.inr rfl)
  have aih:∀k o v,σx.c k o=some v→wG k=none:=fun k o v e=>by
   cases e2:wG k with
   |none=>rfl
   |some j=>exact absurd ((y3 k).2 (.inl ⟨j,e2⟩)) (ib k o v e)
  have CD:∀k v,σx.m k=some v→wG k=none:=fun k v e=>by
   cases e2:wG k with
   |none=>rfl
   |some j=>exact absurd ((y3 k).2 (.inl ⟨j,e2⟩)) (nu k v e)
  have hτok:σx.noM.ok w1:=⟨hσx.c,fun k v e=>hσx.m k v (Im.noM_m e).1⟩
  have iB:=iA.joinIm (τ:=σx.noM) hτok (fun k e=>(Im.noM_m e).2 rfl) aih (fun k v e=>CD k v (Im.noM_m e).1)
   (fun k o v e=>(cP k o v e).imp (fun e=>Hq.c k o v e) fun e=>by omega) (fun k v e=>(cI k v (Im.noM_m e).1).imp (fun e=>Hq.m k v e) fun e=>by omega)
   (fun t' f c hf=>⟨fun k o v e hc=>by
        obtain⟨g1,g2,g3⟩:=(tC _ _ _ _ hf.F).2 k hc;rcases cP k o v e with e|e
        ·rw[g2 o] at e;cases e
        ·have:=((tC _ _ _ _ hf.F).1 k g1).1;omega,fun k v e hc=>by
        obtain⟨g1,g2,g3⟩:=(tC _ _ _ _ hf.F).2 k hc;rcases cI k v (Im.noM_m e).1 with e|e
        ·rw[g3] at e;cases e
        ·have:=((tC _ _ _ _ hf.F).1 k g1).1;omega⟩)
  have Vk:Free L (σa.plus σx.noM) wG:=by
   refine⟨B0.own,fun o=>?_,?_⟩
   ·cases e:(σa.plus σx.noM).c L o with
    |none=>rfl
    |some v=>
     rcases Im.plus_c e with e|e
     ·rw[B0.c] at e;cases e
     ·exact absurd G9 (ib L o v e)
   ·cases e:(σa.plus σx.noM).m L with
    |none=>rfl
    |some v=>
     rcases Im.plus_m e with e|e
     ·rw[B0.m] at e;cases e
     ·exact absurd G9 (nu L v (Im.noM_m e).1)
  have rW:ps.toList.length=ys.length:=by rw[AO];exact hl.symm
  have ag0:oe C (σa.plus σx.noM) ys args ds':=⟨ia.1,ia.2.1,fun j t e=>((ia.2.2 j t e).noM).mono (Im.plus_le2 iA.ok hτok)⟩
  have iC:=iB.startR (ρ':=ρ1) rW bk (fun p hp=>by
   have:=bE.1 af p hp;rw[B2,hn];simpa [hH] using this) ag0 rfl
  have MT:∃xi,q2.pc.ev Φ N (ρ1.put ps.toList (partsOf ps.toList (.tup ds')) lo (mu i'))=some xi∧((i'<m∧∃ρ',xi=.next ρ'∧lo.map ρ'.o=mu (i'+1))∨(i'=m∧m<xs.length∧∃id ρ',xi=.exit id ρ')):=by
   by_cases kC:i'<m
   ·obtain⟨y,ρ',g1,g2,g3⟩:=Hx i' kC;rw[dy] at g1;cases g1;exact⟨_,g2,.inl ⟨kC,ρ',rfl,g3⟩⟩
   ·obtain rfl:i'=m:=by omega
    rcases kD with⟨g1,_⟩|⟨g1,y,id,ρ',g2,g3,_⟩
    ·omega
    ·rw[dy] at g2;cases g2;exact⟨_,g3,.inr ⟨rfl,g1,id,ρ',rfl⟩⟩
  obtain⟨xi,rZ,Nk⟩:=MT;have ae:q2.pc=.seq ra.pc rb.pc:=by rw[←iT];rfl
  rw[ae] at rZ;have aJ:(mh ps.toList args aM.tmps).size=n:=by rw[abb,B2,hn]
  refine⟨fun _ _=>trivial,?_⟩;rw[Oper.semAt_eq _ _ _ (fun c e=>by rw[bS] at e;cases e)];have ag1:aa.size=ps.size:=by
   have:=ia.1;rw[←Vy,gw,AO] at this;omega
  have ah:=arc (C:=C) bS bZ GX (by rw[ir];exact ag1);have aiH:(rec .ready none).fn=LK∧(rec .ready none).tmps=a.tmps∧(rec .ready none).params=ps∧(rec .ready none).assign=ca∧(rec .ready none).body=cb:=by rw[ir];exact⟨rfl,rfl,rfl,rfl,rfl⟩
  obtain⟨r1,r2,r3,r4,r5⟩:=aiH;rw[r1,r2,r3,r4,r5] at ah
  have oY:(ps.zip (aa.map a'.eval)).foldl (fun tmps (t,v)=>tmps.setIfInBounds t v) a.tmps=mh ps.toList args aM.tmps:=by
   rw[B2,←Vy,←uV];exact aob ps (aa.map a'.eval) a.tmps
  rw[oY] at ah;rw[ah];refine⟨(fun e=>by cases e),?_⟩;refine roundIn_of_wpIn (F:=FR rd') trivial ?_;show ca.wpIn (FR (some L)) 0 C.P _ _ _;cases lU:ra.pc.ev Φ N (ρ1.put ps.toList (partsOf ps.toList (.tup ds')) lo (mu i')) with
  |none=>simp only[PC.ev,lU] at rZ;cases rZ
  |some xa=>
  refine wpIn_mono (aa5 bh MY jZ Vt iC (wr:=fun t=>t∈cm ca) (fun _ h=>h) aJ lU L) fun e2 a1 S9 aiQ=>?_;obtain⟨ρ2,S2,σ2,ix,gT,iD,tT,iU,jV⟩:=aiQ;cases e2 with
  |normal=>
   obtain⟨rfl,yV⟩:=jV;rw[hao] at yV;cases yV;simp only[PC.ev,lU] at rZ;have Vo:S9.heap[L]?=some (.loop (rec .ready none)):=(tT.same L Vr Vk.own).trans GX;have LV:=Vk.seg Vr tT;have LW:L<S9.heap.size:=(ga.1 Vo).1;have Vm:w0.heap.size≤L:=by omega
   refine⟨_,run_beginRound Vo (by rw[ir]),?_⟩;have iE:=iD.putL Vm LV (fun t' f c hf Ch=>((tC _ _ _ _ hf.F).1 L Ch).2 rfl) (.loop {rec .ready none with state:=.busy});have hL3:(S9.putObj L (.loop {rec .ready none with state:=.busy})).heap[L]?=some (.loop {rec .ready none with state:=.busy}):=World.putObj_heap_same LW;show cb.wpIn (FR (some L)) 0 C.P _ _ _;refine wpIn_mono (aa5 dq Wn jZ Vt iE (wr:=fun t=>t∈cm cb) (fun _ h=>h) (iU.size.trans aJ) rZ L) fun e3 a3 w3 aiR=>?_;obtain⟨ρ3,S3,σ3,wF,CX,iF,HH,aiP,nB⟩:=aiR;have Vp:w3.heap[L]?=some (.loop {rec .ready none with state:=.busy}):=(HH.same L (by simpa using LW) LV.own).trans hL3;have Vj:=LV.seg (by simpa using LW) HH;have agL:L<w3.heap.size:=(ga.1 Vp).1;obtain⟨mk,Hu⟩:∃mk,Nat.lor (wv (ps.toList++cm ca++cm cb)) (Nat.lor ra.mr rb.mr)=mk:=⟨_,rfl⟩
   have ah9:∀t,av mk t=false→t∉ps.toList∧t∉cm ca∧t∉cm cb∧av ra.mr t=false∧av rb.mr t=false:=by
        intro t ht;rw[←Hu,eP,eP,Tp,Tp] at ht;obtain⟨t1,t2,t3⟩:=ht;have:t∉ps.toList++cm ca++cm cb:=fun hm=>by rw[T3 hm] at t1;cases t1
        simp only[dB,not_or] at this;exact⟨this.1.1,this.1.2,this.2,t2,t3⟩
   have MZ:∀t,av mk t=false→aM.tmps.getD t undef=a3.tmps.getD t undef∧(ρ1.put [] [] lo (lo.map ρ3.o)).r t=ρ3.r t:=by
        intro t ht;obtain⟨t1,t2,t3,t4,t5⟩:=ah9 t ht;refine⟨?_,?_⟩
        ·rw[aiP.get t t3,iU.get t t2];exact(Js _ _ _ _ t1).symm
        ·have hb3:∀ρ',xi=.next ρ'∨(∃id,xi=.exit id ρ')→ρ'.r t=ρ2.r t:=fun ρ' h=>by
          have vI:xi.env?=some ρ':=by rcases h with h|⟨id,h⟩<;>rw[h]<;>rfl
          exact(PC.ev_but rb.pc _ _ ρ' rZ vI).r t fun hm=>by rw[V6.1 t hm] at t5;cases t5
         have cY:ρ2.r t=putL ρ1.r ps.toList (partsOf ps.toList (.tup ds')) t:=(PC.ev_but ra.pc _ _ ρ2 lU rfl).r t fun hm=>by rw[V5.1 t hm] at t4;cases t4
         rw[zZ _ _ _ _ t1] at cY;show ρ1.r t=ρ3.r t;rw[hb3 ρ3 (by
          cases e3 with
          |normal=>exact .inl nB.1
          |exit id=>exact .inr ⟨id,nB.1⟩
          |ret=>exact .inr ⟨_,nB.1⟩
          |_=>exact nB.elim),cY]
   have Mw:q2.mo=jc ra.mo rb.mo:=by rw[←iT];rfl
   have MI:∀j,j∉q2.mo→ρ3.o j=ρ1.o j:=by
        intro j hj;rw[Mw,pj,not_or] at hj;have vI:xi.env?=some ρ3:=by
         cases e3 with
         |normal=>rw[nB.1];rfl
         |exit id=>rw[nB.1];rfl
         |ret=>rw[nB.1];rfl
         |_=>exact nB.elim
        rw[(PC.ev_but rb.pc _ _ ρ3 rZ vI).o j fun hm=>hj.2 (V6.2 j hm),(PC.ev_but ra.pc _ _ ρ2 lU rfl).o j fun hm=>hj.1 (V5.2 j hm)]
        exact zZ _ _ _ _ fun hm=>by
         rw[←vP] at hm;have:=(du.1 hm).1;rw[Mw,pj] at this;exact this.elim hj.1 hj.2
   have MH:∀(S:Snap),S∈(q1::q2.ex.map (·.2))→∀j,nG ((S.st ids).o j)=false→(ρ1.put [] [] lo (lo.map ρ3.o)).o j=ρ3.o j:=by
        intro S hS j hj;show putL ρ1.o lo (lo.map ρ3.o) j=ρ3.o j;rw[su];split
        ·rfl
        ·rename_i fO;refine(MI j fun tM=>fO ?_).symm;rw[←vP];exact du.2 ⟨tM,jL.2 ⟨S,hS,by simpa [Snap.st] using hj⟩⟩
   have fin:∀(jump:Option Code) (Sx:Snap),Inv C (Sx.st ids) (ρ1.put [] [] lo (lo.map ρ3.o)) σ3 wF CX w0 σR (fun _=>False) aM w3→P (i'+1) (lo.map ρ3.o) Sx (if jump.isNone then .ready else .done) jump→jump.isNone=decide (i'<m)→
        ∃v w',(Instr.endRound L jump).run C.P w3=.ok v w'∧K (a'.put o.dst v) w':=by
        intro jump Sx iG hPn tM;refine⟨_,_,run_endRound jump Vp,?_⟩;have aiG:({{rec .ready none with state:=.busy} with state:=if jump.isNone then .ready else .done,pending:=jump}:Loop)=rec (if jump.isNone then .ready else .done) jump:=by rw[ir]
        rw[aiG];have aO:=tT.round (L:=L) (o':=.loop (rec (if jump.isNone then .ready else .done) jump)) HH;have iH:=iG.putL Vm Vj (fun t' f c hf Ch=>((tC _ _ _ _ hf.F).1 L Ch).2 rfl) (.loop (rec (if jump.isNone then .ready else .done) jump));obtain⟨w4,C1⟩:∃w4,w3.putObj L (.loop (rec (if jump.isNone then .ready else .done) jump))=w4:=⟨_,rfl⟩
        have hL5:w4.heap[L]?=some (.loop (rec (if jump.isNone then .ready else .done) jump)):=by rw[←C1];exact World.putObj_heap_same agL
        have awu:w4.heap.size=w3.heap.size:=by rw[←C1];simp
        rw[C1] at aO iH ⊢;have avW:W1.heap.size≤w1.heap.size:=by
         have:=hF.lt (W1.heap.size-1) (hF.old _ (by omega));omega
        have awp:=aO.below.size
        refine hK _ _ ⟨by rw[tM],aO.below,fun k hk hc=>aO.same k hk (by
         cases e:wG k with
         |none=>rfl
         |some j=>exact absurd ((y3 k).2 (.inl ⟨j,e⟩)) hc) (fun e=>hc (by rw[e];exact G9)),(fun k=>k<w4.heap.size∧(k<W1.heap.size∨(∃j,wF k=some j)∨(∃o x,σ3.c k o=some x)∨∃x,σ3.m k=some x)),(fun k=>(∃j,wF k=some j)∨k=L),?_,?_,?_⟩
        ·refine⟨fun k hk=>hk.1,fun k hk=>?_,fun k hk=>⟨by omega,.inl hk⟩,i'+1,lo.map ρ3.o,Sx,_,jump,σ3,wF,CX,rfl,hPn,iH,Hq.trans ((Im.plus_le1 _ _).trans aO.le),Vj,hL5,fun k j e=>⟨(iH.owns k j e).2.1,.inr (.inl ⟨j,e⟩)⟩,fun k o x e=>⟨iH.lt e,.inr (.inr (.inl ⟨o,x,e⟩))⟩,fun k x e=>⟨iH.ltm e,.inr (.inr (.inr ⟨x,e⟩))⟩,fun k=>.rfl⟩;rcases hk with⟨j,e⟩|e
         ·exact⟨(iH.owns k j e).2.1,.inr (.inl ⟨j,e⟩)⟩
         ·exact⟨by omega,.inl (by omega)⟩
        ·rintro k ⟨_,hk⟩ bt
         have Co:((∃o x,σ3.c k o=some x)∨∃x,σ3.m k=some x)→fx k∨(∃o x,σx.c k o=some x)∨(∃x,σx.m k=some x∧x≠cO):=fun h=>by
          rcases aO.imm k h with⟨o,x,e⟩|⟨x,e⟩|⟨j,e⟩|e
          ·rcases Im.plus_c e with e|e
           ·exact .inl (VE k o x e)
           ·exact .inr (.inl ⟨o,x,e⟩)
          ·rcases Im.plus_m e with e|e
           ·exact .inl (Cy k x e)
           ·exact .inr (.inr ⟨x,(Im.noM_m e).1,(Im.noM_m e).2⟩)
          ·exact .inl (MF k j e)
          ·omega
         rcases hk with hk|⟨j,e⟩|e|e
         ·exact .inl (hF.old k hk)
         ·rcases aO.ow k j e with⟨j',e⟩|e
          ·exact .inl (MF k j' e)
          ·omega
         ·exact Co (.inl e)
         ·exact Co (.inr e)
        ·rintro k (⟨j,e⟩|e) bt
         ·rcases aO.ow k j e with⟨j',e⟩|e
          ·exact(y3 k).2 (.inl ⟨j',e⟩)
          ·omega
         ·rw[e];exact G9
   have nv:ki σ3 w0.heap.size aM.defers:=iA.defers.mono ((Im.plus_le1 _ _).trans (tT.le.trans HH.le));have MU:q2.out=rb.out.map (Snap.mask mk)∧q2.ex=rb.ex.map (fun x=>(x.1,x.2.mask mk)):=by rw[←iT,←Hu];exact⟨rfl,rfl⟩
   cases e3 with
   |normal=>
    obtain⟨e4,e5⟩:=nB;have hT:q2.out=some (S3.mask mk):=by rw[MU.1,e5];rfl
    have VP:=y5 _ hT
    have iG:Inv C (q1.st ids) ρ3 σ3 wF CX w0 σR (fun _=>False) a3 w3:=by
        have:=Snap.meet_ok2 (x:=q1) (iF.maskR mk)
        rwa [VP] at this
    have iH:=iG.restore (ρ':=ρ1.put [] [] lo (lo.map ρ3.o)) (a':=aM) (Snap.noOpt _ _) nv (fun t ht=>MZ t (by
        cases e:av mk t with
        |false=>rfl
        |true=>
         have h9:=aln (x:=q1) (S:=S3) (ids:=ids) e;rw[VP] at h9;rw[h9] at ht;cases ht)) (fun j hj=>MH q1 (dt ..) j hj)
    rcases Nk with⟨kC,ρ',e6,e7⟩|⟨_,_,id,ρ',e6⟩
    ·rw[e4] at e6;cases e6;exact fin none q1 iH (by rw[hP];exact .inl ⟨by omega,e7,rfl,rfl,rfl⟩) (by simp[kC])
    ·rw[e4] at e6;cases e6
   |exit id=>
    obtain⟨e4,e5,e6⟩:=nB;have cV:(id,S3.mask mk)∈q2.ex:=by rw[MU.2];exact eO.2 ⟨_,e6,rfl⟩
    have iH:=(iF.maskR mk).restore (ρ':=ρ1.put [] [] lo (lo.map ρ3.o)) (a':=aM) (Snap.noOpt _ _) nv (fun t ht=>MZ t (by
        cases e:av mk t with
        |false=>rfl
        |true=>rw[Dg,if_pos e] at ht;cases ht)) (fun j hj=>MH (S3.mask mk) (dk _ (eO.2 ⟨_,cV,rfl⟩)) j hj)
    rcases Nk with⟨kC,ρ',e7,_⟩|⟨kC,oS,bN,ρ',e7⟩
    ·rw[e4] at e7;cases e7
    ·subst kC;refine fin (some (.exit id)) (S3.mask mk) iH ?_ (by simp);rw[hP];refine .inr ⟨rfl,oS,rfl,_,id,ρ3,dy,?_,rfl,cV,.inl ⟨e5,rfl⟩⟩;rw[ae];simp only[PC.ev,lU];rw[rZ,e4]
   |ret=>
    obtain⟨e4,e6⟩:=nB;have cV:(cG,S3.mask mk)∈q2.ex:=by rw[MU.2];exact eO.2 ⟨_,e6,rfl⟩
    have iH:=(iF.maskR mk).restore (ρ':=ρ1.put [] [] lo (lo.map ρ3.o)) (a':=aM) (Snap.noOpt _ _) nv (fun t ht=>MZ t (by
        cases e:av mk t with
        |false=>rfl
        |true=>rw[Dg,if_pos e] at ht;cases ht)) (fun j hj=>MH (S3.mask mk) (dk _ (eO.2 ⟨_,cV,rfl⟩)) j hj)
    rcases Nk with⟨kC,ρ',e7,_⟩|⟨kC,oS,bN,ρ',e7⟩
    ·rw[e4] at e7;cases e7
    ·subst kC;refine fin (some .ret) (S3.mask mk) iH ?_ (by simp);rw[hP];refine .inr ⟨rfl,oS,rfl,_,cG,ρ3,dy,?_,rfl,cV,.inr ⟨rfl,rfl⟩⟩;rw[ae];simp only[PC.ev,lU];rw[rZ,e4]
   |_=>exact nB.elim
  |exit id=>obtain⟨_,_,e6⟩:=jV;rw[VA] at e6;cases e6
  |ret=>obtain⟨_,e6⟩:=jV;rw[VA] at e6;cases e6
  |_=>exact jV.elim
 ·rintro e' w' ⟨⟨v,rfl⟩,fx,cx,hF⟩;rw[show({tmps:=a.tmps,defers:=[{target:=Target.collected w.heap.size,args:=#[]}]++a.defers}:Act)=aM from LZ];obtain⟨i',vo,Sx,st,pe,σa,wG,hva,e1,e2,iA,Hq,B0,GX,MF,VE,Cy,y3⟩:=hF.ex;have h9:=congrArg List.length (congrArg D.l e1);simp only[D.l_list,dR] at h9;have cn:(rec st pe).state≠.busy:=by
   rw[hP] at e2;rw[ir];rcases e2 with⟨_,_,_,e3,_⟩|⟨_,_,e3,_⟩<;>(rw[e3];intro e;cases e)
  have tP:(rec st pe).pending=pe:=by rw[ir]
  have Mh:(Instr.endLoop L).run C.P w'=.ok pe (w'.putObj L (.loop {rec st pe with state:=.exhausted})):=(run_endLoop (P:=C.P) GX cn).trans (congrArg (fun z=>Result.ok z _) tP);have iF:=iA.putL (by omega:w0.heap.size≤L) B0 (fun t' f c hf Ch=>((tC _ _ _ _ hf.F).1 L Ch).2 rfl) (.loop {rec st pe with state:=.exhausted});rw[←hσR] at iF;have iG:=i1.ofRnd Mi (fun k hk e=>by have:=ahC k hk;omega) iF;have jX:SameBut wr a aM:=⟨by rw[B2],fun t _=>by rw[B2]⟩
  refine⟨pe,_,Mh,?_⟩;rw[hP] at e2;rcases e2 with⟨e3,rfl,B1,_,rfl⟩|⟨rfl,oS,_,y,id,ρ',g1,g2,rfl,g4,g5⟩
  ·rcases kD with⟨g1,g2⟩|⟨g1,_⟩
   ·obtain rfl:i'=m:=by omega
    rw[B1] at iG;exact⟨_,q1,g2,rfl,jX,_,_,_,iG⟩
   ·omega
  ·rcases kD with⟨g6,_⟩|⟨_,y',bN,ρ'',k1,k2,k3⟩
   ·omega
   ·rw[g1] at k1;cases k1;rw[g2] at k2;cases k2;rcases k3 with⟨k3,k4⟩|⟨k3,pe',k4,k5⟩
    ·rcases g5 with⟨_,rfl⟩|⟨g5,_⟩
     ·exact wpIn_exit ⟨_,Sx,k4,k3,du.2 ⟨g4,by simp[dY k3]⟩,jX,_,_,_,iG⟩
     ·exact absurd g5 k3
    ·rcases g5 with⟨g5,_⟩|⟨_,rfl⟩
     ·exact absurd k3 g5
     ·subst k3;rw[←tS,au] at k4;obtain⟨M,hM,CP⟩:=k4;obtain⟨M',Vs,rS⟩:=NO (⟨_,_,_,iG⟩:Good C w0 σ0 (Sx.st ids) _ (fun _=>False) aM _) q2.ex none g4;rw[hM] at Vs;cases Vs;obtain⟨σm,axp,Wy,im⟩:=rS;exact wpIn_ret ⟨_,k5,Inv.retD hC (fun _=>rfl) lQ CP _ im rfl,jX⟩
theorem XE {arr:Array MapEntry}{clock:Nat}(hb:my arr clock){idx:List Nat}(hi:∀i,i∈idx→i<arr.size){i:Nat}{e:MapEntry}(he:arr[i]?=some e):(fZ arr idx).contains e.born=true↔i∈idx:=by
 simp only[fZ,List.contains_toArray,List.contains_iff_mem,eO];constructor
 ·rintro⟨j,hj,h⟩;have af:=hi j hj;rw[fi af] at h;simp only at h;have:=hb.2 j i arr[j] e (fi af) he h;rw[←this];exact hj
 ·intro h;exact⟨i,h,by rw[he]⟩
theorem an8 (arr:Array MapEntry)(idx:List Nat){i:Nat}{e:MapEntry}(he:arr[i]?=some e):(fZ arr idx).push e.born=fZ arr (idx++[i]):=by
 simp[fZ,he]
theorem alD {P:Program}{w:World}{k m:Nat}{arr:Array MapEntry}{clock:Nat}{idx:List Nat}(hk:w.heap[k]?=some (.mapIter (some m) clock (fZ arr idx) clock))(hm:w.heap[m]?=some (.map arr clock))(hb:my arr clock)(hi:∀i,i∈idx→i<arr.size)(T:TypeId):
 ∃w1:World,(w1=w∨w1=w.drew)∧(((∀i,i<arr.size→i∈idx)∧(Instr.next (.pointer (some ⟨k,0,none⟩)) false T).run P w=.ok (.tuple #[.bool false]) w1)∨
  ∃i e,arr[i]?=some e∧i∉idx∧(Instr.next (.pointer (some ⟨k,0,none⟩)) false T).run P w=.ok (.tuple #[.bool true,e.key,e.val]) {w1 with heap:=w1.heap.setIfInBounds k (.mapIter (some m) clock (fZ arr (idx++[i])) clock)}):=by
 have cV:∀{e:MapEntry},e∈arr→∃i:Nat,arr[i]?=some e:=fun he=>by
  obtain⟨i,hi,rfl⟩:=Array.mem_iff_getElem.1 he;exact⟨i,fi hi⟩
 have hold:∀(l:Array MapEntry),(∀e,e∈l→e.born<clock)→l.filter (fun x=>decide (x.born<clock))=l:=fun l h=>by
  rw[Array.filter_eq_self];intro e he;simpa using h e he
 have kU:∀(l:Array MapEntry),(∀e,e∈l→e.born<clock)→l.filter (fun x=>decide (x.born≥clock))=#[]:=fun l h=>by
  rw[Array.filter_eq_empty_iff];intro e he;have:=h e he;simp;omega
 have VB:∀e,e∈arr→e.born<clock:=fun e he=>by obtain⟨i,hi⟩:=cV he;exact hb.1 i e hi
 have rQ:(!(fZ arr idx).isEmpty&& !arr.isEmpty&&arr.all (fun x=>decide (x.born≥clock)))=false:=by
  cases ha:arr.isEmpty
  ·have aB:arr.size≠0:=by simpa using ha
   have:arr.all (fun x=>decide (x.born≥clock))=false:=by
        rw[To];intro h;rw[Array.all_eq_true] at h;have h0:=h 0 (by omega);have h1:=VB arr[0] (Tl _);simp at h0;omega
   rw[this,xg]
  ·simp
 let left:=arr.filter fun e=> !(fZ arr idx).contains e.born
 have hl:∀e,e∈left→e.born<clock:=fun e he=>VB e (Tn.1 he).1;by_cases hz:left.size=0
 ·refine⟨w,.inl rfl,.inl ⟨fun i af=>?_,?_⟩⟩
  ·by_cases bD:i∈idx
   ·exact bD
   ·exfalso;have Hs:arr[i]∈left:=Tn.2 ⟨Tl _,by
     have:=XE hb hi (fi af);cases hc:(fZ arr idx).contains arr[i].born with
     |false=>rfl
     |true=>exact absurd (this.1 hc) bD⟩
    have:left=#[]:=JR hz;rw[this] at Hs;simp at Hs
  ·have he:left=#[]:=JR hz;have oQ:arr.filter (fun e=> !(fZ arr idx).contains e.born)=#[]:=he;simp only[Instr.next,getObj,Sem.run_bind,Sem.run,hk,hm,Result.andThen_ok,rQ,oQ];simp[Question.forced,Sem.run]
 ·have ju:left.filter (fun x=>decide (x.born<clock))=left:=hold left hl;have kz:left.filter (fun x=>decide (x.born≥clock))=#[]:=kU left hl;have hem:left.isEmpty=false:=by simpa using hz
  have key:∀c,c<left.size→∃i e,arr[i]?=some e∧i∉idx∧left[c]?=some e:=fun c hc=>by
   have Hs:left[c]∈left:=Tl _;obtain⟨h1,h2⟩:=Tn.1 Hs;obtain⟨i,cU⟩:=cV h1;refine⟨i,left[c],cU,fun bD=>?_,fi hc⟩;rw[(XE hb hi cU).2 bD] at h2;cases h2
  obtain⟨w1,c,fS,hc,lP⟩:∃w1 c,(w1=w∨w1=w.drew)∧c<left.size∧(choose (.mapNext left.size)).run P w=.ok c w1:=by
   by_cases h1:left.size≤1
   ·exact⟨w,0,.inl rfl,by omega,by simp[Question.forced,h1]⟩
   ·exact⟨w.drew,_,.inr rfl,Nat.mod_lt _ (by omega),by simp[Question.forced,h1,Question.cut];rfl⟩
  obtain⟨i,e,h1,h2,h3⟩:=key c hc;refine⟨w1,fS,.inr ⟨i,e,h1,h2,?_⟩⟩;have vO:arr.filter (fun e=> !(fZ arr idx).contains e.born)=left:=rfl;have Cl:(getObj k).run P w=.ok (.mapIter (some m) clock (fZ arr idx) clock) w:=by simp[getObj,Sem.run,hk]
  have ij:(getObj m).run P w=.ok (.map arr clock) w:=by simp[getObj,Sem.run,hm]
  have bt:w1.heap[k]?=some (.mapIter (some m) clock (fZ arr idx) clock):=by rcases fS with rfl|rfl<;>exact hk
  have VQ:(setObj k (.mapIter (some m) clock ((fZ arr idx).push e.born) clock)).run P w1=.ok () {w1 with heap:=w1.heap.setIfInBounds k (.mapIter (some m) clock ((fZ arr idx).push e.born) clock)}:=by simp[setObj,Sem.run,bt]
  have ag9:((if false=true then #[none] else #[])++Array.map some (left++#[]):Array (Option MapEntry))=left.map some:=by simp
  have ib:(left.map some)[c]?=some (some e):=by simp[h3]
  have VS:∀(Bj:Array (Option MapEntry)) (cc:Nat),(choose (.mapNext Bj.size)).run P w=.ok cc w1→Bj[cc]?=some (some e)→(do
        match Bj[←choose (.mapNext Bj.size)]? with
        |some (some e)=>
         setObj k (.mapIter (some m) clock ((fZ arr idx).push e.born) clock)
         pure (.tuple #[.bool true,e.key,e.val])
        |some none=>(pure (.tuple #[.bool false]):Sem Value)
        |none=>stuck "Next: no such candidate" :Sem Value).run P w=.ok (.tuple #[.bool true,e.key,e.val]) {w1 with heap:=w1.heap.setIfInBounds k (.mapIter (some m) clock ((fZ arr idx).push e.born) clock)}:=by
   intro Bj cc h4 h5;rw[Sem.run_bind,h4];simp only[Result.andThen_ok,h5];rw[Sem.run_bind,VQ];rfl
  rw[an8 arr idx h1] at VS VQ;have:=VS (left.map some) c (by rw[Array.size_map];exact lP) ib;simp only[Instr.next];rw[Sem.run_bind,Cl];simp only[Result.andThen_ok];rw[Sem.run_bind,ij];simp only[Result.andThen_ok,rQ,vO,ju,kz,hem];rw[ag9,if_neg (by decide)];exact this
theorem aeR {P:Program}{w:World}{k m:Nat}{arr:Array MapEntry}{clock:Nat}{idx:List Nat}{i:Nat}{e:MapEntry}(hk:w.heap[k]?=some (.mapIter (some m) clock (fZ arr (idx++[i])) clock))(hm:w.heap[m]?=some (.map arr clock))(hb:my arr clock)(he:arr[i]?=some e):
 (Instr.entry (.pointer (some ⟨k,0,none⟩))).run P w=.ok (.tuple #[e.key,e.val]) w:=by
 have ag4:(fZ arr (idx++[i])).back?=some e.born:=by simp[fZ,he]
 have Ci:arr.find? (fun x=>x.born==e.born)=some e:=by
  have af:i<arr.size:=(ga.1 he).1;have hei:arr[i]=e:=(ga.1 he).2;rw[Array.find?_eq_some_iff_getElem];refine⟨by simp,i,af,hei,fun j hj=>?_⟩;have fO:j<arr.size:=by omega
  cases hc:(arr[j].born==e.born) with
  |false=>rfl
  |true=>
   have:=hb.2 j i arr[j] e (fi fO) he (by simpa using hc);omega
 simp[Instr.entry,getObj,Sem.run_bind,Sem.run,hk,hm,ag4,Ci]
theorem alg {x y z:Code}{k:Nat}{p:MP}(h:zx x y k z=some p):∃i1 i2 o1 o2 o3 l,x=.region i1 p.ops1 false∧y=.cond (.tmp p.mo) .skip (.exit p.out)∧z=.region i2 p.ops2 false∧p.next=k∧p.ops1.toList=[o1,o2]∧p.ops2.toList=o3::l∧
 o1.dst=some p.nx∧o1.guard=none∧o1.op=.next (.tmp p.it) false∧o2.dst=some p.mo∧o2.guard=none∧o2.op=.extract (.tmp p.nx) 0∧o3.dst=some p.pr∧o3.guard=none∧o3.op=.entry (.tmp p.it)∧kK p.pr l []=some p.aa∧
 p.it≠p.nx∧p.it≠p.mo∧p.it≠p.pr∧p.nx≠p.mo∧p.out≠cG∧k≠cG:=by
 unfold zx at h;split at h
 case h_2=>cases h
 rename_i i1 ops1 mo out i2 ops2;split at h
 case h_2=>cases h
 rename_i o1 o2 o3 l e1 e2;split at h
 case h_2=>cases h
 rename_i nx it mo' X2 pr WS d1 g1 q1 d2 g2 q2 d3 g3 q3;rw[og] at h;split at h
 case isFalse=>cases h
 rename_i hc;simp only[az] at h;obtain⟨aa,h4,rfl⟩:=h;simp only[ak,gd] at hc;obtain⟨⟨⟨⟨⟨⟨⟨⟨c1,c2⟩,c3⟩,c4⟩,c5⟩,c6⟩,c7⟩,c8⟩,c9⟩:=hc;have ne:∀{a b:Nat},Nat.beq a b=false→a≠b:=fun h e=>by subst e;simp at h
 obtain rfl:=ay c1;obtain rfl:=ay c2;obtain rfl:=ay c3;exact⟨i1,i2,o1,o2,o3,l,rfl,rfl,rfl,rfl,e1,e2,d1,g1,q1,d2,g2,q2,d3,g3,q3,h4,ne c4,ne c5,ne c6,ne c7,ne c8,ne c9⟩
theorem Iu {pr:Nat}:∀(l:List Oper) {acc aa:List (Nat×Nat)},kK pr l acc=some aa→∀x,x∈acc→x∈aa
 |[],acc,aa,h,x,hx=>by simp only[kK,aR] at h;subst h;exact hx
 |o::l,acc,aa,h,x,hx=>by
  simp only[kK] at h;split at h
  case h_2=>cases h
  rw[og] at h;split at h
  ·cases h
  split at h
  ·rw[og] at h;split at h
   ·exact Iu l h x (jh _ hx)
   ·cases h
  ·simp only[au] at h;obtain⟨i,_,h⟩:=h;exact Iu l h x (jh _ hx)
  ·simp only[au] at h;obtain⟨i,_,h⟩:=h;exact Iu l h x (jh _ hx)
  ·cases h
theorem Df:∀{l:List (Nat×Nat)} {t i:Nat},ug l t=some i→(t,i)∈l
 |x::l,t,i,h=>by
  simp only[ug] at h;cases hb:Nat.beq x.1 t<;>simp only[hb,cond_true,cond_false] at h
  ·exact dk _ (Df h)
  ·cases h;have:=ay hb;subst this;exact dt ..
theorem Xq:∀{l:List (Nat×Nat)} {t:Nat},(ug l t).isSome=false→∀x,x∈l→x.1≠t
 |y::l,t,h,x,hx=>by
  simp only[ug] at h;cases hb:Nat.beq y.1 t<;>simp only[hb,cond_true,cond_false] at h
  ·rcases cD.1 hx with e|hx
   ·subst e;intro e;subst e;simp at hb
   ·exact Xq h x hx
  ·cases h
theorem OL {pr:Nat}:∀(l:List Oper) {acc aa:List (Nat×Nat)},kK pr l acc=some aa→(∀x,x∈acc→x.2≤1)→∀x,x∈aa→x∈acc∨(x.2≤1∧∃o,o∈l∧o.dst=some x.1)
 |[],acc,aa,h,_,x,hx=>by simp only[kK,aR] at h;subst h;exact .inl hx
 |o::l,acc,aa,h,ha,x,hx=>by
  simp only[kK] at h;split at h
  case h_2=>cases h
  rename_i d hd jU;rw[og] at h;split at h
  ·cases h
  have go:∀(pt:Nat),pt≤1→kK pr l (acc++[(d,pt)])=some aa→x∈acc∨(x.2≤1∧∃o',o'∈o::l∧o'.dst=some x.1):=by
   intro pt tQ hp
   rcases OL l hp (fun y hy=>by
        rcases dB.1 hy with h|h
        ·exact ha y h
        ·simp at h;subst h;exact tQ) x hx with h|⟨h1,o',h2,h3⟩
   ·rcases dB.1 h with h|h
    ·exact .inl h
    ·simp at h;subst h;exact .inr ⟨tQ,o,dt ..,hd⟩
   ·exact .inr ⟨h1,o',dk _ h2,h3⟩
  split at h
  ·rw[og] at h;split at h
   case isFalse=>cases h
   rename_i ib;simp only[ak] at ib;exact go _ (ji ib.2) h
  ·simp only[au] at h;obtain⟨i,hi,h⟩:=h;exact go i (ha _ (Df hi)) h
  ·simp only[au] at h;obtain⟨i,hi,h⟩:=h;exact go i (ha _ (Df hi)) h
  ·cases h
theorem zU {P:Program}{ops:Array Oper}{i:Nat}{rest:List Nat}{o:Oper}{rd:Option Nat}{a:Act}{w w':World}{Q:Exit→Act→World→Prop}{v:Value}(ho:ops[i]?=some o)(hg:o.guard=none)(bk:nJ o.op=true)(hx:(execOp a.eval o).run P w=.ok (.value v) w')
 (k:wpOpsIn (FR rd) 0 P ops Q rest (a.put o.dst v) w'):wpOpsIn (FR rd) 0 P ops Q (i::rest) a w:=by
 simp only[wpOpsIn,ho];rw[if_pos (by simp[Region.wanted,hg])];exact Zy bk (by unfold Oper.wp;rw[hx];exact k)
theorem an6 {ops:Array Oper}{o:Oper}(ho:o∈ops.toList)(a:Act)(v:Value):SameBut (p7 ops) a (a.put o.dst v):=by
 have:=SameBut.put a o.dst v a.defers;exact this.mono fun t e=>⟨o,ho,e⟩
theorem z7 {a:Act}{d:Nat}{v:Value}(h:d<a.tmps.size):(a.put (some d) v).tmps.getD d undef=v:=by rw[w8];simp[h]
theorem ID {a:Act}{d t:Nat}{v:Value}(h:t≠d):(a.put (some d) v).tmps.getD t undef=a.tmps.getD t undef:=by rw[w8];simp[h]
theorem put_defers (a:Act)(d:Option Nat)(v:Value):(a.put d v).defers=a.defers:=by cases d<;>rfl
def Dp (kv vv:Value)(i:Nat):Value:=if i=0 then kv else vv
theorem ZE {P:Program}{ops:Array Oper}{rd:Option Nat}{Q:Exit→Act→World→Prop}{pr:Nat}{kv vv:Value}{w:World}:∀(l:List Oper) (acc aa:List (Nat×Nat)) (i:Nat) (a:Act),kK pr l acc=some aa→ops.toList.drop i=l→(∀x,x∈aa→x.1<a.tmps.size)→a.tmps.getD pr undef=.tuple #[kv,vv]→
 (∀x,x∈acc→a.tmps.getD x.1 undef=Dp kv vv x.2)→(∀a',SameBut (p7 ops) a a'→a'.defers=a.defers→(∀x,x∈aa→a'.tmps.getD x.1 undef=Dp kv vv x.2)→Q .normal a' w)→wpOpsIn (FR rd) 0 P ops Q (List.range' i (ops.size-i)) a w
 |[],acc,aa,i,a,h,hl,af,oW,B4,hQ=>by
  simp only[kK,aR] at h;subst h;have:ops.size-i=0:=by
    have:=JU.1 hl;simp at this;omega
  rw[this];exact hQ a (.refl _ _) rfl B4
 |o::l,acc,aa,i,a,h,hl,af,oW,B4,hQ=>by
  have hi:i<ops.toList.length:=by
   refine TG fun hle=>?_;rw[JU.2 hle] at hl;cases hl
  rw[JT hi] at hl;have ho:ops[i]?=some o:=by
   have:ops.toList[i]=o:=by injection hl
   rw[←this];simp at hi ⊢
  have za:ops.toList.drop (i+1)=l:=by injection hl
  have aJ:ops.size-i=(ops.size-(i+1))+1:=by simp at hi;omega
  rw[aJ,E1];have cV:o∈ops.toList:=by simpa using gq ho
  simp only[kK] at h;split at h
  case h_2=>cases h
  rename_i d hd jU;rw[og] at h;split at h
  ·cases h
  rename_i hc;simp only[gr,not_or,Bool.not_eq_true] at hc;have hdp:pr≠d:=fun e=>by subst e;simp at hc
  have hda:∀x,x∈acc→x.1≠d:=Xq hc.2;have go:∀(pt:Nat) (v:Value),kK pr l (acc++[(d,pt)])=some aa→nJ o.op=true→v=Dp kv vv pt→(execOp a.eval o).run P w=.ok (.value v) w→wpOpsIn (FR rd) 0 P ops Q (i::List.range' (i+1) (ops.size-(i+1))) a w:=by
   intro pt v hp bk hv hx;have Mc:d<a.tmps.size:=af _ (Iu l hp (d,pt) (by simp));refine zU ho jU bk hx ?_;have jX:=an6 cV a v;rw[hd] at jX ⊢;refine ZE l _ aa (i+1) _ hp za (fun x hx=>by rw[jX.size];exact af x hx) (by rw[ID hdp];exact oW) (fun x hx=>?_) (fun a' h1 h2 h3=>hQ a' (jX.trans h1) (h2.trans (put_defers _ _ _)) h3);rcases dB.1 hx with hx|hx
   ·rw[ID (hda x hx)];exact B4 x hx
   ·simp at hx;subst hx;rw[z7 Mc];exact hv
  split at h
  ·rename_i t pt e;rw[og] at h;split at h
   case isFalse=>cases h
   rename_i ib;simp only[ak] at ib;have ht:=ay ib.1;have tQ:=ji ib.2;subst ht;have bH:a.eval (.tmp t)=.tuple #[kv,vv]:=by simpa [Act.eval] using oW
   refine go pt (Dp kv vv pt) h (by rw[e];rfl) rfl ?_;rcases(by omega:pt=0∨pt=1) with rfl|rfl<;>simp[execOp,e,bH,Instr.extract,Dp]
  ·rename_i t e;simp only[au] at h;obtain⟨pt,vO,h⟩:=h;have:=B4 _ (Df vO);exact go pt (a.eval (.tmp t)) h (by rw[e];rfl) (by simpa [Act.eval] using this) (by simp[execOp,e])
  ·rename_i t e;simp only[au] at h;obtain⟨pt,vO,h⟩:=h;have:=B4 _ (Df vO);exact go pt (a.eval (.tmp t)) h (by rw[e];rfl) (by simpa [Act.eval] using this) (by simp[execOp,e])
  ·cases h
theorem Nu (ids:List Nat)(J j:Nat)(S:Snap):((S.kill ids J).st ids).o j=if j=J then .dead else(S.st ids).o j:=by
 show di ids (we ids J S.os) j=_;have:∀(is:List Nat) (os:List Ob),di is (we is J os) j=if j=J then .dead else di is os j:=by
  intro is
  induction is with
  |nil=>intro os;simp[we,di]
  |cons i is ih=>
   intro os;cases os with
   |nil=>simp[we,di]
   |cons o os=>
    simp only[we,di];cases hb:Nat.beq i j
    ·simp only[cond_false];exact ih os
    ·have:=ay hb;subst this;simp only[cond_true];by_cases cZ:i=J
     ·subst cZ;simp
     ·simp[dY cZ,cZ]
 exact this ids S.os
theorem T6 {N:Nat}{id:Nat}(Hj:id≠cG){rm:Bool}{wr:Nat→Prop}{a:Act}{q:Res2}{x xi:Out}(ql:(∀t,t∈q.pc.modR→av q.mr t=true)∧∀j,j∈q.pc.modO→j∈q.mo)(dy:q.pc.ev Φ N ρ=some xi)(bH:(gg ids id q).pc.ev Φ N ρ=some x){e:Exit}{a':Act}{w':World}
 (fA:gA C w0 σ0 ids fn s rm wr a q.out q.ex xi e a' w'):Exit.inBlock id (gA C w0 σ0 ids fn s rm wr a (gg ids id q).out (gg ids id q).ex x) e a' w':=by
 have VN:∀bN S1,(bN,S1)∈q.ex→bN≠id→(bN,S1)∈q.ex.filter fun x=> !Nat.beq x.1 id:=fun bN S1 hm aB=>du.2 ⟨hm,by simp[dY aB]⟩;have main:∀(o:Option Snap) (lr lo:List Nat),nI id q.ex q.out=o→(∀M,o=some M→lr=j6 M q.mr∧lo=iX ids M q.mo)→(PC.block id lr lo q.pc).ev Φ N ρ=some x→
        Exit.inBlock id (gA C w0 σ0 ids fn s rm wr a o (q.ex.filter fun x=> !Nat.beq x.1 id) x) e a' w':=by
  intro o lr lo ho hl bH;simp only[PC.ev] at bH;rw[dy] at bH
  have fin:∀{ρ1:Env} {a':Act} {w':World},(∃M,o=some M∧Good C w0 σ0 (M.st ids) ρ1 (fun _=>False) a' w')→xi.env?=some ρ1→x=.next (ρ.join lr lo ρ1)→SameBut wr a a'→
   gA C w0 σ0 ids fn s rm wr a o (q.ex.filter fun x=> !Nat.beq x.1 id) x .normal a' w':=by
        intro ρ1 a' w' hM vI hx eY;obtain⟨M,hM,rS⟩:=hM;obtain⟨l1,l2⟩:=hl M hM;subst l1 l2;exact⟨_,M,hx,hM,eY,rS.joined (PC.ev_but q.pc ρ _ ρ1 dy vI) ql.1 ql.2⟩
  cases e with
  |normal=>
   obtain⟨ρ1,S2,e1,e2,eY,ij⟩:=fA;subst e1;simp only[aR] at bH;refine fin ?_ rfl bH.symm eY;rw[e2] at ho;obtain⟨M,h1,h2⟩:=H3 (id:=id) q.ex ij;rw[ho] at h1;exact⟨M,h1,h2⟩
  |exit bN=>
   obtain⟨ρ1,S2,e1,e0,e2,eY,ij⟩:=fA;subst e1;simp only at bH;show if bN=id then _ else _;by_cases cA:bN=id
   ·subst cA;simp only[gy,cond_true,aR] at bH;simp only[if_true];refine fin ?_ rfl bH.symm eY;rw[←ho];exact NO ij q.ex q.out e2
   ·simp only[dY cA,cond_false,aR] at bH;subst bH;simp only[cA,if_false];exact⟨ρ1,S2,rfl,e0,VN _ _ e2 cA,eY,ij⟩
  |ret=>
   cases rm with
   |false=>
    have hy:=fA;obtain⟨d,e1,_⟩:=hy;subst e1;simp only[aR] at bH;subst bH;exact fA
   |true=>
    obtain⟨ρ1,S2,e1,e2,eY,ij⟩:=fA;subst e1;simp only[dY (fun e=>Hj e.symm:cG≠id),cond_false,aR] at bH;subst bH;exact⟨ρ1,S2,rfl,VN _ _ e2 (fun e=>Hj e.symm),eY,ij⟩
  |_=>exact fA.elim
 unfold gg at bH ⊢;cases hm:nI id q.ex q.out with
 |none=>
  simp only[hm] at bH ⊢;exact main none [] [] hm (fun M e=>by cases e) bH
 |some M=>
  simp only[hm] at bH ⊢;exact main (some M) _ _ hm (fun M' e=>by cases e;exact⟨rfl,rfl⟩) bH
theorem T4 {N id:Nat}{q:Res2}{x:Out}(bH:(gg ids id q).pc.ev Φ N ρ=some x):∃xi,q.pc.ev Φ N ρ=some xi:=by
 unfold gg at bH;cases hm:nI id q.ex q.out<;>simp only[hm,PC.ev] at bH<;>cases dy:q.pc.ev Φ N ρ<;>first|exact⟨_,rfl⟩|(rw[dy] at bH;cases bH)
theorem aa3 {es:List (D×D)}{idx:List Nat}(hn:idx.Nodup)(af:∀i,i∈idx→i<es.length)(aO:∀i,i<es.length→i∈idx):(gn es idx).Perm (gX (.map es)):=by
 have h1:idx.Perm (List.range es.length):=by
  rw[List.perm_ext_iff_of_nodup hn J3];intro i;rw[bX];exact⟨af i,aO i⟩
 have h2:gn es (List.range es.length)=gX (.map es):=by
  refine List.ext_getElem (by simp[gn,gX,D.m]) fun i g1 g2=>?_;have hi:i<es.length:=by simpa [gn] using g1
  simp[gn,gX,D.m,bA hi]
 rw[←h2];exact h1.map _
theorem an9 {es:List (D×D)}{idx:List Nat}(hn:idx.Nodup)(af:∀i,i∈idx→i<es.length):∃rest,(gn es idx++rest).Perm (gX (.map es)):=by
 refine⟨gn es ((List.range es.length).filter fun i=> !idx.contains i),?_⟩;have e:gn es idx++gn es ((List.range es.length).filter fun i=> !idx.contains i)=gn es (idx++(List.range es.length).filter fun i=> !idx.contains i):=by simp[gn]
 rw[e];refine aa3 ?_ (fun i hi=>?_) (fun i hi=>?_)
 ·rw[AW];refine⟨hn,J3.filter _,fun a ha b hb e=>?_⟩;subst e;have:=(du.1 hb).2;simp[ha] at this
 ·rcases dB.1 hi with h|h
  ·exact af i h
  ·exact bX.1 (du.1 h).1
 ·by_cases h:i∈idx
  ·exact jh _ h
  ·exact jM _ (du.2 ⟨bX.2 hi,by simp[h]⟩)
theorem aa4 (es:List (D×D))(idx:List Nat){i:Nat}{p:D×D}(h:es[i]?=some p):gn es (idx++[i])=gn es idx++[.tup [p.1,p.2]]:=by simp[gn,h]
theorem ali {N:Nat}{x y z code:Code}{k:Nat}{p:MP}(hp:zx x y k z=some p)(ihc:vb C Φ fn s n ids R N code){rm:Bool}{S:Snap}{r:Res2}
 (hr:zy ids n p (cm x++(cm y++(cm z++cm code))) (fun S=>comp C fn s n ids R rm code S) S=some r) {rd:Option Nat} {wr:Nat→Prop} {x0:Out} (gk:rm=false→rd=none∧σ0.fin) (hC:CtxOK C σ0) (hY:ou C Φ w0 σ0)
 (gV:∀t,t∈cm (.loop (.seq x (.seq y (.block k (.seq z code)))))→wr t) (hn:a.tmps.size=n) (hg:Good C w0 σ0 (S.st ids) ρ (fun _=>False) a w) (he:r.pc.ev Φ N ρ=some x0):
 (Code.loop (.seq x (.seq y (.block k (.seq z code))))).wpIn (FR rd) 0 C.P (gA C w0 σ0 ids fn s rm wr a r.out r.ex x0) a w:=by
 obtain⟨i1,i2,o1,o2,o3,l,rfl,rfl,rfl,hk,e1,e2,d1,g1,q1,d2,g2,q2,d3,g3,q3,mK,n1,n2,n3,n4,n5,n6⟩:=alg hp;subst hk;unfold zy at hr;split at hr
 case h_2=>cases hr;exact absurd he (mi _ _ _ _)
 rename_i J hJ;split at hr
 case h_2=>cases hr;exact absurd he (mi _ _ _ _)
 rename_i kt et Ho;simp only at hr;split at hr
 case h_2=>cases hr;exact absurd he (mi _ _ _ _)
 rename_i q hq;rw[og] at hr;split at hr
 case isFalse=>cases hr;exact absurd he (mi _ _ _ _)
 rename_i qg;cases hr;generalize HM:cm (.region i1 p.ops1 false)++(cm (.cond (.tmp p.mo) .skip (.exit p.out))++(cm (.region i2 p.ops2 false)++cm code))=ws at*;simp only[ak,gd] at qg;obtain⟨⟨⟨⟨⟨⟨⟨⟨c1,c2⟩,c3⟩,c4⟩,c5⟩,c6⟩,c7⟩,c8⟩,c9⟩:=qg;have hex:q.2.ex=[]:=sT.1 c1;have Vl:J∉q.2.mo:=fun h=>by rw[(ph _ _).2 h] at c2;cases c2
 simp only[WO,ak,gd] at c3;obtain⟨⟨c3a,c3b⟩,c3c⟩:=c3;have aiJ:q.1.rs.getD p.it .none=.obj J 0:=Sh.beq_eq _ _ c3a;have HA:di ids q.1.os J=.it kt et:=Ob.beq_eq _ _ c3b;have aiB:∀t,t∈p.aa.map (·.1)→t<n:=fun t ht=>by have:=bE.1 c5 t ht;rwa [hH] at this
 have hnx:p.nx<n:=by rwa [hH] at c6
 have Mw:p.mo<n:=by rwa [hH] at c7
 have oW:p.pr<n:=by rwa [hH] at c8
 have CB:=ay c9;obtain⟨hs,y5,bD⟩:=C8 (C:=C) (w0:=w0) (σ0:=σ0) (ids:=ids) 8 hq;simp only[az] at hs;obtain⟨q0,vT,iT⟩:=hs;obtain⟨qS,qR⟩:=q;simp only at*;subst iT;generalize hm:wv ws=m at*;generalize vP:iX ids qS (gg ids p.next q0).mo=lo at*;have My:=T5 (ids:=ids) (id:=p.next) (tj code vT);have ah0:∀j,j∈lo→j∈(gg ids p.next q0).mo:=fun j hj=>by rw[←vP] at hj;exact zz hj
 have avU:J∉lo:=fun h=>Vl (ah0 J h);have CM:∃AJ,Ix ((gg ids p.next q0).pc.ev Φ N) ρ J (p.aa.map (·.1)) (p.aa.map (·.2)) lo AJ∧x0=.exit p.out (ρ.put [] [] lo AJ):=by
  simp only[PC.ev] at he;cases oW:Iy ((gg ids p.next q0).pc.ev Φ N) ρ J (p.aa.map (·.1)) (p.aa.map (·.2)) lo with
  |none=>rw[oW] at he;cases he
  |some y=>
   obtain⟨AJ,h1,rfl⟩:=wI.1 oW;rw[oW] at he;simp only[aR] at he;exact⟨AJ,h1,he.symm⟩
 obtain⟨AJ,⟨CI,agU⟩,hx0⟩:=CM;generalize iQ:(ρ.o J).tget 1=es at*
 have fS:∀o,o∈p.ops1.toList→∀d,o.dst=some d→d∈ws:=fun o ho d hd=>by
  rw[←HM];exact jh _ (sV.2 ⟨o,ho,hd⟩)
 have dg:∀o,o∈p.ops2.toList→∀d,o.dst=some d→d∈ws:=fun o ho d hd=>by
  rw[←HM];exact jM _ (jM _ (jh _ (sV.2 ⟨o,ho,hd⟩)))
 have hwc:∀d,d∈cm code→d∈ws:=fun d hd=>by
  rw[←HM];exact jM _ (jM _ (jM _ hd))
 have Nh:∀t,t∈ws→wr t:=fun t ht=>gV t (by rw[←HM] at ht;exact ht);have oZ:∀t,t∈ws→av m t=true:=fun t ht=>by rw[←hm];exact T3 ht
 have Mv:∀t,av m t=true→((qS.mask m).st ids).r t=.none:=fun t ht=>by rw[Dg,if_pos ht]
 have ah7:∀t,isNone (((qS.mask m).st ids).r t)=false→av m t=false:=fun t ht=>by
  cases hb:av m t with
  |false=>rfl
  |true=>rw[Mv t hb] at ht;cases ht
 have gD:((qS.mask m).st ids).r p.it=.obj J 0:=by
  rw[Dg,c3c];show cr (qS.rs.getD p.it .none)=_;rw[aiJ];rfl
 have cJ:((qS.mask m).st ids).o J=.it kt et:=HA;have jA:p.ops1[0]?=some o1:=by rw[←AN,e1];rfl
 have ej:p.ops1[1]?=some o2:=by rw[←AN,e1];rfl
 have CE:p.ops2[0]?=some o3:=by rw[←AN,e2];rfl
 have ai1:List.range p.ops1.size=[0,1]:=by
  have:p.ops1.size=2:=by rw[←AO,e1];rfl
  rw[this];rfl
 have HI:List.range p.ops2.size=0::List.range' 1 (p.ops2.size-1):=by
  have:p.ops2.size=l.length+1:=by rw[←AO,e2];rfl
  rw[this,J4,E1];rfl
 have key:∀(kk:Nat) (done vo:List D) (a':Act) (w':World),SameBut wr a a'→Good C w0 σ0 ((qS.mask m).st ids) ((ρ.put [] [] lo vo).setO J (.tup [.list done,es])) (fun _=>False) a' w'→
  (∀ys,(done++ys).Perm (gX es)→kW ((gg ids p.next q0).pc.ev Φ N) ρ J es (p.aa.map (·.1)) (p.aa.map (·.2)) lo ys done vo=some AJ)→done.length+kk=(gX es).length+1→
  Code.roundsIn (FR rd) 0 C.P (.seq (.region i1 p.ops1 false) (.seq (.cond (.tmp p.mo) .skip (.exit p.out)) (.block p.next (.seq (.region i2 p.ops2 false) code)))) (gA C w0 σ0 ids fn s rm wr a none [(p.out,(qS.mask m).kill ids J)] x0) kk a' w':=by
  intro kk
  induction kk with
  |zero=>
   intro done vo a' w' _ fy _ hlen;exfalso;obtain⟨σ,own,hv,h⟩:=fy;have aV:=h.objs J;rw[cJ] at aV;obtain⟨kb,mb,arr,clock,fp,idx,h1,h2,h3,aB,h4,h5,h6,h7,h8,h9,nq,rN⟩:=aV;simp only[Env.setO,aL] at h6;injection h6 with h6;injection h6 with vD vE;injection vE with vE _;injection vD with vD;subst vD;subst vE;have hle:idx.length≤arr.size:=by
        have:=List.Nodup.length_le_of_subset h7 (l₂:=List.range arr.size) (fun i hi=>bX.2 (h8 i hi));simpa using this
   simp[gn,gX,D.m] at hlen;omega
  |succ kk ih=>
   intro done vo a' w' jX fy aO hlen;rw[roundsIn_succ];obtain⟨σ,own,hv,h⟩:=fy;have aV:=h.objs J;rw[cJ] at aV;obtain⟨kb,mb,arr,clock,fp,idx,h1,h2,h3,aB,h4,h5,h6,h7,h8,h9,nq,rN⟩:=aV;simp only[Env.setO,aL] at h6;injection h6 with h6;injection h6 with vD vE;injection vE with vE _;injection vD with vD;subst vD;subst vE;have fP:=h.regs p.it;rw[gD] at fP;have Hk:a'.eval (.tmp p.it)=.pointer (some ⟨kb,0,none⟩):=by
        have:=fP.2 rfl;simp only[Act.eval];rw[this];exact h1
   have qs:a'.tmps.size=n:=jX.size.trans hn;obtain⟨w1,WA,Hx⟩:=alD (P:=C.P) h5 h4 nq h8 o1.type;have CZ:Below w'.heap.size w' w1:=by rcases WA with rfl|rfl;exact .refl _ _;exact⟨rfl,rfl,rfl,bf _,fun _ _=>rfl⟩
   have zk:w1.heap=w'.heap:=by rcases WA with rfl|rfl<;>rfl
   have VY:kb<w'.heap.size:=(h.owns kb J h2).2.1;have oS:mb<w'.heap.size:=(h.owns mb J h3).2.1;refine wpIn_seq (wpIn_region ?_);rw[ai1];rcases Hx with⟨Mj,ah⟩|⟨i,e,rT,Hi,ah⟩
   ·
        refine zU jA g1 (by rw[q1];rfl) (v:=.tuple #[.bool false]) (w':=w1) (by simp only[execOp,q1,Hk];simp[ah]) ?_;rw[d1]
        refine zU ej g2 (by rw[q2];rfl) (v:=.bool false) (w':=w1) (by
         have:(a'.put (some p.nx) (.tuple #[.bool false])).eval (.tmp p.nx)=.tuple #[.bool false]:=by simp only[Act.eval];exact z7 (by omega)
         simp only[execOp,q2,this];simp[Instr.extract]) ?_
        rw[d2];simp only[wpOpsIn]
        have vX:SameBut (fun t=>t∈ws) a' ((a'.put (some p.nx) (.tuple #[.bool false])).put (some p.mo) (.bool false)):=by
         have s1:=SameBut.put a' (some p.nx) (.tuple #[.bool false]) a'.defers;have s2:=SameBut.put (a'.put (some p.nx) (.tuple #[.bool false])) (some p.mo) (.bool false) (a'.put (some p.nx) (.tuple #[.bool false])).defers;exact(s1.mono fun t e=>by cases e;exact fS o1 (by rw[e1];simp) _ d1).trans (s2.mono fun t e=>by cases e;exact fS o2 (by rw[e1];simp) _ d2)
        generalize vG:(a'.put (some p.nx) (.tuple #[.bool false])).put (some p.mo) (.bool false)=a1 at vX;have Mx:a1.eval (.tmp p.mo)=.bool false:=by
         rw[←vG];simp only[Act.eval];exact z7 (by rw[size_put];omega)
        have nv:a1.defers=a'.defers:=by rw[←vG,put_defers,put_defers]
        refine wpIn_seq (wpIn_cond_false Mx (wpIn_exit ?_));have aiw:(gn fp idx++[]).Perm (gX (.map fp)):=by
         rw[lC];exact aa3 h7 (fun i hi=>by rw[h9];exact h8 i hi) (fun i hi=>Mj i (by omega))
        have Wz:=aO [] aiw;simp only[kW,aR] at Wz;subst Wz;refine⟨_,_,hx0,n5,pR.2 rfl,jX.trans (vX.mono Nh),?_⟩;refine⟨σ,own,hv,?_⟩
        refine h.step (S':=((qS.mask m).kill ids J).st ids) (ρ':=ρ.put [] [] lo vo) (A':=fun _=>False) (fun j=>j=J) nv (.refl σ) (h.ok.below CZ) (fun _ _ _ hx=>.inl hx) (fun _ _ hx=>.inl hx) (CZ.mono h.below.size) ⟨fun _=>bf _,fun _ _=>rfl⟩
         (fun j hj=>⟨by rw[Nu,if_neg hj],by simp[Env.setO,bl _ _ hj],rfl,fun b hb=>⟨hb,by rw[zk]⟩⟩) (fun j hj=>?_) (fun b j hb=>?_) (fun _=>id) (fun t=>?_) (fun _ hf=>hf.elim) (fun b hb _=>by rw[zk]) (fun b j hb=>.inl ⟨j,hb⟩) (fun j hj=>?_)
        ·rw[Nu,if_pos hj];trivial
        ·obtain⟨b1,b2,b3,b4⟩:=h.owns b j hb;exact⟨b1,by rw[zk];exact b2,b3,b4⟩
        ·by_cases ht:t∈ws
         ·refine .inr ⟨?_,fun gs s' e=>absurd e (Snap.noOpt _ _ t gs s')⟩;have:(((qS.mask m).kill ids J).st ids).r t=.none:=Mv t (oZ t ht);rw[this];trivial
         ·exact .inl ⟨rfl,vX.get t ht,rfl⟩
        ·rw[Nu,if_pos hj];intro e;cases e
   ·
        obtain⟨pd,MQ⟩:∃pd,fp[i]?=some pd:=⟨_,bA (by rw[h9];exact(ga.1 rT).1)⟩
        obtain⟨bt,cu⟩:=rN i e pd rT MQ;generalize zm:({w1 with heap:=w1.heap.setIfInBounds kb (.mapIter (some mb) clock (fZ arr (idx++[i])) clock)}:World)=w2 at ah;have WB:w2.heap[kb]?=some (.mapIter (some mb) clock (fZ arr (idx++[i])) clock):=by rw[←zm];simp[zk,VY]
        have zn:∀b,b≠kb→w2.heap[b]?=w'.heap[b]?:=fun b hb=>by rw[←zm];simp only[zk];rw[Tk (sX hb)]
        have awt:w2.heap.size=w'.heap.size:=by rw[←zm];simp[zk]
        have WC:w2.heap[mb]?=some (.map arr clock):=by rw[zn mb (sX aB)];exact h4
        refine zU jA g1 (by rw[q1];rfl) (v:=.tuple #[.bool true,e.key,e.val]) (w':=w2) (by simp only[execOp,q1,Hk];simp[ah]) ?_;rw[d1]
        refine zU ej g2 (by rw[q2];rfl) (v:=.bool true) (w':=w2) (by
         have:(a'.put (some p.nx) (.tuple #[.bool true,e.key,e.val])).eval (.tmp p.nx)=.tuple #[.bool true,e.key,e.val]:=by simp only[Act.eval];exact z7 (by omega)
         simp only[execOp,q2,this];simp[Instr.extract]) ?_
        rw[d2];simp only[wpOpsIn]
        have vX:SameBut (fun t=>t∈ws) a' ((a'.put (some p.nx) (.tuple #[.bool true,e.key,e.val])).put (some p.mo) (.bool true)):=by
         have s1:=SameBut.put a' (some p.nx) (.tuple #[.bool true,e.key,e.val]) a'.defers;have s2:=SameBut.put (a'.put (some p.nx) (.tuple #[.bool true,e.key,e.val])) (some p.mo) (.bool true) (a'.put (some p.nx) (.tuple #[.bool true,e.key,e.val])).defers;exact(s1.mono fun t e=>by cases e;exact fS o1 (by rw[e1];simp) _ d1).trans (s2.mono fun t e=>by cases e;exact fS o2 (by rw[e1];simp) _ d2)
        have VW:(((a'.put (some p.nx) (.tuple #[.bool true,e.key,e.val])).put (some p.mo) (.bool true))).eval (.tmp p.it)=.pointer (some ⟨kb,0,none⟩):=by
         simp only[Act.eval] at Hk ⊢;rw[ID n2,ID n1];exact Hk
        generalize vG:(a'.put (some p.nx) (.tuple #[.bool true,e.key,e.val])).put (some p.mo) (.bool true)=a1 at vX VW;have Mx:a1.eval (.tmp p.mo)=.bool true:=by
         rw[←vG];simp only[Act.eval];exact z7 (by rw[size_put];omega)
        have nv:a1.defers=a'.defers:=by rw[←vG,put_defers,put_defers]
        refine wpIn_seq (wpIn_cond_true Mx (wpIn_skip ?_));refine wpIn_block (wpIn_seq (wpIn_region ?_));rw[HI];refine zU CE g3 (by rw[q3];rfl) (v:=.tuple #[e.key,e.val]) (w':=w2) (by simp only[execOp,q3,VW];simp[aeR WB WC nq rT]) ?_;rw[d3]
        have Wq:SameBut (fun t=>t∈ws) a1 (a1.put (some p.pr) (.tuple #[e.key,e.val])):=
         (SameBut.put a1 (some p.pr) (.tuple #[e.key,e.val]) a1.defers).mono fun t e=>by cases e;exact dg o3 (by rw[e2];simp) _ d3
        have Wt:a1.tmps.size=n:=vX.size.trans qs;refine ZE (kv:=e.key) (vv:=e.val) l [] p.aa 1 _ mK (by rw[e2];rfl) (fun x hx=>by rw[Wq.size,Wt];exact aiB _ (eO.2 ⟨x,hx,rfl⟩)) (z7 (by rw[Wt];exact oW)) (fun x hx=>by cases hx) (fun a2 eY dN aiu=>?_);have M0:SameBut (fun t=>t∈ws) a' a2:=(vX.trans Wq).trans (eY.mono fun t ⟨o,ho,hd⟩=>dg o ho t hd);have ahp:a2.defers=a'.defers:=by rw[dN,put_defers,nv]
        have aiY:Good C w0 σ0 (((qS.mask m).start (p.aa.map (·.1)) (p.aa.map fun x=>bif Nat.beq x.2 0 then kt else et)).st ids) ((ρ.put (p.aa.map (·.1)) ((p.aa.map (·.2)).map (D.tup [pd.1,pd.2]).tget) lo vo).setO J (.tup [.list (gn fp idx++[.tup [pd.1,pd.2]]),.map fp])) (fun _=>False) a2 w2:=by
         have Ca:Below w0.heap.size w' w2:=⟨by rw[←zm];exact CZ.os,by rw[←zm];exact CZ.tape,by rw[←zm];exact CZ.output,by omega,fun b hb=>zn b (fun e=>by subst e;have:=(h.owns b J h2).1;omega)⟩
         have jB:σ.ok w2:=by
          refine⟨fun b o v hc=>?_,fun b es hc=>?_⟩
          ·have tE:b≠kb:=fun e=>by subst e;rw[(h.owns b J h2).2.2.1 o] at hc;cases hc
           have:=h.ok.c b o v hc;simp only[World.cell?] at this ⊢;rw[zn b tE];exact this
          ·have tE:b≠kb:=fun e=>by subst e;rw[(h.owns b J h2).2.2.2] at hc;cases hc
           exact(h.ok.m b es hc).keep (zn b tE)
         have fA:∀j,((ρ.put (p.aa.map (·.1)) ((p.aa.map (·.2)).map (D.tup [pd.1,pd.2]).tget) lo vo).setO J (.tup [.list (gn fp idx++[.tup [pd.1,pd.2]]),.map fp])).o j=if j=J then .tup [.list (gn fp idx++[.tup [pd.1,pd.2]]),.map fp] else putL ρ.o lo vo j:=fun j=>by
          simp only[Env.setO,eN];rfl
         refine⟨σ,own,hv,h.step (fun j=>j=J) ahp (.refl σ) jB (fun _ _ _ hx=>.inl hx) (fun _ _ hx=>.inl hx) Ca ⟨fun _=>bf _,fun _ _=>rfl⟩
          (fun j hj=>⟨rfl,by rw[fA,if_neg hj];simp[Env.setO,bl _ _ hj,Env.put],rfl,fun b hb=>⟨hb,zn b (fun e=>by subst e;rw[h2] at hb;cases hb;exact hj rfl)⟩⟩) (fun j hj=>?_) (fun b j hb=>?_) (fun _=>id) (fun t=>?_) (fun _ hf=>hf.elim)
          (fun b hb ho=>zn b (fun e=>by subst e;rw[h2] at ho;cases ho)) (fun b j hb=>.inl ⟨j,hb⟩) (fun j hj=>?_)⟩
         ·subst hj;have:(((qS.mask m).start (p.aa.map (·.1)) (p.aa.map fun x=>bif Nat.beq x.2 0 then kt else et)).st ids).o j=.it kt et:=HA;rw[this];refine⟨kb,mb,arr,clock,fp,idx++[i],h1,h2,h3,aB,WC,WB,by rw[fA,if_pos rfl,aa4 fp idx MQ],?_,?_,h9,nq,rN⟩
          ·rw[AW];exact⟨h7,by simp,fun a ha b hb e=>by simp at hb;subst hb;subst e;exact Hi ha⟩
          ·intro i' cU;rcases dB.1 cU with h|h
           ·exact h8 i' h
           ·simp at h;subst h;exact(ga.1 rT).1
         ·obtain⟨b1,b2,b3,b4⟩:=h.owns b j hb;exact⟨b1,by omega,b3,b4⟩
         ·have hc:Compat ((qS.mask m).st ids) hv (((qS.mask m).start (p.aa.map (·.1)) (p.aa.map fun x=>bif Nat.beq x.2 0 then kt else et)).st ids) hv:=⟨fun _=>bf _,fun _ _=>rfl⟩
          refine .inr ⟨?_,fun gs s' e=>absurd e (Snap.noOpt _ _ t gs s')⟩;show aH C _ _ σ hv (cr ((qP (p.aa.map (·.1)) (p.aa.map fun x=>bif Nat.beq x.2 0 then kt else et) ((qS.mask m).rs.map rU)).getD t .none)) (a2.tmps.getD t undef) (putL ρ.r (p.aa.map (·.1)) ((p.aa.map (·.2)).map (D.tup [pd.1,pd.2]).tget) t);rcases Qz (p.aa.map (·.1)) (p.aa.map fun x=>bif Nat.beq x.2 0 then kt else et) ((qS.mask m).rs.map rU) (by simp) c4 t with e|⟨yF,tl⟩|⟨i',y,yF,tl,Lm⟩
          ·rw[e];trivial
          ·rw[tl,zZ _ _ _ _ yF];have e3:((qS.mask m).rs.map rU).getD t .none=rU ((qS.mask m).rs.getD t .none):=by
            simp only[aK,cw];cases(qS.mask m).rs[t]?<;>rfl
           rw[e3];by_cases Wv:t∈ws
           ·have zc:=Mv t (oZ t Wv);change cr ((qS.mask m).rs.getD t .none)=.none at zc;generalize (qS.mask m).rs.getD t .none=s' at zc;cases s'<;>simp[cr] at zc<;>trivial
           ·have hr:=h.regs t;change aH C _ _ σ hv (cr ((qS.mask m).rs.getD t .none)) _ (ρ.r t) at hr;rw[M0.get t Wv];generalize (qS.mask m).rs.getD t .none=s' at hr;cases s' with
            |yv=>trivial
            |opt gs s=>trivial
            |none=>trivial
            |fclo f c=>exact aH.mono' (.refl σ) hc (fun _ _ e=>by cases e) hr
            |agg l=>exact aH.mono' (.refl σ) hc (fun _ _ e=>by cases e) hr
            |dat t=>exact hr
            |obj j v=>exact aH.mono' (.refl σ) hc (fun _ _ e=>by cases e) hr
            |ptr j v o=>exact aH.mono' (.refl σ) hc (fun _ _ e=>by cases e) hr
            |eptr j v o q=>exact aH.mono' (.refl σ) hc (fun _ _ e=>by cases e) hr
          ·rw[Lm];have ahL:i'<p.aa.length:=by have:=(eh.1 yF).1;simpa using this
           rw[OT _ (p.aa.map (·.1)) _ i' t (l6 c4) (by simp) yF];obtain⟨xa,lU⟩:∃xa,p.aa[i']?=some xa:=⟨_,bA ahL⟩
           simp only[cw,lU,jO,aR] at yF tl;subst yF;subst tl;rw[aiu xa (lF lU)];have hd:((p.aa.map (·.2)).map (D.tup [pd.1,pd.2]).tget).getD i' .none=(D.tup [pd.1,pd.2]).tget xa.2:=by simp[aK,lU]
           rw[hd];have h2x:xa.2≤1:=by
            rcases OL l mK (fun x hx=>by cases hx) xa (lF lU) with h|h
            ·cases h
            ·exact h.1
           rcases(by omega:xa.2=0∨xa.2=1) with e0|e0<;>rw[e0]
           ·exact bt
           ·exact cu
         ·have:(((qS.mask m).start (p.aa.map (·.1)) (p.aa.map fun x=>bif Nat.beq x.2 0 then kt else et)).st ids).o j=.it kt et:=by rw[hj];exact HA
          rw[this];intro e;cases e
        have aiv:=aa4 fp idx MQ;obtain⟨rest,tR⟩:∃rest,(gn fp idx++(D.tup [pd.1,pd.2])::rest).Perm (gX (.map fp)):=by
         obtain⟨rest,hr⟩:=an9 (es:=fp) (idx:=idx++[i]) (by rw[AW];exact⟨h7,by simp,fun a ha b hb e=>by simp at hb;subst hb;subst e;exact Hi ha⟩) (fun i' cU=>by
          rcases dB.1 cU with h|h
          ·rw[h9];exact h8 i' h
          ·simp at h;subst h;rw[h9];exact(ga.1 rT).1)
         rw[aiv] at hr;exact⟨rest,by simpa using hr⟩
        have gP:=aO _ tR;simp only[kW] at gP;split at gP
        case h_2=>cases gP
        rename_i ρ2 G5;obtain⟨xi,dy⟩:=T4 G5;refine wpIn_mono (ihc rm _ q0 vT rd w0 σ0 wr _ xi a2 w2 gk hC hY (fun t ht=>Nh t (hwc t ht)) (M0.size.trans qs) aiY dy) fun ee a3 w3 fA=>?_;have jW:=T6 n6 (tj code vT) dy G5 fA;have conv:∀ee a3 w3,gA C w0 σ0 ids fn s rm wr a2 (gg ids p.next q0).out (gg ids p.next q0).ex (.next ρ2) ee a3 w3→Exit.then (Code.roundsIn (FR rd) 0 C.P (.seq (.region i1 p.ops1 false) (.seq (.cond (.tmp p.mo) .skip (.exit p.out)) (.block p.next (.seq (.region i2 p.ops2 false) code)))) (gA C w0 σ0 ids fn s rm wr a none [(p.out,(qS.mask m).kill ids J)] x0) kk) (gA C w0 σ0 ids fn s rm wr a none [(p.out,(qS.mask m).kill ids J)] x0) ee a3 w3:=by
         intro ee a3 w3 ho;cases ee with
         |normal=>
          obtain⟨ρ3,T,f1,f2,f3,f4⟩:=ho;cases f1;refine ih (gn fp idx++[.tup [pd.1,pd.2]]) (lo.map ρ2.o) a3 w3 (jX.trans ((M0.mono Nh).trans f3)) ?_ (fun ys v8=>?_) (by simp at hlen ⊢;omega)
          ·have rS:Good C w0 σ0 (qS.st ids) ρ2 (fun _=>False) a3 w3:=by
            have:=f4.meet2 (x:=qS)
            rwa [y5 T f2] at this
           obtain⟨σ3,wF,CX,eT⟩:=rS;have L8:=PC.ev_but _ _ _ ρ2 G5 rfl;refine⟨σ3,wF,CX,(eT.maskR m).env (Snap.noOpt _ _) (fun t ht=>?_) (fun j hj=>?_)⟩
           ·have zc:=ah7 t ht
            have cI:t∉(gg ids p.next q0).pc.modR:=fun eV=>by
                 have:=My.1 t eV;have h2:av (Nat.lor m (gg ids p.next q0).mr) t=true:=by rw[eP,this,m7]
                 rw[CB,zc] at h2;cases h2
            rw[L8.r t cI]
            have qm:t∉p.aa.map (·.1):=fun aS=>by
                 have:av m t=true:=by
                  refine oZ t ?_;obtain⟨xa,lU,rfl⟩:=eO.1 aS;rcases OL l mK (fun x hx=>by cases hx) xa lU with h|⟨_,o,ho,hd⟩
                  ·cases h
                  ·exact dg o (by rw[e2];exact dk _ ho) _ hd
                 rw[zc] at this;cases this
            show ρ.r t=putL ρ.r (p.aa.map (·.1)) _ t;rw[zZ _ _ _ _ qm]
           ·have hjd:nG (di ids qS.os j)=false:=hj;show bQ (putL ρ.o lo (lo.map ρ2.o)) J _ j=ρ2.o j;by_cases y8:j=J
            ·subst y8;rw[aL,L8.o j (fun eV=>Vl (My.2 j eV))];simp[Env.setO,aL]
            ·rw[bl _ _ y8,su];split
             ·rfl
             ·rename_i fO;have cI:j∉(gg ids p.next q0).pc.modO:=fun eV=>fO (by rw[←vP];exact du.2 ⟨My.2 j eV,by rw[hjd];rfl⟩);rw[L8.o j cI];simp only[Env.setO,bl _ _ y8];exact(OU _ _ _ _ fO).symm
          ·have:=aO ((D.tup [pd.1,pd.2])::ys) (by simpa using v8);simp only[kW,G5] at this;exact this
         |exit id=>obtain⟨ρ3,T,f1,_⟩:=ho;cases f1
         |ret=>
          cases rm with
          |false=>obtain⟨d,f1,_⟩:=ho;cases f1
          |true=>obtain⟨ρ3,T,f1,_⟩:=ho;cases f1
         |_=>exact ho.elim
        cases ee with
        |exit id=>
         simp only[Exit.inBlock] at jW;show if id=p.next then _ else _;split
         ·rename_i cA;rw[if_pos cA] at jW;exact conv .normal a3 w3 jW
         ·rename_i cA;rw[if_neg cA] at jW;exact conv (.exit id) a3 w3 jW
        |normal=>exact conv .normal a3 w3 jW
        |ret=>exact conv .ret a3 w3 jW
        |panic c=>exact fA.elim
        |goto l=>exact fA.elim
        |_=>exact fA.elim
 have hgq:Good C w0 σ0 (qS.st ids) ρ (fun _=>False) a w:=bD hg;obtain⟨σ,own,hv,h⟩:=hgq;have aV:=h.objs J;have:(qS.st ids).o J=.it kt et:=HA;rw[this] at aV;obtain⟨kb,mb,arr,clock,fp,idx,h1,h2,h3,aB,h4,h5,h6,h7,h8,h9,nq,rN⟩:=aV;have hρJ:ρ.o J=.tup [.list [],es]:=by
  rw[h6] at CI iQ;simp[D.tget] at CI iQ;rw[h6,CI,←iQ]
 have vI:(ρ.put [] [] lo (lo.map ρ.o)).setO J (.tup [.list [],es])=ρ:=by
  rw[Env.put_self];show Env.mk _ _=_;have:bQ ρ.o J (.tup [.list [],es])=ρ.o:=by
   funext j;rw[eN];split
   ·rename_i e;rw[e];exact hρJ.symm
   ·rfl
  rw[this]
 exact wpIn_loop_rounds _ (key ((gX es).length+1) [] (lo.map ρ.o) a w (.refl _ _) (by rw[vI];exact⟨σ,own,hv,h.maskR m⟩) (fun ys v8=>agU ys v8) (by simp))
theorem adG {N:Nat}(fu:gf C Φ)(hR:J9 C n ids Φ R):∀(k:Nat) (c:Code),sizeOf c<k→vb C Φ fn s n ids R N c:=by
 intro k;refine Nat.rec (fun c h=>absurd h (Nat.not_lt_zero _)) (fun k IH=>?_) k;intro c hc;cases c with
 |skip=>
  intro rm S r h rd w0 σ0 wr ρ x a w gk hC hY gV hn hg he;simp only[comp,aR] at h;subst h;simp only[PC.ev,aR] at he;subst he;exact wpIn_skip ⟨ρ,S,rfl,rfl,.refl _ _,hg⟩
 |region id ops draw=>
  intro rm S r h rd w0 σ0 wr ρ x a w gk hC hY gV hn hg he;simp only[comp,az] at h;obtain⟨q,hq,rfl⟩:=h;simp only[PC.ev,az] at he;obtain⟨ρ',hr,rfl⟩:=he;exact hR id ops draw S q hq rd w0 σ0 ρ ρ' a w _ hC hY hn hg hr (fun a' w' er fy=>⟨ρ',q.1,rfl,rfl,er.mono (fun t ⟨o,h1,h2⟩=>gV t (sV.2 ⟨o,h1,h2⟩)),fy⟩)
 |seq c1 c2=>
  have tY:=IH c1 (by simp at hc;omega);have lW:=IH c2 (by simp at hc;omega);intro rm S r h rd w0 σ0 wr ρ x a w gk hC hY gV hn hg he;have fS:∀t,t∈cm c1→wr t:=fun t ht=>gV t (jh _ ht);have dg:∀t,t∈cm c2→wr t:=fun t ht=>gV t (jM _ ht);simp only[comp,au] at h;obtain⟨q,hq,h⟩:=h;split at h
  ·rename_i jV;cases h;refine wpIn_seq (wpIn_mono (tY rm S _ hq rd w0 σ0 wr ρ x a w gk hC hY fS hn hg he) fun e a' w' ho=>?_);cases e with
   |normal=>obtain⟨_,_,_,h2,_⟩:=ho;rw[jV] at h2;cases h2
   |_=>exact ho
  ·rename_i S1 jV;simp only[az] at h;obtain⟨p,hp,rfl⟩:=h;simp only[PC.ev] at he
   have key:∀x1,q.pc.ev Φ N ρ=some x1→(match some x1 with|some (.next ρ')=>p.pc.ev Φ N ρ'|y=>y)=some x→(Code.seq c1 c2).wpIn (FR rd) 0 C.P (gA C w0 σ0 ids fn s rm wr a p.out (q.ex++p.ex) x) a w:=by
      intro x1 h1 h2;refine wpIn_seq (wpIn_mono (tY rm S _ hq rd w0 σ0 wr ρ x1 a w gk hC hY fS hn hg h1) fun e a' w' ho=>?_);have other:∀{e:Exit},e≠.normal→gA C w0 σ0 ids fn s rm wr a q.out q.ex x1 e a' w'→x1=x→gA C w0 σ0 ids fn s rm wr a p.out (q.ex++p.ex) x e a' w':=by
       intro e aB ho hx;subst hx;exact ho.mono (fun y hy=>jh _ hy) (.refl _ _) (fun e=>absurd e aB)
      cases e with
      |normal=>
       obtain⟨ρ1,S2,e1,e2,eY,ij⟩:=ho;subst e1;rw[jV] at e2;cases e2;simp only at h2;refine wpIn_mono (lW rm S1 _ hp rd w0 σ0 wr ρ1 x a' w' gk hC hY dg (eY.size.trans hn) ij h2) fun e a2 w2 ej=>?_;exact ej.mono (fun y hy=>jM _ hy) eY (fun _=>rfl)
      |exit id=>
       refine other (by simp) ho ?_;obtain⟨ρ1,S2,e1,_⟩:=ho;subst e1;simpa using h2
      |ret=>
       refine other (by simp) ho ?_;cases rm with
       |false=>obtain⟨d,e1,_⟩:=ho;subst e1;simpa using h2
       |true=>obtain⟨ρ1,S2,e1,_⟩:=ho;subst e1;simpa using h2
      |_=>exact ho.elim
   cases h1:q.pc.ev Φ N ρ with
   |none=>rw[h1] at he;simp at he
   |some x1=>rw[h1] at he;exact key x1 h1 he
 |cond c c1 c2=>
  have tY:=IH c1 (by simp at hc;omega);have lW:=IH c2 (by simp at hc;omega);intro rm S r h rd w0 σ0 wr ρ x a w gk hC hY gV hn hg he;have fS:∀t,t∈cm c1→wr t:=fun t ht=>gV t (jh _ ht);have dg:∀t,t∈cm c2→wr t:=fun t ht=>gV t (jM _ ht);simp only[comp] at h;split at h
  case h_2=>cases h;exact absurd he (mi _ _ _ _)
  rename_i e hu;simp only[au,az] at h;obtain⟨q,hq,p,hp,rfl⟩:=h;have hb:∃b,a.eval c=.bool b∧e.ev ρ=.v (.bool b):=by
   obtain⟨σ,own,hv,hi⟩:=hg;have:=cg (gs:=[]) hi hC rfl hu;generalize a.eval c=v at this;generalize e.ev ρ=d at this;cases this with|bool b=>exact⟨b,rfl,rfl⟩
  obtain⟨b,gP,cY⟩:=hb;have ql:=tj c1 hq;have CA:=tj c2 hp;have main:∀(o:Option Snap) (lr lo:List Nat) (rx:Res2),rx=⟨.ite e lr lo q.pc p.pc,o,q.ex++p.ex,Nat.lor q.mr p.mr,jc q.mo p.mo⟩→
        (∀M,o=some M→lr=j6 M (Nat.lor q.mr p.mr)∧lo=iX ids M (jc q.mo p.mo))→
        (∀S1 ρ1 a w,q.out=some S1→Good C w0 σ0 (S1.st ids) ρ1 (fun _=>False) a w→∃M,o=some M∧Good C w0 σ0 (M.st ids) ρ1 (fun _=>False) a w)→
        (∀S1 ρ1 a w,p.out=some S1→Good C w0 σ0 (S1.st ids) ρ1 (fun _=>False) a w→∃M,o=some M∧Good C w0 σ0 (M.st ids) ρ1 (fun _=>False) a w)→
        rx.pc.ev Φ N ρ=some x→(Code.cond c c1 c2).wpIn (FR rd) 0 C.P (gA C w0 σ0 ids fn s rm wr a rx.out rx.ex x) a w:=by
   intro o lr lo rx hrx hl qo mK bH;subst hrx;simp only[PC.ev,cY,D.b_bool] at bH;have fin:∀(ci:Code) (qi:Res2) (xi:Out),(∀y,y∈qi.ex→y∈q.ex++p.ex)→(∀t,t∈qi.pc.modR→av (Nat.lor q.mr p.mr) t=true)→(∀j,j∈qi.pc.modO→j∈jc q.mo p.mo)→
    (∀S1 ρ1 a w,qi.out=some S1→Good C w0 σ0 (S1.st ids) ρ1 (fun _=>False) a w→∃M,o=some M∧Good C w0 σ0 (M.st ids) ρ1 (fun _=>False) a w)→
    qi.pc.ev Φ N ρ=some xi→(match some xi with|some (.next ρ')=>some (Out.next (ρ.join lr lo ρ'))|y=>y)=some x→
    ci.wpIn (FR rd) 0 C.P (gA C w0 σ0 ids fn s rm wr a qi.out qi.ex xi) a w→ci.wpIn (FR rd) 0 C.P (gA C w0 σ0 ids fn s rm wr a o (q.ex++p.ex) x) a w:=by
        intro ci qi xi hex il lT jV dy hx hwp;refine wpIn_mono hwp fun ee a' w' ho=>?_;have other:ee≠.normal→xi=x→gA C w0 σ0 ids fn s rm wr a o (q.ex++p.ex) x ee a' w':=by
         intro aB jY;subst jY;exact ho.mono hex (.refl _ _) (fun e=>absurd e aB)
        cases ee with
        |normal=>
         obtain⟨ρ1,S2,e1,e2,eY,ij⟩:=ho;subst e1;simp only[aR] at hx;subst hx;obtain⟨M,hM,rS⟩:=jV S2 ρ1 a' w' e2 ij;obtain⟨l1,l2⟩:=hl M hM;subst l1 l2;exact⟨_,M,rfl,hM,eY,rS.joined (PC.ev_but qi.pc ρ _ ρ1 dy rfl) il lT⟩
        |exit id=>
         refine other (by simp) ?_;obtain⟨ρ1,S2,e1,_⟩:=ho;subst e1;simpa using hx
        |ret=>
         refine other (by simp) ?_;cases rm with
         |false=>obtain⟨d,e1,_⟩:=ho;subst e1;simpa using hx
         |true=>obtain⟨ρ1,S2,e1,_⟩:=ho;subst e1;simpa using hx
        |_=>exact ho.elim
   refine wpIn_cond gP ?_;cases b with
   |true=>
    simp only[cond_true] at bH;cases dy:q.pc.ev Φ N ρ with
    |none=>rw[dy] at bH;simp at bH
    |some xi=>
     rw[dy] at bH;refine fin c1 q xi (fun y hy=>jh _ hy) (fun t ht=>?_) (fun j hj=>pj.2 (.inl (ql.2 j hj))) qo dy bH (tY rm S _ hq rd w0 σ0 wr ρ xi a w gk hC hY fS hn hg dy);rw[eP,ql.1 t ht];rfl
   |false=>
    simp only[cond_false] at bH;cases dy:p.pc.ev Φ N ρ with
    |none=>rw[dy] at bH;simp at bH
    |some xi=>
     rw[dy] at bH;refine fin c2 p xi (fun y hy=>jM _ hy) (fun t ht=>?_) (fun j hj=>pj.2 (.inr (CA.2 j hj))) mK dy bH (lW rm S _ hp rd w0 σ0 wr ρ xi a w gk hC hY dg hn hg dy);rw[eP,CA.1 t ht,m7]
  have qo:∀S1 ρ1 a w,q.out=some S1→Good C w0 σ0 (S1.st ids) ρ1 (fun _=>False) a w→∃M,l5 q.out p.out=some M∧Good C w0 σ0 (M.st ids) ρ1 (fun _=>False) a w:=by
   intro S1 ρ1 a w e1 g1;rw[e1];obtain⟨M,hM⟩:=@XQ S1 p.out;exact⟨M,hM,XO g1 hM⟩
  have mK:∀S1 ρ1 a w,p.out=some S1→Good C w0 σ0 (S1.st ids) ρ1 (fun _=>False) a w→∃M,l5 q.out p.out=some M∧Good C w0 σ0 (M.st ids) ρ1 (fun _=>False) a w:=by
   intro S1 ρ1 a w e1 g1;rw[e1];obtain⟨M,hM⟩:=@XR q.out S1;exact⟨M,hM,XP g1 hM⟩
  cases hm:l5 q.out p.out with
  |none=>
   rw[hm] at qo mK;simp only[hm] at he ⊢;exact main none [] [] _ rfl (fun M e=>by cases e) qo mK he
  |some M=>
   rw[hm] at qo mK;simp only[hm] at he ⊢;exact main (some M) _ _ _ rfl (fun M' e=>by cases e;exact⟨rfl,rfl⟩) qo mK he
 |block id c1=>
  have tY:=IH c1 (by simp at hc;omega);intro rm S r h rd w0 σ0 wr ρ x a w gk hC hY gV hn hg he;simp only[comp] at h;cases cA:Nat.beq id cG<;>simp only[cA,cond_true,cond_false] at h
  case true=>cases h;exact absurd he (mi _ _ _ _)
  have Hj:id≠cG:=fun e=>by subst e;simp at cA
  simp only[az] at h;obtain⟨q,hq,rfl⟩:=h;obtain⟨xi,dy⟩:=T4 he;exact wpIn_block (wpIn_mono (tY rm S _ hq rd w0 σ0 wr ρ xi a w gk hC hY gV hn hg dy) fun e a' w' fA=>T6 Hj (tj c1 hq) dy he fA)
 |loop c1=>
  have tY:=IH c1 (by simp at hc;omega);intro rm S r h rd w0 σ0 wr ρ x a w gk hC hY gV hn hg he;rw[Up] at h;split at h
  ·rename_i qb CN;obtain⟨p,code,ws⟩:=qb;unfold wq at CN;split at CN
   case h_2=>cases CN
   rename_i cx cy ck cz cc;simp only[az] at CN;obtain⟨p',aS,ep⟩:=CN;cases ep;exact ali aS (IH _ (by simp at hc;omega)) h gk hC hY gV hn hg he
  split at h
  case h_2=>cases h;exact absurd he (mi _ _ _ _)
  rename_i q hq;cases h;obtain⟨hs,y5,bD⟩:=C8 (C:=C) (w0:=w0) (σ0:=σ0) (ids:=ids) 8 hq;have ql:=tj c1 hs;simp only[PC.ev] at he
  have hg0:Good C w0 σ0 (q.1.st ids) (ρ.put (j6 q.1 q.2.mr) ((j6 q.1 q.2.mr).map ρ.r) (iX ids q.1 q.2.mo) ((iX ids q.1 q.2.mo).map ρ.o)) (fun _=>False) a w:=by
   exact Good.joined (bD hg) (.refl ρ q.2.pc.modR q.2.pc.modO) ql.1 ql.2
  have key:∀(k:Nat) (ρ1:Env) (a':Act) (w:World),SameBut wr a a'→fE (q.2.pc.ev Φ N) ρ (j6 q.1 q.2.mr) (iX ids q.1 q.2.mo) k ((j6 q.1 q.2.mr).map ρ1.r) ((iX ids q.1 q.2.mo).map ρ1.o)=some x→
        Good C w0 σ0 (q.1.st ids) (ρ.join (j6 q.1 q.2.mr) (iX ids q.1 q.2.mo) ρ1) (fun _=>False) a' w→Code.roundsIn (FR rd) 0 C.P c1 (gA C w0 σ0 ids fn s rm wr a none q.2.ex x) k a' w:=by
   intro k
   induction k with
   |zero=>intro ρ1 a' w hn hl hg;simp[fE] at hl
   |succ k ih=>
    intro ρ1 a' w jX hl hg;rw[roundsIn_succ];simp only[fE] at hl;change (match q.2.pc.ev Φ N (ρ.join (j6 q.1 q.2.mr) (iX ids q.1 q.2.mo) ρ1) with|some (.next ρ')=>_|y=>y)=some x at hl;cases dy:q.2.pc.ev Φ N (ρ.join (j6 q.1 q.2.mr) (iX ids q.1 q.2.mo) ρ1) with
    |none=>rw[dy] at hl;simp at hl
    |some xi=>
     rw[dy] at hl;refine wpIn_mono (tY rm _ _ hs rd w0 σ0 wr _ xi a' w gk hC hY gV (jX.size.trans hn) hg dy) fun e a2 w' fA=>?_;have other:e≠.normal→xi=x→gA C w0 σ0 ids fn s rm wr a none q.2.ex x e a2 w':=by
         intro aB jY;subst jY;exact fA.mono (fun y hy=>hy) jX (fun e=>absurd e aB)
     cases e with
     |normal=>
      obtain⟨ρ2,S2,e1,e2,eY,ij⟩:=fA;subst e1;simp only at hl;refine ih ρ2 a2 w' (jX.trans eY) hl ?_
      have rS:Good C w0 σ0 (q.1.st ids) ρ2 (fun _=>False) a2 w':=by
       have:=ij.meet2 (x:=q.1)
       rwa [y5 S2 e2] at this
      refine rS.joined (mr':=j6 q.1 q.2.mr++q.2.pc.modR) (mo':=iX ids q.1 q.2.mo++q.2.pc.modO) ?_ (fun t ht=>?_) (fun j hj=>?_)
      ·exact((Env.but.join ρ ρ1 _ _).mono (fun t ht=>jh _ ht) (fun t ht=>jh _ ht)).trans
        ((PC.ev_but q.2.pc _ _ ρ2 dy rfl).mono (fun t ht=>jM _ ht) (fun t ht=>jM _ ht))
      ·exact(dB.1 ht).elim H4 (ql.1 t)
      ·exact(dB.1 hj).elim zz (ql.2 j)
     |exit id=>
      refine other (by simp) ?_;obtain⟨ρ1,S2,e1,_⟩:=fA;subst e1;simpa using hl
     |ret=>
      refine other (by simp) ?_;cases rm with
      |false=>obtain⟨d,e1,_⟩:=fA;subst e1;simpa using hl
      |true=>obtain⟨ρ1,S2,e1,_⟩:=fA;subst e1;simpa using hl
     |_=>exact fA.elim
  exact wpIn_loop_rounds N (key N ρ a w (.refl _ _) he hg0)
 |exit id=>
  intro rm S r h rd w0 σ0 wr ρ x a w gk hC hY gV hn hg he;simp only[comp] at h;cases cA:Nat.beq id cG<;>simp only[cA,cond_true,cond_false] at h
  case true=>cases h;exact absurd he (mi _ _ _ _)
  cases h;simp only[PC.ev,aR] at he;subst he;exact wpIn_exit ⟨ρ,S,rfl,fun e=>by subst e;simp at cA,by simp,.refl _ _,hg⟩
 |ret=>
  intro rm S r h rd w0 σ0 wr ρ x a w gk hC hY gV hn hg he;simp only[comp] at h;cases rm<;>simp only[cond_true,cond_false] at h
  case true=>
   cases h;simp only[PC.ev,aR] at he;subst he;exact wpIn_ret ⟨ρ,S,rfl,by simp,.refl _ _,hg⟩
  split at h
  ·rename_i e CP;cases h;simp only[PC.ev,aR] at he;subst he;obtain⟨σ,own,hv,hi⟩:=hg;exact wpIn_ret ⟨_,rfl,Inv.retD hC (fun _=>rfl) (gk rfl).2 CP _ hi rfl,.refl _ _⟩
  ·cases h;exact absurd he (mi _ _ _ _)
 |rangeFunc g ps ca cb=>exact ans fu (IH ca (by simp at hc;omega)) (IH cb (by simp at hc;omega))
 |_=>intro rm S r h rd w0 σ0 wr ρ x a w gk hC hY gV hn hg he;simp only[comp,aR] at h;subst h;exact absurd he (mi _ _ _ _)
theorem adF {N:Nat}(fu:gf C Φ)(hR:J9 C n ids Φ R)(c:Code):vb C Φ fn s n ids R N c:=adG fu hR _ c (Nat.lt_succ_self _)
end
end Cx
