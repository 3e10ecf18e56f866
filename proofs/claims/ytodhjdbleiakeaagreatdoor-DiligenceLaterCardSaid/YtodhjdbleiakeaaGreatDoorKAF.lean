/-
  Code: sequences, choices, blocks, loops.
-/
import Derived.LoopNIn
import Derived.Test.YtodhjdbleiakeaaGreatDoorKAE
import Derived.LoopN
set_option linter.unusedSimpArgs false
set_option linter.unusedVariables false
namespace Cx
open Go Go.RowKit
def av (m t:Nat):Bool:= !Nat.beq (Nat.land 1 (Nat.shiftRight m t)) 0
theorem p8 (m t:Nat):av m t=m.testBit t:=by
 unfold av Nat.testBit;show(!Nat.beq (1&&& (m>>>t)) 0)=((1&&& (m>>>t))!=0)
 generalize 1&&& (m>>>t)=x;cases x<;>rfl
def dq (t:Nat):Nat:=Nat.shiftLeft 1 t
theorem oL (t:Nat):av (dq t) t=true:=by
 rw[p8];show(1<<<t).testBit t=true;simp[Nat.testBit_shiftLeft]
theorem eA (m k t:Nat):av (Nat.lor m k) t=(av m t||av k t):=by
 simp only[p8];exact Nat.testBit_or m k t
def PI.mask:PI→Nat
 |.setR t _=>dq t|.call _ t _ _=>dq t|.callc _ t _ _=>dq t|_=>0
def G9:List PI→Nat
 |[]=>0
 |p::l=>Nat.lor p.mask (G9 l)
def PI.objs:PI→List Nat
 |.setO j _=>[j]|.mcall j _ _=>[j]|_=>[]
def eG (l:List Nat)(x:Nat):Bool:=l.any (Nat.beq x)
def ic (a b:List Nat):List Nat:=a.foldl (fun acc x=>bif eG acc x then acc else x::acc) b
def abK (l:List PI):List Nat:=l.foldl (fun acc p=>ic p.objs acc) []
theorem nU (l:List Nat)(x:Nat):eG l x=true↔x∈l:=by
 unfold eG;rw[List.any_eq_true];constructor
 ·rintro⟨y,hy,h⟩;rw[Nat.eq_of_beq_eq_true h];exact hy
 ·intro h;exact⟨x,h,Nat.beq_refl x⟩
theorem nV {x:Nat}:∀{a b:List Nat},x∈ic a b↔x∈a∨x∈b
 |[],b=>by simp[ic]
 |y::a,b=>by
  have ih:=@nV x a (bif eG b y then b else y::b);have e:ic (y::a) b=ic a (bif eG b y then b else y::b):=rfl;rw[e,ih];cases hb:eG b y
  ·simp[or_assoc,or_left_comm]
  ·have:=(nU b y).1 hb;simp only[cond_true,List.mem_cons];constructor
   ·rintro(h|h)
    ·exact .inl (.inr h)
    ·exact .inr h
   ·rintro((h|h)|h)
    ·subst h;exact .inr this
    ·exact .inl h
    ·exact .inr h
theorem au8 {x:Nat}(l:List PI)(h:x∈l.flatMap PI.modO):x∈abK l:=by
 have key:∀(l:List PI) (acc:List Nat),(x∈l.flatMap PI.modO∨x∈acc)→x∈l.foldl (fun acc p=>ic p.objs acc) acc:=by
  intro l
  induction l with
  |nil=>intro acc h;simpa using h
  |cons p l ih=>
   intro acc h;refine ih _ ?_;rw[List.flatMap_cons,List.mem_append] at h;rcases h with(h|h)|h
   ·refine .inr (nV.2 (.inl ?_));cases p<;>simp_all [PI.modO,PI.objs]
   ·exact .inl h
   ·exact .inr (nV.2 (.inr h))
 exact key l [] (.inl h)
theorem Zr {t:Nat}:∀(l:List PI),t∈l.flatMap PI.modR→av (G9 l) t=true
 |[],h=>by simp at h
 |p::l,h=>by
  rw[List.flatMap_cons,List.mem_append] at h;simp only[G9,eA,Bool.or_eq_true];rcases h with h|h
  ·left;cases p<;>simp[PI.modR] at h<;>subst h<;>exact oL _
  ·exact .inr (Zr l h)
structure Res2 where
 pc:PC
 out:Option Snap
 ex:List (Nat×Snap)
 mr:Nat
 mo:List Nat
 deriving Inhabited
def kU:Option Snap→Option Snap→Option Snap
 |none,x=>x
 |x,none=>x
 |some a,some b=>some (a.meet b)
def mR (id:Nat):List (Nat×Snap)→Option Snap→Option Snap
 |[],acc=>acc
 |x::l,acc=>mR id l (bif Nat.beq x.1 id then kU acc (some x.2) else acc)
def iter (step:Snap→Option Res2):Nat→Snap→Option (Snap×Res2)
 |0,_=>none
 |k+1,S=>(step S).bind fun r=>
  match r.out with
  |none=>some (S,r)
  |some T=>bif (S.meet T).beq S then some (S,r) else iter step k (S.meet T)
def jt (S:Snap)(m:Nat):List Nat:=(List.range S.rs.length).filter fun t=>av m t&& !isNone (bZ (S.rs.getD t .none))
def gV (ids:List Nat)(S:Snap)(l:List Nat):List Nat:=l.filter fun j=> !mP (cX ids S.os j)
def fH:Res2:=⟨.is [Dz],none,[],0,[]⟩
theorem lg (Φ:aT)(N:Nat)(ρ:Env)(x:Out):fH.pc.ev Φ N ρ≠some x:=by
 intro h;simp[fH,PC.ev,PI.runs,PI.run,Dz,PE.ev,D.b_bool] at h
theorem lh:(∀t,t∈fH.pc.modR→av fH.mr t=true)∧∀j,j∈fH.pc.modO→j∈fH.mo:=by
 constructor<;>intro t h<;>simp[fH,PC.modR,PC.modO,PI.modR,PI.modO,Dz] at h
def bX:Code→List Nat
 |.region _ ops _=>ops.toList.filterMap (·.dst)
 |.seq a b=>bX a++bX b
 |.cond _ a b=>bX a++bX b
 |.block _ a=>bX a
 |.loop a=>bX a
 |_=>[]
def uC (l:List Nat):Nat:=l.foldr (fun t m=>Nat.lor (dq t) m) 0
def qF (m:Nat):Nat→List Sh→List Sh
 |_,[]=>[]
 |t,s::l=>(bif av m t then .none else s)::qF m (t+1) l
def Snap.mask (m:Nat)(S:Snap):Snap:=⟨qF m 0 S.rs,S.os⟩
def qs:Sh→Sh
 |.yv=>.none
 |s=>s
def pJ:List Nat→List Ty→List Sh→List Sh
 |p::ps,y::ys,l=>pJ ps ys (l.set p (.dat y))
 |_,_,l=>l
def Snap.start (ps:List Nat)(ys:List Ty)(S:Snap):Snap:=⟨pJ ps ys (S.rs.map qs),S.os⟩
def Zk (ids:List Nat)(l:List Snap)(mo:List Nat):List Nat:=mo.filter fun j=>l.any fun S=> !mP (cX ids S.os j)
def axI (wm:Nat)(ra rb:Res2):Res2:=
 let m:=Nat.lor wm (Nat.lor ra.mr rb.mr)
 ⟨.seq ra.pc rb.pc,rb.out.map (Snap.mask m),rb.ex.map (fun x=>(x.1,x.2.mask m)),m,ic ra.mo rb.mo⟩
def fw (ids:List Nat)(id:Nat)(r:Res2):Res2:=
    match mR id r.ex r.out with
    |some M=>⟨.block id (jt M r.mr) (gV ids M r.mo) r.pc,some M,r.ex.filter fun x=> !Nat.beq x.1 id,r.mr,r.mo⟩
    |none=>⟨.block id [] [] r.pc,none,r.ex.filter fun x=> !Nat.beq x.1 id,r.mr,r.mo⟩
def sc:List (Nat×Nat)→Nat→Option Nat
 |[],_=>none
 |x::l,t=>bif Nat.beq x.1 t then some x.2 else sc l t
def jP (pr:Nat):List Oper→List (Nat×Nat)→Option (List (Nat×Nat))
 |[],acc=>some acc
 |o::l,acc=>
  match o.dst,o.guard with
  |some d,none=>
   bif Nat.beq d pr||(sc acc d).isSome then none else
   match o.op with
   |.extract (.tmp t) i=>bif Nat.beq t pr&&Nat.ble i 1 then jP pr l (acc++[(d,i)]) else none
   |.assign (.tmp t)=>(sc acc t).bind fun i=>jP pr l (acc++[(d,i)])
   |.move (.tmp t)=>(sc acc t).bind fun i=>jP pr l (acc++[(d,i)])
   |_=>none
  |_,_=>none
structure MP where
 it:Nat
 nx:Nat
 mo:Nat
 out:Nat
 next:Nat
 pr:Nat
 ops1:Array Oper
 ops2:Array Oper
 aa:List (Nat×Nat)
 deriving Inhabited
def w8 (x y:Code)(k:Nat)(z:Code):Option MP:=
 match x,y,z with
 |.region _ ops1 false,.cond (.tmp mo) .skip (.exit out),.region _ ops2 false=>
  match ops1.toList,ops2.toList with
  |[o1,o2],o3::l=>
   match o1.dst,o1.guard,o1.op,o2.dst,o2.guard,o2.op,o3.dst,o3.guard,o3.op with
   |some nx,none,.next (.tmp it) false,some mo',none,.extract (.tmp nx') 0,some pr,none,.entry (.tmp YJ)=>
    bif Nat.beq mo mo'&&Nat.beq nx nx'&&Nat.beq it YJ&& !Nat.beq it nx&& !Nat.beq it mo&& !Nat.beq it pr&& !Nat.beq nx mo&& !Nat.beq out ct&& !Nat.beq k ct then
     (jP pr l []).map fun aa=>⟨it,nx,mo,out,k,pr,ops1,ops2,aa⟩
    else none
   |_,_,_,_,_,_,_,_,_=>none
  |_,_=>none
 |_,_,_=>none
def uv:List Nat→Nat→List Ob→List Ob
 |i::is,J,o::os=>(bif Nat.beq i J then .dead else o)::uv is J os
 |_,_,os=>os
def Snap.kill (ids:List Nat)(J:Nat)(S:Snap):Snap:=⟨S.rs,uv ids J S.os⟩
def YG (J:Nat)(kt et:Ty)(ids:List Nat)(p:MP)(m:Nat)(S:Snap):Bool:=
 Sh.beq (S.rs.getD p.it .none) (.obj J 0)&&Ob.beq (cX ids S.os J) (.it kt et)&& !av m p.it
def w9 (ids:List Nat)(n:Nat)(p:MP)(ws:List Nat)(f:Snap→Option Res2)(S:Snap):Option Res2:=
 match bZ (S.rs.getD p.it .none) with
 |.obj J 0=>
  match cX ids S.os J with
  |.it kt et=>
   let ps:=p.aa.map (·.1)
   let ys:=p.aa.map fun x=>bif Nat.beq x.2 0 then kt else et
   let m:=uC ws
   match iter (fun S=>(f ((S.mask m).start ps ys)).map (fw ids p.next)) 8 S with
   |some r=>
    bif r.2.ex.isEmpty&& !eG r.2.mo J&&YG J kt et ids p m r.1&&iQ ps&&ps.all (fun t=>Nat.blt t n)&&Nat.blt p.nx n&&Nat.blt p.mo n&&Nat.blt p.pr n&&Nat.beq (Nat.lor m r.2.mr) m then
       some ⟨.seq (.meach J ps (p.aa.map (·.2)) (gV ids r.1 r.2.mo) r.2.pc) (.exit p.out),none,[(p.out,(r.1.mask m).kill ids J)],0,r.2.mo⟩
    else some fH
   |none=>some fH
  |_=>some fH
 |_=>some fH
def comp (C:Ctx)(fn:Func)(s:Sig)(n:Nat)(ids:List Nat)(R:Array Oper→Bool→Snap→Option (Snap×List PI)):Bool→Code→Snap→Option Res2
 |_,.skip,S=>some ⟨.skip,some S,[],0,[]⟩
 |_,.region _ ops draw,S=>(R ops draw S).map fun r=>⟨.is r.2,some r.1,[],G9 r.2,abK r.2⟩
 |rm,.seq a b,S=>(comp C fn s n ids R rm a S).bind fun r=>
  match r.out with
  |none=>some r
  |some S1=>(comp C fn s n ids R rm b S1).map fun q=>⟨.seq r.pc q.pc,q.out,r.ex++q.ex,Nat.lor r.mr q.mr,ic r.mo q.mo⟩
 |rm,.cond c a b,S=>
  match use C (S.st ids) [] c with
  |some (.bool,e)=>
   (comp C fn s n ids R rm a S).bind fun r=>(comp C fn s n ids R rm b S).map fun q=>
     match kU r.out q.out with
     |some M=>⟨.ite e (jt M (Nat.lor r.mr q.mr)) (gV ids M (ic r.mo q.mo)) r.pc q.pc,some M,r.ex++q.ex,Nat.lor r.mr q.mr,ic r.mo q.mo⟩
     |none=>⟨.ite e [] [] r.pc q.pc,none,r.ex++q.ex,Nat.lor r.mr q.mr,ic r.mo q.mo⟩
  |_=>some fH
 |rm,.block id a,S=>bif Nat.beq id ct then some fH else(comp C fn s n ids R rm a S).map (fw ids id)
 |rm,.loop (.seq x (.seq y (.block k (.seq z code)))),S=>
  (match w8 x y k z with
  |some p=>w9 ids n p (bX x++(bX y++(bX z++bX code))) (fun S=>comp C fn s n ids R rm code S) S
  |none=>
  match iter (fun S=>comp C fn s n ids R rm (.seq x (.seq y (.block k (.seq z code)))) S) 8 S with
  |some r=>some ⟨.loop (jt r.1 r.2.mr) (gV ids r.1 r.2.mo) r.2.pc,none,r.2.ex,r.2.mr,r.2.mo⟩
  |none=>some fH)
 |rm,.loop a,S=>
  match iter (fun S=>comp C fn s n ids R rm a S) 8 S with
  |some r=>some ⟨.loop (jt r.1 r.2.mr) (gV ids r.1 r.2.mo) r.2.pc,none,r.2.ex,r.2.mr,r.2.mo⟩
  |none=>some fH
 |_,.exit id,S=>bif Nat.beq id ct then some fH else some ⟨.exit id,none,[(id,S)],0,[]⟩
 |rm,.ret,S=>
  bif rm then some ⟨.exit ct,none,[(ct,S)],0,[]⟩ else
  match vj C fn s (S.st ids) with
  |some e=>some ⟨.ret e,none,[],0,[]⟩
  |none=>some fH
 |rm,.rangeFunc g ps a b,S=>
  match rm,C.yl,use C (S.st ids) [] g with
  |false,none,some (.fn aa r,e)=>
   match kS aa r with
   |some ys=>
    match iter (fun S=>(comp C fn s n ids R true a (S.start ps.toList ys)).bind fun ra=>
          match ra.out,ra.ex with
          |some S1,[]=>(comp C fn s n ids R true b S1).map (axI (uC (ps.toList++bX a++bX b)) ra)
          |_,_=>none) 8 S with
    |some r=>
     bif Nat.beq ys.length ps.size&&iQ ps.toList&&ps.toList.all (fun p=>Nat.blt p n)&&Nat.ble r.1.rs.length n then
           some ⟨.seq (.is [.callc [] n e []]) (.each (.r n) ps.toList (Zk ids (r.1::r.2.ex.map (·.2)) r.2.mo) ((mR ct r.2.ex none).bind fun M=>vj C fn s (M.st ids)) r.2.pc),
            some r.1,r.2.ex.filter (fun x=> !Nat.beq x.1 ct),dq n,r.2.mo⟩
     else some fH
    |none=>some fH
   |none=>some fH
  |_,_,_=>some fH
 |_,_,_=>some fH
termination_by structural _ c=>c
def uA:Code→Option (MP×Code×List Nat)
 |.seq x (.seq y (.block k (.seq z code)))=>(w8 x y k z).map fun p=>(p,code,bX x++(bX y++(bX z++bX code)))
 |_=>none
theorem Wb (C:Ctx)(fn:Func)(s:Sig)(n:Nat)(ids:List Nat)(R:Array Oper→Bool→Snap→Option (Snap×List PI))(rm:Bool)(a:Code)(S:Snap):comp C fn s n ids R rm (.loop a) S=
 match uA a with
 |some q=>w9 ids n q.1 q.2.2 (fun S=>comp C fn s n ids R rm q.2.1 S) S
 |none=>
  match iter (fun S=>comp C fn s n ids R rm a S) 8 S with
  |some r=>some ⟨.loop (jt r.1 r.2.mr) (gV ids r.1 r.2.mo) r.2.pc,none,r.2.ex,r.2.mr,r.2.mo⟩
  |none=>some fH:=by
 by_cases h:∃x y k z code,a=.seq x (.seq y (.block k (.seq z code)))
 ·obtain⟨x,y,k,z,code,rfl⟩:=h
  conv=>lhs;unfold comp
  simp only[uA];cases w8 x y k z<;>rfl
 ·have e:uA a=none:=by
   unfold uA;split
   ·rename_i x y k z code;exact absurd ⟨x,y,k,z,code,rfl⟩ h
   ·rfl
  rw[e];rw[comp];intro x y k z code e;exact h ⟨x,y,k,z,code,e⟩
def subs:Code→List Code
 |.seq a b=>.seq a b::(subs a++subs b)
 |.cond c a b=>.cond c a b::(subs a++subs b)
 |.block i a=>.block i a::subs a
 |.loop a=>.loop a::subs a
 |.rangeFunc g ps a b=>.rangeFunc g ps a b::(subs a++subs b)
 |c=>[c]
theorem ayf (c:Code):c∈subs c:=by cases c<;>simp[subs]
theorem aGC {a code:Code}{p:MP}{ws:List Nat}(h:uA a=some (p,code,ws)):code∈subs a:=by
 unfold uA at h;split at h
 ·simp only[Option.map_eq_some_iff] at h;obtain⟨q,_,e⟩:=h;cases e;simp[subs,ayf]
 ·cases h
def LM (C:Ctx)(n:Nat)(ids:List Nat)(Φ:aT)(R:Array Oper→Bool→Snap→Option (Snap×List PI)):Prop:=
 ∀(id:Nat) (ops:Array Oper) (draw:Bool) (S:Snap) (r:Snap×List PI),R ops draw S=some r→
  ∀(rd:Option Nat) (w0:World) (σ0:Base) (ρ ρ':Env) (a:Act) (w:World) (Q:Exit→Act→World→Prop),CtxOK C σ0→nm C Φ w0 σ0→a.tmps.size=n→Good C w0 σ0 (S.st ids) ρ (fun _=>False) a w→PI.runs Φ r.2 ρ=some ρ'→
   (∀a' w',SameBut (oN ops) a a'→Good C w0 σ0 (r.1.st ids) ρ' (fun _=>False) a' w'→Q .normal a' w')→(Code.region id ops draw).wpIn (FR rd) 0 C.P Q a w
section
variable {C:Ctx} {ρ ρ':Env} {σ:Im} {own:Nat→Option Nat} {hv:Nat→Value} {w0:World} {σ0:Base} {A:Nat→Prop} {a:Act} {w:World} {Φ:aT} {n:Nat} {ids:List Nat} {fn:Func} {s:Sig}
 {R:Array Oper→Bool→Snap→Option (Snap×List PI)}
def fI (C:Ctx)(w0:World)(σ0:Base)(ids:List Nat)(fn:Func)(s:Sig)(rm:Bool)(wr:Nat→Prop)(a0:Act)(out:Option Snap)(ex:List (Nat×Snap))(x:Out):Exit→Act→World→Prop
 |.normal,a,w=>∃ρ S,x=.next ρ∧out=some S∧SameBut wr a0 a∧Good C w0 σ0 (S.st ids) ρ (fun _=>False) a w
 |.exit id,a,w=>∃ρ S,x=.exit id ρ∧id≠ct∧(id,S)∈ex∧SameBut wr a0 a∧Good C w0 σ0 (S.st ids) ρ (fun _=>False) a w
 |.ret,a,w=>match rm with
  |false=>∃d,x=.ret d∧oH C w0 σ0 fn s d a.tmps a.defers w∧SameBut wr a0 a
  |true=>∃ρ S,x=.exit ct ρ∧(ct,S)∈ex∧SameBut wr a0 a∧Good C w0 σ0 (S.st ids) ρ (fun _=>False) a w
 |_,_,_=>False
theorem Good.meet1 {x y:Snap}(h:Good C w0 σ0 (x.st ids) ρ A a w):Good C w0 σ0 ((x.meet y).st ids) ρ (fun _=>False) a w:=by
 obtain⟨σ,own,hv,h⟩:=h;exact⟨σ,own,hv,Snap.meet_ok1 h⟩
theorem Good.meet2 {x y:Snap}(h:Good C w0 σ0 (y.st ids) ρ A a w):Good C w0 σ0 ((x.meet y).st ids) ρ (fun _=>False) a w:=by
 obtain⟨σ,own,hv,h⟩:=h;exact⟨σ,own,hv,Snap.meet_ok2 h⟩
theorem Zy {x:Snap}{y:Option Snap}{M:Snap}(h:Good C w0 σ0 (x.st ids) ρ (fun _=>False) a w)(hm:kU (some x) y=some M):Good C w0 σ0 (M.st ids) ρ (fun _=>False) a w:=by
 cases y<;>simp[kU] at hm<;>subst hm
 ·exact h
 ·exact h.meet1
theorem Zz {x:Option Snap}{y:Snap}{M:Snap}(h:Good C w0 σ0 (y.st ids) ρ (fun _=>False) a w)(hm:kU x (some y)=some M):Good C w0 σ0 (M.st ids) ρ (fun _=>False) a w:=by
 cases x<;>simp[kU] at hm<;>subst hm
 ·exact h
 ·exact h.meet2
theorem ZA {x:Snap}{y:Option Snap}:∃M,kU (some x) y=some M:=by cases y<;>simp[kU]
theorem ZB {x:Option Snap}{y:Snap}:∃M,kU x (some y)=some M:=by cases x<;>simp[kU]
theorem Ha {id:Nat}:∀(l:List (Nat×Snap)) {x:Snap},Good C w0 σ0 (x.st ids) ρ (fun _=>False) a w→∃M,mR id l (some x)=some M∧Good C w0 σ0 (M.st ids) ρ (fun _=>False) a w
 |[],x,h=>⟨x,rfl,h⟩
 |y::l,x,h=>by
  simp only[mR];cases Nat.beq y.1 id
  ·exact Ha l h
  ·obtain⟨M,hM⟩:=@ZA x (some y.2);simp only[cond_true,hM];exact Ha l (Zy h hM)
theorem Pt {id:Nat}{S:Snap}(h:Good C w0 σ0 (S.st ids) ρ (fun _=>False) a w):∀(l:List (Nat×Snap)) (x:Option Snap),(id,S)∈l→∃M,mR id l x=some M∧Good C w0 σ0 (M.st ids) ρ (fun _=>False) a w
 |y::l,x,hm=>by
  simp only[mR];rcases List.mem_cons.1 hm with e|hm
  ·subst e;simp only[Nat.beq_refl,cond_true];obtain⟨M,hM⟩:=@ZB x S;rw[hM];exact Ha l (Zz h hM)
  ·exact Pt h l _ hm
theorem BI {step:Snap→Option Res2}:∀(k:Nat) {S:Snap} {r:Snap×Res2},iter step k S=some r→
 step r.1=some r.2∧(∀T,r.2.out=some T→r.1.meet T=r.1)∧∀{ρ:Env} {a:Act} {w:World},Good C w0 σ0 (S.st ids) ρ (fun _=>False) a w→Good C w0 σ0 (r.1.st ids) ρ (fun _=>False) a w
 |0,S,r,h=>by simp[iter] at h
 |k+1,S,r,h=>by
  simp only[iter,Option.bind_eq_some_iff] at h;obtain⟨q,hq,h⟩:=h;split at h
  ·rename_i ho;cases h;exact⟨hq,fun T hT=>by simp[ho] at hT,fun g=>g⟩
  ·rename_i T ho;cases hb:(S.meet T).beq S<;>simp only[hb,cond_true,cond_false] at h
   ·obtain⟨h1,h2,h3⟩:=BI k h;exact⟨h1,h2,fun g=>h3 g.meet1⟩
   ·cases h;refine⟨hq,fun T' hT=>?_,fun g=>g⟩;simp only[ho,Option.some.injEq] at hT;subst hT;exact Snap.beq_eq _ _ hb
theorem YK {step:Snap→Option Res2}{hv:Nat→Value}:∀(k:Nat) {S:Snap} {r:Snap×Res2},iter step k S=some r→Inv C (S.st ids) ρ σ own hv w0 σ0 (fun _=>False) a w→Inv C (r.1.st ids) ρ σ own hv w0 σ0 (fun _=>False) a w
 |0,S,r,h,_=>by simp[iter] at h
 |k+1,S,r,h,i=>by
  simp only[iter,Option.bind_eq_some_iff] at h;obtain⟨q,hq,h⟩:=h;split at h
  ·cases h;exact i
  ·rename_i T ho;cases hb:(S.meet T).beq S<;>simp only[hb,cond_true,cond_false] at h
   ·exact YK k h (Snap.meet_ok1 i)
   ·cases h;exact i
theorem Good.joined {M:Snap}{m:Nat}{mo mr' mo':List Nat}(h:Good C w0 σ0 (M.st ids) ρ' (fun _=>False) a w)(hb:ρ.but ρ' mr' mo')(h1:∀t,t∈mr'→av m t=true)(h2:∀j,j∈mo'→j∈mo):
 Good C w0 σ0 (M.st ids) (ρ.join (jt M m) (gV ids M mo) ρ') (fun _=>False) a w:=by
 obtain⟨σ,own,hv,h⟩:=h;refine⟨σ,own,hv,h.env (Snap.noOpt _ _) (fun t ht=>?_) (fun j hj=>?_)⟩
 ·simp only[Env.join,Env.put,qN];split
  ·rfl
  ·rename_i hm;refine(hb.r t fun Bh=>hm ?_).symm;have ah:t<M.rs.length:=by
        refine Nat.lt_of_not_le fun hle=>?_;simp only[Snap.st,List.getD_eq_getElem?_getD,List.getElem?_eq_none hle,Option.getD_none,bZ,isNone] at ht;cases ht
   exact List.mem_filter.2 ⟨List.mem_range.2 ah,by rw[h1 t Bh];simpa [Snap.st] using ht⟩
 ·simp only[Env.join,Env.put,qN];split
  ·rfl
  ·rename_i hm;refine(hb.o j fun Bh=>hm ?_).symm;exact List.mem_filter.2 ⟨h2 j Bh,by simpa [Snap.st] using hj⟩
theorem Hb {S:Snap}{m t:Nat}(h:t∈jt S m):av m t=true:=by
 have:=(List.mem_filter.1 h).2;simp only[Bool.and_eq_true] at this;exact this.1
theorem xb {S:Snap}{l:List Nat}{j:Nat}(h:j∈gV ids S l):j∈l:=(List.mem_filter.1 h).1
theorem VP {id:Nat}{q:Res2}(h:(∀t,t∈q.pc.modR→av q.mr t=true)∧∀j,j∈q.pc.modO→j∈q.mo):(∀t,t∈(fw ids id q).pc.modR→av (fw ids id q).mr t=true)∧∀j,j∈(fw ids id q).pc.modO→j∈(fw ids id q).mo:=by
 unfold fw;cases hm:mR id q.ex q.out<;>simp only
 ·simpa [PC.modR,PC.modO] using h
 ·refine⟨fun t ht=>?_,fun j hj=>?_⟩
  ·simp only[PC.modR,List.mem_append] at ht;exact ht.elim Hb (h.1 t)
  ·simp only[PC.modO,List.mem_append] at hj;exact hj.elim xb (h.2 j)
theorem au0 {p:MP}{ws:List Nat}{f:Snap→Option Res2}{S:Snap}{r:Res2}(h:w9 ids n p ws f S=some r):(∀t,t∈r.pc.modR→av r.mr t=true)∧∀j,j∈r.pc.modO→j∈r.mo:=by
 unfold w9 at h;split at h
 case h_2=>cases h;exact lh
 split at h
 case h_2=>cases h;exact lh
 simp only at h;split at h
 case h_2=>cases h;exact lh
 rw[Bool.cond_eq_ite] at h;split at h
 ·cases h;refine⟨fun t ht=>by simp[PC.modR] at ht,fun j hj=>?_⟩;simp only[PC.modO,List.append_nil] at hj;exact xb hj
 ·cases h;exact lh
theorem rh:∀(c:Code) {rm:Bool} {S:Snap} {r:Res2},comp C fn s n ids R rm c S=some r→(∀t,t∈r.pc.modR→av r.mr t=true)∧∀j,j∈r.pc.modO→j∈r.mo:=by
 intro c
 induction c with
 |skip=>intro rm S r h;simp only[comp,Option.some.injEq] at h;subst h;simp[PC.modR,PC.modO]
 |region id ops draw=>
  intro rm S r h;simp only[comp,Option.map_eq_some_iff] at h;obtain⟨q,_,rfl⟩:=h;exact⟨fun t ht=>Zr _ ht,fun j hj=>au8 _ hj⟩
 |seq x y gT ur=>
  intro rm S r h;simp only[comp,Option.bind_eq_some_iff] at h;obtain⟨q,hq,h⟩:=h;split at h
  ·cases h;exact gT hq
  ·simp only[Option.map_eq_some_iff] at h;obtain⟨p,hp,rfl⟩:=h;refine⟨fun t ht=>?_,fun j hj=>?_⟩
   ·simp only[PC.modR,List.mem_append] at ht;rw[eA,Bool.or_eq_true];exact ht.imp ((gT hq).1 t) ((ur hp).1 t)
   ·simp only[PC.modO,List.mem_append] at hj;rw[nV];exact hj.imp ((gT hq).2 j) ((ur hp).2 j)
 |cond c x y gT ur=>
  intro rm S r h;simp only[comp] at h;split at h
  case h_2=>cases h;exact lh
  rename_i e _;simp only[Option.bind_eq_some_iff,Option.map_eq_some_iff] at h;obtain⟨q,hq,p,hp,rfl⟩:=h;cases hm:kU q.out p.out<;>simp only[hm]
  ·refine⟨fun t ht=>?_,fun j hj=>?_⟩
   ·simp only[PC.modR,List.mem_append,List.nil_append] at ht;rw[eA,Bool.or_eq_true];exact ht.imp ((gT hq).1 t) ((ur hp).1 t)
   ·simp only[PC.modO,List.mem_append,List.nil_append] at hj;rw[nV];exact hj.imp ((gT hq).2 j) ((ur hp).2 j)
  ·refine⟨fun t ht=>?_,fun j hj=>?_⟩
   ·simp only[PC.modR,List.mem_append] at ht;rw[eA,Bool.or_eq_true];rcases ht with(ht|ht)|ht
    ·have:=Hb ht;rw[eA,Bool.or_eq_true] at this;exact this
    ·exact .inl ((gT hq).1 t ht)
    ·exact .inr ((ur hp).1 t ht)
   ·simp only[PC.modO,List.mem_append] at hj;rcases hj with(hj|hj)|hj
    ·exact xb hj
    ·exact nV.2 (.inl ((gT hq).2 j hj))
    ·exact nV.2 (.inr ((ur hp).2 j hj))
 |block id x gT=>
  intro rm S r h;simp only[comp] at h;cases cj:Nat.beq id ct<;>simp only[cj,cond_true,cond_false] at h
  case true=>cases h;exact lh
  simp only[Option.map_eq_some_iff] at h;obtain⟨q,hq,rfl⟩:=h;exact VP (gT hq)
 |loop x gT=>
  intro rm S r h;rw[Wb] at h;split at h
  ·exact au0 h
  split at h
  case h_2=>cases h;exact lh
  rename_i q hq;cases h;have hs:=(BI (C:=C) (w0:=default) (σ0:=Base.mk0 ⟨fun _ _=>none,fun _=>none⟩ 0) (ids:=ids) 8 hq).1;refine⟨fun t ht=>?_,fun j hj=>?_⟩
  ·simp only[PC.modR,List.mem_append] at ht;exact ht.elim Hb ((gT hs).1 t)
  ·simp only[PC.modO,List.mem_append] at hj;exact hj.elim xb ((gT hs).2 j)
 |exit id=>
  intro rm S r h;simp only[comp] at h;cases cj:Nat.beq id ct<;>simp only[cj,cond_true,cond_false] at h<;>cases h
  ·simp[PC.modR,PC.modO]
  ·exact lh
 |ret=>
  intro rm S r h;simp only[comp] at h;cases rm<;>simp only[cond_true,cond_false] at h
  case true=>cases h;simp[PC.modR,PC.modO]
  split at h
  ·cases h;simp[PC.modR,PC.modO]
  ·cases h;exact lh
 |rangeFunc g ps x y _ _=>
  intro rm S r h;simp only[comp] at h;split at h
  case h_2=>cases h;exact lh
  split at h
  case h_2=>cases h;exact lh
  split at h
  case h_2=>cases h;exact lh
  rename_i q hq;rw[Bool.cond_eq_ite] at h;split at h
  ·cases h;refine⟨fun t ht=>?_,fun j hj=>?_⟩
   ·simp[PC.modR,PI.modR] at ht;subst ht;exact oL _
   ·simp only[PC.modO,PI.modO,List.flatMap_cons,List.flatMap_nil,List.append_nil,List.nil_append] at hj;exact(List.mem_filter.1 hj).1
  ·cases h;exact lh
 |_=>intro rm S r h;simp only[comp,Option.some.injEq] at h;subst h;exact lh
theorem fI.mono {rm:Bool}{wr:Nat→Prop}{a0 a1:Act}{out adr:Option Snap}{ex WA:List (Nat×Snap)}{x:Out}{e:Exit}(h:fI C w0 σ0 ids fn s rm wr a0 out ex x e a w)(he:∀y,y∈ex→y∈WA)(hs:SameBut wr a1 a0)
 (ho:e=.normal→adr=out):fI C w0 σ0 ids fn s rm wr a1 adr WA x e a w:=by
 cases e with
 |normal=>obtain⟨ρ,S,h1,h2,h3,h4⟩:=h;exact⟨ρ,S,h1,by rw[ho rfl];exact h2,hs.trans h3,h4⟩
 |exit id=>obtain⟨ρ,S,h1,h2,h3,h4,h5⟩:=h;exact⟨ρ,S,h1,h2,he _ h3,hs.trans h4,h5⟩
 |ret=>
  cases rm with
  |false=>obtain⟨d,h1,h2,h3⟩:=h;exact⟨d,h1,h2,hs.trans h3⟩
  |true=>obtain⟨ρ,S,h1,h3,h4,h5⟩:=h;exact⟨ρ,S,h1,he _ h3,hs.trans h4,h5⟩
 |_=>exact h.elim
theorem Wt {body:Env→Option Out}{ρ:Env}{ps lo:List Nat}{rt:Option PE}{x:Out}:∀{xs vo:List D},gu body ρ ps lo rt xs vo=some x→
 ∃(m:Nat) (ln:Nat→List D),m≤xs.length∧ln 0=vo∧
  (∀i,i<m→∃y ρ',xs[i]?=some y∧body (ρ.put ps (partsOf ps y) lo (ln i))=some (.next ρ')∧lo.map ρ'.o=ln (i+1))∧
  ((m=xs.length∧x=.next (ρ.put [] [] lo (ln m)))∨
   (m<xs.length∧∃y id ρ',xs[m]?=some y∧body (ρ.put ps (partsOf ps y) lo (ln m))=some (.exit id ρ')∧
    ((id≠ct∧x=.exit id (ρ.put [] [] lo (lo.map ρ'.o)))∨(id=ct∧∃e,rt=some e∧x=.ret (e.ev (ρ.put [] [] lo (lo.map ρ'.o)))))))
 |[],vo,h=>by
  simp only[gu,Option.some.injEq] at h;exact⟨0,fun _=>vo,Nat.le_refl _,rfl,fun i hi=>by omega,.inl ⟨rfl,h.symm⟩⟩
 |y::xs,vo,h=>by
  simp only[gu] at h;split at h
  ·rename_i ρ' hb;obtain⟨m,ln,h1,h2,h3,h4⟩:=Wt h;refine⟨m+1,fun i=>match i with|0=>vo|i+1=>ln i,by simp;omega,rfl,fun i hi=>?_,?_⟩
   ·cases i with
    |zero=>exact⟨y,ρ',rfl,hb,h2.symm⟩
    |succ i=>simpa using h3 i (by omega)
   ·rcases h4 with⟨e1,e2⟩|⟨e1,z,id,ρ2,e2,e3,e4⟩
    ·exact .inl ⟨by simp[e1],e2⟩
    ·exact .inr ⟨by simp;omega,z,id,ρ2,by simpa using e2,e3,e4⟩
  ·rename_i id ρ' hb;refine⟨0,fun _=>vo,Nat.zero_le _,rfl,fun i hi=>by omega,.inr ⟨by simp,y,id,ρ',rfl,hb,?_⟩⟩;cases cj:Nat.beq id ct<;>simp only[cj,cond_true,cond_false] at h
   ·refine .inl ⟨fun e=>?_,(Option.some.inj h).symm⟩;subst e;simp at cj
   ·simp only[Option.map_eq_some_iff] at h;obtain⟨e,he,e2⟩:=h;exact .inr ⟨Nat.eq_of_beq_eq_true cj,e,he,e2.symm⟩
  ·cases h
theorem VN {l:List Nat}{t:Nat}(h:t∈l):av (uC l) t=true:=by
 induction l with
 |nil=>cases h
 |cons x l ih=>
  have e:uC (x::l)=Nat.lor (dq x) (uC l):=rfl;rw[e,eA];rcases List.mem_cons.1 h with e|e
  ·subst e;rw[oL];rfl
  ·rw[ih e];simp
theorem Pr (m:Nat):∀(l:List Sh) (k t:Nat),(qF m k l).getD t .none=if av m (k+t)=true then .none else l.getD t .none
 |[],k,t=>by simp[qF]
 |s::l,k,0=>by
  simp only[qF,List.getD_cons_zero,Nat.add_zero];cases av m k<;>rfl
 |s::l,k,t+1=>by
  simp only[qF,List.getD_cons_succ];rw[Pr m l (k+1) t,show k+1+t=k+(t+1) by omega]
theorem BP (m:Nat)(S:Snap)(t:Nat):((S.mask m).st ids).r t=if av m t=true then .none else(S.st ids).r t:=by
 show bZ ((qF m 0 S.rs).getD t .none)=if av m t=true then .none else bZ (S.rs.getD t .none);rw[Pr,Nat.zero_add];split<;>rfl
theorem au7 {m:Nat}{x S:Snap}{t:Nat}(h:av m t=true):((x.meet (S.mask m)).st ids).r t=.none:=by
 show bZ ((List.zipWith gW x.rs (qF m 0 S.rs)).getD t .none)=.none;rcases LH (f:=gW) x.rs (qF m 0 S.rs) t with h0|⟨s,u,h1,h2,h3⟩
 ·rw[h0];rfl
 ·rw[Pr,Nat.zero_add,if_pos h] at h2;subst h2;rw[h3];cases s<;>rfl
theorem Inv.maskR {S:Snap}{hv:Nat→Value}(h:Inv C (S.st ids) ρ σ own hv w0 σ0 A a w)(m:Nat):Inv C ((S.mask m).st ids) ρ σ own hv w0 σ0 (fun _=>False) a w:=by
 have hc:Compat (S.st ids) hv ((S.mask m).st ids) hv:=⟨fun _=>Nat.le_refl _,fun _ _=>rfl⟩
 refine h.weaken (fun t=>?_) (fun j=>?_) (Snap.noOpt _ _) (fun j hj=>⟨hj,rfl⟩)
 ·refine aK.mono' (ρ:=ρ) (.refl σ) hc (Snap.noOpt _ _ t) ?_;rw[BP];split
  ·trivial
  ·exact h.regs t
 ·exact(h.objs j).mono (.refl σ) hc rfl rfl (fun k hk=>⟨hk,rfl⟩)
theorem Sj:∀(ps:List Nat) (ys:List Ty) (l:List Sh),ps.length=ys.length→iQ ps=true→∀t,(pJ ps ys l).getD t .none=.none∨(t∉ps∧(pJ ps ys l).getD t .none=l.getD t .none)∨∃(i:Nat) (y:Ty),ps[i]?=some t∧ys[i]?=some y∧(pJ ps ys l).getD t .none=.dat y
 |[],ys,l,_,_,t=>.inr (.inl ⟨by simp,by cases ys<;>rfl⟩)
 |p::ps,[],l,h,_,t=>by simp at h
 |p::ps,y::ys,l,h,hn,t=>by
  have fB:=l7 hn;rw[List.nodup_cons] at fB;have da:iQ ps=true:=by
   simp only[iQ,Bool.and_eq_true] at hn;exact hn.2
  show(pJ ps ys (l.set p (.dat y))).getD t .none=_∨_∨_;rcases Sj ps ys (l.set p (.dat y)) (by simpa using h) da t with e|⟨e1,e2⟩|⟨i,z,e1,e2,e3⟩
  ·exact .inl e
  ·by_cases hp:t=p
   ·subst hp;by_cases ah:t<l.length
    ·exact .inr (.inr ⟨0,y,rfl,rfl,by show(pJ ps ys (l.set t (.dat y))).getD t .none=_;rw[e2];simp[List.getD_eq_getElem?_getD,ah]⟩)
    ·left;rw[e2];simp[List.getD_eq_getElem?_getD,ah]
   ·refine .inr (.inl ⟨by simp[hp,e1],?_⟩);show(pJ ps ys (l.set p (.dat y))).getD t .none=_;rw[e2];simp only[List.getD_eq_getElem?_getD,List.getElem?_set];rw[if_neg (fun e=>hp e.symm)]
  ·exact .inr (.inr ⟨i+1,z,by simpa using e1,by simpa using e2,e3⟩)
def la:List Nat→List Value→Array Value→Array Value
 |p::ps,v::vs,T=>la ps vs (T.setIfInBounds p v)
 |_,_,T=>T
theorem ax1 (ps:Array Nat)(vs:Array Value)(T:Array Value):(ps.zip vs).foldl (fun T x=>T.setIfInBounds x.1 x.2) T=la ps.toList vs.toList T:=by
 rw[←Array.foldl_toList,Array.toList_zip];generalize ps.toList=l;generalize vs.toList=k
 induction l generalizing k T with
 |nil=>rfl
 |cons p l ih=>
  cases k with
  |nil=>rfl
  |cons v k=>simpa [la] using ih (T.setIfInBounds p v) k
theorem ae5:∀(ps:List Nat) (vs:List Value) (T:Array Value),(la ps vs T).size=T.size
 |[],vs,T=>by cases vs<;>rfl
 |p::ps,[],T=>rfl
 |p::ps,v::vs,T=>by simp[la,ae5 ps vs]
theorem La:∀(ps:List Nat) (vs:List Value) (T:Array Value) (t:Nat),t∉ps→(la ps vs T).getD t undef=T.getD t undef
 |[],vs,T,t,_=>by cases vs<;>rfl
 |p::ps,[],T,t,_=>rfl
 |p::ps,v::vs,T,t,h=>by
  simp only[List.mem_cons,not_or] at h;simp only[la];rw[La ps vs _ t h.2];simp only[Array.getD_eq_getD_getElem?,Array.getElem?_setIfInBounds];rw[if_neg (fun e=>h.1 e.symm)]
theorem ae4:∀(ps:List Nat) (vs:List Value) (T:Array Value) (i t:Nat),ps.Nodup→ps.length=vs.length→(∀p,p∈ps→p<T.size)→ps[i]?=some t→(la ps vs T).getD t undef=vs.getD i undef
 |p::ps,v::vs,T,0,t,hn,hl,ah,h=>by
  simp at h;subst h;rw[List.nodup_cons] at hn;simp only[la];rw[La ps vs _ p hn.1];simp[Array.getElem?_setIfInBounds,ah p (List.mem_cons_self ..)]
 |p::ps,v::vs,T,i+1,t,hn,hl,ah,h=>by
  rw[List.nodup_cons] at hn;simp only[la];have:=ae4 ps vs (T.setIfInBounds p v) i t hn.2 (by simpa using hl) (fun q hq=>by simpa using ah q (List.mem_cons_of_mem _ hq)) (by simpa using h);simpa using this
 |p::ps,[],T,i,t,hn,hl,ah,h=>by simp at hl
 |[],vs,T,i,t,hn,hl,ah,h=>by simp at h
theorem xE (f:Nat→D):∀(ps:List Nat) (vs:List D) (t:Nat),t∉ps→putL f ps vs t=f t
 |[],vs,t,_=>by cases vs<;>rfl
 |p::ps,[],t,_=>rfl
 |p::ps,v::vs,t,h=>by
  simp only[List.mem_cons,not_or] at h;simp only[putL,bo _ _ h.1];exact xE f ps vs t h.2
theorem QP (f:Nat→D):∀(ps:List Nat) (vs:List D) (i t:Nat),ps.Nodup→ps.length=vs.length→ps[i]?=some t→putL f ps vs t=vs.getD i .none
 |p::ps,v::vs,0,t,hn,hl,h=>by
  simp at h;subst h;simp[putL,aQ]
 |p::ps,v::vs,i+1,t,hn,hl,h=>by
  rw[List.nodup_cons] at hn;have ht:t∈ps:=List.mem_of_getElem? (by simpa using h);have aD:t≠p:=fun e=>hn.1 (e▸ht);simp only[putL,bo _ _ aD];have:=QP f ps vs i t hn.2 (by simpa using hl) (by simpa using h);simpa using this
 |p::ps,[],i,t,hn,hl,h=>by simp at hl
 |[],vs,i,t,hn,hl,h=>by simp at h
theorem awu (ps:List Nat)(ds:List D)(i:Nat)(h:i<ps.length):(partsOf ps (.tup ds)).getD i .none=ds.getD i .none:=by
 simp[partsOf,List.getD_eq_getElem?_getD,h,D.tget]
theorem awt (ps:List Nat)(x:D):(partsOf ps x).length=ps.length:=by simp[partsOf]
theorem Inv.startR {S:Snap}{hv:Nat→Value}(h:Inv C (S.st ids) ρ σ own hv w0 σ0 A a w){ps:List Nat}{ys:List Ty}{args:List Value}{ds:List D}{lo:List Nat}{vo:List D}(hl:ps.length=ys.length)(bh:iQ ps=true)(ah:∀p,p∈ps→p<a.tmps.size)(ha:oF C σ ys args ds)
 (hρ:ρ=ρ'.put [] [] lo vo):Inv C ((S.start ps ys).st ids) (ρ'.put ps (partsOf ps (.tup ds)) lo vo) σ own hv w0 σ0 (fun _=>False) {tmps:=la ps args a.tmps,defers:=[]} w:=by
 obtain⟨a1,a2,a3⟩:=ha;have hn:=l7 bh;have hc:Compat (S.st ids) hv ((S.start ps ys).st ids) hv:=⟨fun _=>Nat.le_refl _,fun _ _=>rfl⟩
 have ho:∀j,(ρ'.put ps (partsOf ps (.tup ds)) lo vo).o j=ρ.o j:=fun j=>by rw[hρ];rfl
 refine⟨trivial,h.ok,h.le,h.old,h.newc,h.newm,h.below,h.bw,h.owns,fun t=>?_,fun j=>(h.objs j).mono (.refl σ) hc rfl (ho j) (fun k hk=>⟨hk,rfl⟩),fun t gs s e=>absurd e (Snap.noOpt _ _ t gs s),?_⟩
 ·show aK C _ _ σ hv (bZ ((pJ ps ys (S.rs.map qs)).getD t .none)) ((la ps args a.tmps).getD t undef) (putL ρ'.r ps (partsOf ps (.tup ds)) t);rcases Sj ps ys (S.rs.map qs) hl bh t with e|⟨e1,e2⟩|⟨i,y,e1,e2,e3⟩
  ·rw[e];trivial
  ·rw[e2,La _ _ _ _ e1,xE _ _ _ _ e1];have hr:=h.regs t;change aK C _ ρ σ hv (bZ (S.rs.getD t .none)) _ _ at hr;have hρr:ρ.r t=ρ'.r t:=by rw[hρ];show putL ρ'.r [] [] t=_;rfl
   rw[hρr] at hr;have e3:(S.rs.map qs).getD t .none=qs (S.rs.getD t .none):=by
        simp only[List.getD_eq_getElem?_getD,List.getElem?_map];cases S.rs[t]?<;>rfl
   rw[e3];generalize S.rs.getD t .none=s at hr;cases s with
   |yv=>trivial
   |opt gs s=>trivial
   |none=>trivial
   |fclo f c=>exact aK.mono' (.refl σ) hc (fun _ _ e=>by cases e) hr
   |dat t=>exact hr
   |obj j v=>exact aK.mono' (.refl σ) hc (fun _ _ e=>by cases e) hr
   |ptr j v o=>exact aK.mono' (.refl σ) hc (fun _ _ e=>by cases e) hr
   |eptr j v o q=>exact aK.mono' (.refl σ) hc (fun _ _ e=>by cases e) hr
  ·rw[e3];have hi:i<ps.length:=(List.getElem?_eq_some_iff.1 e1).1;rw[ae4 ps args a.tmps i t hn (by omega) ah e1,QP _ ps _ i t hn (by rw[awt]) e1,awu _ _ _ hi];exact a3 i y e2
 ·obtain⟨t,fx,cx,h1,h2⟩:=h.frame;exact⟨t,fx,cx,h1,fun j hj=>⟨(h2 j hj).1,by rw[ho j];exact(h2 j hj).2⟩⟩
def sX (C:Ctx)(Φ:aT)(fn:Func)(s:Sig)(n:Nat)(ids:List Nat)(R:Array Oper→Bool→Snap→Option (Snap×List PI))(N:Nat)(c:Code):Prop:=
 ∀(rm:Bool) (S:Snap) (r:Res2),comp C fn s n ids R rm c S=some r→∀(rd:Option Nat) (w0:World) (σ0:Base) (wr:Nat→Prop) (ρ:Env) (x:Out) (a:Act) (w:World),(rm=false→rd=none∧σ0.fin)→CtxOK C σ0→nm C Φ w0 σ0→(∀t,t∈bX c→wr t)→a.tmps.size=n→
  Good C w0 σ0 (S.st ids) ρ (fun _=>False) a w→r.pc.ev Φ N ρ=some x→c.wpIn (FR rd) 0 C.P (fI C w0 σ0 ids fn s rm wr a r.out r.ex x) a w
structure Seg (σ:Im) (own:Nat→Option Nat) (w:World) (σ':Im) (own':Nat→Option Nat) (w':World):Prop where
 le:σ.le σ'
 below:Below 0 w w'
 same:∀k,k<w.heap.size→own k=none→w'.heap[k]?=w.heap[k]?
 ow:∀k j,own' k=some j→(∃i,own k=some i)∨w.heap.size≤k
 imm:∀k,((∃o x,σ'.c k o=some x)∨∃x,σ'.m k=some x)→(∃o x,σ.c k o=some x)∨(∃x,σ.m k=some x)∨(∃i,own k=some i)∨w.heap.size≤k
structure Free (L:Nat) (σ:Im) (own:Nat→Option Nat):Prop where
 own:own L=none
 c:∀o,σ.c L o=none
 m:σ.m L=none
theorem Free.seg {L:Nat}{σ':Im}{own':Nat→Option Nat}{w':World}(h:Free L σ own)(hL:L<w.heap.size)(k:Seg σ own w σ' own' w'):Free L σ' own':=by
 have A8:¬((∃o x,σ'.c L o=some x)∨∃x,σ'.m L=some x):=fun e=>by
  rcases k.imm L e with⟨o,x,e⟩|⟨x,e⟩|⟨i,e⟩|e
  ·rw[h.c o] at e;cases e
  ·rw[h.m] at e;cases e
  ·rw[h.own] at e;cases e
  ·omega
 refine⟨?_,fun o=>?_,?_⟩
 ·cases e:own' L with
  |none=>rfl
  |some j=>
   rcases k.ow L j e with⟨i,e⟩|e
   ·rw[h.own] at e;cases e
   ·omega
 ·cases e:σ'.c L o with
  |none=>rfl
  |some x=>exact absurd (.inl ⟨o,x,e⟩) A8
 ·cases e:σ'.m L with
  |none=>rfl
  |some x=>exact absurd (.inr ⟨x,e⟩) A8
def af4 (C:Ctx)(w0:World)(σ0:Base)(ids:List Nat)(wr:Nat→Prop)(a0:Act)(σ:Im)(own:Nat→Option Nat)(w:World)(out:Option Snap)(ex:List (Nat×Snap))(x:Out)(e:Exit)(a':Act)(w':World):Prop:=
 ∃ρ' S' σ' own' hv',Inv C (S'.st ids) ρ' σ' own' hv' w0 σ0 (fun _=>False) a' w'∧Seg σ own w σ' own' w'∧SameBut wr a0 a'∧
  match e with
  |.normal=>x=.next ρ'∧out=some S'
  |.exit id=>x=.exit id ρ'∧id≠ct∧(id,S')∈ex
  |.ret=>x=.exit ct ρ'∧(ct,S')∈ex
  |_=>False
theorem aeZ {N:Nat}{c:Code}(hc:sX C Φ fn s n ids R N c){S:Snap}{r:Res2}(hr:comp C fn s n ids R true c S=some r)(jm:C.yl=none)(hC:CtxOK C σ0){wr:Nat→Prop}{ρ:Env}{x:Out}{hv:Nat→Value}(h:Inv C (S.st ids) ρ σ own hv w0 σ0 (fun _=>False) a w)
 (gi:∀t,t∈bX c→wr t) (hn:a.tmps.size=n) (he:r.pc.ev Φ N ρ=some x) (L:Nat):c.wpIn (FR (some L)) 0 C.P (af4 C w0 σ0 ids wr a σ own w r.out r.ex x) a w:=by
 obtain⟨t,fx,cx,cO,ht⟩:=h.frame;have h1:=h.toRnd (X:=fun _=>False) ht;refine wpIn_mono (hc true S r hr (some L) w0 (σ0.rnd σ own w t fun _=>False) wr ρ x a w (fun e=>by cases e) (hC.mono h.le) (fun J ys e=>by rw[jm] at e;cases e) gi hn ⟨_,_,_,h1⟩ he) fun e a' w' ho=>?_
 have main:∀{S':Snap} {ρ':Env},SameBut wr a a'→Good C w0 (σ0.rnd σ own w t fun _=>False) (S'.st ids) ρ' (fun _=>False) a' w'→∃σ' own' hv',Inv C (S'.st ids) ρ' σ' own' hv' w0 σ0 (fun _=>False) a' w'∧Seg σ own w σ' own' w'∧SameBut wr a a':=by
  intro S' ρ' hs hg;obtain⟨σ',own',hv',h2⟩:=hg;exact⟨σ',own',hv',h.ofRnd cO (fun _ _=>id) h2,⟨h2.le,h.rndBelow h2,fun k hk ho=>Inv.rndSame h.ok h2 hk ho id,fun k j e=>Inv.rndOwn h2 e id,fun k e=>Inv.rndC h2 e id⟩,hs⟩
 cases e with
 |normal=>
  obtain⟨ρ',S',e1,e2,e3,e4⟩:=ho;obtain⟨σ',own',hv',g1,g2,g3⟩:=main e3 e4;exact⟨ρ',S',σ',own',hv',g1,g2,g3,e1,e2⟩
 |exit id=>
  obtain⟨ρ',S',e1,e0,e2,e3,e4⟩:=ho;obtain⟨σ',own',hv',g1,g2,g3⟩:=main e3 e4;exact⟨ρ',S',σ',own',hv',g1,g2,g3,e1,e0,e2⟩
 |ret=>
  obtain⟨ρ',S',e1,e2,e3,e4⟩:=ho;obtain⟨σ',own',hv',g1,g2,g3⟩:=main e3 e4;exact⟨ρ',S',σ',own',hv',g1,g2,g3,e1,e2⟩
 |_=>exact ho.elim
theorem Inv.putL {L:Nat}{hv:Nat→Value}{S:St}{ρ:Env}(h:Inv C S ρ σ own hv w0 σ0 A a w)(hL:w0.heap.size≤L)(hf:Free L σ own)(hx:∀t fx cx,FrOK σ own w0.heap.size σ0 w t fx cx→¬fx L)(o:Obj):Inv C S ρ σ own hv w0 σ0 A a (w.putObj L o):=
 h.keep (X:=fun k=>k≠L) ⟨rfl,rfl,rfl,by simp,fun k hk=>by omega⟩ (fun k hk=>World.putObj_heap_other hk) (fun k hk=>by omega) (fun k j e1 e2=>by subst e2;rw[hf.own] at e1;cases e1) (fun k o v e1 e2=>by subst e2;rw[hf.c] at e1;cases e1)
  (fun k v e1 e2=>by subst e2;rw[hf.m] at e1;cases e1) (fun t fx cx cO k hk e=>by subst e;exact hx t fx cx cO hk)
theorem aBf {o:Oper}{L:Nat}{x:Operand}{aa:Array Operand}{ts:Array TypeId}{r:Loop}(bG:o.op=.call {callee:=.value x,args:=aa,argTypes:=ts})(hx:a.eval x=.func (.yield L) #[] #[])(hL:w.heap[L]?=some (.loop r))(hs:aa.size=r.params.size):
 (execOp a.eval o).run C.P w=.ok (.round L r.fn ((r.params.zip (aa.map a.eval)).foldl (fun tmps (t,v)=>tmps.setIfInBounds t v) r.tmps) r.assign r.body) w:=by
 have hy:=run_yield (P:=C.P) (args:=aa.map a.eval) hL (by simpa using hs);simp[execOp,bG,resolve,hx,Deferred.ofValue,invoke,hy]
theorem axc {g:Operand}{f:Nat}{vs:List Value}{L:Nat}(hf:∃fn,C.P.funcs[f]?=some fn∧fn.body.isSome=true∧(fn.name== "runtime.NumGoroutine")=false)(hg:a.eval g=.func (.func f) #[] vs.toArray):
 (resolve a.eval (rangeCall g L) 0).run C.P w=.ok {target:=.fn (.func f) vs.toArray,args:=#[.func (.yield L) #[] #[]]} w∧
 (invoke (.fn (.func f) vs.toArray) #[.func (.yield L) #[] #[]]).run C.P w=.ok (.enter f (#[.func (.yield L) #[] #[]]++vs.toArray)) w:=by
 obtain⟨fn,h1,h2,h3⟩:=hf;obtain⟨bd,jc⟩:=Option.isSome_iff_exists.1 h2;have h4:¬fn.name= "runtime.NumGoroutine" :=by simpa using h3
 constructor
 ·simp only[resolve,hg];simp[go_sem]
 ·simp[invoke,callFunc,h1,jc,h4]
theorem FrOK.enter {hv:Nat→Value}{S:St}{ρ:Env}(h:Inv C S ρ σ own hv w0 σ0 A a w){t:D}{fx cx:Nat→Prop}(hf:FrOK σ own w0.heap.size σ0 w t fx cx)(r:Loop):FrOK (σ.mark w.heap.size) own w0.heap.size σ0 ((w.alloc (.deferred (some []))).alloc (.loop r)) t fx cx:=by
 have hb:=Wv w (.deferred (some [])) (.loop r);have ah:=σ0.lt _ _ _ _ hf.F;have bW:=σ0.sub _ _ _ _ hf.F;have tZ:∀k x,(σ.mark w.heap.size).m k=some x→σ.m k=some x∨k=w.heap.size:=by
  intro k x e;simp only[Im.mark] at e;split at e
  ·rename_i e2;exact .inr e2
  ·exact .inl e
 refine⟨σ0.keep _ _ _ _ _ hf.F (hb.mono (Nat.zero_le _)) fun k hk=>hb.block k (ah k hk),hf.own,hf.c,fun k x e hc=>?_,fun k e hB hk=>?_⟩
 ·rcases tZ k x e with e|e
  ·exact hf.m k x e hc
  ·have:=ah k (bW k hc);omega
 ·rcases tZ k _ e with e|e
  ·exact hf.d k e hB hk
  ·have:=ah k hk;omega
structure RSt (C:Ctx) (w0:World) (σR:Base) (ids:List Nat) (ρ1:Env) (lo:List Nat) (aM:Act) (L:Nat) (W1:World) (σ1:Im) (rec:LoopState→Option Code→Loop) (xs:List D) (P:Nat→List D→Snap→LoopState→Option Code→Prop) (t:D) (fx cx:Nat→Prop) (w:World):Prop where
 lt:∀k,fx k→k<w.heap.size
 sub:∀k,cx k→fx k
 old:∀k,k<W1.heap.size→fx k
 ex:∃(i:Nat) (vo:List D) (Sx:Snap) (st:LoopState) (pe:Option Code) (σ:Im) (own:Nat→Option Nat) (hv:Nat→Value),t=.list (xs.take i)∧P i vo Sx st pe∧Inv C (Sx.st ids) (ρ1.put [] [] lo vo) σ own hv w0 σR (fun _=>False) aM w∧
  σ1.le σ∧Free L σ own∧w.heap[L]?=some (.loop (rec st pe))∧(∀k j,own k=some j→fx k)∧(∀k o x,σ.c k o=some x→fx k)∧(∀k x,σ.m k=some x→fx k)∧∀k,cx k↔((∃j,own k=some j)∨k=L)
theorem RSt.keep {σR:Base}{ρ1:Env}{lo:List Nat}{aM:Act}{L:Nat}{W1:World}{σ1:Im}{rec:LoopState→Option Code→Loop}{xs:List D}{P:Nat→List D→Snap→LoopState→Option Code→Prop}{t:D}{fx cx:Nat→Prop}{w w':World}
 (h0:w0.heap.size≤W1.heap.size) (hL:L<W1.heap.size) (hR:∀t f c w,σR.F t f c w→∀k,f k→k<W1.heap.size) (h:RSt C w0 σR ids ρ1 lo aM L W1 σ1 rec xs P t fx cx w) (hb:Below 0 w w') (hs:∀k,fx k→w'.heap[k]?=w.heap[k]?):
 RSt C w0 σR ids ρ1 lo aM L W1 σ1 rec xs P t fx cx w':=by
 obtain⟨i,vo,Sx,st,pe,σ,own,hv,e1,e2,e3,e4,e5,e6,e7,e8,e9,e10⟩:=h.ex;refine⟨fun k hk=>Nat.lt_of_lt_of_le (h.lt k hk) hb.size,h.sub,h.old,i,vo,Sx,st,pe,σ,own,hv,e1,e2,?_,e4,e5,(hs L (h.old L hL)).trans e6,e7,e8,e9,e10⟩;exact e3.keep (X:=fx) hb hs (fun k hk=>h.old k (by omega)) e7 e8 e9 (fun t f c hf k hk=>h.old k (hR _ _ _ _ hf.F k hk))
theorem Im.noM_m {σ:Im}{k:Nat}{v:List (Value×Value)}(h:σ.noM.m k=some v):σ.m k=some v∧v≠cC:=by
 simp only[Im.noM] at h;split at h
 ·cases h
 ·rename_i aD;exact⟨h,fun e=>aD (by rw[h,e])⟩
structure SegL (L:Nat) (σ:Im) (own:Nat→Option Nat) (w:World) (σ':Im) (own':Nat→Option Nat) (w':World):Prop where
 le:σ.le σ'
 below:Below 0 w w'
 same:∀k,k<w.heap.size→own k=none→k≠L→w'.heap[k]?=w.heap[k]?
 ow:∀k j,own' k=some j→(∃i,own k=some i)∨w.heap.size≤k
 imm:∀k,((∃o x,σ'.c k o=some x)∨∃x,σ'.m k=some x)→(∃o x,σ.c k o=some x)∨(∃x,σ.m k=some x)∨(∃i,own k=some i)∨w.heap.size≤k
theorem adD (w:World)(L:Nat)(o:Obj):Below 0 w (w.putObj L o):=⟨rfl,rfl,rfl,by simp,fun k hk=>by omega⟩
theorem Seg.round {L:Nat}{σ' σ'':Im}{own' ads:Nat→Option Nat}{w' jy:World}{o o':Obj}(h:Seg σ own w σ' own' w')(k:Seg σ' own' (w'.putObj L o) σ'' ads jy):SegL L σ own w σ'' ads (jy.putObj L o'):=by
 have aL:=h.below.size;have GU:=k.below.size;simp only[World.putObj_size] at GU;refine⟨h.le.trans k.le,h.below.trans ((adD _ _ _).trans (k.below.trans (adD _ _ _))),fun q hq ho hL=>?_,fun q j e=>?_,fun q e=>?_⟩
 ·have h1:own' q=none:=by
   cases e:own' q with
   |none=>rfl
   |some j=>
    rcases h.ow q j e with⟨i,e⟩|e
    ·rw[ho] at e;cases e
    ·omega
  rw[World.putObj_heap_other hL,k.same q (by simp;omega) h1,World.putObj_heap_other hL,h.same q hq ho]
 ·rcases k.ow q j e with⟨i,e⟩|e
  ·exact h.ow q i e
  ·simp only[World.putObj_size] at e;exact .inr (by omega)
 ·rcases k.imm q e with e|e|⟨i,e⟩|e
  ·exact h.imm q (.inl e)
  ·exact h.imm q (.inr e)
  ·rcases h.ow q i e with e|e
   ·exact .inr (.inr (.inl e))
   ·exact .inr (.inr (.inr e))
  ·simp only[World.putObj_size] at e;exact .inr (.inr (.inr (by omega)))
theorem Env.put_self (ρ:Env)(lo:List Nat):ρ.put [] [] lo (lo.map ρ.o)=ρ:=by
 have h2:∀u,putL ρ.o lo (lo.map ρ.o) u=ρ.o u:=fun u=>by rw[qN];split<;>rfl
 show Env.mk ρ.r (putL ρ.o lo (lo.map ρ.o))=ρ;rw[funext h2]
theorem axd {N:Nat}(eR:fu C Φ){g:Operand}{ps:Array Tmp}{ca cb:Code}(bx:sX C Φ fn s n ids R N ca)(dH:sX C Φ fn s n ids R N cb):sX C Φ fn s n ids R N (.rangeFunc g ps ca cb):=by
 intro rm S r hr rd w0 σ0 wr ρ x a w fD hC hY gi hn hg he;simp only[comp] at hr;split at hr
 case h_2=>cases hr;exact absurd he (lg _ _ _ _)
 rename_i aa rr e jm hu;split at hr
 case h_2=>cases hr;exact absurd he (lg _ _ _ _)
 rename_i ys uo;split at hr
 case h_2=>cases hr;exact absurd he (lg _ _ _ _)
 rename_i q hq;rw[Bool.cond_eq_ite] at hr;split at hr
 case isFalse=>cases hr;exact absurd he (lg _ _ _ _)
 rename_i tN;cases hr;simp only[Bool.and_eq_true] at tN;obtain⟨⟨⟨hl,bh⟩,ah⟩,uc⟩:=tN;have hl:=Nat.eq_of_beq_eq_true hl;have uc:=Nat.le_of_ble_eq_true uc;obtain⟨hrd,lL⟩:=fD rfl;subst hrd;obtain⟨hs,wA,_⟩:=BI (C:=C) (w0:=w0) (σ0:=σ0) (ids:=ids) 8 hq;simp only[Option.bind_eq_some_iff] at hs;obtain⟨ra,OC,hs⟩:=hs;split at hs
 case h_2=>cases hs
 rename_i S1 hao Xq;simp only[Option.map_eq_some_iff] at hs;obtain⟨rb,Yh,gQ⟩:=hs;have XY:=rh ca OC;have XZ:=rh cb Yh;obtain⟨q1,q2⟩:=q;simp only at OC gQ uc wA he ⊢;generalize nK:Zk ids (q1::q2.ex.map (·.2)) q2.mo=lo at he;generalize rN:((mR ct q2.ex none).bind fun M=>vj C fn s (M.st ids))=rt at he;have Br:∃f caps d,e.ev ρ=.clo f caps∧Φ f caps=some d∧gu (q2.pc.ev Φ N) (ρ.setR n d) ps.toList lo rt d.l (lo.map ρ.o)=some x:=by
  simp only[PC.ev,PI.runs,PI.run,holds,List.all_nil,cond_true] at he;cases bF:e.ev ρ with
  |clo f caps=>
   rw[bF] at he;simp only[PE.evs,List.nil_append] at he;cases hΦ:Φ f caps with
   |none=>rw[hΦ] at he;simp at he
   |some d=>
    rw[hΦ] at he;simp only[Option.map_some,Option.bind_some,PE.ev,Env.setR,aQ] at he;exact⟨f,caps,d,rfl,hΦ,he⟩
  |_=>rw[bF] at he;simp at he
 obtain⟨f,caps,d,bF,hΦ,he⟩:=Br;obtain⟨σ,own,hv,i⟩:=hg;have hx:=bR (gs:=[]) i hC rfl hu;rw[bF] at hx;generalize hgv:a.eval g=gv at hx;generalize ba:Ty.fn aa rr=ty at hx;cases hx with
 |fn f cs vs ds jC h1 h2 aP=>
 cases ba;obtain⟨hfn,arG⟩:=eR f cs ys jC uo;obtain⟨xs,rfl,aGi,NU⟩:=arG caps d hΦ;simp only[D.l_list] at he;obtain⟨m,ln,hm,ui,GH,jJ⟩:=Wt he;have iq0:=YK 8 hq i
 have iq:Inv C (q1.st ids) (ρ.setR n (.list xs)) σ own hv w0 σ0 (fun _=>False) a w:=by
  refine iq0.env (Snap.noOpt _ _) (fun t ht=>?_) (fun _ _=>rfl);have ah:t<q1.rs.length:=by
   refine Nat.lt_of_not_le fun hle=>?_;simp only[Snap.st,List.getD_eq_getElem?_getD,List.getElem?_eq_none hle,Option.getD_none,bZ,isNone] at ht;cases ht
  simp[Env.setR,bo _ _ (show t≠n by omega)]
 obtain⟨ρ1,hρ1⟩:∃ρ1,ρ.setR n (.list xs)=ρ1:=⟨_,rfl⟩
 rw[hρ1] at he iq GH jJ;have iL:ρ.o=ρ1.o:=by rw[←hρ1];rfl
 rw[iL] at ui;refine wpIn_rangeFunc ?_;intro Nh aFW;obtain⟨L,Xf⟩:∃L,w.heap.size+1=L:=⟨_,rfl⟩
 obtain⟨rec,gA⟩:∃rec:LoopState→Option Code→Loop,rec=fun st pe=>{state:=st,pending:=pe,fn:=Nh,tmps:=a.tmps,params:=ps,assign:=ca,body:=cb,defers:=w.heap.size}:=⟨_,rfl⟩
 have i1:=iq.enter (rec .ready none);obtain⟨t,fx0,cx0,XE,ht0⟩:=iq.frame;have arl:=σ0.lt _ _ _ _ XE.F;have NP:=FrOK.enter iq XE (rec .ready none);have aGg:=iq.below.size;have wg:Free L (σ.mark w.heap.size) own:=by
  refine⟨?_,fun o=>?_,?_⟩
  ·cases e:own L with
   |none=>rfl
   |some j=>have:=(iq.owns L j e).2.1;omega
  ·cases e:σ.c L o with
   |none=>exact e
   |some x=>have:=iq.lt e;omega
  ·simp only[Im.mark,show L≠w.heap.size by omega,if_false];cases e:σ.m L with
   |none=>rfl
   |some x=>have:=iq.ltm e;omega
 have kM:σ.le (σ.mark w.heap.size):=by
  refine⟨fun _ _ _ e=>e,fun k x e=>?_⟩;have:k≠w.heap.size:=by have:=iq.ltm e;omega
  simp[Im.mark,this,e]
 have Xc:((w.alloc (.deferred (some []))).alloc (.loop (rec .ready none))).heap[L]?=some (.loop (rec .ready none)):=by
  have:=World.alloc_heap_new (w.alloc (.deferred (some []))) (.loop (rec .ready none));rw[World.size_alloc,Xf] at this;exact this
 obtain⟨W1,Nv⟩:∃W1,(w.alloc (.deferred (some []))).alloc (.loop (rec .ready none))=W1:=⟨_,rfl⟩
 have aFP:W1.heap.size=w.heap.size+2:=by rw[←Nv];simp
 rw[Nv] at i1 NP Xc;have NN:(Instr.enterLoop Nh a.tmps ps ca cb none).run C.P w=.ok (L,[{target:=.collected w.heap.size,args:=#[]}]) W1:=by
  rw[←Nv,gA,←Xf];exact run_enterLoop_outer _ _ _ _ _
 obtain⟨σ1,hσ1⟩:∃σ1,σ.mark w.heap.size=σ1:=⟨_,rfl⟩
 rw[hσ1] at i1 NP wg kM;obtain⟨aM,Nw⟩:∃aM:Act,{a with defers:={target:=.collected w.heap.size,args:=#[]}::a.defers}=aM:=⟨_,rfl⟩
 have AQ:aM.tmps=a.tmps:=by rw[←Nw]
 rw[Nw] at i1;have iR:=i1.toRnd (t:=t) (X:=fun k=>k=L) ht0;obtain⟨σR,hσR⟩:∃σR,σ0.rnd σ1 own W1 t (fun k=>k=L)=σR:=⟨_,rfl⟩
 have ry:∀t' f c w',σR.F t' f c w'→(∀k,f k→k<W1.heap.size∧k≠L)∧∀k,c k→f k∧(∀o,σ1.c k o=none)∧σ1.m k=none:=by
  rw[←hσR];rintro t' f c w' ⟨_,h2,h3,_⟩;exact⟨fun k hk=>⟨((h2 k).1 hk).1,((h2 k).1 hk).2.2.2⟩,fun k hk=>(h3 k).1 hk⟩
 have Xi:CtxOK C σR:=by rw[←hσR];exact hC.mono i1.le
 rw[hσR] at iR
 obtain⟨P,hP⟩:∃P:Nat→List D→Snap→LoopState→Option Code→Prop,P=fun i vo Sx st pe=>(i≤m∧vo=ln i∧Sx=q1∧st=.ready∧pe=none)∨
  (i=m+1∧m<xs.length∧st=.done∧∃y id ρ',xs[m]?=some y∧q2.pc.ev Φ N (ρ1.put ps.toList (partsOf ps.toList y) lo (ln m))=some (.exit id ρ')∧vo=lo.map ρ'.o∧(id,Sx)∈q2.ex∧((id≠ct∧pe=some (.exit id))∨(id=ct∧pe=some .ret))):=⟨_,rfl⟩
 obtain⟨c1,c2⟩:=axc (C:=C) (w:=W1) (L:=L) hfn hgv;refine⟨L,[{target:=.collected w.heap.size,args:=#[]}],W1,_,W1,f,_,W1,NN,c1,fun _ _=>trivial,c2,(fun e=>by cases e),?_⟩
 refine VW ((NU σ1 W1 (.func (.yield L) #[] #[]) vs (RSt C w0 σR ids ρ1 lo aM L W1 σ1 rec xs P) (fun k=>k<W1.heap.size) (fun k=>(∃j,own k=some j)∨k=L) m i1.ok (hC.mono i1.le) ⟨h1,h2,fun j t e=>(aP j t e).mono kM⟩ hm
  (fun t f c w h=>h.lt) (fun t f c w h=>h.sub) (fun t f c w w' h hb hs=>h.keep (by omega) (by omega) (fun t f c w hF k hk=>((ry t f c w hF).1 k hk).1) hb hs) ?_ ?_ ?_ ?_).mono ?_)
 ·refine⟨fun k hk=>hk,fun k hk=>?_,fun k hk=>hk,0,ln 0,q1,.ready,none,σ1,own,hv,by simp,by rw[hP];exact .inl ⟨Nat.zero_le _,rfl,rfl,rfl,rfl⟩,?_,.refl σ1,wg,Xc,fun k j e=>(iR.owns k j e).2.1,fun k o x e=>iR.lt e,fun k x e=>iR.ltm e,fun k=>.rfl⟩
  ·rcases hk with⟨j,e⟩|e
   ·exact(iR.owns k j e).2.1
   ·show k<W1.heap.size;omega
  ·rw[ui,Env.put_self];exact iR
 ·rintro k o x e (⟨j,hj⟩|rfl)
  ·have:=(iR.owns k j hj).2.2.1 o;rw[e] at this;cases this
  ·rw[wg.c] at e;cases e
 ·rintro k x e (⟨j,hj⟩|rfl)
  ·have:=(iR.owns k j hj).2.2.2;rw[e] at this;cases this
  ·rw[wg.m] at e;cases e
 ·intro i fx cx w1 σx args ds' hi dj hF hσx iz gw lK db cP rd' o a' x' aa ts K Q bG cr Xo hK;have aFY:i<xs.length:=(List.getElem?_eq_some_iff.1 dj).1;obtain⟨i',vo,Sx,st,pe,σa,uN,hva,e1,e2,iA,Gz,AO,F8,Og,Xv,Bf,wy⟩:=hF.ex;have hii:i'=i:=by
   have h9:=congrArg List.length (congrArg D.l e1);simp only[D.l_list,List.length_take] at h9;omega
  subst hii;rw[hP] at e2;rcases e2 with⟨_,rfl,AP,rfl,rfl⟩|⟨e2,_⟩
  case inr=>omega
  rw[AP] at iA;have Xg:L<w1.heap.size:=hF.lt L (hF.old L (by omega));have Gk:cx L:=(wy L).2 (.inr rfl)
  have ar4:∀k o v,σx.c k o=some v→uN k=none:=fun k o v e=>by
   cases e2:uN k with
   |none=>rfl
   |some j=>exact absurd ((wy k).2 (.inl ⟨j,e2⟩)) (gw k o v e)
  have Bj:∀k v,σx.m k=some v→uN k=none:=fun k v e=>by
   cases e2:uN k with
   |none=>rfl
   |some j=>exact absurd ((wy k).2 (.inl ⟨j,e2⟩)) (lK k v e)
  have hτok:σx.noM.ok w1:=⟨hσx.c,fun k v e=>hσx.m k v (Im.noM_m e).1⟩
  have iB:=iA.joinIm (τ:=σx.noM) hτok (fun k e=>(Im.noM_m e).2 rfl) ar4 (fun k v e=>Bj k v (Im.noM_m e).1)
   (fun k o v e=>(db k o v e).imp (fun e=>Gz.c k o v e) fun e=>by omega) (fun k v e=>(cP k v (Im.noM_m e).1).imp (fun e=>Gz.m k v e) fun e=>by omega)
   (fun t' f c hf=>⟨fun k o v e hc=>by
        obtain⟨g1,g2,g3⟩:=(ry _ _ _ _ hf.F).2 k hc;rcases db k o v e with e|e
        ·rw[g2 o] at e;cases e
        ·have:=((ry _ _ _ _ hf.F).1 k g1).1;omega,fun k v e hc=>by
        obtain⟨g1,g2,g3⟩:=(ry _ _ _ _ hf.F).2 k hc;rcases cP k v (Im.noM_m e).1 with e|e
        ·rw[g3] at e;cases e
        ·have:=((ry _ _ _ _ hf.F).1 k g1).1;omega⟩)
  have W9:Free L (σa.plus σx.noM) uN:=by
   refine⟨AO.own,fun o=>?_,?_⟩
   ·cases e:(σa.plus σx.noM).c L o with
    |none=>rfl
    |some v=>
     rcases Im.plus_c e with e|e
     ·rw[AO.c] at e;cases e
     ·exact absurd Gk (gw L o v e)
   ·cases e:(σa.plus σx.noM).m L with
    |none=>rfl
    |some v=>
     rcases Im.plus_m e with e|e
     ·rw[AO.m] at e;cases e
     ·exact absurd Gk (lK L v (Im.noM_m e).1)
  have qw:ps.toList.length=ys.length:=by rw[Array.length_toList];exact hl.symm
  have aqJ:oF C (σa.plus σx.noM) ys args ds':=⟨iz.1,iz.2.1,fun j t e=>((iz.2.2 j t e).noM).mono (Im.plus_le2 iA.ok hτok)⟩
  have iC:=iB.startR (ρ':=ρ1) qw bh (fun p hp=>by
   have:=List.all_eq_true.1 ah p hp;rw[AQ,hn];simpa [Nat.blt_eq] using this) aqJ rfl
  have Ox:∃xi,q2.pc.ev Φ N (ρ1.put ps.toList (partsOf ps.toList (.tup ds')) lo (ln i'))=some xi∧((i'<m∧∃ρ',xi=.next ρ'∧lo.map ρ'.o=ln (i'+1))∨(i'=m∧m<xs.length∧∃id ρ',xi=.exit id ρ')):=by
   by_cases jf:i'<m
   ·obtain⟨y,ρ',g1,g2,g3⟩:=GH i' jf;rw[dj] at g1;cases g1;exact⟨_,g2,.inl ⟨jf,ρ',rfl,g3⟩⟩
   ·obtain rfl:i'=m:=by omega
    rcases jJ with⟨g1,_⟩|⟨g1,y,id,ρ',g2,g3,_⟩
    ·omega
    ·rw[dj] at g2;cases g2;exact⟨_,g3,.inr ⟨rfl,g1,id,ρ',rfl⟩⟩
  obtain⟨xi,qA,O3⟩:=Ox;have ay:q2.pc=.seq ra.pc rb.pc:=by rw[←gQ];rfl
  rw[ay] at qA;have aL:(la ps.toList args aM.tmps).size=n:=by rw[ae5,AQ,hn]
  refine⟨fun _ _=>trivial,?_⟩;rw[Oper.semAt_eq _ _ _ (fun c e=>by rw[bG] at e;cases e)];have aqK:aa.size=ps.size:=by
   have:=iz.1;rw[←Xo,List.length_map,Array.length_toList] at this;omega
  have ao:=aBf (C:=C) bG cr F8 (by rw[gA];exact aqK);have asv:(rec .ready none).fn=Nh∧(rec .ready none).tmps=a.tmps∧(rec .ready none).params=ps∧(rec .ready none).assign=ca∧(rec .ready none).body=cb:=by rw[gA];exact⟨rfl,rfl,rfl,rfl,rfl⟩
  obtain⟨r1,r2,r3,r4,r5⟩:=asv;rw[r1,r2,r3,r4,r5] at ao
  have nR:(ps.zip (aa.map a'.eval)).foldl (fun tmps (t,v)=>tmps.setIfInBounds t v) a.tmps=la ps.toList args aM.tmps:=by
   rw[AQ,←Xo,←Array.toList_map];exact ax1 ps (aa.map a'.eval) a.tmps
  rw[nR] at ao;rw[ao];refine⟨(fun e=>by cases e),?_⟩;refine roundIn_of_wpIn (F:=FR rd') trivial ?_;show ca.wpIn (FR (some L)) 0 C.P _ _ _;cases kP:ra.pc.ev Φ N (ρ1.put ps.toList (partsOf ps.toList (.tup ds')) lo (ln i')) with
  |none=>simp only[PC.ev,kP] at qA;cases qA
  |some xa=>
  refine wpIn_mono (aeZ bx OC jm Xi iC (wr:=fun t=>t∈bX ca) (fun _ h=>h) aL kP L) fun e2 a1 Vb asE=>?_;obtain⟨ρ2,S2,σ2,gC,gg,iD,mM,gR,jh⟩:=asE;cases e2 with
  |normal=>
   obtain⟨rfl,rz⟩:=jh;rw[hao] at rz;cases rz;simp only[PC.ev,kP] at qA;have Xd:Vb.heap[L]?=some (.loop (rec .ready none)):=(mM.same L Xg W9.own).trans F8;have Ns:=W9.seg Xg mM;have Nt:L<Vb.heap.size:=(Array.getElem?_eq_some_iff.1 Xd).1;have Xb:w0.heap.size≤L:=by omega
   refine⟨_,run_beginRound Xd (by rw[gA]),?_⟩;have iE:=iD.putL Xb Ns (fun t' f c hf A3=>((ry _ _ _ _ hf.F).1 L A3).2 rfl) (.loop {rec .ready none with state:=.busy});have hL3:(Vb.putObj L (.loop {rec .ready none with state:=.busy})).heap[L]?=some (.loop {rec .ready none with state:=.busy}):=World.putObj_heap_same Nt;show cb.wpIn (FR (some L)) 0 C.P _ _ _;refine wpIn_mono (aeZ dH Yh jm Xi iE (wr:=fun t=>t∈bX cb) (fun _ h=>h) (gR.size.trans aL) qA L) fun e3 a3 w3 asF=>?_;obtain⟨ρ3,S3,σ3,uM,Bz,iF,GS,asC,mL⟩:=asF;have Xe:w3.heap[L]?=some (.loop {rec .ready none with state:=.busy}):=(GS.same L (by simpa using Nt) Ns.own).trans hL3;have W8:=Ns.seg (by simpa using Nt) GS;have aqt:L<w3.heap.size:=(Array.getElem?_eq_some_iff.1 Xe).1;obtain⟨mk,GD⟩:∃mk,Nat.lor (uC (ps.toList++bX ca++bX cb)) (Nat.lor ra.mr rb.mr)=mk:=⟨_,rfl⟩
   have arX:∀t,av mk t=false→t∉ps.toList∧t∉bX ca∧t∉bX cb∧av ra.mr t=false∧av rb.mr t=false:=by
        intro t ht;rw[←GD,eA,eA,Bool.or_eq_false_iff,Bool.or_eq_false_iff] at ht;obtain⟨t1,t2,t3⟩:=ht;have:t∉ps.toList++bX ca++bX cb:=fun hm=>by rw[VN hm] at t1;cases t1
        simp only[List.mem_append,not_or] at this;exact⟨this.1.1,this.1.2,this.2,t2,t3⟩
   have OE:∀t,av mk t=false→aM.tmps.getD t undef=a3.tmps.getD t undef∧(ρ1.put [] [] lo (lo.map ρ3.o)).r t=ρ3.r t:=by
        intro t ht;obtain⟨t1,t2,t3,t4,t5⟩:=arX t ht;refine⟨?_,?_⟩
        ·rw[asC.get t t3,gR.get t t2];exact(La _ _ _ _ t1).symm
        ·have hb3:∀ρ',xi=.next ρ'∨(∃id,xi=.exit id ρ')→ρ'.r t=ρ2.r t:=fun ρ' h=>by
          have tR:xi.env?=some ρ':=by rcases h with h|⟨id,h⟩<;>rw[h]<;>rfl
          exact(PC.ev_but rb.pc _ _ ρ' qA tR).r t fun hm=>by rw[XZ.1 t hm] at t5;cases t5
         have dh:ρ2.r t=putL ρ1.r ps.toList (partsOf ps.toList (.tup ds')) t:=(PC.ev_but ra.pc _ _ ρ2 kP rfl).r t fun hm=>by rw[XY.1 t hm] at t4;cases t4
         rw[xE _ _ _ _ t1] at dh;show ρ1.r t=ρ3.r t;rw[hb3 ρ3 (by
          cases e3 with
          |normal=>exact .inl mL.1
          |exit id=>exact .inr ⟨id,mL.1⟩
          |ret=>exact .inr ⟨_,mL.1⟩
          |_=>exact mL.elim),dh]
   have N3:q2.mo=ic ra.mo rb.mo:=by rw[←gQ];rfl
   have Oj:∀j,j∉q2.mo→ρ3.o j=ρ1.o j:=by
        intro j hj;rw[N3,nV,not_or] at hj;have tR:xi.env?=some ρ3:=by
         cases e3 with
         |normal=>rw[mL.1];rfl
         |exit id=>rw[mL.1];rfl
         |ret=>rw[mL.1];rfl
         |_=>exact mL.elim
        rw[(PC.ev_but rb.pc _ _ ρ3 qA tR).o j fun hm=>hj.2 (XZ.2 j hm),(PC.ev_but ra.pc _ _ ρ2 kP rfl).o j fun hm=>hj.1 (XY.2 j hm)]
        exact xE _ _ _ _ fun hm=>by
         rw[←nK] at hm;have:=(List.mem_filter.1 hm).1;rw[N3,nV] at this;exact this.elim hj.1 hj.2
   have Oi:∀(S:Snap),S∈(q1::q2.ex.map (·.2))→∀j,mP ((S.st ids).o j)=false→(ρ1.put [] [] lo (lo.map ρ3.o)).o j=ρ3.o j:=by
        intro S hS j hj;show putL ρ1.o lo (lo.map ρ3.o) j=ρ3.o j;rw[qN];split
        ·rfl
        ·rename_i fh;refine(Oj j fun rG=>fh ?_).symm;rw[←nK];exact List.mem_filter.2 ⟨rG,List.any_eq_true.2 ⟨S,hS,by simpa [Snap.st] using hj⟩⟩
   have fin:∀(jump:Option Code) (Sx:Snap),Inv C (Sx.st ids) (ρ1.put [] [] lo (lo.map ρ3.o)) σ3 uM Bz w0 σR (fun _=>False) aM w3→P (i'+1) (lo.map ρ3.o) Sx (if jump.isNone then .ready else .done) jump→jump.isNone=decide (i'<m)→
        ∃v w',(Instr.endRound L jump).run C.P w3=.ok v w'∧K (a'.put o.dst v) w':=by
        intro jump Sx iG hPn rG;refine⟨_,_,run_endRound jump Xe,?_⟩;have asu:({{rec .ready none with state:=.busy} with state:=if jump.isNone then .ready else .done,pending:=jump}:Loop)=rec (if jump.isNone then .ready else .done) jump:=by rw[gA]
        rw[asu];have aP:=mM.round (L:=L) (o':=.loop (rec (if jump.isNone then .ready else .done) jump)) GS;have iH:=iG.putL Xb W8 (fun t' f c hf A3=>((ry _ _ _ _ hf.F).1 L A3).2 rfl) (.loop (rec (if jump.isNone then .ready else .done) jump));obtain⟨w4,OZ⟩:∃w4,w3.putObj L (.loop (rec (if jump.isNone then .ready else .done) jump))=w4:=⟨_,rfl⟩
        have hL5:w4.heap[L]?=some (.loop (rec (if jump.isNone then .ready else .done) jump)):=by rw[←OZ];exact World.putObj_heap_same aqt
        have aGl:w4.heap.size=w3.heap.size:=by rw[←OZ];simp
        rw[OZ] at aP iH ⊢;have aFO:W1.heap.size≤w1.heap.size:=by
         have:=hF.lt (W1.heap.size-1) (hF.old _ (by omega));omega
        have aGh:=aP.below.size
        refine hK _ _ ⟨by rw[rG],aP.below,fun k hk hc=>aP.same k hk (by
         cases e:uN k with
         |none=>rfl
         |some j=>exact absurd ((wy k).2 (.inl ⟨j,e⟩)) hc) (fun e=>hc (by rw[e];exact Gk)),(fun k=>k<w4.heap.size∧(k<W1.heap.size∨(∃j,uM k=some j)∨(∃o x,σ3.c k o=some x)∨∃x,σ3.m k=some x)),(fun k=>(∃j,uM k=some j)∨k=L),?_,?_,?_⟩
        ·refine⟨fun k hk=>hk.1,fun k hk=>?_,fun k hk=>⟨by omega,.inl hk⟩,i'+1,lo.map ρ3.o,Sx,_,jump,σ3,uM,Bz,rfl,hPn,iH,Gz.trans ((Im.plus_le1 _ _).trans aP.le),W8,hL5,fun k j e=>⟨(iH.owns k j e).2.1,.inr (.inl ⟨j,e⟩)⟩,fun k o x e=>⟨iH.lt e,.inr (.inr (.inl ⟨o,x,e⟩))⟩,fun k x e=>⟨iH.ltm e,.inr (.inr (.inr ⟨x,e⟩))⟩,fun k=>.rfl⟩;rcases hk with⟨j,e⟩|e
         ·exact⟨(iH.owns k j e).2.1,.inr (.inl ⟨j,e⟩)⟩
         ·exact⟨by omega,.inl (by omega)⟩
        ·rintro k ⟨_,hk⟩ bt
         have A8:((∃o x,σ3.c k o=some x)∨∃x,σ3.m k=some x)→fx k∨(∃o x,σx.c k o=some x)∨(∃x,σx.m k=some x∧x≠cC):=fun h=>by
          rcases aP.imm k h with⟨o,x,e⟩|⟨x,e⟩|⟨j,e⟩|e
          ·rcases Im.plus_c e with e|e
           ·exact .inl (Xv k o x e)
           ·exact .inr (.inl ⟨o,x,e⟩)
          ·rcases Im.plus_m e with e|e
           ·exact .inl (Bf k x e)
           ·exact .inr (.inr ⟨x,(Im.noM_m e).1,(Im.noM_m e).2⟩)
          ·exact .inl (Og k j e)
          ·omega
         rcases hk with hk|⟨j,e⟩|e|e
         ·exact .inl (hF.old k hk)
         ·rcases aP.ow k j e with⟨j',e⟩|e
          ·exact .inl (Og k j' e)
          ·omega
         ·exact A8 (.inl e)
         ·exact A8 (.inr e)
        ·rintro k (⟨j,e⟩|e) bt
         ·rcases aP.ow k j e with⟨j',e⟩|e
          ·exact(wy k).2 (.inl ⟨j',e⟩)
          ·omega
         ·rw[e];exact Gk
   have mE:jz σ3 w0.heap.size aM.defers:=iA.defers.mono ((Im.plus_le1 _ _).trans (mM.le.trans GS.le));have Oy:q2.out=rb.out.map (Snap.mask mk)∧q2.ex=rb.ex.map (fun x=>(x.1,x.2.mask mk)):=by rw[←gQ,←GD];exact⟨rfl,rfl⟩
   cases e3 with
   |normal=>
    obtain⟨e4,e5⟩:=mL;have hT:q2.out=some (S3.mask mk):=by rw[Oy.1,e5];rfl
    have XF:=wA _ hT
    have iG:Inv C (q1.st ids) ρ3 σ3 uM Bz w0 σR (fun _=>False) a3 w3:=by
        have:=Snap.meet_ok2 (x:=q1) (iF.maskR mk)
        rwa [XF] at this
    have iH:=iG.restore (ρ':=ρ1.put [] [] lo (lo.map ρ3.o)) (a':=aM) (Snap.noOpt _ _) mE (fun t ht=>OE t (by
        cases e:av mk t with
        |false=>rfl
        |true=>
         have h9:=au7 (x:=q1) (S:=S3) (ids:=ids) e;rw[XF] at h9;rw[h9] at ht;cases ht)) (fun j hj=>Oi q1 (List.mem_cons_self ..) j hj)
    rcases O3 with⟨jf,ρ',e6,e7⟩|⟨_,_,id,ρ',e6⟩
    ·rw[e4] at e6;cases e6;exact fin none q1 iH (by rw[hP];exact .inl ⟨by omega,e7,rfl,rfl,rfl⟩) (by simp[jf])
    ·rw[e4] at e6;cases e6
   |exit id=>
    obtain⟨e4,e5,e6⟩:=mL;have cJ:(id,S3.mask mk)∈q2.ex:=by rw[Oy.2];exact List.mem_map.2 ⟨_,e6,rfl⟩
    have iH:=(iF.maskR mk).restore (ρ':=ρ1.put [] [] lo (lo.map ρ3.o)) (a':=aM) (Snap.noOpt _ _) mE (fun t ht=>OE t (by
        cases e:av mk t with
        |false=>rfl
        |true=>rw[BP,if_pos e] at ht;cases ht)) (fun j hj=>Oi (S3.mask mk) (List.mem_cons_of_mem _ (List.mem_map.2 ⟨_,cJ,rfl⟩)) j hj)
    rcases O3 with⟨jf,ρ',e7,_⟩|⟨jf,nL,bH,ρ',e7⟩
    ·rw[e4] at e7;cases e7
    ·subst jf;refine fin (some (.exit id)) (S3.mask mk) iH ?_ (by simp);rw[hP];refine .inr ⟨rfl,nL,rfl,_,id,ρ3,dj,?_,rfl,cJ,.inl ⟨e5,rfl⟩⟩;rw[ay];simp only[PC.ev,kP];rw[qA,e4]
   |ret=>
    obtain⟨e4,e6⟩:=mL;have cJ:(ct,S3.mask mk)∈q2.ex:=by rw[Oy.2];exact List.mem_map.2 ⟨_,e6,rfl⟩
    have iH:=(iF.maskR mk).restore (ρ':=ρ1.put [] [] lo (lo.map ρ3.o)) (a':=aM) (Snap.noOpt _ _) mE (fun t ht=>OE t (by
        cases e:av mk t with
        |false=>rfl
        |true=>rw[BP,if_pos e] at ht;cases ht)) (fun j hj=>Oi (S3.mask mk) (List.mem_cons_of_mem _ (List.mem_map.2 ⟨_,cJ,rfl⟩)) j hj)
    rcases O3 with⟨jf,ρ',e7,_⟩|⟨jf,nL,bH,ρ',e7⟩
    ·rw[e4] at e7;cases e7
    ·subst jf;refine fin (some .ret) (S3.mask mk) iH ?_ (by simp);rw[hP];refine .inr ⟨rfl,nL,rfl,_,ct,ρ3,dj,?_,rfl,cJ,.inr ⟨rfl,rfl⟩⟩;rw[ay];simp only[PC.ev,kP];rw[qA,e4]
   |_=>exact mL.elim
  |exit id=>obtain⟨_,_,e6⟩:=jh;rw[Xq] at e6;cases e6
  |ret=>obtain⟨_,e6⟩:=jh;rw[Xq] at e6;cases e6
  |_=>exact jh.elim
 ·rintro e' w' ⟨⟨v,rfl⟩,fx,cx,hF⟩;rw[show({tmps:=a.tmps,defers:=[{target:=Target.collected w.heap.size,args:=#[]}]++a.defers}:Act)=aM from Nw];obtain⟨i',vo,Sx,st,pe,σa,uN,hva,e1,e2,iA,Gz,AO,F8,Og,Xv,Bf,wy⟩:=hF.ex;have h9:=congrArg List.length (congrArg D.l e1);simp only[D.l_list,List.length_take] at h9;have cv:(rec st pe).state≠.busy:=by
   rw[hP] at e2;rw[gA];rcases e2 with⟨_,_,_,e3,_⟩|⟨_,_,e3,_⟩<;>(rw[e3];intro e;cases e)
  have rJ:(rec st pe).pending=pe:=by rw[gA]
  have NO:(Instr.endLoop L).run C.P w'=.ok pe (w'.putObj L (.loop {rec st pe with state:=.exhausted})):=(run_endLoop (P:=C.P) F8 cv).trans (congrArg (fun z=>Result.ok z _) rJ);have iF:=iA.putL (by omega:w0.heap.size≤L) AO (fun t' f c hf A3=>((ry _ _ _ _ hf.F).1 L A3).2 rfl) (.loop {rec st pe with state:=.exhausted});rw[←hσR] at iF;have iG:=i1.ofRnd NP (fun k hk e=>by have:=arl k hk;omega) iF;have jj:SameBut wr a aM:=⟨by rw[AQ],fun t _=>by rw[AQ]⟩
  refine⟨pe,_,NO,?_⟩;rw[hP] at e2;rcases e2 with⟨e3,rfl,AP,_,rfl⟩|⟨rfl,nL,_,y,id,ρ',g1,g2,rfl,g4,g5⟩
  ·rcases jJ with⟨g1,g2⟩|⟨g1,_⟩
   ·obtain rfl:i'=m:=by omega
    rw[AP] at iG;exact⟨_,q1,g2,rfl,jj,_,_,_,iG⟩
   ·omega
  ·rcases jJ with⟨g6,_⟩|⟨_,y',bH,ρ'',k1,k2,k3⟩
   ·omega
   ·rw[g1] at k1;cases k1;rw[g2] at k2;cases k2;rcases k3 with⟨k3,k4⟩|⟨k3,pe',k4,k5⟩
    ·rcases g5 with⟨_,rfl⟩|⟨g5,_⟩
     ·exact wpIn_exit ⟨_,Sx,k4,k3,List.mem_filter.2 ⟨g4,by simp[dR k3]⟩,jj,_,_,_,iG⟩
     ·exact absurd g5 k3
    ·rcases g5 with⟨g5,_⟩|⟨_,rfl⟩
     ·exact absurd k3 g5
     ·subst k3;rw[←rN,Option.bind_eq_some_iff] at k4;obtain⟨M,hM,OD⟩:=k4;obtain⟨M',Xh,qq⟩:=Pt (⟨_,_,_,iG⟩:Good C w0 σ0 (Sx.st ids) _ (fun _=>False) aM _) q2.ex none g4;rw[hM] at Xh;cases Xh;obtain⟨σm,aHj,Yr,im⟩:=qq;exact wpIn_ret ⟨_,k5,Inv.retD hC (fun _=>rfl) lL OD _ im rfl,jj⟩
theorem Zo {arr:Array MapEntry}{clock:Nat}(hb:ls arr clock){idx:List Nat}(hi:∀i,i∈idx→i<arr.size){i:Nat}{e:MapEntry}(he:arr[i]?=some e):(fp arr idx).contains e.born=true↔i∈idx:=by
 simp only[fp,List.contains_toArray,List.contains_iff_mem,List.mem_map];constructor
 ·rintro⟨j,hj,h⟩;have ah:=hi j hj;rw[Array.getElem?_eq_getElem ah] at h;simp only at h;have:=hb.2 j i arr[j] e (Array.getElem?_eq_getElem ah) he h;rw[←this];exact hj
 ·intro h;exact⟨i,h,by rw[he]⟩
theorem axX (arr:Array MapEntry)(idx:List Nat){i:Nat}{e:MapEntry}(he:arr[i]?=some e):(fp arr idx).push e.born=fp arr (idx++[i]):=by
 simp[fp,he]
theorem avn {P:Program}{w:World}{k m:Nat}{arr:Array MapEntry}{clock:Nat}{idx:List Nat}(hk:w.heap[k]?=some (.mapIter (some m) clock (fp arr idx) clock))(hm:w.heap[m]?=some (.map arr clock))(hb:ls arr clock)(hi:∀i,i∈idx→i<arr.size)(T:TypeId):
 ∃w1:World,(w1=w∨w1=w.drew)∧(((∀i,i<arr.size→i∈idx)∧(Instr.next (.pointer (some ⟨k,0,none⟩)) false T).run P w=.ok (.tuple #[.bool false]) w1)∨
  ∃i e,arr[i]?=some e∧i∉idx∧(Instr.next (.pointer (some ⟨k,0,none⟩)) false T).run P w=.ok (.tuple #[.bool true,e.key,e.val]) {w1 with heap:=w1.heap.setIfInBounds k (.mapIter (some m) clock (fp arr (idx++[i])) clock)}):=by
 have cJ:∀{e:MapEntry},e∈arr→∃i:Nat,arr[i]?=some e:=fun he=>by
  obtain⟨i,hi,rfl⟩:=Array.mem_iff_getElem.1 he;exact⟨i,Array.getElem?_eq_getElem hi⟩
 have hold:∀(l:Array MapEntry),(∀e,e∈l→e.born<clock)→l.filter (fun x=>decide (x.born<clock))=l:=fun l h=>by
  rw[Array.filter_eq_self];intro e he;simpa using h e he
 have ke:∀(l:Array MapEntry),(∀e,e∈l→e.born<clock)→l.filter (fun x=>decide (x.born≥clock))=#[]:=fun l h=>by
  rw[Array.filter_eq_empty_iff];intro e he;have:=h e he;simp;omega
 have Xr:∀e,e∈arr→e.born<clock:=fun e he=>by obtain⟨i,hi⟩:=cJ he;exact hb.1 i e hi
 have jE:(!(fp arr idx).isEmpty&& !arr.isEmpty&&arr.all (fun x=>decide (x.born≥clock)))=false:=by
  cases ha:arr.isEmpty
  ·have aD:arr.size≠0:=by simpa using ha
   have:arr.all (fun x=>decide (x.born≥clock))=false:=by
        rw[Bool.eq_false_iff];intro h;rw[Array.all_eq_true] at h;have h0:=h 0 (by omega);have h1:=Xr arr[0] (Array.getElem_mem _);simp at h0;omega
   rw[this,Bool.and_false]
  ·simp
 let left:=arr.filter fun e=> !(fp arr idx).contains e.born
 have hl:∀e,e∈left→e.born<clock:=fun e he=>Xr e (Array.mem_filter.1 he).1;by_cases hz:left.size=0
 ·refine⟨w,.inl rfl,.inl ⟨fun i ah=>?_,?_⟩⟩
  ·by_cases bA:i∈idx
   ·exact bA
   ·exfalso;have GC:arr[i]∈left:=Array.mem_filter.2 ⟨Array.getElem_mem _,by
     have:=Zo hb hi (Array.getElem?_eq_getElem ah);cases hc:(fp arr idx).contains arr[i].born with
     |false=>rfl
     |true=>exact absurd (this.1 hc) bA⟩
    have:left=#[]:=Array.eq_empty_of_size_eq_zero hz;rw[this] at GC;simp at GC
  ·have he:left=#[]:=Array.eq_empty_of_size_eq_zero hz;have j9:arr.filter (fun e=> !(fp arr idx).contains e.born)=#[]:=he;simp only[Instr.next,getObj,Sem.run_bind,Sem.run,hk,hm,Result.andThen_ok,jE,j9];simp[Question.forced,Sem.run]
 ·have gx:left.filter (fun x=>decide (x.born<clock))=left:=hold left hl;have jG:left.filter (fun x=>decide (x.born≥clock))=#[]:=ke left hl;have hem:left.isEmpty=false:=by simpa using hz
  have key:∀c,c<left.size→∃i e,arr[i]?=some e∧i∉idx∧left[c]?=some e:=fun c hc=>by
   have GC:left[c]∈left:=Array.getElem_mem _;obtain⟨h1,h2⟩:=Array.mem_filter.1 GC;obtain⟨i,cU⟩:=cJ h1;refine⟨i,left[c],cU,fun bA=>?_,Array.getElem?_eq_getElem hc⟩;rw[(Zo hb hi cU).2 bA] at h2;cases h2
  obtain⟨w1,c,gS,hc,kK⟩:∃w1 c,(w1=w∨w1=w.drew)∧c<left.size∧(choose (.mapNext left.size)).run P w=.ok c w1:=by
   by_cases h1:left.size≤1
   ·exact⟨w,0,.inl rfl,by omega,by simp[Question.forced,h1]⟩
   ·exact⟨w.drew,_,.inr rfl,Nat.mod_lt _ (by omega),by simp[Question.forced,h1,Question.cut];rfl⟩
  obtain⟨i,e,h1,h2,h3⟩:=key c hc;refine⟨w1,gS,.inr ⟨i,e,h1,h2,?_⟩⟩;have tW:arr.filter (fun e=> !(fp arr idx).contains e.born)=left:=rfl;have lN:(getObj k).run P w=.ok (.mapIter (some m) clock (fp arr idx) clock) w:=by simp[getObj,Sem.run,hk]
  have fL:(getObj m).run P w=.ok (.map arr clock) w:=by simp[getObj,Sem.run,hm]
  have bt:w1.heap[k]?=some (.mapIter (some m) clock (fp arr idx) clock):=by rcases gS with rfl|rfl<;>exact hk
  have XG:(setObj k (.mapIter (some m) clock ((fp arr idx).push e.born) clock)).run P w1=.ok () {w1 with heap:=w1.heap.setIfInBounds k (.mapIter (some m) clock ((fp arr idx).push e.born) clock)}:=by simp[setObj,Sem.run,bt]
  have aqR:((if false=true then #[none] else #[])++Array.map some (left++#[]):Array (Option MapEntry))=left.map some:=by simp
  have gw:(left.map some)[c]?=some (some e):=by simp[h3]
  have XI:∀(y7:Array (Option MapEntry)) (cc:Nat),(choose (.mapNext y7.size)).run P w=.ok cc w1→y7[cc]?=some (some e)→(do
        match y7[←choose (.mapNext y7.size)]? with
        |some (some e)=>
         setObj k (.mapIter (some m) clock ((fp arr idx).push e.born) clock)
         pure (.tuple #[.bool true,e.key,e.val])
        |some none=>(pure (.tuple #[.bool false]):Sem Value)
        |none=>stuck "Next: no such candidate" :Sem Value).run P w=.ok (.tuple #[.bool true,e.key,e.val]) {w1 with heap:=w1.heap.setIfInBounds k (.mapIter (some m) clock ((fp arr idx).push e.born) clock)}:=by
   intro y7 cc h4 h5;rw[Sem.run_bind,h4];simp only[Result.andThen_ok,h5];rw[Sem.run_bind,XG];rfl
  rw[axX arr idx h1] at XI XG;have:=XI (left.map some) c (by rw[Array.size_map];exact kK) gw;simp only[Instr.next];rw[Sem.run_bind,lN];simp only[Result.andThen_ok];rw[Sem.run_bind,fL];simp only[Result.andThen_ok,jE,tW,gx,jG,hem];rw[aqR,if_neg (by decide)];exact this
theorem ane {P:Program}{w:World}{k m:Nat}{arr:Array MapEntry}{clock:Nat}{idx:List Nat}{i:Nat}{e:MapEntry}(hk:w.heap[k]?=some (.mapIter (some m) clock (fp arr (idx++[i])) clock))(hm:w.heap[m]?=some (.map arr clock))(hb:ls arr clock)(he:arr[i]?=some e):
 (Instr.entry (.pointer (some ⟨k,0,none⟩))).run P w=.ok (.tuple #[e.key,e.val]) w:=by
 have aqN:(fp arr (idx++[i])).back?=some e.born:=by simp[fp,he]
 have A4:arr.find? (fun x=>x.born==e.born)=some e:=by
  have ah:i<arr.size:=(Array.getElem?_eq_some_iff.1 he).1;have hei:arr[i]=e:=(Array.getElem?_eq_some_iff.1 he).2;rw[Array.find?_eq_some_iff_getElem];refine⟨by simp,i,ah,hei,fun j hj=>?_⟩;have fh:j<arr.size:=by omega
  cases hc:(arr[j].born==e.born) with
  |false=>rfl
  |true=>
   have:=hb.2 j i arr[j] e (Array.getElem?_eq_getElem fh) he (by simpa using hc);omega
 simp[Instr.entry,getObj,Sem.run_bind,Sem.run,hk,hm,aqN,A4]
theorem auZ {x y z:Code}{k:Nat}{p:MP}(h:w8 x y k z=some p):∃i1 i2 o1 o2 o3 l,x=.region i1 p.ops1 false∧y=.cond (.tmp p.mo) .skip (.exit p.out)∧z=.region i2 p.ops2 false∧p.next=k∧p.ops1.toList=[o1,o2]∧p.ops2.toList=o3::l∧
 o1.dst=some p.nx∧o1.guard=none∧o1.op=.next (.tmp p.it) false∧o2.dst=some p.mo∧o2.guard=none∧o2.op=.extract (.tmp p.nx) 0∧o3.dst=some p.pr∧o3.guard=none∧o3.op=.entry (.tmp p.it)∧jP p.pr l []=some p.aa∧
 p.it≠p.nx∧p.it≠p.mo∧p.it≠p.pr∧p.nx≠p.mo∧p.out≠ct∧k≠ct:=by
 unfold w8 at h;split at h
 case h_2=>cases h
 rename_i i1 ops1 mo out i2 ops2;split at h
 case h_2=>cases h
 rename_i o1 o2 o3 l e1 e2;split at h
 case h_2=>cases h
 rename_i nx it mo' nx' pr YJ d1 g1 q1 d2 g2 q2 d3 g3 q3;rw[Bool.cond_eq_ite] at h;split at h
 case isFalse=>cases h
 rename_i hc;simp only[Option.map_eq_some_iff] at h;obtain⟨aa,h4,rfl⟩:=h;simp only[Bool.and_eq_true,Bool.not_eq_true'] at hc;obtain⟨⟨⟨⟨⟨⟨⟨⟨c1,c2⟩,c3⟩,c4⟩,c5⟩,c6⟩,c7⟩,c8⟩,c9⟩:=hc;have ne:∀{a b:Nat},Nat.beq a b=false→a≠b:=fun h e=>by subst e;simp at h
 obtain rfl:=Nat.eq_of_beq_eq_true c1;obtain rfl:=Nat.eq_of_beq_eq_true c2;obtain rfl:=Nat.eq_of_beq_eq_true c3;exact⟨i1,i2,o1,o2,o3,l,rfl,rfl,rfl,rfl,e1,e2,d1,g1,q1,d2,g2,q2,d3,g3,q3,h4,ne c4,ne c5,ne c6,ne c7,ne c8,ne c9⟩
theorem HL {pr:Nat}:∀(l:List Oper) {acc aa:List (Nat×Nat)},jP pr l acc=some aa→∀x,x∈acc→x∈aa
 |[],acc,aa,h,x,hx=>by simp only[jP,Option.some.injEq] at h;subst h;exact hx
 |o::l,acc,aa,h,x,hx=>by
  simp only[jP] at h;split at h
  case h_2=>cases h
  rw[Bool.cond_eq_ite] at h;split at h
  ·cases h
  split at h
  ·rw[Bool.cond_eq_ite] at h;split at h
   ·exact HL l h x (List.mem_append_left _ hx)
   ·cases h
  ·simp only[Option.bind_eq_some_iff] at h;obtain⟨i,_,h⟩:=h;exact HL l h x (List.mem_append_left _ hx)
  ·simp only[Option.bind_eq_some_iff] at h;obtain⟨i,_,h⟩:=h;exact HL l h x (List.mem_append_left _ hx)
  ·cases h
theorem BO:∀{l:List (Nat×Nat)} {t i:Nat},sc l t=some i→(t,i)∈l
 |x::l,t,i,h=>by
  simp only[sc] at h;cases hb:Nat.beq x.1 t<;>simp only[hb,cond_true,cond_false] at h
  ·exact List.mem_cons_of_mem _ (BO h)
  ·cases h;have:=Nat.eq_of_beq_eq_true hb;subst this;exact List.mem_cons_self ..
theorem Zg:∀{l:List (Nat×Nat)} {t:Nat},(sc l t).isSome=false→∀x,x∈l→x.1≠t
 |y::l,t,h,x,hx=>by
  simp only[sc] at h;cases hb:Nat.beq y.1 t<;>simp only[hb,cond_true,cond_false] at h
  ·rcases List.mem_cons.1 hx with e|hx
   ·subst e;intro e;subst e;simp at hb
   ·exact Zg h x hx
  ·cases h
theorem QC {pr:Nat}:∀(l:List Oper) {acc aa:List (Nat×Nat)},jP pr l acc=some aa→(∀x,x∈acc→x.2≤1)→∀x,x∈aa→x∈acc∨(x.2≤1∧∃o,o∈l∧o.dst=some x.1)
 |[],acc,aa,h,_,x,hx=>by simp only[jP,Option.some.injEq] at h;subst h;exact .inl hx
 |o::l,acc,aa,h,ha,x,hx=>by
  simp only[jP] at h;split at h
  case h_2=>cases h
  rename_i d hd je;rw[Bool.cond_eq_ite] at h;split at h
  ·cases h
  have go:∀(pt:Nat),pt≤1→jP pr l (acc++[(d,pt)])=some aa→x∈acc∨(x.2≤1∧∃o',o'∈o::l∧o'.dst=some x.1):=by
   intro pt rK hp
   rcases QC l hp (fun y hy=>by
        rcases List.mem_append.1 hy with h|h
        ·exact ha y h
        ·simp at h;subst h;exact rK) x hx with h|⟨h1,o',h2,h3⟩
   ·rcases List.mem_append.1 h with h|h
    ·exact .inl h
    ·simp at h;subst h;exact .inr ⟨rK,o,List.mem_cons_self ..,hd⟩
   ·exact .inr ⟨h1,o',List.mem_cons_of_mem _ h2,h3⟩
  split at h
  ·rw[Bool.cond_eq_ite] at h;split at h
   case isFalse=>cases h
   rename_i gw;simp only[Bool.and_eq_true] at gw;exact go _ (Nat.le_of_ble_eq_true gw.2) h
  ·simp only[Option.bind_eq_some_iff] at h;obtain⟨i,hi,h⟩:=h;exact go i (ha _ (BO hi)) h
  ·simp only[Option.bind_eq_some_iff] at h;obtain⟨i,hi,h⟩:=h;exact go i (ha _ (BO hi)) h
  ·cases h
theorem xz {P:Program}{ops:Array Oper}{i:Nat}{rest:List Nat}{o:Oper}{rd:Option Nat}{a:Act}{w w':World}{Q:Exit→Act→World→Prop}{v:Value}(ho:ops[i]?=some o)(hg:o.guard=none)(bh:mS o.op=true)(hx:(execOp a.eval o).run P w=.ok (.value v) w')
 (k:wpOpsIn (FR rd) 0 P ops Q rest (a.put o.dst v) w'):wpOpsIn (FR rd) 0 P ops Q (i::rest) a w:=by
 simp only[wpOpsIn,ho];rw[if_pos (by simp[Region.wanted,hg])];exact adq bh (by unfold Oper.wp;rw[hx];exact k)
theorem axS {ops:Array Oper}{o:Oper}(ho:o∈ops.toList)(a:Act)(v:Value):SameBut (oN ops) a (a.put o.dst v):=by
 have:=SameBut.put a o.dst v a.defers;exact this.mono fun t e=>⟨o,ho,e⟩
theorem xF {a:Act}{d:Nat}{v:Value}(h:d<a.tmps.size):(a.put (some d) v).tmps.getD d undef=v:=by rw[DC];simp[h]
theorem Ki {a:Act}{d t:Nat}{v:Value}(h:t≠d):(a.put (some d) v).tmps.getD t undef=a.tmps.getD t undef:=by rw[DC];simp[h]
theorem put_defers (a:Act)(d:Option Nat)(v:Value):(a.put d v).defers=a.defers:=by cases d<;>rfl
def B4 (kv vv:Value)(i:Nat):Value:=if i=0 then kv else vv
theorem adw {P:Program}{ops:Array Oper}{rd:Option Nat}{Q:Exit→Act→World→Prop}{pr:Nat}{kv vv:Value}{w:World}:∀(l:List Oper) (acc aa:List (Nat×Nat)) (i:Nat) (a:Act),jP pr l acc=some aa→ops.toList.drop i=l→(∀x,x∈aa→x.1<a.tmps.size)→a.tmps.getD pr undef=.tuple #[kv,vv]→
 (∀x,x∈acc→a.tmps.getD x.1 undef=B4 kv vv x.2)→(∀a',SameBut (oN ops) a a'→a'.defers=a.defers→(∀x,x∈aa→a'.tmps.getD x.1 undef=B4 kv vv x.2)→Q .normal a' w)→wpOpsIn (FR rd) 0 P ops Q (List.range' i (ops.size-i)) a w
 |[],acc,aa,i,a,h,hl,ah,nP,AR,hQ=>by
  simp only[jP,Option.some.injEq] at h;subst h;have:ops.size-i=0:=by
    have:=List.drop_eq_nil_iff.1 hl;simp at this;omega
  rw[this];exact hQ a (.refl _ _) rfl AR
 |o::l,acc,aa,i,a,h,hl,ah,nP,AR,hQ=>by
  have hi:i<ops.toList.length:=by
   refine Nat.lt_of_not_le fun hle=>?_;rw[List.drop_eq_nil_iff.2 hle] at hl;cases hl
  rw[List.drop_eq_getElem_cons hi] at hl;have ho:ops[i]?=some o:=by
   have:ops.toList[i]=o:=by injection hl
   rw[←this];simp at hi ⊢
  have wG:ops.toList.drop (i+1)=l:=by injection hl
  have aL:ops.size-i=(ops.size-(i+1))+1:=by simp at hi;omega
  rw[aL,List.range'_succ];have cJ:o∈ops.toList:=by simpa using Array.mem_of_getElem? ho
  simp only[jP] at h;split at h
  case h_2=>cases h
  rename_i d hd je;rw[Bool.cond_eq_ite] at h;split at h
  ·cases h
  rename_i hc;simp only[Bool.or_eq_true,not_or,Bool.not_eq_true] at hc;have hdp:pr≠d:=fun e=>by subst e;simp at hc
  have hda:∀x,x∈acc→x.1≠d:=Zg hc.2;have go:∀(pt:Nat) (v:Value),jP pr l (acc++[(d,pt)])=some aa→mS o.op=true→v=B4 kv vv pt→(execOp a.eval o).run P w=.ok (.value v) w→wpOpsIn (FR rd) 0 P ops Q (i::List.range' (i+1) (ops.size-(i+1))) a w:=by
   intro pt v hp bh hv hx;have NJ:d<a.tmps.size:=ah _ (HL l hp (d,pt) (by simp));refine xz ho je bh hx ?_;have jj:=axS cJ a v;rw[hd] at jj ⊢;refine adw l _ aa (i+1) _ hp wG (fun x hx=>by rw[jj.size];exact ah x hx) (by rw[Ki hdp];exact nP) (fun x hx=>?_) (fun a' h1 h2 h3=>hQ a' (jj.trans h1) (h2.trans (put_defers _ _ _)) h3);rcases List.mem_append.1 hx with hx|hx
   ·rw[Ki (hda x hx)];exact AR x hx
   ·simp at hx;subst hx;rw[xF NJ];exact hv
  split at h
  ·rename_i t pt e;rw[Bool.cond_eq_ite] at h;split at h
   case isFalse=>cases h
   rename_i gw;simp only[Bool.and_eq_true] at gw;have ht:=Nat.eq_of_beq_eq_true gw.1;have rK:=Nat.le_of_ble_eq_true gw.2;subst ht;have bF:a.eval (.tmp t)=.tuple #[kv,vv]:=by simpa [Act.eval] using nP
   refine go pt (B4 kv vv pt) h (by rw[e];rfl) rfl ?_;rcases(by omega:pt=0∨pt=1) with rfl|rfl<;>simp[execOp,e,bF,Instr.extract,B4]
  ·rename_i t e;simp only[Option.bind_eq_some_iff] at h;obtain⟨pt,tW,h⟩:=h;have:=AR _ (BO tW);exact go pt (a.eval (.tmp t)) h (by rw[e];rfl) (by simpa [Act.eval] using this) (by simp[execOp,e])
  ·rename_i t e;simp only[Option.bind_eq_some_iff] at h;obtain⟨pt,tW,h⟩:=h;have:=AR _ (BO tW);exact go pt (a.eval (.tmp t)) h (by rw[e];rfl) (by simpa [Act.eval] using this) (by simp[execOp,e])
  ·cases h
theorem Pc (ids:List Nat)(J j:Nat)(S:Snap):((S.kill ids J).st ids).o j=if j=J then .dead else(S.st ids).o j:=by
 show cX ids (uv ids J S.os) j=_;have:∀(is:List Nat) (os:List Ob),cX is (uv is J os) j=if j=J then .dead else cX is os j:=by
  intro is
  induction is with
  |nil=>intro os;simp[uv,cX]
  |cons i is ih=>
   intro os;cases os with
   |nil=>simp[uv,cX]
   |cons o os=>
    simp only[uv,cX];cases hb:Nat.beq i j
    ·simp only[cond_false];exact ih os
    ·have:=Nat.eq_of_beq_eq_true hb;subst this;simp only[cond_true];by_cases cG:i=J
     ·subst cG;simp
     ·simp[dR cG,cG]
 exact this ids S.os
theorem VQ {N:Nat}{id:Nat}(Gs:id≠ct){rm:Bool}{wr:Nat→Prop}{a:Act}{q:Res2}{x xi:Out}(oY:(∀t,t∈q.pc.modR→av q.mr t=true)∧∀j,j∈q.pc.modO→j∈q.mo)(dj:q.pc.ev Φ N ρ=some xi)(bF:(fw ids id q).pc.ev Φ N ρ=some x){e:Exit}{a':Act}{w':World}
 (fC:fI C w0 σ0 ids fn s rm wr a q.out q.ex xi e a' w'):Exit.inBlock id (fI C w0 σ0 ids fn s rm wr a (fw ids id q).out (fw ids id q).ex x) e a' w':=by
 have XD:∀bH S1,(bH,S1)∈q.ex→bH≠id→(bH,S1)∈q.ex.filter fun x=> !Nat.beq x.1 id:=fun bH S1 hm aD=>List.mem_filter.2 ⟨hm,by simp[dR aD]⟩;have main:∀(o:Option Snap) (lr lo:List Nat),mR id q.ex q.out=o→(∀M,o=some M→lr=jt M q.mr∧lo=gV ids M q.mo)→(PC.block id lr lo q.pc).ev Φ N ρ=some x→
        Exit.inBlock id (fI C w0 σ0 ids fn s rm wr a o (q.ex.filter fun x=> !Nat.beq x.1 id) x) e a' w':=by
  intro o lr lo ho hl bF;simp only[PC.ev] at bF;rw[dj] at bF
  have fin:∀{ρ1:Env} {a':Act} {w':World},(∃M,o=some M∧Good C w0 σ0 (M.st ids) ρ1 (fun _=>False) a' w')→xi.env?=some ρ1→x=.next (ρ.join lr lo ρ1)→SameBut wr a a'→
   fI C w0 σ0 ids fn s rm wr a o (q.ex.filter fun x=> !Nat.beq x.1 id) x .normal a' w':=by
        intro ρ1 a' w' hM tR hx dF;obtain⟨M,hM,qq⟩:=hM;obtain⟨l1,l2⟩:=hl M hM;subst l1 l2;exact⟨_,M,hx,hM,dF,qq.joined (PC.ev_but q.pc ρ _ ρ1 dj tR) oY.1 oY.2⟩
  cases e with
  |normal=>
   obtain⟨ρ1,S2,e1,e2,dF,fL⟩:=fC;subst e1;simp only[Option.some.injEq] at bF;refine fin ?_ rfl bF.symm dF;rw[e2] at ho;obtain⟨M,h1,h2⟩:=Ha (id:=id) q.ex fL;rw[ho] at h1;exact⟨M,h1,h2⟩
  |exit bH=>
   obtain⟨ρ1,S2,e1,e0,e2,dF,fL⟩:=fC;subst e1;simp only at bF;show if bH=id then _ else _;by_cases cj:bH=id
   ·subst cj;simp only[Nat.beq_refl,cond_true,Option.some.injEq] at bF;simp only[if_true];refine fin ?_ rfl bF.symm dF;rw[←ho];exact Pt fL q.ex q.out e2
   ·simp only[dR cj,cond_false,Option.some.injEq] at bF;subst bF;simp only[cj,if_false];exact⟨ρ1,S2,rfl,e0,XD _ _ e2 cj,dF,fL⟩
  |ret=>
   cases rm with
   |false=>
    have hy:=fC;obtain⟨d,e1,_⟩:=hy;subst e1;simp only[Option.some.injEq] at bF;subst bF;exact fC
   |true=>
    obtain⟨ρ1,S2,e1,e2,dF,fL⟩:=fC;subst e1;simp only[dR (fun e=>Gs e.symm:ct≠id),cond_false,Option.some.injEq] at bF;subst bF;exact⟨ρ1,S2,rfl,XD _ _ e2 (fun e=>Gs e.symm),dF,fL⟩
  |_=>exact fC.elim
 unfold fw at bF ⊢;cases hm:mR id q.ex q.out with
 |none=>
  simp only[hm] at bF ⊢;exact main none [] [] hm (fun M e=>by cases e) bF
 |some M=>
  simp only[hm] at bF ⊢;exact main (some M) _ _ hm (fun M' e=>by cases e;exact⟨rfl,rfl⟩) bF
theorem VO {N id:Nat}{q:Res2}{x:Out}(bF:(fw ids id q).pc.ev Φ N ρ=some x):∃xi,q.pc.ev Φ N ρ=some xi:=by
 unfold fw at bF;cases hm:mR id q.ex q.out<;>simp only[hm,PC.ev] at bF<;>cases dj:q.pc.ev Φ N ρ<;>first|exact⟨_,rfl⟩|(rw[dj] at bF;cases bF)
theorem aeV {es:List (D×D)}{idx:List Nat}(hn:idx.Nodup)(ah:∀i,i∈idx→i<es.length)(aP:∀i,i<es.length→i∈idx):(fF es idx).Perm (gl (.map es)):=by
 have h1:idx.Perm (List.range es.length):=by
  rw[List.perm_ext_iff_of_nodup hn List.nodup_range];intro i;rw[List.mem_range];exact⟨ah i,aP i⟩
 have h2:fF es (List.range es.length)=gl (.map es):=by
  refine List.ext_getElem (by simp[fF,gl,D.m]) fun i g1 g2=>?_;have hi:i<es.length:=by simpa [fF] using g1
  simp[fF,gl,D.m,List.getElem?_eq_getElem hi]
 rw[←h2];exact h1.map _
theorem axY {es:List (D×D)}{idx:List Nat}(hn:idx.Nodup)(ah:∀i,i∈idx→i<es.length):∃rest,(fF es idx++rest).Perm (gl (.map es)):=by
 refine⟨fF es ((List.range es.length).filter fun i=> !idx.contains i),?_⟩;have e:fF es idx++fF es ((List.range es.length).filter fun i=> !idx.contains i)=fF es (idx++(List.range es.length).filter fun i=> !idx.contains i):=by simp[fF]
 rw[e];refine aeV ?_ (fun i hi=>?_) (fun i hi=>?_)
 ·rw[List.nodup_append];refine⟨hn,List.nodup_range.filter _,fun a ha b hb e=>?_⟩;subst e;have:=(List.mem_filter.1 hb).2;simp[ha] at this
 ·rcases List.mem_append.1 hi with h|h
  ·exact ah i h
  ·exact List.mem_range.1 (List.mem_filter.1 h).1
 ·by_cases h:i∈idx
  ·exact List.mem_append_left _ h
  ·exact List.mem_append_right _ (List.mem_filter.2 ⟨List.mem_range.2 hi,by simp[h]⟩)
theorem aeW (es:List (D×D))(idx:List Nat){i:Nat}{p:D×D}(h:es[i]?=some p):fF es (idx++[i])=fF es idx++[.tup [p.1,p.2]]:=by simp[fF,h]
theorem au1 {N:Nat}{x y z code:Code}{k:Nat}{p:MP}(hp:w8 x y k z=some p)(ihc:sX C Φ fn s n ids R N code){rm:Bool}{S:Snap}{r:Res2}
 (hr:w9 ids n p (bX x++(bX y++(bX z++bX code))) (fun S=>comp C fn s n ids R rm code S) S=some r) {rd:Option Nat} {wr:Nat→Prop} {x0:Out} (fD:rm=false→rd=none∧σ0.fin) (hC:CtxOK C σ0) (hY:nm C Φ w0 σ0)
 (gi:∀t,t∈bX (.loop (.seq x (.seq y (.block k (.seq z code)))))→wr t) (hn:a.tmps.size=n) (hg:Good C w0 σ0 (S.st ids) ρ (fun _=>False) a w) (he:r.pc.ev Φ N ρ=some x0):
 (Code.loop (.seq x (.seq y (.block k (.seq z code))))).wpIn (FR rd) 0 C.P (fI C w0 σ0 ids fn s rm wr a r.out r.ex x0) a w:=by
 obtain⟨i1,i2,o1,o2,o3,l,rfl,rfl,rfl,hk,e1,e2,d1,g1,q1,d2,g2,q2,d3,g3,q3,lR,n1,n2,n3,n4,n5,n6⟩:=auZ hp;subst hk;unfold w9 at hr;split at hr
 case h_2=>cases hr;exact absurd he (lg _ _ _ _)
 rename_i J hJ;split at hr
 case h_2=>cases hr;exact absurd he (lg _ _ _ _)
 rename_i kt et Gx;simp only at hr;split at hr
 case h_2=>cases hr;exact absurd he (lg _ _ _ _)
 rename_i q hq;rw[Bool.cond_eq_ite] at hr;split at hr
 case isFalse=>cases hr;exact absurd he (lg _ _ _ _)
 rename_i tN;cases hr;generalize GX:bX (.region i1 p.ops1 false)++(bX (.cond (.tmp p.mo) .skip (.exit p.out))++(bX (.region i2 p.ops2 false)++bX code))=ws at*;simp only[Bool.and_eq_true,Bool.not_eq_true'] at tN;obtain⟨⟨⟨⟨⟨⟨⟨⟨c1,c2⟩,c3⟩,c4⟩,c5⟩,c6⟩,c7⟩,c8⟩,c9⟩:=tN;have hex:q.2.ex=[]:=List.isEmpty_iff.1 c1;have Xa:J∉q.2.mo:=fun h=>by rw[(nU _ _).2 h] at c2;cases c2
 simp only[YG,Bool.and_eq_true,Bool.not_eq_true'] at c3;obtain⟨⟨c3a,c3b⟩,c3c⟩:=c3;have asx:q.1.rs.getD p.it .none=.obj J 0:=Sh.beq_eq _ _ c3a;have GJ:cX ids q.1.os J=.it kt et:=Ob.beq_eq _ _ c3b;have asp:∀t,t∈p.aa.map (·.1)→t<n:=fun t ht=>by have:=List.all_eq_true.1 c5 t ht;rwa [Nat.blt_eq] at this
 have Of:p.nx<n:=by rwa [Nat.blt_eq] at c6
 have N3:p.mo<n:=by rwa [Nat.blt_eq] at c7
 have nP:p.pr<n:=by rwa [Nat.blt_eq] at c8
 have Bh:=Nat.eq_of_beq_eq_true c9;obtain⟨hs,wA,bA⟩:=BI (C:=C) (w0:=w0) (σ0:=σ0) (ids:=ids) 8 hq;simp only[Option.map_eq_some_iff] at hs;obtain⟨q0,ua,gQ⟩:=hs;obtain⟨qS,qR⟩:=q;simp only at*;subst gQ;generalize hm:uC ws=m at*;generalize nK:gV ids qS (fw ids p.next q0).mo=lo at*;have N5:=VP (ids:=ids) (id:=p.next) (rh code ua);have arO:∀j,j∈lo→j∈(fw ids p.next q0).mo:=fun j hj=>by rw[←nK] at hj;exact xb hj
 have aFM:J∉lo:=fun h=>Xa (arO J h);have Br:∃yr,Kc ((fw ids p.next q0).pc.ev Φ N) ρ J (p.aa.map (·.1)) (p.aa.map (·.2)) lo yr∧x0=.exit p.out (ρ.put [] [] lo yr):=by
  simp only[PC.ev] at he;cases nP:Kd ((fw ids p.next q0).pc.ev Φ N) ρ J (p.aa.map (·.1)) (p.aa.map (·.2)) lo with
  |none=>rw[nP] at he;cases he
  |some y=>
   obtain⟨yr,h1,rfl⟩:=xC.1 nP;rw[nP] at he;simp only[Option.some.injEq] at he;exact⟨yr,h1,he.symm⟩
 obtain⟨yr,⟨Bn,aqD⟩,hx0⟩:=Br;generalize gO:(ρ.o J).tget 1=es at*
 have gS:∀o,o∈p.ops1.toList→∀d,o.dst=some d→d∈ws:=fun o ho d hd=>by
  rw[←GX];exact List.mem_append_left _ (List.mem_filterMap.2 ⟨o,ho,hd⟩)
 have cV:∀o,o∈p.ops2.toList→∀d,o.dst=some d→d∈ws:=fun o ho d hd=>by
  rw[←GX];exact List.mem_append_right _ (List.mem_append_right _ (List.mem_append_left _ (List.mem_filterMap.2 ⟨o,ho,hd⟩)))
 have hwc:∀d,d∈bX code→d∈ws:=fun d hd=>by
  rw[←GX];exact List.mem_append_right _ (List.mem_append_right _ (List.mem_append_right _ hd))
 have O0:∀t,t∈ws→wr t:=fun t ht=>gi t (by rw[←GX] at ht;exact ht);have qz:∀t,t∈ws→av m t=true:=fun t ht=>by rw[←hm];exact VN ht
 have N2:∀t,av m t=true→((qS.mask m).st ids).r t=.none:=fun t ht=>by rw[BP,if_pos ht]
 have arV:∀t,isNone (((qS.mask m).st ids).r t)=false→av m t=false:=fun t ht=>by
  cases hb:av m t with
  |false=>rfl
  |true=>rw[N2 t hb] at ht;cases ht
 have jK:((qS.mask m).st ids).r p.it=.obj J 0:=by
  rw[BP,c3c];show bZ (qS.rs.getD p.it .none)=_;rw[asx];rfl
 have cu:((qS.mask m).st ids).o J=.it kt et:=GJ;have iL:p.ops1[0]?=some o1:=by rw[←Array.getElem?_toList,e1];rfl
 have dT:p.ops1[1]?=some o2:=by rw[←Array.getElem?_toList,e1];rfl
 have ho3:p.ops2[0]?=some o3:=by rw[←Array.getElem?_toList,e2];rfl
 have asQ:List.range p.ops1.size=[0,1]:=by
  have:p.ops1.size=2:=by rw[←Array.length_toList,e1];rfl
  rw[this];rfl
 have GU:List.range p.ops2.size=0::List.range' 1 (p.ops2.size-1):=by
  have:p.ops2.size=l.length+1:=by rw[←Array.length_toList,e2];rfl
  rw[this,List.range_eq_range',List.range'_succ];rfl
 have key:∀(kk:Nat) (done vo:List D) (a':Act) (w':World),SameBut wr a a'→Good C w0 σ0 ((qS.mask m).st ids) ((ρ.put [] [] lo vo).setO J (.tup [.list done,es])) (fun _=>False) a' w'→
  (∀ys,(done++ys).Perm (gl es)→mW ((fw ids p.next q0).pc.ev Φ N) ρ J es (p.aa.map (·.1)) (p.aa.map (·.2)) lo ys done vo=some yr)→done.length+kk=(gl es).length+1→
  Code.roundsIn (FR rd) 0 C.P (.seq (.region i1 p.ops1 false) (.seq (.cond (.tmp p.mo) .skip (.exit p.out)) (.block p.next (.seq (.region i2 p.ops2 false) code)))) (fI C w0 σ0 ids fn s rm wr a none [(p.out,(qS.mask m).kill ids J)] x0) kk a' w':=by
  intro kk
  induction kk with
  |zero=>
   intro done vo a' w' _ eT _ hlen;exfalso;obtain⟨σ,own,hv,h⟩:=eT;have bk:=h.objs J;rw[cu] at bk;obtain⟨kb,mb,arr,clock,fy,idx,h1,h2,h3,aD,h4,h5,h6,h7,h8,h9,mC,qo⟩:=bk;simp only[Env.setO,aQ] at h6;injection h6 with h6;injection h6 with tH tI;injection tI with tI _;injection tH with tH;subst tH;subst tI;have hle:idx.length≤arr.size:=by
        have:=List.Nodup.length_le_of_subset h7 (l₂:=List.range arr.size) (fun i hi=>List.mem_range.2 (h8 i hi));simpa using this
   simp[fF,gl,D.m] at hlen;omega
  |succ kk ih=>
   intro done vo a' w' jj eT aP hlen;rw[roundsIn_succ];obtain⟨σ,own,hv,h⟩:=eT;have bk:=h.objs J;rw[cu] at bk;obtain⟨kb,mb,arr,clock,fy,idx,h1,h2,h3,aD,h4,h5,h6,h7,h8,h9,mC,qo⟩:=bk;simp only[Env.setO,aQ] at h6;injection h6 with h6;injection h6 with tH tI;injection tI with tI _;injection tH with tH;subst tH;subst tI;have iO:=h.regs p.it;rw[jK] at iO;have Gt:a'.eval (.tmp p.it)=.pointer (some ⟨kb,0,none⟩):=by
        have:=iO.2 rfl;simp only[Act.eval];rw[this];exact h1
   have pk:a'.tmps.size=n:=jj.size.trans hn;obtain⟨w1,Yt,GH⟩:=avn (P:=C.P) h5 h4 mC h8 o1.type;have BB:Below w'.heap.size w' w1:=by rcases Yt with rfl|rfl;exact .refl _ _;exact⟨rfl,rfl,rfl,Nat.le_refl _,fun _ _=>rfl⟩
   have wR:w1.heap=w'.heap:=by rcases Yt with rfl|rfl<;>rfl
   have XS:kb<w'.heap.size:=(h.owns kb J h2).2.1;have nL:mb<w'.heap.size:=(h.owns mb J h3).2.1;refine wpIn_seq (wpIn_region ?_);rw[asQ];rcases GH with⟨NQ,ao⟩|⟨i,e,mG,tU,ao⟩
   ·
        refine xz iL g1 (by rw[q1];rfl) (v:=.tuple #[.bool false]) (w':=w1) (by simp only[execOp,q1,Gt];simp[ao]) ?_;rw[d1]
        refine xz dT g2 (by rw[q2];rfl) (v:=.bool false) (w':=w1) (by
         have:(a'.put (some p.nx) (.tuple #[.bool false])).eval (.tmp p.nx)=.tuple #[.bool false]:=by simp only[Act.eval];exact xF (by omega)
         simp only[execOp,q2,this];simp[Instr.extract]) ?_
        rw[d2];simp only[wpOpsIn]
        have ud:SameBut (fun t=>t∈ws) a' ((a'.put (some p.nx) (.tuple #[.bool false])).put (some p.mo) (.bool false)):=by
         have s1:=SameBut.put a' (some p.nx) (.tuple #[.bool false]) a'.defers;have s2:=SameBut.put (a'.put (some p.nx) (.tuple #[.bool false])) (some p.mo) (.bool false) (a'.put (some p.nx) (.tuple #[.bool false])).defers;exact(s1.mono fun t e=>by cases e;exact gS o1 (by rw[e1];simp) _ d1).trans (s2.mono fun t e=>by cases e;exact gS o2 (by rw[e1];simp) _ d2)
        generalize tK:(a'.put (some p.nx) (.tuple #[.bool false])).put (some p.mo) (.bool false)=a1 at ud;have N4:a1.eval (.tmp p.mo)=.bool false:=by
         rw[←tK];simp only[Act.eval];exact xF (by rw[size_put];omega)
        have mE:a1.defers=a'.defers:=by rw[←tK,put_defers,put_defers]
        refine wpIn_seq (wpIn_cond_false N4 (wpIn_exit ?_));have asj:(fF fy idx++[]).Perm (gl (.map fy)):=by
         rw[List.append_nil];exact aeV h7 (fun i hi=>by rw[h9];exact h8 i hi) (fun i hi=>NQ i (by omega))
        have Ys:=aP [] asj;simp only[mW,Option.some.injEq] at Ys;subst Ys;refine⟨_,_,hx0,n5,List.mem_singleton.2 rfl,jj.trans (ud.mono O0),?_⟩;refine⟨σ,own,hv,?_⟩
        refine h.step (S':=((qS.mask m).kill ids J).st ids) (ρ':=ρ.put [] [] lo vo) (A':=fun _=>False) (fun j=>j=J) mE (.refl σ) (h.ok.below BB) (fun _ _ _ hx=>.inl hx) (fun _ _ hx=>.inl hx) (BB.mono h.below.size) ⟨fun _=>Nat.le_refl _,fun _ _=>rfl⟩
         (fun j hj=>⟨by rw[Pc,if_neg hj],by simp[Env.setO,bo _ _ hj],rfl,fun b hb=>⟨hb,by rw[wR]⟩⟩) (fun j hj=>?_) (fun b j hb=>?_) (fun _=>id) (fun t=>?_) (fun _ hf=>hf.elim) (fun b hb _=>by rw[wR]) (fun b j hb=>.inl ⟨j,hb⟩) (fun j hj=>?_)
        ·rw[Pc,if_pos hj];trivial
        ·obtain⟨b1,b2,b3,b4⟩:=h.owns b j hb;exact⟨b1,by rw[wR];exact b2,b3,b4⟩
        ·by_cases ht:t∈ws
         ·refine .inr ⟨?_,fun gs s' e=>absurd e (Snap.noOpt _ _ t gs s')⟩;have:(((qS.mask m).kill ids J).st ids).r t=.none:=N2 t (qz t ht);rw[this];trivial
         ·exact .inl ⟨rfl,ud.get t ht,rfl⟩
        ·rw[Pc,if_pos hj];intro e;cases e
   ·
        obtain⟨pd,Ot⟩:∃pd,fy[i]?=some pd:=⟨_,List.getElem?_eq_getElem (by rw[h9];exact(Array.getElem?_eq_some_iff.1 mG).1)⟩
        obtain⟨bt,cq⟩:=qo i e pd mG Ot;generalize wS:({w1 with heap:=w1.heap.setIfInBounds kb (.mapIter (some mb) clock (fp arr (idx++[i])) clock)}:World)=w2 at ao;have Yu:w2.heap[kb]?=some (.mapIter (some mb) clock (fp arr (idx++[i])) clock):=by rw[←wS];simp[wR,XS]
        have wT:∀b,b≠kb→w2.heap[b]?=w'.heap[b]?:=fun b hb=>by rw[←wS];simp only[wR];rw[Array.getElem?_setIfInBounds_ne (Ne.symm hb)]
        have aGk:w2.heap.size=w'.heap.size:=by rw[←wS];simp[wR]
        have Yv:w2.heap[mb]?=some (.map arr clock):=by rw[wT mb (Ne.symm aD)];exact h4
        refine xz iL g1 (by rw[q1];rfl) (v:=.tuple #[.bool true,e.key,e.val]) (w':=w2) (by simp only[execOp,q1,Gt];simp[ao]) ?_;rw[d1]
        refine xz dT g2 (by rw[q2];rfl) (v:=.bool true) (w':=w2) (by
         have:(a'.put (some p.nx) (.tuple #[.bool true,e.key,e.val])).eval (.tmp p.nx)=.tuple #[.bool true,e.key,e.val]:=by simp only[Act.eval];exact xF (by omega)
         simp only[execOp,q2,this];simp[Instr.extract]) ?_
        rw[d2];simp only[wpOpsIn]
        have ud:SameBut (fun t=>t∈ws) a' ((a'.put (some p.nx) (.tuple #[.bool true,e.key,e.val])).put (some p.mo) (.bool true)):=by
         have s1:=SameBut.put a' (some p.nx) (.tuple #[.bool true,e.key,e.val]) a'.defers;have s2:=SameBut.put (a'.put (some p.nx) (.tuple #[.bool true,e.key,e.val])) (some p.mo) (.bool true) (a'.put (some p.nx) (.tuple #[.bool true,e.key,e.val])).defers;exact(s1.mono fun t e=>by cases e;exact gS o1 (by rw[e1];simp) _ d1).trans (s2.mono fun t e=>by cases e;exact gS o2 (by rw[e1];simp) _ d2)
        have XQ:(((a'.put (some p.nx) (.tuple #[.bool true,e.key,e.val])).put (some p.mo) (.bool true))).eval (.tmp p.it)=.pointer (some ⟨kb,0,none⟩):=by
         simp only[Act.eval] at Gt ⊢;rw[Ki n2,Ki n1];exact Gt
        generalize tK:(a'.put (some p.nx) (.tuple #[.bool true,e.key,e.val])).put (some p.mo) (.bool true)=a1 at ud XQ;have N4:a1.eval (.tmp p.mo)=.bool true:=by
         rw[←tK];simp only[Act.eval];exact xF (by rw[size_put];omega)
        have mE:a1.defers=a'.defers:=by rw[←tK,put_defers,put_defers]
        refine wpIn_seq (wpIn_cond_true N4 (wpIn_skip ?_));refine wpIn_block (wpIn_seq (wpIn_region ?_));rw[GU];refine xz ho3 g3 (by rw[q3];rfl) (v:=.tuple #[e.key,e.val]) (w':=w2) (by simp only[execOp,q3,XQ];simp[ane Yu Yv mC mG]) ?_;rw[d3]
        have Bx:SameBut (fun t=>t∈ws) a1 (a1.put (some p.pr) (.tuple #[e.key,e.val])):=
         (SameBut.put a1 (some p.pr) (.tuple #[e.key,e.val]) a1.defers).mono fun t e=>by cases e;exact cV o3 (by rw[e2];simp) _ d3
        have Ym:a1.tmps.size=n:=ud.size.trans pk;refine adw (kv:=e.key) (vv:=e.val) l [] p.aa 1 _ lR (by rw[e2];rfl) (fun x hx=>by rw[Bx.size,Ym];exact asp _ (List.mem_map.2 ⟨x,hx,rfl⟩)) (xF (by rw[Ym];exact nP)) (fun x hx=>by cases hx) (fun a2 dF cZ ash=>?_);have OF:SameBut (fun t=>t∈ws) a' a2:=(ud.trans Bx).trans (dF.mono fun t ⟨o,ho,hd⟩=>cV o ho t hd);have aq7:a2.defers=a'.defers:=by rw[cZ,put_defers,mE]
        have asN:Good C w0 σ0 (((qS.mask m).start (p.aa.map (·.1)) (p.aa.map fun x=>bif Nat.beq x.2 0 then kt else et)).st ids) ((ρ.put (p.aa.map (·.1)) ((p.aa.map (·.2)).map (D.tup [pd.1,pd.2]).tget) lo vo).setO J (.tup [.list (fF fy idx++[.tup [pd.1,pd.2]]),.map fy])) (fun _=>False) a2 w2:=by
         have AV:Below w0.heap.size w' w2:=⟨by rw[←wS];exact BB.os,by rw[←wS];exact BB.tape,by rw[←wS];exact BB.output,by omega,fun b hb=>wT b (fun e=>by subst e;have:=(h.owns b J h2).1;omega)⟩
         have iM:σ.ok w2:=by
          refine⟨fun b o v hc=>?_,fun b es hc=>?_⟩
          ·have NC:b≠kb:=fun e=>by subst e;rw[(h.owns b J h2).2.2.1 o] at hc;cases hc
           have:=h.ok.c b o v hc;simp only[World.cell?] at this ⊢;rw[wT b NC];exact this
          ·have NC:b≠kb:=fun e=>by subst e;rw[(h.owns b J h2).2.2.2] at hc;cases hc
           exact(h.ok.m b es hc).keep (wT b NC)
         have fC:∀j,((ρ.put (p.aa.map (·.1)) ((p.aa.map (·.2)).map (D.tup [pd.1,pd.2]).tget) lo vo).setO J (.tup [.list (fF fy idx++[.tup [pd.1,pd.2]]),.map fy])).o j=if j=J then .tup [.list (fF fy idx++[.tup [pd.1,pd.2]]),.map fy] else putL ρ.o lo vo j:=fun j=>by
          simp only[Env.setO,fq];rfl
         refine⟨σ,own,hv,h.step (fun j=>j=J) aq7 (.refl σ) iM (fun _ _ _ hx=>.inl hx) (fun _ _ hx=>.inl hx) AV ⟨fun _=>Nat.le_refl _,fun _ _=>rfl⟩
          (fun j hj=>⟨rfl,by rw[fC,if_neg hj];simp[Env.setO,bo _ _ hj,Env.put],rfl,fun b hb=>⟨hb,wT b (fun e=>by subst e;rw[h2] at hb;cases hb;exact hj rfl)⟩⟩) (fun j hj=>?_) (fun b j hb=>?_) (fun _=>id) (fun t=>?_) (fun _ hf=>hf.elim)
          (fun b hb ho=>wT b (fun e=>by subst e;rw[h2] at ho;cases ho)) (fun b j hb=>.inl ⟨j,hb⟩) (fun j hj=>?_)⟩
         ·subst hj;have:(((qS.mask m).start (p.aa.map (·.1)) (p.aa.map fun x=>bif Nat.beq x.2 0 then kt else et)).st ids).o j=.it kt et:=GJ;rw[this];refine⟨kb,mb,arr,clock,fy,idx++[i],h1,h2,h3,aD,Yv,Yu,by rw[fC,if_pos rfl,aeW fy idx Ot],?_,?_,h9,mC,qo⟩
          ·rw[List.nodup_append];exact⟨h7,by simp,fun a ha b hb e=>by simp at hb;subst hb;subst e;exact tU ha⟩
          ·intro i' cU;rcases List.mem_append.1 cU with h|h
           ·exact h8 i' h
           ·simp at h;subst h;exact(Array.getElem?_eq_some_iff.1 mG).1
         ·obtain⟨b1,b2,b3,b4⟩:=h.owns b j hb;exact⟨b1,by omega,b3,b4⟩
         ·have hc:Compat ((qS.mask m).st ids) hv (((qS.mask m).start (p.aa.map (·.1)) (p.aa.map fun x=>bif Nat.beq x.2 0 then kt else et)).st ids) hv:=⟨fun _=>Nat.le_refl _,fun _ _=>rfl⟩
          refine .inr ⟨?_,fun gs s' e=>absurd e (Snap.noOpt _ _ t gs s')⟩;show aK C _ _ σ hv (bZ ((pJ (p.aa.map (·.1)) (p.aa.map fun x=>bif Nat.beq x.2 0 then kt else et) ((qS.mask m).rs.map qs)).getD t .none)) (a2.tmps.getD t undef) (putL ρ.r (p.aa.map (·.1)) ((p.aa.map (·.2)).map (D.tup [pd.1,pd.2]).tget) t);rcases Sj (p.aa.map (·.1)) (p.aa.map fun x=>bif Nat.beq x.2 0 then kt else et) ((qS.mask m).rs.map qs) (by simp) c4 t with e|⟨vU,rj⟩|⟨i',y,vU,rj,MT⟩
          ·rw[e];trivial
          ·rw[rj,xE _ _ _ _ vU];have e3:((qS.mask m).rs.map qs).getD t .none=qs ((qS.mask m).rs.getD t .none):=by
            simp only[List.getD_eq_getElem?_getD,List.getElem?_map];cases(qS.mask m).rs[t]?<;>rfl
           rw[e3];by_cases Yo:t∈ws
           ·have wJ:=N2 t (qz t Yo);change bZ ((qS.mask m).rs.getD t .none)=.none at wJ;generalize (qS.mask m).rs.getD t .none=s' at wJ;cases s'<;>simp[bZ] at wJ<;>trivial
           ·have hr:=h.regs t;change aK C _ _ σ hv (bZ ((qS.mask m).rs.getD t .none)) _ (ρ.r t) at hr;rw[OF.get t Yo];generalize (qS.mask m).rs.getD t .none=s' at hr;cases s' with
            |yv=>trivial
            |opt gs s=>trivial
            |none=>trivial
            |fclo f c=>exact aK.mono' (.refl σ) hc (fun _ _ e=>by cases e) hr
            |dat t=>exact hr
            |obj j v=>exact aK.mono' (.refl σ) hc (fun _ _ e=>by cases e) hr
            |ptr j v o=>exact aK.mono' (.refl σ) hc (fun _ _ e=>by cases e) hr
            |eptr j v o q=>exact aK.mono' (.refl σ) hc (fun _ _ e=>by cases e) hr
          ·rw[MT];have arx:i'<p.aa.length:=by have:=(List.getElem?_eq_some_iff.1 vU).1;simpa using this
           rw[QP _ (p.aa.map (·.1)) _ i' t (l7 c4) (by simp) vU];obtain⟨xa,kP⟩:∃xa,p.aa[i']?=some xa:=⟨_,List.getElem?_eq_getElem arx⟩
           simp only[List.getElem?_map,kP,Option.map_some,Option.some.injEq] at vU rj;subst vU;subst rj;rw[ash xa (List.mem_of_getElem? kP)];have hd:((p.aa.map (·.2)).map (D.tup [pd.1,pd.2]).tget).getD i' .none=(D.tup [pd.1,pd.2]).tget xa.2:=by simp[List.getD_eq_getElem?_getD,kP]
           rw[hd];have h2x:xa.2≤1:=by
            rcases QC l lR (fun x hx=>by cases hx) xa (List.mem_of_getElem? kP) with h|h
            ·cases h
            ·exact h.1
           rcases(by omega:xa.2=0∨xa.2=1) with e0|e0<;>rw[e0]
           ·exact bt
           ·exact cq
         ·have:(((qS.mask m).start (p.aa.map (·.1)) (p.aa.map fun x=>bif Nat.beq x.2 0 then kt else et)).st ids).o j=.it kt et:=by rw[hj];exact GJ
          rw[this];intro e;cases e
        have asi:=aeW fy idx Ot;obtain⟨rest,rL⟩:∃rest,(fF fy idx++(D.tup [pd.1,pd.2])::rest).Perm (gl (.map fy)):=by
         obtain⟨rest,hr⟩:=axY (es:=fy) (idx:=idx++[i]) (by rw[List.nodup_append];exact⟨h7,by simp,fun a ha b hb e=>by simp at hb;subst hb;subst e;exact tU ha⟩) (fun i' cU=>by
          rcases List.mem_append.1 cU with h|h
          ·rw[h9];exact h8 i' h
          ·simp at h;subst h;rw[h9];exact(Array.getElem?_eq_some_iff.1 mG).1)
         rw[asi] at hr;exact⟨rest,by simpa using hr⟩
        have iI:=aP _ rL;simp only[mW] at iI;split at iI
        case h_2=>cases iI
        rename_i ρ2 Gi;obtain⟨xi,dj⟩:=VO Gi;refine wpIn_mono (ihc rm _ q0 ua rd w0 σ0 wr _ xi a2 w2 fD hC hY (fun t ht=>O0 t (hwc t ht)) (OF.size.trans pk) asN dj) fun ee a3 w3 fC=>?_;have ji:=VQ n6 (rh code ua) dj Gi fC;have conv:∀ee a3 w3,fI C w0 σ0 ids fn s rm wr a2 (fw ids p.next q0).out (fw ids p.next q0).ex (.next ρ2) ee a3 w3→Exit.then (Code.roundsIn (FR rd) 0 C.P (.seq (.region i1 p.ops1 false) (.seq (.cond (.tmp p.mo) .skip (.exit p.out)) (.block p.next (.seq (.region i2 p.ops2 false) code)))) (fI C w0 σ0 ids fn s rm wr a none [(p.out,(qS.mask m).kill ids J)] x0) kk) (fI C w0 σ0 ids fn s rm wr a none [(p.out,(qS.mask m).kill ids J)] x0) ee a3 w3:=by
         intro ee a3 w3 ho;cases ee with
         |normal=>
          obtain⟨ρ3,T,f1,f2,f3,f4⟩:=ho;cases f1;refine ih (fF fy idx++[.tup [pd.1,pd.2]]) (lo.map ρ2.o) a3 w3 (jj.trans ((OF.mono O0).trans f3)) ?_ (fun ys uo=>?_) (by simp at hlen ⊢;omega)
          ·have qq:Good C w0 σ0 (qS.st ids) ρ2 (fun _=>False) a3 w3:=by
            have:=f4.meet2 (x:=qS)
            rwa [wA T f2] at this
           obtain⟨σ3,uM,Bz,dx⟩:=qq;have NF:=PC.ev_but _ _ _ ρ2 Gi rfl;refine⟨σ3,uM,Bz,(dx.maskR m).env (Snap.noOpt _ _) (fun t ht=>?_) (fun j hj=>?_)⟩
           ·have wJ:=arV t ht
            have cP:t∉(fw ids p.next q0).pc.modR:=fun dC=>by
                 have:=N5.1 t dC;have h2:av (Nat.lor m (fw ids p.next q0).mr) t=true:=by rw[eA,this,Bool.or_true]
                 rw[Bh,wJ] at h2;cases h2
            rw[NF.r t cP]
            have oZ:t∉p.aa.map (·.1):=fun aR=>by
                 have:av m t=true:=by
                  refine qz t ?_;obtain⟨xa,kP,rfl⟩:=List.mem_map.1 aR;rcases QC l lR (fun x hx=>by cases hx) xa kP with h|⟨_,o,ho,hd⟩
                  ·cases h
                  ·exact cV o (by rw[e2];exact List.mem_cons_of_mem _ ho) _ hd
                 rw[wJ] at this;cases this
            show ρ.r t=putL ρ.r (p.aa.map (·.1)) _ t;rw[xE _ _ _ _ oZ]
           ·have hjd:mP (cX ids qS.os j)=false:=hj;show bQ (putL ρ.o lo (lo.map ρ2.o)) J _ j=ρ2.o j;by_cases wE:j=J
            ·subst wE;rw[aQ,NF.o j (fun dC=>Xa (N5.2 j dC))];simp[Env.setO,aQ]
            ·rw[bo _ _ wE,qN];split
             ·rfl
             ·rename_i fh;have cP:j∉(fw ids p.next q0).pc.modO:=fun dC=>fh (by rw[←nK];exact List.mem_filter.2 ⟨N5.2 j dC,by rw[hjd];rfl⟩);rw[NF.o j cP];simp only[Env.setO,bo _ _ wE];exact(QQ _ _ _ _ fh).symm
          ·have:=aP ((D.tup [pd.1,pd.2])::ys) (by simpa using uo);simp only[mW,Gi] at this;exact this
         |exit id=>obtain⟨ρ3,T,f1,_⟩:=ho;cases f1
         |ret=>
          cases rm with
          |false=>obtain⟨d,f1,_⟩:=ho;cases f1
          |true=>obtain⟨ρ3,T,f1,_⟩:=ho;cases f1
         |_=>exact ho.elim
        cases ee with
        |exit id=>
         simp only[Exit.inBlock] at ji;show if id=p.next then _ else _;split
         ·rename_i cj;rw[if_pos cj] at ji;exact conv .normal a3 w3 ji
         ·rename_i cj;rw[if_neg cj] at ji;exact conv (.exit id) a3 w3 ji
        |normal=>exact conv .normal a3 w3 ji
        |ret=>exact conv .ret a3 w3 ji
        |panic c=>exact fC.elim
        |goto l=>exact fC.elim
        |_=>exact fC.elim
 have hgq:Good C w0 σ0 (qS.st ids) ρ (fun _=>False) a w:=bA hg;obtain⟨σ,own,hv,h⟩:=hgq;have bk:=h.objs J;have:(qS.st ids).o J=.it kt et:=GJ;rw[this] at bk;obtain⟨kb,mb,arr,clock,fy,idx,h1,h2,h3,aD,h4,h5,h6,h7,h8,h9,mC,qo⟩:=bk;have hρJ:ρ.o J=.tup [.list [],es]:=by
  rw[h6] at Bn gO;simp[D.tget] at Bn gO;rw[h6,Bn,←gO]
 have tR:(ρ.put [] [] lo (lo.map ρ.o)).setO J (.tup [.list [],es])=ρ:=by
  rw[Env.put_self];show Env.mk _ _=_;have:bQ ρ.o J (.tup [.list [],es])=ρ.o:=by
   funext j;rw[fq];split
   ·rename_i e;rw[e];exact hρJ.symm
   ·rfl
  rw[this]
 exact wpIn_loop_rounds _ (key ((gl es).length+1) [] (lo.map ρ.o) a w (.refl _ _) (by rw[tR];exact⟨σ,own,hv,h.maskR m⟩) (fun ys uo=>aqD ys uo) (by simp))
theorem alV {N:Nat}(eR:fu C Φ)(hR:LM C n ids Φ R):∀(k:Nat) (c:Code),sizeOf c<k→sX C Φ fn s n ids R N c:=by
 intro k;refine Nat.rec (fun c h=>absurd h (Nat.not_lt_zero _)) (fun k IH=>?_) k;intro c hc;cases c with
 |skip=>
  intro rm S r h rd w0 σ0 wr ρ x a w fD hC hY gi hn hg he;simp only[comp,Option.some.injEq] at h;subst h;simp only[PC.ev,Option.some.injEq] at he;subst he;exact wpIn_skip ⟨ρ,S,rfl,rfl,.refl _ _,hg⟩
 |region id ops draw=>
  intro rm S r h rd w0 σ0 wr ρ x a w fD hC hY gi hn hg he;simp only[comp,Option.map_eq_some_iff] at h;obtain⟨q,hq,rfl⟩:=h;simp only[PC.ev,Option.map_eq_some_iff] at he;obtain⟨ρ',hr,rfl⟩:=he;exact hR id ops draw S q hq rd w0 σ0 ρ ρ' a w _ hC hY hn hg hr (fun a' w' dU eT=>⟨ρ',q.1,rfl,rfl,dU.mono (fun t ⟨o,h1,h2⟩=>gi t (List.mem_filterMap.2 ⟨o,h1,h2⟩)),eT⟩)
 |seq c1 c2=>
  have rU:=IH c1 (by simp at hc;omega);have kR:=IH c2 (by simp at hc;omega);intro rm S r h rd w0 σ0 wr ρ x a w fD hC hY gi hn hg he;have gS:∀t,t∈bX c1→wr t:=fun t ht=>gi t (List.mem_append_left _ ht);have cV:∀t,t∈bX c2→wr t:=fun t ht=>gi t (List.mem_append_right _ ht);simp only[comp,Option.bind_eq_some_iff] at h;obtain⟨q,hq,h⟩:=h;split at h
  ·rename_i jh;cases h;refine wpIn_seq (wpIn_mono (rU rm S _ hq rd w0 σ0 wr ρ x a w fD hC hY gS hn hg he) fun e a' w' ho=>?_);cases e with
   |normal=>obtain⟨_,_,_,h2,_⟩:=ho;rw[jh] at h2;cases h2
   |_=>exact ho
  ·rename_i S1 jh;simp only[Option.map_eq_some_iff] at h;obtain⟨p,hp,rfl⟩:=h;simp only[PC.ev] at he
   have key:∀x1,q.pc.ev Φ N ρ=some x1→(match some x1 with|some (.next ρ')=>p.pc.ev Φ N ρ'|y=>y)=some x→(Code.seq c1 c2).wpIn (FR rd) 0 C.P (fI C w0 σ0 ids fn s rm wr a p.out (q.ex++p.ex) x) a w:=by
      intro x1 h1 h2;refine wpIn_seq (wpIn_mono (rU rm S _ hq rd w0 σ0 wr ρ x1 a w fD hC hY gS hn hg h1) fun e a' w' ho=>?_);have other:∀{e:Exit},e≠.normal→fI C w0 σ0 ids fn s rm wr a q.out q.ex x1 e a' w'→x1=x→fI C w0 σ0 ids fn s rm wr a p.out (q.ex++p.ex) x e a' w':=by
       intro e aD ho hx;subst hx;exact ho.mono (fun y hy=>List.mem_append_left _ hy) (.refl _ _) (fun e=>absurd e aD)
      cases e with
      |normal=>
       obtain⟨ρ1,S2,e1,e2,dF,fL⟩:=ho;subst e1;rw[jh] at e2;cases e2;simp only at h2;refine wpIn_mono (kR rm S1 _ hp rd w0 σ0 wr ρ1 x a' w' fD hC hY cV (dF.size.trans hn) fL h2) fun e a2 w2 dT=>?_;exact dT.mono (fun y hy=>List.mem_append_right _ hy) dF (fun _=>rfl)
      |exit id=>
       refine other (by simp) ho ?_;obtain⟨ρ1,S2,e1,_⟩:=ho;subst e1;simpa using h2
      |ret=>
       refine other (by simp) ho ?_;cases rm with
       |false=>obtain⟨d,e1,_⟩:=ho;subst e1;simpa using h2
       |true=>obtain⟨ρ1,S2,e1,_⟩:=ho;subst e1;simpa using h2
      |_=>exact ho.elim
   cases h1:q.pc.ev Φ N ρ with
   |none=>rw[h1] at he;simp at he
   |some x1=>rw[h1] at he;exact key x1 h1 he
 |cond c c1 c2=>
  have rU:=IH c1 (by simp at hc;omega);have kR:=IH c2 (by simp at hc;omega);intro rm S r h rd w0 σ0 wr ρ x a w fD hC hY gi hn hg he;have gS:∀t,t∈bX c1→wr t:=fun t ht=>gi t (List.mem_append_left _ ht);have cV:∀t,t∈bX c2→wr t:=fun t ht=>gi t (List.mem_append_right _ ht);simp only[comp] at h;split at h
  case h_2=>cases h;exact absurd he (lg _ _ _ _)
  rename_i e hu;simp only[Option.bind_eq_some_iff,Option.map_eq_some_iff] at h;obtain⟨q,hq,p,hp,rfl⟩:=h;have hb:∃b,a.eval c=.bool b∧e.ev ρ=.v (.bool b):=by
   obtain⟨σ,own,hv,hi⟩:=hg;have:=bR (gs:=[]) hi hC rfl hu;generalize a.eval c=v at this;generalize e.ev ρ=d at this;cases this with|bool b=>exact⟨b,rfl,rfl⟩
  obtain⟨b,iI,dh⟩:=hb;have oY:=rh c1 hq;have Bg:=rh c2 hp;have main:∀(o:Option Snap) (lr lo:List Nat) (rx:Res2),rx=⟨.ite e lr lo q.pc p.pc,o,q.ex++p.ex,Nat.lor q.mr p.mr,ic q.mo p.mo⟩→
        (∀M,o=some M→lr=jt M (Nat.lor q.mr p.mr)∧lo=gV ids M (ic q.mo p.mo))→
        (∀S1 ρ1 a w,q.out=some S1→Good C w0 σ0 (S1.st ids) ρ1 (fun _=>False) a w→∃M,o=some M∧Good C w0 σ0 (M.st ids) ρ1 (fun _=>False) a w)→
        (∀S1 ρ1 a w,p.out=some S1→Good C w0 σ0 (S1.st ids) ρ1 (fun _=>False) a w→∃M,o=some M∧Good C w0 σ0 (M.st ids) ρ1 (fun _=>False) a w)→
        rx.pc.ev Φ N ρ=some x→(Code.cond c c1 c2).wpIn (FR rd) 0 C.P (fI C w0 σ0 ids fn s rm wr a rx.out rx.ex x) a w:=by
   intro o lr lo rx hrx hl ph lR bF;subst hrx;simp only[PC.ev,dh,D.b_bool] at bF;have fin:∀(ci:Code) (qi:Res2) (xi:Out),(∀y,y∈qi.ex→y∈q.ex++p.ex)→(∀t,t∈qi.pc.modR→av (Nat.lor q.mr p.mr) t=true)→(∀j,j∈qi.pc.modO→j∈ic q.mo p.mo)→
    (∀S1 ρ1 a w,qi.out=some S1→Good C w0 σ0 (S1.st ids) ρ1 (fun _=>False) a w→∃M,o=some M∧Good C w0 σ0 (M.st ids) ρ1 (fun _=>False) a w)→
    qi.pc.ev Φ N ρ=some xi→(match some xi with|some (.next ρ')=>some (Out.next (ρ.join lr lo ρ'))|y=>y)=some x→
    ci.wpIn (FR rd) 0 C.P (fI C w0 σ0 ids fn s rm wr a qi.out qi.ex xi) a w→ci.wpIn (FR rd) 0 C.P (fI C w0 σ0 ids fn s rm wr a o (q.ex++p.ex) x) a w:=by
        intro ci qi xi hex gz nQ jh dj hx hwp;refine wpIn_mono hwp fun ee a' w' ho=>?_;have other:ee≠.normal→xi=x→fI C w0 σ0 ids fn s rm wr a o (q.ex++p.ex) x ee a' w':=by
         intro aD jk;subst jk;exact ho.mono hex (.refl _ _) (fun e=>absurd e aD)
        cases ee with
        |normal=>
         obtain⟨ρ1,S2,e1,e2,dF,fL⟩:=ho;subst e1;simp only[Option.some.injEq] at hx;subst hx;obtain⟨M,hM,qq⟩:=jh S2 ρ1 a' w' e2 fL;obtain⟨l1,l2⟩:=hl M hM;subst l1 l2;exact⟨_,M,rfl,hM,dF,qq.joined (PC.ev_but qi.pc ρ _ ρ1 dj rfl) gz nQ⟩
        |exit id=>
         refine other (by simp) ?_;obtain⟨ρ1,S2,e1,_⟩:=ho;subst e1;simpa using hx
        |ret=>
         refine other (by simp) ?_;cases rm with
         |false=>obtain⟨d,e1,_⟩:=ho;subst e1;simpa using hx
         |true=>obtain⟨ρ1,S2,e1,_⟩:=ho;subst e1;simpa using hx
        |_=>exact ho.elim
   refine wpIn_cond iI ?_;cases b with
   |true=>
    simp only[cond_true] at bF;cases dj:q.pc.ev Φ N ρ with
    |none=>rw[dj] at bF;simp at bF
    |some xi=>
     rw[dj] at bF;refine fin c1 q xi (fun y hy=>List.mem_append_left _ hy) (fun t ht=>?_) (fun j hj=>nV.2 (.inl (oY.2 j hj))) ph dj bF (rU rm S _ hq rd w0 σ0 wr ρ xi a w fD hC hY gS hn hg dj);rw[eA,oY.1 t ht];rfl
   |false=>
    simp only[cond_false] at bF;cases dj:p.pc.ev Φ N ρ with
    |none=>rw[dj] at bF;simp at bF
    |some xi=>
     rw[dj] at bF;refine fin c2 p xi (fun y hy=>List.mem_append_right _ hy) (fun t ht=>?_) (fun j hj=>nV.2 (.inr (Bg.2 j hj))) lR dj bF (kR rm S _ hp rd w0 σ0 wr ρ xi a w fD hC hY cV hn hg dj);rw[eA,Bg.1 t ht,Bool.or_true]
  have ph:∀S1 ρ1 a w,q.out=some S1→Good C w0 σ0 (S1.st ids) ρ1 (fun _=>False) a w→∃M,kU q.out p.out=some M∧Good C w0 σ0 (M.st ids) ρ1 (fun _=>False) a w:=by
   intro S1 ρ1 a w e1 g1;rw[e1];obtain⟨M,hM⟩:=@ZA S1 p.out;exact⟨M,hM,Zy g1 hM⟩
  have lR:∀S1 ρ1 a w,p.out=some S1→Good C w0 σ0 (S1.st ids) ρ1 (fun _=>False) a w→∃M,kU q.out p.out=some M∧Good C w0 σ0 (M.st ids) ρ1 (fun _=>False) a w:=by
   intro S1 ρ1 a w e1 g1;rw[e1];obtain⟨M,hM⟩:=@ZB q.out S1;exact⟨M,hM,Zz g1 hM⟩
  cases hm:kU q.out p.out with
  |none=>
   rw[hm] at ph lR;simp only[hm] at he ⊢;exact main none [] [] _ rfl (fun M e=>by cases e) ph lR he
  |some M=>
   rw[hm] at ph lR;simp only[hm] at he ⊢;exact main (some M) _ _ _ rfl (fun M' e=>by cases e;exact⟨rfl,rfl⟩) ph lR he
 |block id c1=>
  have rU:=IH c1 (by simp at hc;omega);intro rm S r h rd w0 σ0 wr ρ x a w fD hC hY gi hn hg he;simp only[comp] at h;cases cj:Nat.beq id ct<;>simp only[cj,cond_true,cond_false] at h
  case true=>cases h;exact absurd he (lg _ _ _ _)
  have Gs:id≠ct:=fun e=>by subst e;simp at cj
  simp only[Option.map_eq_some_iff] at h;obtain⟨q,hq,rfl⟩:=h;obtain⟨xi,dj⟩:=VO he;exact wpIn_block (wpIn_mono (rU rm S _ hq rd w0 σ0 wr ρ xi a w fD hC hY gi hn hg dj) fun e a' w' fC=>VQ Gs (rh c1 hq) dj he fC)
 |loop c1=>
  have rU:=IH c1 (by simp at hc;omega);intro rm S r h rd w0 σ0 wr ρ x a w fD hC hY gi hn hg he;rw[Wb] at h;split at h
  ·rename_i qb Bs;obtain⟨p,code,ws⟩:=qb;unfold uA at Bs;split at Bs
   case h_2=>cases Bs
   rename_i cx cy ck cz cc;simp only[Option.map_eq_some_iff] at Bs;obtain⟨p',aR,ep⟩:=Bs;cases ep;exact au1 aR (IH _ (by simp at hc;omega)) h fD hC hY gi hn hg he
  split at h
  case h_2=>cases h;exact absurd he (lg _ _ _ _)
  rename_i q hq;cases h;obtain⟨hs,wA,bA⟩:=BI (C:=C) (w0:=w0) (σ0:=σ0) (ids:=ids) 8 hq;have oY:=rh c1 hs;simp only[PC.ev] at he
  have tT:Good C w0 σ0 (q.1.st ids) (ρ.put (jt q.1 q.2.mr) ((jt q.1 q.2.mr).map ρ.r) (gV ids q.1 q.2.mo) ((gV ids q.1 q.2.mo).map ρ.o)) (fun _=>False) a w:=by
   exact Good.joined (bA hg) (.refl ρ q.2.pc.modR q.2.pc.modO) oY.1 oY.2
  have key:∀(k:Nat) (ρ1:Env) (a':Act) (w:World),SameBut wr a a'→gj (q.2.pc.ev Φ N) ρ (jt q.1 q.2.mr) (gV ids q.1 q.2.mo) k ((jt q.1 q.2.mr).map ρ1.r) ((gV ids q.1 q.2.mo).map ρ1.o)=some x→
        Good C w0 σ0 (q.1.st ids) (ρ.join (jt q.1 q.2.mr) (gV ids q.1 q.2.mo) ρ1) (fun _=>False) a' w→Code.roundsIn (FR rd) 0 C.P c1 (fI C w0 σ0 ids fn s rm wr a none q.2.ex x) k a' w:=by
   intro k
   induction k with
   |zero=>intro ρ1 a' w hn hl hg;simp[gj] at hl
   |succ k ih=>
    intro ρ1 a' w jj hl hg;rw[roundsIn_succ];simp only[gj] at hl;change (match q.2.pc.ev Φ N (ρ.join (jt q.1 q.2.mr) (gV ids q.1 q.2.mo) ρ1) with|some (.next ρ')=>_|y=>y)=some x at hl;cases dj:q.2.pc.ev Φ N (ρ.join (jt q.1 q.2.mr) (gV ids q.1 q.2.mo) ρ1) with
    |none=>rw[dj] at hl;simp at hl
    |some xi=>
     rw[dj] at hl;refine wpIn_mono (rU rm _ _ hs rd w0 σ0 wr _ xi a' w fD hC hY gi (jj.size.trans hn) hg dj) fun e a2 w' fC=>?_;have other:e≠.normal→xi=x→fI C w0 σ0 ids fn s rm wr a none q.2.ex x e a2 w':=by
         intro aD jk;subst jk;exact fC.mono (fun y hy=>hy) jj (fun e=>absurd e aD)
     cases e with
     |normal=>
      obtain⟨ρ2,S2,e1,e2,dF,fL⟩:=fC;subst e1;simp only at hl;refine ih ρ2 a2 w' (jj.trans dF) hl ?_
      have qq:Good C w0 σ0 (q.1.st ids) ρ2 (fun _=>False) a2 w':=by
       have:=fL.meet2 (x:=q.1)
       rwa [wA S2 e2] at this
      refine qq.joined (mr':=jt q.1 q.2.mr++q.2.pc.modR) (mo':=gV ids q.1 q.2.mo++q.2.pc.modO) ?_ (fun t ht=>?_) (fun j hj=>?_)
      ·exact((Env.but.join ρ ρ1 _ _).mono (fun t ht=>List.mem_append_left _ ht) (fun t ht=>List.mem_append_left _ ht)).trans
        ((PC.ev_but q.2.pc _ _ ρ2 dj rfl).mono (fun t ht=>List.mem_append_right _ ht) (fun t ht=>List.mem_append_right _ ht))
      ·exact(List.mem_append.1 ht).elim Hb (oY.1 t)
      ·exact(List.mem_append.1 hj).elim xb (oY.2 j)
     |exit id=>
      refine other (by simp) ?_;obtain⟨ρ1,S2,e1,_⟩:=fC;subst e1;simpa using hl
     |ret=>
      refine other (by simp) ?_;cases rm with
      |false=>obtain⟨d,e1,_⟩:=fC;subst e1;simpa using hl
      |true=>obtain⟨ρ1,S2,e1,_⟩:=fC;subst e1;simpa using hl
     |_=>exact fC.elim
  exact wpIn_loop_rounds N (key N ρ a w (.refl _ _) he tT)
 |exit id=>
  intro rm S r h rd w0 σ0 wr ρ x a w fD hC hY gi hn hg he;simp only[comp] at h;cases cj:Nat.beq id ct<;>simp only[cj,cond_true,cond_false] at h
  case true=>cases h;exact absurd he (lg _ _ _ _)
  cases h;simp only[PC.ev,Option.some.injEq] at he;subst he;exact wpIn_exit ⟨ρ,S,rfl,fun e=>by subst e;simp at cj,by simp,.refl _ _,hg⟩
 |ret=>
  intro rm S r h rd w0 σ0 wr ρ x a w fD hC hY gi hn hg he;simp only[comp] at h;cases rm<;>simp only[cond_true,cond_false] at h
  case true=>
   cases h;simp only[PC.ev,Option.some.injEq] at he;subst he;exact wpIn_ret ⟨ρ,S,rfl,by simp,.refl _ _,hg⟩
  split at h
  ·rename_i e OD;cases h;simp only[PC.ev,Option.some.injEq] at he;subst he;obtain⟨σ,own,hv,hi⟩:=hg;exact wpIn_ret ⟨_,rfl,Inv.retD hC (fun _=>rfl) (fD rfl).2 OD _ hi rfl,.refl _ _⟩
  ·cases h;exact absurd he (lg _ _ _ _)
 |rangeFunc g ps ca cb=>exact axd eR (IH ca (by simp at hc;omega)) (IH cb (by simp at hc;omega))
 |_=>intro rm S r h rd w0 σ0 wr ρ x a w fD hC hY gi hn hg he;simp only[comp,Option.some.injEq] at h;subst h;exact absurd he (lg _ _ _ _)
theorem alU {N:Nat}(eR:fu C Φ)(hR:LM C n ids Φ R)(c:Code):sX C Φ fn s n ids R N c:=alV eR hR _ c (Nat.lt_succ_self _)
end
end Cx
