/-
  Code: sequences, choices, blocks, loops.
-/
import Derived.LoopNIn
import Derived.Test.YtodhjdbleiakeaaGreatDoorLAE
import Derived.LoopN
set_option linter.unusedSimpArgs false
set_option linter.unusedVariables false
namespace Cx
open Go Go.RowKit
def ar (m t:Nat):Bool:= !Nat.beq (Nat.land 1 (Nat.shiftRight m t)) 0
theorem oG (m t:Nat):ar m t=m.testBit t:=by
 unfold ar Nat.testBit;show(!Nat.beq (1&&& (m>>>t)) 0)=((1&&& (m>>>t))!=0)
 generalize 1&&& (m>>>t)=x;cases x<;>rfl
def dc (t:Nat):Nat:=Nat.shiftLeft 1 t
theorem nq (t:Nat):ar (dc t) t=true:=by
 rw[oG];show(1<<<t).testBit t=true;simp[Nat.testBit_shiftLeft]
theorem dU (m k t:Nat):ar (Nat.lor m k) t=(ar m t||ar k t):=by
 simp only[oG];exact Nat.testBit_or m k t
def PI.mask:PI→Nat
 |.setR t _=>dc t|.call _ t _ _=>dc t|.callc _ t _ _=>dc t|_=>0
def EX:List PI→Nat
 |[]=>0
 |p::l=>Nat.lor p.mask (EX l)
def PI.objs:PI→List Nat
 |.setO j _=>[j]|.mcall j _ _=>[j]|_=>[]
def eg (l:List Nat)(x:Nat):Bool:=l.any (Nat.beq x)
def gK (a b:List Nat):List Nat:=a.foldl (fun acc x=>bif eg acc x then acc else x::acc) b
def YG (l:List PI):List Nat:=l.foldl (fun acc p=>gK p.objs acc) []
theorem mQ (l:List Nat)(x:Nat):eg l x=true↔x∈l:=by
 unfold eg;rw[List.any_eq_true];constructor
 ·rintro⟨y,hy,h⟩;rw[Nat.eq_of_beq_eq_true h];exact hy
 ·intro h;exact⟨x,h,Nat.beq_refl x⟩
theorem mR {x:Nat}:∀{a b:List Nat},x∈gK a b↔x∈a∨x∈b
 |[],b=>by simp[gK]
 |y::a,b=>by
  have ih:=@mR x a (bif eg b y then b else y::b);have e:gK (y::a) b=gK a (bif eg b y then b else y::b):=rfl;rw[e,ih];cases hb:eg b y
  ·simp[or_assoc,or_left_comm]
  ·have:=(mQ b y).1 hb;simp only[cond_true,List.mem_cons];constructor
   ·rintro(h|h)
    ·exact .inl (.inr h)
    ·exact .inr h
   ·rintro((h|h)|h)
    ·subst h;exact .inr this
    ·exact .inl h
    ·exact .inr h
theorem arL {x:Nat}(l:List PI)(h:x∈l.flatMap PI.modO):x∈YG l:=by
 have key:∀(l:List PI) (acc:List Nat),(x∈l.flatMap PI.modO∨x∈acc)→x∈l.foldl (fun acc p=>gK p.objs acc) acc:=by
  intro l
  induction l with
  |nil=>intro acc h;simpa using h
  |cons p l ih=>
   intro acc h;refine ih _ ?_;rw[List.flatMap_cons,List.mem_append] at h;rcases h with(h|h)|h
   ·refine .inr (mR.2 (.inl ?_));cases p<;>simp_all [PI.modO,PI.objs]
   ·exact .inl h
   ·exact .inr (mR.2 (.inr h))
 exact key l [] (.inl h)
theorem WS {t:Nat}:∀(l:List PI),t∈l.flatMap PI.modR→ar (EX l) t=true
 |[],h=>by simp at h
 |p::l,h=>by
  rw[List.flatMap_cons,List.mem_append] at h;simp only[EX,dU,Bool.or_eq_true];rcases h with h|h
  ·left;cases p<;>simp[PI.modR] at h<;>subst h<;>exact nq _
  ·exact .inr (WS l h)
structure Res2 where
 pc:PC
 out:Option Snap
 ex:List (Nat×Snap)
 mr:Nat
 mo:List Nat
 deriving Inhabited
def kj:Option Snap→Option Snap→Option Snap
 |none,x=>x
 |x,none=>x
 |some a,some b=>some (a.meet b)
def lP (id:Nat):List (Nat×Snap)→Option Snap→Option Snap
 |[],acc=>acc
 |x::l,acc=>lP id l (bif Nat.beq x.1 id then kj acc (some x.2) else acc)
def iter (step:Snap→Option Res2):Nat→Snap→Option (Snap×Res2)
 |0,_=>none
 |k+1,S=>(step S).bind fun r=>
  match r.out with
  |none=>some (S,r)
  |some T=>bif (S.meet T).beq S then some (S,r) else iter step k (S.meet T)
def iI (S:Snap)(m:Nat):List Nat:=(List.range S.rs.length).filter fun t=>ar m t&& !isNone (bY (S.rs.getD t .none))
def gE (ids:List Nat)(S:Snap)(l:List Nat):List Nat:=l.filter fun j=> !lN (cO ids S.os j)
def fu:Res2:=⟨.is [B2],none,[],0,[]⟩
theorem ky (Φ:aL)(N:Nat)(ρ:Env)(x:Out):fu.pc.ev Φ N ρ≠some x:=by
 intro h;simp[fu,PC.ev,PI.runs,PI.run,B2,PE.ev,D.b_bool] at h
theorem kz:(∀t,t∈fu.pc.modR→ar fu.mr t=true)∧∀j,j∈fu.pc.modO→j∈fu.mo:=by
 constructor<;>intro t h<;>simp[fu,PC.modR,PC.modO,PI.modR,PI.modO,B2] at h
def bW:Code→List Nat
 |.region _ ops _=>ops.toList.filterMap (·.dst)
 |.seq a b=>bW a++bW b
 |.cond _ a b=>bW a++bW b
 |.block _ a=>bW a
 |.loop a=>bW a
 |_=>[]
def sY (l:List Nat):Nat:=l.foldr (fun t m=>Nat.lor (dc t) m) 0
def pz (m:Nat):Nat→List Sh→List Sh
 |_,[]=>[]
 |t,s::l=>(bif ar m t then .none else s)::pz m (t+1) l
def Snap.mask (m:Nat)(S:Snap):Snap:=⟨pz m 0 S.rs,S.os⟩
def pf:Sh→Sh
 |.yv=>.none
 |s=>s
def oh:List Nat→List Ty→List Sh→List Sh
 |p::ps,y::ys,l=>oh ps ys (l.set p (.dat y))
 |_,_,l=>l
def Snap.start (ps:List Nat)(ys:List Ty)(S:Snap):Snap:=⟨oh ps ys (S.rs.map pf),S.os⟩
def WK (ids:List Nat)(l:List Snap)(mo:List Nat):List Nat:=mo.filter fun j=>l.any fun S=> !lN (cO ids S.os j)
def aun (wm:Nat)(ra rb:Res2):Res2:=
 let m:=Nat.lor wm (Nat.lor ra.mr rb.mr)
 ⟨.seq ra.pc rb.pc,rb.out.map (Snap.mask m),rb.ex.map (fun x=>(x.1,x.2.mask m)),m,gK ra.mo rb.mo⟩
def fe (ids:List Nat)(id:Nat)(r:Res2):Res2:=
    match lP id r.ex r.out with
    |some M=>⟨.block id (iI M r.mr) (gE ids M r.mo) r.pc,some M,r.ex.filter fun x=> !Nat.beq x.1 id,r.mr,r.mo⟩
    |none=>⟨.block id [] [] r.pc,none,r.ex.filter fun x=> !Nat.beq x.1 id,r.mr,r.mo⟩
def qQ:List (Nat×Nat)→Nat→Option Nat
 |[],_=>none
 |x::l,t=>bif Nat.beq x.1 t then some x.2 else qQ l t
def jk (pr:Nat):List Oper→List (Nat×Nat)→Option (List (Nat×Nat))
 |[],acc=>some acc
 |o::l,acc=>
  match o.dst,o.guard with
  |some d,none=>
   bif Nat.beq d pr||(qQ acc d).isSome then none else
   match o.op with
   |.extract (.tmp t) i=>bif Nat.beq t pr&&Nat.ble i 1 then jk pr l (acc++[(d,i)]) else none
   |.assign (.tmp t)=>(qQ acc t).bind fun i=>jk pr l (acc++[(d,i)])
   |.move (.tmp t)=>(qQ acc t).bind fun i=>jk pr l (acc++[(d,i)])
   |_=>none
  |_,_=>none
structure MP where
 it:Nat
 nx:Nat
 mo:Nat
 out:Nat
 next:Nat
 pr:Nat
 ops1:Array Oper
 ops2:Array Oper
 aa:List (Nat×Nat)
 deriving Inhabited
def vA (x y:Code)(k:Nat)(z:Code):Option MP:=
 match x,y,z with
 |.region _ ops1 false,.cond (.tmp mo) .skip (.exit out),.region _ ops2 false=>
  match ops1.toList,ops2.toList with
  |[o1,o2],o3::l=>
   match o1.dst,o1.guard,o1.op,o2.dst,o2.guard,o2.op,o3.dst,o3.guard,o3.op with
   |some nx,none,.next (.tmp it) false,some mo',none,.extract (.tmp YC) 0,some pr,none,.entry (.tmp Wi)=>
    bif Nat.beq mo mo'&&Nat.beq nx YC&&Nat.beq it Wi&& !Nat.beq it nx&& !Nat.beq it mo&& !Nat.beq it pr&& !Nat.beq nx mo&& !Nat.beq out cl&& !Nat.beq k cl then
     (jk pr l []).map fun aa=>⟨it,nx,mo,out,k,pr,ops1,ops2,aa⟩
    else none
   |_,_,_,_,_,_,_,_,_=>none
  |_,_=>none
 |_,_,_=>none
def sR:List Nat→Nat→List Ob→List Ob
 |i::is,J,o::os=>(bif Nat.beq i J then .dead else o)::sR is J os
 |_,_,os=>os
def Snap.kill (ids:List Nat)(J:Nat)(S:Snap):Snap:=⟨S.rs,sR ids J S.os⟩
def Wg (J:Nat)(kt et:Ty)(ids:List Nat)(p:MP)(m:Nat)(S:Snap):Bool:=
 Sh.beq (S.rs.getD p.it .none) (.obj J 0)&&Ob.beq (cO ids S.os J) (.it kt et)&& !ar m p.it
def vB (ids:List Nat)(n:Nat)(p:MP)(ws:List Nat)(f:Snap→Option Res2)(S:Snap):Option Res2:=
 match bY (S.rs.getD p.it .none) with
 |.obj J 0=>
  match cO ids S.os J with
  |.it kt et=>
   let ps:=p.aa.map (·.1)
   let ys:=p.aa.map fun x=>bif Nat.beq x.2 0 then kt else et
   let m:=sY ws
   match iter (fun S=>(f ((S.mask m).start ps ys)).map (fe ids p.next)) 8 S with
   |some r=>
    bif r.2.ex.isEmpty&& !eg r.2.mo J&&Wg J kt et ids p m r.1&&gX ps&&ps.all (fun t=>Nat.blt t n)&&Nat.blt p.nx n&&Nat.blt p.mo n&&Nat.blt p.pr n&&Nat.beq (Nat.lor m r.2.mr) m then
       some ⟨.seq (.meach J ps (p.aa.map (·.2)) (gE ids r.1 r.2.mo) r.2.pc) (.exit p.out),none,[(p.out,(r.1.mask m).kill ids J)],0,r.2.mo⟩
    else some fu
   |none=>some fu
  |_=>some fu
 |_=>some fu
def comp (C:Ctx)(fn:Func)(s:Sig)(n:Nat)(ids:List Nat)(R:Array Oper→Bool→Snap→Option (Snap×List PI)):Bool→Code→Snap→Option Res2
 |_,.skip,S=>some ⟨.skip,some S,[],0,[]⟩
 |_,.region _ ops draw,S=>(R ops draw S).map fun r=>⟨.is r.2,some r.1,[],EX r.2,YG r.2⟩
 |rm,.seq a b,S=>(comp C fn s n ids R rm a S).bind fun r=>
  match r.out with
  |none=>some r
  |some S1=>(comp C fn s n ids R rm b S1).map fun q=>⟨.seq r.pc q.pc,q.out,r.ex++q.ex,Nat.lor r.mr q.mr,gK r.mo q.mo⟩
 |rm,.cond c a b,S=>
  match use C (S.st ids) [] c with
  |some (.bool,e)=>
   (comp C fn s n ids R rm a S).bind fun r=>(comp C fn s n ids R rm b S).map fun q=>
     match kj r.out q.out with
     |some M=>⟨.ite e (iI M (Nat.lor r.mr q.mr)) (gE ids M (gK r.mo q.mo)) r.pc q.pc,some M,r.ex++q.ex,Nat.lor r.mr q.mr,gK r.mo q.mo⟩
     |none=>⟨.ite e [] [] r.pc q.pc,none,r.ex++q.ex,Nat.lor r.mr q.mr,gK r.mo q.mo⟩
  |_=>some fu
 |rm,.block id a,S=>bif Nat.beq id cl then some fu else(comp C fn s n ids R rm a S).map (fe ids id)
 |rm,.loop (.seq x (.seq y (.block k (.seq z code)))),S=>
  (match vA x y k z with
  |some p=>vB ids n p (bW x++(bW y++(bW z++bW code))) (fun S=>comp C fn s n ids R rm code S) S
  |none=>
  match iter (fun S=>comp C fn s n ids R rm (.seq x (.seq y (.block k (.seq z code)))) S) 8 S with
  |some r=>some ⟨.loop (iI r.1 r.2.mr) (gE ids r.1 r.2.mo) r.2.pc,none,r.2.ex,r.2.mr,r.2.mo⟩
  |none=>some fu)
 |rm,.loop a,S=>
  match iter (fun S=>comp C fn s n ids R rm a S) 8 S with
  |some r=>some ⟨.loop (iI r.1 r.2.mr) (gE ids r.1 r.2.mo) r.2.pc,none,r.2.ex,r.2.mr,r.2.mo⟩
  |none=>some fu
 |_,.exit id,S=>bif Nat.beq id cl then some fu else some ⟨.exit id,none,[(id,S)],0,[]⟩
 |rm,.ret,S=>
  bif rm then some ⟨.exit cl,none,[(cl,S)],0,[]⟩ else
  match tL C fn s (S.st ids) with
  |some e=>some ⟨.ret e,none,[],0,[]⟩
  |none=>some fu
 |rm,.rangeFunc g ps a b,S=>
  match rm,C.yl,use C (S.st ids) [] g with
  |false,none,some (.fn aa r,e)=>
   match kh aa r with
   |some ys=>
    match iter (fun S=>(comp C fn s n ids R true a (S.start ps.toList ys)).bind fun ra=>
          match ra.out,ra.ex with
          |some S1,[]=>(comp C fn s n ids R true b S1).map (aun (sY (ps.toList++bW a++bW b)) ra)
          |_,_=>none) 8 S with
    |some r=>
     bif Nat.beq ys.length ps.size&&gX ps.toList&&ps.toList.all (fun p=>Nat.blt p n)&&Nat.ble r.1.rs.length n then
           some ⟨.seq (.is [.callc [] n e []]) (.each (.r n) ps.toList (WK ids (r.1::r.2.ex.map (·.2)) r.2.mo) ((lP cl r.2.ex none).bind fun M=>tL C fn s (M.st ids)) r.2.pc),
            some r.1,r.2.ex.filter (fun x=> !Nat.beq x.1 cl),dc n,r.2.mo⟩
     else some fu
    |none=>some fu
   |none=>some fu
  |_,_,_=>some fu
 |_,_,_=>some fu
termination_by structural _ c=>c
def sW:Code→Option (MP×Code×List Nat)
 |.seq x (.seq y (.block k (.seq z code)))=>(vA x y k z).map fun p=>(p,code,bW x++(bW y++(bW z++bW code)))
 |_=>none
theorem TU (C:Ctx)(fn:Func)(s:Sig)(n:Nat)(ids:List Nat)(R:Array Oper→Bool→Snap→Option (Snap×List PI))(rm:Bool)(a:Code)(S:Snap):comp C fn s n ids R rm (.loop a) S=
 match sW a with
 |some q=>vB ids n q.1 q.2.2 (fun S=>comp C fn s n ids R rm q.2.1 S) S
 |none=>
  match iter (fun S=>comp C fn s n ids R rm a S) 8 S with
  |some r=>some ⟨.loop (iI r.1 r.2.mr) (gE ids r.1 r.2.mo) r.2.pc,none,r.2.ex,r.2.mr,r.2.mo⟩
  |none=>some fu:=by
 by_cases h:∃x y k z code,a=.seq x (.seq y (.block k (.seq z code)))
 ·obtain⟨x,y,k,z,code,rfl⟩:=h
  conv=>lhs;unfold comp
  simp only[sW];cases vA x y k z<;>rfl
 ·have e:sW a=none:=by
   unfold sW;split
   ·rename_i x y k z code;exact absurd ⟨x,y,k,z,code,rfl⟩ h
   ·rfl
  rw[e];rw[comp];intro x y k z code e;exact h ⟨x,y,k,z,code,e⟩
def subs:Code→List Code
 |.seq a b=>.seq a b::(subs a++subs b)
 |.cond c a b=>.cond c a b::(subs a++subs b)
 |.block i a=>.block i a::subs a
 |.loop a=>.loop a::subs a
 |.rangeFunc g ps a b=>.rangeFunc g ps a b::(subs a++subs b)
 |c=>[c]
theorem auS (c:Code):c∈subs c:=by cases c<;>simp[subs]
theorem aCl {a code:Code}{p:MP}{ws:List Nat}(h:sW a=some (p,code,ws)):code∈subs a:=by
 unfold sW at h;split at h
 ·simp only[Option.map_eq_some_iff] at h;obtain⟨q,_,e⟩:=h;cases e;simp[subs,auS]
 ·cases h
def IY (C:Ctx)(n:Nat)(ids:List Nat)(Φ:aL)(R:Array Oper→Bool→Snap→Option (Snap×List PI)):Prop:=
 ∀(id:Nat) (ops:Array Oper) (draw:Bool) (S:Snap) (r:Snap×List PI),R ops draw S=some r→
  ∀(rd:Option Nat) (w0:World) (σ0:Base) (ρ ρ':Env) (a:Act) (w:World) (Q:Exit→Act→World→Prop),CtxOK C σ0→mf C Φ w0 σ0→a.tmps.size=n→Good C w0 σ0 (S.st ids) ρ (fun _=>False) a w→PI.runs Φ r.2 ρ=some ρ'→
   (∀a' w',SameBut (ns ops) a a'→Good C w0 σ0 (r.1.st ids) ρ' (fun _=>False) a' w'→Q .normal a' w')→(Code.region id ops draw).wpIn (FR rd) 0 C.P Q a w
section
variable {C:Ctx} {ρ ρ':Env} {σ:Im} {own:Nat→Option Nat} {hv:Nat→Value} {w0:World} {σ0:Base} {A:Nat→Prop} {a:Act} {w:World} {Φ:aL} {n:Nat} {ids:List Nat} {fn:Func} {s:Sig}
 {R:Array Oper→Bool→Snap→Option (Snap×List PI)}
def fw (C:Ctx)(w0:World)(σ0:Base)(ids:List Nat)(fn:Func)(s:Sig)(rm:Bool)(wr:Nat→Prop)(a0:Act)(out:Option Snap)(ex:List (Nat×Snap))(x:Out):Exit→Act→World→Prop
 |.normal,a,w=>∃ρ S,x=.next ρ∧out=some S∧SameBut wr a0 a∧Good C w0 σ0 (S.st ids) ρ (fun _=>False) a w
 |.exit id,a,w=>∃ρ S,x=.exit id ρ∧id≠cl∧(id,S)∈ex∧SameBut wr a0 a∧Good C w0 σ0 (S.st ids) ρ (fun _=>False) a w
 |.ret,a,w=>match rm with
  |false=>∃d,x=.ret d∧nl C w0 σ0 fn s d a.tmps a.defers w∧SameBut wr a0 a
  |true=>∃ρ S,x=.exit cl ρ∧(cl,S)∈ex∧SameBut wr a0 a∧Good C w0 σ0 (S.st ids) ρ (fun _=>False) a w
 |_,_,_=>False
theorem Good.meet1 {x y:Snap}(h:Good C w0 σ0 (x.st ids) ρ A a w):Good C w0 σ0 ((x.meet y).st ids) ρ (fun _=>False) a w:=by
 obtain⟨σ,own,hv,h⟩:=h;exact⟨σ,own,hv,Snap.meet_ok1 h⟩
theorem Good.meet2 {x y:Snap}(h:Good C w0 σ0 (y.st ids) ρ A a w):Good C w0 σ0 ((x.meet y).st ids) ρ (fun _=>False) a w:=by
 obtain⟨σ,own,hv,h⟩:=h;exact⟨σ,own,hv,Snap.meet_ok2 h⟩
theorem WZ {x:Snap}{y:Option Snap}{M:Snap}(h:Good C w0 σ0 (x.st ids) ρ (fun _=>False) a w)(hm:kj (some x) y=some M):Good C w0 σ0 (M.st ids) ρ (fun _=>False) a w:=by
 cases y<;>simp[kj] at hm<;>subst hm
 ·exact h
 ·exact h.meet1
theorem W0 {x:Option Snap}{y:Snap}{M:Snap}(h:Good C w0 σ0 (y.st ids) ρ (fun _=>False) a w)(hm:kj x (some y)=some M):Good C w0 σ0 (M.st ids) ρ (fun _=>False) a w:=by
 cases x<;>simp[kj] at hm<;>subst hm
 ·exact h
 ·exact h.meet2
theorem W2 {x:Snap}{y:Option Snap}:∃M,kj (some x) y=some M:=by cases y<;>simp[kj]
theorem W3 {x:Option Snap}{y:Snap}:∃M,kj x (some y)=some M:=by cases x<;>simp[kj]
theorem EY {id:Nat}:∀(l:List (Nat×Snap)) {x:Snap},Good C w0 σ0 (x.st ids) ρ (fun _=>False) a w→∃M,lP id l (some x)=some M∧Good C w0 σ0 (M.st ids) ρ (fun _=>False) a w
 |[],x,h=>⟨x,rfl,h⟩
 |y::l,x,h=>by
  simp only[lP];cases Nat.beq y.1 id
  ·exact EY l h
  ·obtain⟨M,hM⟩:=@W2 x (some y.2);simp only[cond_true,hM];exact EY l (WZ h hM)
theorem MT {id:Nat}{S:Snap}(h:Good C w0 σ0 (S.st ids) ρ (fun _=>False) a w):∀(l:List (Nat×Snap)) (x:Option Snap),(id,S)∈l→∃M,lP id l x=some M∧Good C w0 σ0 (M.st ids) ρ (fun _=>False) a w
 |y::l,x,hm=>by
  simp only[lP];rcases List.mem_cons.1 hm with e|hm
  ·subst e;simp only[Nat.beq_refl,cond_true];obtain⟨M,hM⟩:=@W3 x S;rw[hM];exact EY l (W0 h hM)
  ·exact MT h l _ hm
theorem Ak {step:Snap→Option Res2}:∀(k:Nat) {S:Snap} {r:Snap×Res2},iter step k S=some r→
 step r.1=some r.2∧(∀T,r.2.out=some T→r.1.meet T=r.1)∧∀{ρ:Env} {a:Act} {w:World},Good C w0 σ0 (S.st ids) ρ (fun _=>False) a w→Good C w0 σ0 (r.1.st ids) ρ (fun _=>False) a w
 |0,S,r,h=>by simp[iter] at h
 |k+1,S,r,h=>by
  simp only[iter,Option.bind_eq_some_iff] at h;obtain⟨q,hq,h⟩:=h;split at h
  ·rename_i ho;cases h;exact⟨hq,fun T hT=>by simp[ho] at hT,fun g=>g⟩
  ·rename_i T ho;cases hb:(S.meet T).beq S<;>simp only[hb,cond_true,cond_false] at h
   ·obtain⟨h1,h2,h3⟩:=Ak k h;exact⟨h1,h2,fun g=>h3 g.meet1⟩
   ·cases h;refine⟨hq,fun T' hT=>?_,fun g=>g⟩;simp only[ho,Option.some.injEq] at hT;subst hT;exact Snap.beq_eq _ _ hb
theorem Wj {step:Snap→Option Res2}{hv:Nat→Value}:∀(k:Nat) {S:Snap} {r:Snap×Res2},iter step k S=some r→Inv C (S.st ids) ρ σ own hv w0 σ0 (fun _=>False) a w→Inv C (r.1.st ids) ρ σ own hv w0 σ0 (fun _=>False) a w
 |0,S,r,h,_=>by simp[iter] at h
 |k+1,S,r,h,i=>by
  simp only[iter,Option.bind_eq_some_iff] at h;obtain⟨q,hq,h⟩:=h;split at h
  ·cases h;exact i
  ·rename_i T ho;cases hb:(S.meet T).beq S<;>simp only[hb,cond_true,cond_false] at h
   ·exact Wj k h (Snap.meet_ok1 i)
   ·cases h;exact i
theorem Good.joined {M:Snap}{m:Nat}{mo mr' mo':List Nat}(h:Good C w0 σ0 (M.st ids) ρ' (fun _=>False) a w)(hb:ρ.but ρ' mr' mo')(h1:∀t,t∈mr'→ar m t=true)(h2:∀j,j∈mo'→j∈mo):
 Good C w0 σ0 (M.st ids) (ρ.join (iI M m) (gE ids M mo) ρ') (fun _=>False) a w:=by
 obtain⟨σ,own,hv,h⟩:=h;refine⟨σ,own,hv,h.env (Snap.noOpt _ _) (fun t ht=>?_) (fun j hj=>?_)⟩
 ·simp only[Env.join,Env.put,pG];split
  ·rfl
  ·rename_i hm;refine(hb.r t fun zL=>hm ?_).symm;have ah:t<M.rs.length:=by
        refine Nat.lt_of_not_le fun hle=>?_;simp only[Snap.st,List.getD_eq_getElem?_getD,List.getElem?_eq_none hle,Option.getD_none,bY,isNone] at ht;cases ht
   exact List.mem_filter.2 ⟨List.mem_range.2 ah,by rw[h1 t zL];simpa [Snap.st] using ht⟩
 ·simp only[Env.join,Env.put,pG];split
  ·rfl
  ·rename_i hm;refine(hb.o j fun zL=>hm ?_).symm;exact List.mem_filter.2 ⟨h2 j zL,by simpa [Snap.st] using hj⟩
theorem EZ {S:Snap}{m t:Nat}(h:t∈iI S m):ar m t=true:=by
 have:=(List.mem_filter.1 h).2;simp only[Bool.and_eq_true] at this;exact this.1
theorem vC {S:Snap}{l:List Nat}{j:Nat}(h:j∈gE ids S l):j∈l:=(List.mem_filter.1 h).1
theorem S6 {id:Nat}{q:Res2}(h:(∀t,t∈q.pc.modR→ar q.mr t=true)∧∀j,j∈q.pc.modO→j∈q.mo):(∀t,t∈(fe ids id q).pc.modR→ar (fe ids id q).mr t=true)∧∀j,j∈(fe ids id q).pc.modO→j∈(fe ids id q).mo:=by
 unfold fe;cases hm:lP id q.ex q.out<;>simp only
 ·simpa [PC.modR,PC.modO] using h
 ·refine⟨fun t ht=>?_,fun j hj=>?_⟩
  ·simp only[PC.modR,List.mem_append] at ht;exact ht.elim EZ (h.1 t)
  ·simp only[PC.modO,List.mem_append] at hj;exact hj.elim vC (h.2 j)
theorem arE {p:MP}{ws:List Nat}{f:Snap→Option Res2}{S:Snap}{r:Res2}(h:vB ids n p ws f S=some r):(∀t,t∈r.pc.modR→ar r.mr t=true)∧∀j,j∈r.pc.modO→j∈r.mo:=by
 unfold vB at h;split at h
 case h_2=>cases h;exact kz
 split at h
 case h_2=>cases h;exact kz
 simp only at h;split at h
 case h_2=>cases h;exact kz
 rw[Bool.cond_eq_ite] at h;split at h
 ·cases h;refine⟨fun t ht=>by simp[PC.modR] at ht,fun j hj=>?_⟩;simp only[PC.modO,List.append_nil] at hj;exact vC hj
 ·cases h;exact kz
theorem qe:∀(c:Code) {rm:Bool} {S:Snap} {r:Res2},comp C fn s n ids R rm c S=some r→(∀t,t∈r.pc.modR→ar r.mr t=true)∧∀j,j∈r.pc.modO→j∈r.mo:=by
 intro c
 induction c with
 |skip=>intro rm S r h;simp only[comp,Option.some.injEq] at h;subst h;simp[PC.modR,PC.modO]
 |region id ops draw=>
  intro rm S r h;simp only[comp,Option.map_eq_some_iff] at h;obtain⟨q,_,rfl⟩:=h;exact⟨fun t ht=>WS _ ht,fun j hj=>arL _ hj⟩
 |seq x y gD sO=>
  intro rm S r h;simp only[comp,Option.bind_eq_some_iff] at h;obtain⟨q,hq,h⟩:=h;split at h
  ·cases h;exact gD hq
  ·simp only[Option.map_eq_some_iff] at h;obtain⟨p,hp,rfl⟩:=h;refine⟨fun t ht=>?_,fun j hj=>?_⟩
   ·simp only[PC.modR,List.mem_append] at ht;rw[dU,Bool.or_eq_true];exact ht.imp ((gD hq).1 t) ((sO hp).1 t)
   ·simp only[PC.modO,List.mem_append] at hj;rw[mR];exact hj.imp ((gD hq).2 j) ((sO hp).2 j)
 |cond c x y gD sO=>
  intro rm S r h;simp only[comp] at h;split at h
  case h_2=>cases h;exact kz
  rename_i e _;simp only[Option.bind_eq_some_iff,Option.map_eq_some_iff] at h;obtain⟨q,hq,p,hp,rfl⟩:=h;cases hm:kj q.out p.out<;>simp only[hm]
  ·refine⟨fun t ht=>?_,fun j hj=>?_⟩
   ·simp only[PC.modR,List.mem_append,List.nil_append] at ht;rw[dU,Bool.or_eq_true];exact ht.imp ((gD hq).1 t) ((sO hp).1 t)
   ·simp only[PC.modO,List.mem_append,List.nil_append] at hj;rw[mR];exact hj.imp ((gD hq).2 j) ((sO hp).2 j)
  ·refine⟨fun t ht=>?_,fun j hj=>?_⟩
   ·simp only[PC.modR,List.mem_append] at ht;rw[dU,Bool.or_eq_true];rcases ht with(ht|ht)|ht
    ·have:=EZ ht;rw[dU,Bool.or_eq_true] at this;exact this
    ·exact .inl ((gD hq).1 t ht)
    ·exact .inr ((sO hp).1 t ht)
   ·simp only[PC.modO,List.mem_append] at hj;rcases hj with(hj|hj)|hj
    ·exact vC hj
    ·exact mR.2 (.inl ((gD hq).2 j hj))
    ·exact mR.2 (.inr ((sO hp).2 j hj))
 |block id x gD=>
  intro rm S r h;simp only[comp] at h;cases cf:Nat.beq id cl<;>simp only[cf,cond_true,cond_false] at h
  case true=>cases h;exact kz
  simp only[Option.map_eq_some_iff] at h;obtain⟨q,hq,rfl⟩:=h;exact S6 (gD hq)
 |loop x gD=>
  intro rm S r h;rw[TU] at h;split at h
  ·exact arE h
  split at h
  case h_2=>cases h;exact kz
  rename_i q hq;cases h;have hs:=(Ak (C:=C) (w0:=default) (σ0:=Base.mk0 ⟨fun _ _=>none,fun _=>none⟩ 0) (ids:=ids) 8 hq).1;refine⟨fun t ht=>?_,fun j hj=>?_⟩
  ·simp only[PC.modR,List.mem_append] at ht;exact ht.elim EZ ((gD hs).1 t)
  ·simp only[PC.modO,List.mem_append] at hj;exact hj.elim vC ((gD hs).2 j)
 |exit id=>
  intro rm S r h;simp only[comp] at h;cases cf:Nat.beq id cl<;>simp only[cf,cond_true,cond_false] at h<;>cases h
  ·simp[PC.modR,PC.modO]
  ·exact kz
 |ret=>
  intro rm S r h;simp only[comp] at h;cases rm<;>simp only[cond_true,cond_false] at h
  case true=>cases h;simp[PC.modR,PC.modO]
  split at h
  ·cases h;simp[PC.modR,PC.modO]
  ·cases h;exact kz
 |rangeFunc g ps x y _ _=>
  intro rm S r h;simp only[comp] at h;split at h
  case h_2=>cases h;exact kz
  split at h
  case h_2=>cases h;exact kz
  split at h
  case h_2=>cases h;exact kz
  rename_i q hq;rw[Bool.cond_eq_ite] at h;split at h
  ·cases h;refine⟨fun t ht=>?_,fun j hj=>?_⟩
   ·simp[PC.modR,PI.modR] at ht;subst ht;exact nq _
   ·simp only[PC.modO,PI.modO,List.flatMap_cons,List.flatMap_nil,List.append_nil,List.nil_append] at hj;exact(List.mem_filter.1 hj).1
  ·cases h;exact kz
 |_=>intro rm S r h;simp only[comp,Option.some.injEq] at h;subst h;exact kz
theorem fw.mono {rm:Bool}{wr:Nat→Prop}{a0 a1:Act}{out Z7:Option Snap}{ex Uj:List (Nat×Snap)}{x:Out}{e:Exit}(h:fw C w0 σ0 ids fn s rm wr a0 out ex x e a w)(he:∀y,y∈ex→y∈Uj)(hs:SameBut wr a1 a0)
 (ho:e=.normal→Z7=out):fw C w0 σ0 ids fn s rm wr a1 Z7 Uj x e a w:=by
 cases e with
 |normal=>obtain⟨ρ,S,h1,h2,h3,h4⟩:=h;exact⟨ρ,S,h1,by rw[ho rfl];exact h2,hs.trans h3,h4⟩
 |exit id=>obtain⟨ρ,S,h1,h2,h3,h4,h5⟩:=h;exact⟨ρ,S,h1,h2,he _ h3,hs.trans h4,h5⟩
 |ret=>
  cases rm with
  |false=>obtain⟨d,h1,h2,h3⟩:=h;exact⟨d,h1,h2,hs.trans h3⟩
  |true=>obtain⟨ρ,S,h1,h3,h4,h5⟩:=h;exact⟨ρ,S,h1,he _ h3,hs.trans h4,h5⟩
 |_=>exact h.elim
theorem Ua {body:Env→Option Out}{ρ:Env}{ps lo:List Nat}{rt:Option PE}{x:Out}:∀{xs vo:List D},ff body ρ ps lo rt xs vo=some x→
 ∃(m:Nat) (kC:Nat→List D),m≤xs.length∧kC 0=vo∧
  (∀i,i<m→∃y ρ',xs[i]?=some y∧body (ρ.put ps (partsOf ps y) lo (kC i))=some (.next ρ')∧lo.map ρ'.o=kC (i+1))∧
  ((m=xs.length∧x=.next (ρ.put [] [] lo (kC m)))∨
   (m<xs.length∧∃y id ρ',xs[m]?=some y∧body (ρ.put ps (partsOf ps y) lo (kC m))=some (.exit id ρ')∧
    ((id≠cl∧x=.exit id (ρ.put [] [] lo (lo.map ρ'.o)))∨(id=cl∧∃e,rt=some e∧x=.ret (e.ev (ρ.put [] [] lo (lo.map ρ'.o)))))))
 |[],vo,h=>by
  simp only[ff,Option.some.injEq] at h;exact⟨0,fun _=>vo,Nat.le_refl _,rfl,fun i hi=>by omega,.inl ⟨rfl,h.symm⟩⟩
 |y::xs,vo,h=>by
  simp only[ff] at h;split at h
  ·rename_i ρ' hb;obtain⟨m,kC,h1,h2,h3,h4⟩:=Ua h;refine⟨m+1,fun i=>match i with|0=>vo|i+1=>kC i,by simp;omega,rfl,fun i hi=>?_,?_⟩
   ·cases i with
    |zero=>exact⟨y,ρ',rfl,hb,h2.symm⟩
    |succ i=>simpa using h3 i (by omega)
   ·rcases h4 with⟨e1,e2⟩|⟨e1,z,id,ρ2,e2,e3,e4⟩
    ·exact .inl ⟨by simp[e1],e2⟩
    ·exact .inr ⟨by simp;omega,z,id,ρ2,by simpa using e2,e3,e4⟩
  ·rename_i id ρ' hb;refine⟨0,fun _=>vo,Nat.zero_le _,rfl,fun i hi=>by omega,.inr ⟨by simp,y,id,ρ',rfl,hb,?_⟩⟩;cases cf:Nat.beq id cl<;>simp only[cf,cond_true,cond_false] at h
   ·refine .inl ⟨fun e=>?_,(Option.some.inj h).symm⟩;subst e;simp at cf
   ·simp only[Option.map_eq_some_iff] at h;obtain⟨e,he,e2⟩:=h;exact .inr ⟨Nat.eq_of_beq_eq_true cf,e,he,e2.symm⟩
  ·cases h
theorem SZ {l:List Nat}{t:Nat}(h:t∈l):ar (sY l) t=true:=by
 induction l with
 |nil=>cases h
 |cons x l ih=>
  have e:sY (x::l)=Nat.lor (dc x) (sY l):=rfl;rw[e,dU];rcases List.mem_cons.1 h with e|e
  ·subst e;rw[nq];rfl
  ·rw[ih e];simp
theorem MR (m:Nat):∀(l:List Sh) (k t:Nat),(pz m k l).getD t .none=if ar m (k+t)=true then .none else l.getD t .none
 |[],k,t=>by simp[pz]
 |s::l,k,0=>by
  simp only[pz,List.getD_cons_zero,Nat.add_zero];cases ar m k<;>rfl
 |s::l,k,t+1=>by
  simp only[pz,List.getD_cons_succ];rw[MR m l (k+1) t,show k+1+t=k+(t+1) by omega]
theorem As (m:Nat)(S:Snap)(t:Nat):((S.mask m).st ids).r t=if ar m t=true then .none else(S.st ids).r t:=by
 show bY ((pz m 0 S.rs).getD t .none)=if ar m t=true then .none else bY (S.rs.getD t .none);rw[MR,Nat.zero_add];split<;>rfl
theorem arK {m:Nat}{x S:Snap}{t:Nat}(h:ar m t=true):((x.meet (S.mask m)).st ids).r t=.none:=by
 show bY ((List.zipWith gF x.rs (pz m 0 S.rs)).getD t .none)=.none;rcases IU (f:=gF) x.rs (pz m 0 S.rs) t with h0|⟨s,u,h1,h2,h3⟩
 ·rw[h0];rfl
 ·rw[MR,Nat.zero_add,if_pos h] at h2;subst h2;rw[h3];cases s<;>rfl
theorem Inv.maskR {S:Snap}{hv:Nat→Value}(h:Inv C (S.st ids) ρ σ own hv w0 σ0 A a w)(m:Nat):Inv C ((S.mask m).st ids) ρ σ own hv w0 σ0 (fun _=>False) a w:=by
 have hc:Compat (S.st ids) hv ((S.mask m).st ids) hv:=⟨fun _=>Nat.le_refl _,fun _ _=>rfl⟩
 refine h.weaken (fun t=>?_) (fun j=>?_) (Snap.noOpt _ _) (fun j hj=>⟨hj,rfl⟩)
 ·refine aI.mono' (ρ:=ρ) (.refl σ) hc (Snap.noOpt _ _ t) ?_;rw[As];split
  ·trivial
  ·exact h.regs t
 ·exact(h.objs j).mono (.refl σ) hc rfl rfl (fun k hk=>⟨hk,rfl⟩)
theorem PS:∀(ps:List Nat) (ys:List Ty) (l:List Sh),ps.length=ys.length→gX ps=true→∀t,(oh ps ys l).getD t .none=.none∨(t∉ps∧(oh ps ys l).getD t .none=l.getD t .none)∨∃(i:Nat) (y:Ty),ps[i]?=some t∧ys[i]?=some y∧(oh ps ys l).getD t .none=.dat y
 |[],ys,l,_,_,t=>.inr (.inl ⟨by simp,by cases ys<;>rfl⟩)
 |p::ps,[],l,h,_,t=>by simp at h
 |p::ps,y::ys,l,h,hn,t=>by
  have gA:=ld hn;rw[List.nodup_cons] at gA;have cP:gX ps=true:=by
   simp only[gX,Bool.and_eq_true] at hn;exact hn.2
  show(oh ps ys (l.set p (.dat y))).getD t .none=_∨_∨_;rcases PS ps ys (l.set p (.dat y)) (by simpa using h) cP t with e|⟨e1,e2⟩|⟨i,z,e1,e2,e3⟩
  ·exact .inl e
  ·by_cases hp:t=p
   ·subst hp;by_cases ah:t<l.length
    ·exact .inr (.inr ⟨0,y,rfl,rfl,by show(oh ps ys (l.set t (.dat y))).getD t .none=_;rw[e2];simp[List.getD_eq_getElem?_getD,ah]⟩)
    ·left;rw[e2];simp[List.getD_eq_getElem?_getD,ah]
   ·refine .inr (.inl ⟨by simp[hp,e1],?_⟩);show(oh ps ys (l.set p (.dat y))).getD t .none=_;rw[e2];simp only[List.getD_eq_getElem?_getD,List.getElem?_set];rw[if_neg (fun e=>hp e.symm)]
  ·exact .inr (.inr ⟨i+1,z,by simpa using e1,by simpa using e2,e3⟩)
def kr:List Nat→List Value→Array Value→Array Value
 |p::ps,v::vs,T=>kr ps vs (T.setIfInBounds p v)
 |_,_,T=>T
theorem auG (ps:Array Nat)(vs:Array Value)(T:Array Value):(ps.zip vs).foldl (fun T x=>T.setIfInBounds x.1 x.2) T=kr ps.toList vs.toList T:=by
 rw[←Array.foldl_toList,Array.toList_zip];generalize ps.toList=l;generalize vs.toList=k
 induction l generalizing k T with
 |nil=>rfl
 |cons p l ih=>
  cases k with
  |nil=>rfl
  |cons v k=>simpa [kr] using ih (T.setIfInBounds p v) k
theorem abI:∀(ps:List Nat) (vs:List Value) (T:Array Value),(kr ps vs T).size=T.size
 |[],vs,T=>by cases vs<;>rfl
 |p::ps,[],T=>rfl
 |p::ps,v::vs,T=>by simp[kr,abI ps vs]
theorem Ij:∀(ps:List Nat) (vs:List Value) (T:Array Value) (t:Nat),t∉ps→(kr ps vs T).getD t undef=T.getD t undef
 |[],vs,T,t,_=>by cases vs<;>rfl
 |p::ps,[],T,t,_=>rfl
 |p::ps,v::vs,T,t,h=>by
  simp only[List.mem_cons,not_or] at h;simp only[kr];rw[Ij ps vs _ t h.2];simp only[Array.getD_eq_getD_getElem?,Array.getElem?_setIfInBounds];rw[if_neg (fun e=>h.1 e.symm)]
theorem abH:∀(ps:List Nat) (vs:List Value) (T:Array Value) (i t:Nat),ps.Nodup→ps.length=vs.length→(∀p,p∈ps→p<T.size)→ps[i]?=some t→(kr ps vs T).getD t undef=vs.getD i undef
 |p::ps,v::vs,T,0,t,hn,hl,ah,h=>by
  simp at h;subst h;rw[List.nodup_cons] at hn;simp only[kr];rw[Ij ps vs _ p hn.1];simp[Array.getElem?_setIfInBounds,ah p (List.mem_cons_self ..)]
 |p::ps,v::vs,T,i+1,t,hn,hl,ah,h=>by
  rw[List.nodup_cons] at hn;simp only[kr];have:=abH ps vs (T.setIfInBounds p v) i t hn.2 (by simpa using hl) (fun q hq=>by simpa using ah q (List.mem_cons_of_mem _ hq)) (by simpa using h);simpa using this
 |p::ps,[],T,i,t,hn,hl,ah,h=>by simp at hl
 |[],vs,T,i,t,hn,hl,ah,h=>by simp at h
theorem v3 (f:Nat→D):∀(ps:List Nat) (vs:List D) (t:Nat),t∉ps→putL f ps vs t=f t
 |[],vs,t,_=>by cases vs<;>rfl
 |p::ps,[],t,_=>rfl
 |p::ps,v::vs,t,h=>by
  simp only[List.mem_cons,not_or] at h;simp only[putL,bl _ _ h.1];exact v3 f ps vs t h.2
theorem Ok (f:Nat→D):∀(ps:List Nat) (vs:List D) (i t:Nat),ps.Nodup→ps.length=vs.length→ps[i]?=some t→putL f ps vs t=vs.getD i .none
 |p::ps,v::vs,0,t,hn,hl,h=>by
  simp at h;subst h;simp[putL,aP]
 |p::ps,v::vs,i+1,t,hn,hl,h=>by
  rw[List.nodup_cons] at hn;have ht:t∈ps:=List.mem_of_getElem? (by simpa using h);have aB:t≠p:=fun e=>hn.1 (e▸ht);simp only[putL,bl _ _ aB];have:=Ok f ps vs i t hn.2 (by simpa using hl) (by simpa using h);simpa using this
 |p::ps,[],i,t,hn,hl,h=>by simp at hl
 |[],vs,i,t,hn,hl,h=>by simp at h
theorem atf (ps:List Nat)(ds:List D)(i:Nat)(h:i<ps.length):(partsOf ps (.tup ds)).getD i .none=ds.getD i .none:=by
 simp[partsOf,List.getD_eq_getElem?_getD,h,D.tget]
theorem ate (ps:List Nat)(x:D):(partsOf ps x).length=ps.length:=by simp[partsOf]
theorem Inv.startR {S:Snap}{hv:Nat→Value}(h:Inv C (S.st ids) ρ σ own hv w0 σ0 A a w){ps:List Nat}{ys:List Ty}{args:List Value}{ds:List D}{lo:List Nat}{vo:List D}(hl:ps.length=ys.length)(aZ:gX ps=true)(ah:∀p,p∈ps→p<a.tmps.size)(ha:nj C σ ys args ds)
 (hρ:ρ=ρ'.put [] [] lo vo):Inv C ((S.start ps ys).st ids) (ρ'.put ps (partsOf ps (.tup ds)) lo vo) σ own hv w0 σ0 (fun _=>False) {tmps:=kr ps args a.tmps,defers:=[]} w:=by
 obtain⟨a1,a2,a3⟩:=ha;have hn:=ld aZ;have hc:Compat (S.st ids) hv ((S.start ps ys).st ids) hv:=⟨fun _=>Nat.le_refl _,fun _ _=>rfl⟩
 have ho:∀j,(ρ'.put ps (partsOf ps (.tup ds)) lo vo).o j=ρ.o j:=fun j=>by rw[hρ];rfl
 refine⟨trivial,h.ok,h.le,h.old,h.newc,h.newm,h.below,h.bw,h.owns,fun t=>?_,fun j=>(h.objs j).mono (.refl σ) hc rfl (ho j) (fun k hk=>⟨hk,rfl⟩),fun t gs s e=>absurd e (Snap.noOpt _ _ t gs s),?_⟩
 ·show aI C _ _ σ hv (bY ((oh ps ys (S.rs.map pf)).getD t .none)) ((kr ps args a.tmps).getD t undef) (putL ρ'.r ps (partsOf ps (.tup ds)) t);rcases PS ps ys (S.rs.map pf) hl aZ t with e|⟨e1,e2⟩|⟨i,y,e1,e2,e3⟩
  ·rw[e];trivial
  ·rw[e2,Ij _ _ _ _ e1,v3 _ _ _ _ e1];have hr:=h.regs t;change aI C _ ρ σ hv (bY (S.rs.getD t .none)) _ _ at hr;have hρr:ρ.r t=ρ'.r t:=by rw[hρ];show putL ρ'.r [] [] t=_;rfl
   rw[hρr] at hr;have e3:(S.rs.map pf).getD t .none=pf (S.rs.getD t .none):=by
        simp only[List.getD_eq_getElem?_getD,List.getElem?_map];cases S.rs[t]?<;>rfl
   rw[e3];generalize S.rs.getD t .none=s at hr;cases s with
   |yv=>trivial
   |opt gs s=>trivial
   |none=>trivial
   |fclo f c=>exact aI.mono' (.refl σ) hc (fun _ _ e=>by cases e) hr
   |dat t=>exact hr
   |obj j v=>exact aI.mono' (.refl σ) hc (fun _ _ e=>by cases e) hr
   |ptr j v o=>exact aI.mono' (.refl σ) hc (fun _ _ e=>by cases e) hr
   |eptr j v o q=>exact aI.mono' (.refl σ) hc (fun _ _ e=>by cases e) hr
  ·rw[e3];have hi:i<ps.length:=(List.getElem?_eq_some_iff.1 e1).1;rw[abH ps args a.tmps i t hn (by omega) ah e1,Ok _ ps _ i t hn (by rw[ate]) e1,atf _ _ _ hi];exact a3 i y e2
 ·obtain⟨t,fx,cx,h1,h2⟩:=h.frame;exact⟨t,fx,cx,h1,fun j hj=>⟨(h2 j hj).1,by rw[ho j];exact(h2 j hj).2⟩⟩
def rH (C:Ctx)(Φ:aL)(fn:Func)(s:Sig)(n:Nat)(ids:List Nat)(R:Array Oper→Bool→Snap→Option (Snap×List PI))(N:Nat)(c:Code):Prop:=
 ∀(rm:Bool) (S:Snap) (r:Res2),comp C fn s n ids R rm c S=some r→∀(rd:Option Nat) (w0:World) (σ0:Base) (wr:Nat→Prop) (ρ:Env) (x:Out) (a:Act) (w:World),(rm=false→rd=none∧σ0.fin)→CtxOK C σ0→mf C Φ w0 σ0→(∀t,t∈bW c→wr t)→a.tmps.size=n→
  Good C w0 σ0 (S.st ids) ρ (fun _=>False) a w→r.pc.ev Φ N ρ=some x→c.wpIn (FR rd) 0 C.P (fw C w0 σ0 ids fn s rm wr a r.out r.ex x) a w
structure Seg (σ:Im) (own:Nat→Option Nat) (w:World) (σ':Im) (own':Nat→Option Nat) (w':World):Prop where
 le:σ.le σ'
 below:Below 0 w w'
 same:∀k,k<w.heap.size→own k=none→w'.heap[k]?=w.heap[k]?
 ow:∀k j,own' k=some j→(∃i,own k=some i)∨w.heap.size≤k
 imm:∀k,((∃o x,σ'.c k o=some x)∨∃x,σ'.m k=some x)→(∃o x,σ.c k o=some x)∨(∃x,σ.m k=some x)∨(∃i,own k=some i)∨w.heap.size≤k
structure Free (L:Nat) (σ:Im) (own:Nat→Option Nat):Prop where
 own:own L=none
 c:∀o,σ.c L o=none
 m:σ.m L=none
theorem Free.seg {L:Nat}{σ':Im}{own':Nat→Option Nat}{w':World}(h:Free L σ own)(hL:L<w.heap.size)(k:Seg σ own w σ' own' w'):Free L σ' own':=by
 have zB:¬((∃o x,σ'.c L o=some x)∨∃x,σ'.m L=some x):=fun e=>by
  rcases k.imm L e with⟨o,x,e⟩|⟨x,e⟩|⟨i,e⟩|e
  ·rw[h.c o] at e;cases e
  ·rw[h.m] at e;cases e
  ·rw[h.own] at e;cases e
  ·omega
 refine⟨?_,fun o=>?_,?_⟩
 ·cases e:own' L with
  |none=>rfl
  |some j=>
   rcases k.ow L j e with⟨i,e⟩|e
   ·rw[h.own] at e;cases e
   ·omega
 ·cases e:σ'.c L o with
  |none=>rfl
  |some x=>exact absurd (.inl ⟨o,x,e⟩) zB
 ·cases e:σ'.m L with
  |none=>rfl
  |some x=>exact absurd (.inr ⟨x,e⟩) zB
def ado (C:Ctx)(w0:World)(σ0:Base)(ids:List Nat)(wr:Nat→Prop)(a0:Act)(σ:Im)(own:Nat→Option Nat)(w:World)(out:Option Snap)(ex:List (Nat×Snap))(x:Out)(e:Exit)(a':Act)(w':World):Prop:=
 ∃ρ' S' σ' own' hv',Inv C (S'.st ids) ρ' σ' own' hv' w0 σ0 (fun _=>False) a' w'∧Seg σ own w σ' own' w'∧SameBut wr a0 a'∧
  match e with
  |.normal=>x=.next ρ'∧out=some S'
  |.exit id=>x=.exit id ρ'∧id≠cl∧(id,S')∈ex
  |.ret=>x=.exit cl ρ'∧(cl,S')∈ex
  |_=>False
theorem abC {N:Nat}{c:Code}(hc:rH C Φ fn s n ids R N c){S:Snap}{r:Res2}(hr:comp C fn s n ids R true c S=some r)(ix:C.yl=none)(hC:CtxOK C σ0){wr:Nat→Prop}{ρ:Env}{x:Out}{hv:Nat→Value}(h:Inv C (S.st ids) ρ σ own hv w0 σ0 (fun _=>False) a w)
 (fU:∀t,t∈bW c→wr t) (hn:a.tmps.size=n) (he:r.pc.ev Φ N ρ=some x) (L:Nat):c.wpIn (FR (some L)) 0 C.P (ado C w0 σ0 ids wr a σ own w r.out r.ex x) a w:=by
 obtain⟨t,fx,cx,cI,ht⟩:=h.frame;have h1:=h.toRnd (X:=fun _=>False) ht;refine wpIn_mono (hc true S r hr (some L) w0 (σ0.rnd σ own w t fun _=>False) wr ρ x a w (fun e=>by cases e) (hC.mono h.le) (fun J ys e=>by rw[ix] at e;cases e) fU hn ⟨_,_,_,h1⟩ he) fun e a' w' ho=>?_
 have main:∀{S':Snap} {ρ':Env},SameBut wr a a'→Good C w0 (σ0.rnd σ own w t fun _=>False) (S'.st ids) ρ' (fun _=>False) a' w'→∃σ' own' hv',Inv C (S'.st ids) ρ' σ' own' hv' w0 σ0 (fun _=>False) a' w'∧Seg σ own w σ' own' w'∧SameBut wr a a':=by
  intro S' ρ' hs hg;obtain⟨σ',own',hv',h2⟩:=hg;exact⟨σ',own',hv',h.ofRnd cI (fun _ _=>id) h2,⟨h2.le,h.rndBelow h2,fun k hk ho=>Inv.rndSame h.ok h2 hk ho id,fun k j e=>Inv.rndOwn h2 e id,fun k e=>Inv.rndC h2 e id⟩,hs⟩
 cases e with
 |normal=>
  obtain⟨ρ',S',e1,e2,e3,e4⟩:=ho;obtain⟨σ',own',hv',g1,g2,g3⟩:=main e3 e4;exact⟨ρ',S',σ',own',hv',g1,g2,g3,e1,e2⟩
 |exit id=>
  obtain⟨ρ',S',e1,e0,e2,e3,e4⟩:=ho;obtain⟨σ',own',hv',g1,g2,g3⟩:=main e3 e4;exact⟨ρ',S',σ',own',hv',g1,g2,g3,e1,e0,e2⟩
 |ret=>
  obtain⟨ρ',S',e1,e2,e3,e4⟩:=ho;obtain⟨σ',own',hv',g1,g2,g3⟩:=main e3 e4;exact⟨ρ',S',σ',own',hv',g1,g2,g3,e1,e2⟩
 |_=>exact ho.elim
theorem Inv.putL {L:Nat}{hv:Nat→Value}{S:St}{ρ:Env}(h:Inv C S ρ σ own hv w0 σ0 A a w)(hL:w0.heap.size≤L)(hf:Free L σ own)(hx:∀t fx cx,FrOK σ own w0.heap.size σ0 w t fx cx→¬fx L)(o:Obj):Inv C S ρ σ own hv w0 σ0 A a (w.putObj L o):=
 h.keep (X:=fun k=>k≠L) ⟨rfl,rfl,rfl,by simp,fun k hk=>by omega⟩ (fun k hk=>World.putObj_heap_other hk) (fun k hk=>by omega) (fun k j e1 e2=>by subst e2;rw[hf.own] at e1;cases e1) (fun k o v e1 e2=>by subst e2;rw[hf.c] at e1;cases e1)
  (fun k v e1 e2=>by subst e2;rw[hf.m] at e1;cases e1) (fun t fx cx cI k hk e=>by subst e;exact hx t fx cx cI hk)
theorem axF {o:Oper}{L:Nat}{x:Operand}{aa:Array Operand}{ts:Array TypeId}{r:Loop}(bE:o.op=.call {callee:=.value x,args:=aa,argTypes:=ts})(hx:a.eval x=.func (.yield L) #[] #[])(hL:w.heap[L]?=some (.loop r))(hs:aa.size=r.params.size):
 (execOp a.eval o).run C.P w=.ok (.round L r.fn ((r.params.zip (aa.map a.eval)).foldl (fun tmps (t,v)=>tmps.setIfInBounds t v) r.tmps) r.assign r.body) w:=by
 have hy:=run_yield (P:=C.P) (args:=aa.map a.eval) hL (by simpa using hs);simp[execOp,bE,resolve,hx,Deferred.ofValue,invoke,hy]
theorem atK {g:Operand}{f:Nat}{vs:List Value}{L:Nat}(hf:∃fn,C.P.funcs[f]?=some fn∧fn.body.isSome=true∧(fn.name== "runtime.NumGoroutine")=false)(hg:a.eval g=.func (.func f) #[] vs.toArray):
 (resolve a.eval (rangeCall g L) 0).run C.P w=.ok {target:=.fn (.func f) vs.toArray,args:=#[.func (.yield L) #[] #[]]} w∧
 (invoke (.fn (.func f) vs.toArray) #[.func (.yield L) #[] #[]]).run C.P w=.ok (.enter f (#[.func (.yield L) #[] #[]]++vs.toArray)) w:=by
 obtain⟨fn,h1,h2,h3⟩:=hf;obtain⟨bd,jA⟩:=Option.isSome_iff_exists.1 h2;have h4:¬fn.name= "runtime.NumGoroutine" :=by simpa using h3
 constructor
 ·simp only[resolve,hg];simp[go_sem]
 ·simp[invoke,callFunc,h1,jA,h4]
theorem FrOK.enter {hv:Nat→Value}{S:St}{ρ:Env}(h:Inv C S ρ σ own hv w0 σ0 A a w){t:D}{fx cx:Nat→Prop}(hf:FrOK σ own w0.heap.size σ0 w t fx cx)(r:Loop):FrOK (σ.mark w.heap.size) own w0.heap.size σ0 ((w.alloc (.deferred (some []))).alloc (.loop r)) t fx cx:=by
 have hb:=Uc w (.deferred (some [])) (.loop r);have ah:=σ0.lt _ _ _ _ hf.F;have bV:=σ0.sub _ _ _ _ hf.F;have sB:∀k x,(σ.mark w.heap.size).m k=some x→σ.m k=some x∨k=w.heap.size:=by
  intro k x e;simp only[Im.mark] at e;split at e
  ·rename_i e2;exact .inr e2
  ·exact .inl e
 refine⟨σ0.keep _ _ _ _ _ hf.F (hb.mono (Nat.zero_le _)) fun k hk=>hb.block k (ah k hk),hf.own,hf.c,fun k x e hc=>?_,fun k e hB hk=>?_⟩
 ·rcases sB k x e with e|e
  ·exact hf.m k x e hc
  ·have:=ah k (bV k hc);omega
 ·rcases sB k _ e with e|e
  ·exact hf.d k e hB hk
  ·have:=ah k hk;omega
structure RSt (C:Ctx) (w0:World) (σR:Base) (ids:List Nat) (ρ1:Env) (lo:List Nat) (aM:Act) (L:Nat) (W1:World) (σ1:Im) (rec:LoopState→Option Code→Loop) (xs:List D) (P:Nat→List D→Snap→LoopState→Option Code→Prop) (t:D) (fx cx:Nat→Prop) (w:World):Prop where
 lt:∀k,fx k→k<w.heap.size
 sub:∀k,cx k→fx k
 old:∀k,k<W1.heap.size→fx k
 ex:∃(i:Nat) (vo:List D) (Sx:Snap) (st:LoopState) (pe:Option Code) (σ:Im) (own:Nat→Option Nat) (hv:Nat→Value),t=.list (xs.take i)∧P i vo Sx st pe∧Inv C (Sx.st ids) (ρ1.put [] [] lo vo) σ own hv w0 σR (fun _=>False) aM w∧
  σ1.le σ∧Free L σ own∧w.heap[L]?=some (.loop (rec st pe))∧(∀k j,own k=some j→fx k)∧(∀k o x,σ.c k o=some x→fx k)∧(∀k x,σ.m k=some x→fx k)∧∀k,cx k↔((∃j,own k=some j)∨k=L)
theorem RSt.keep {σR:Base}{ρ1:Env}{lo:List Nat}{aM:Act}{L:Nat}{W1:World}{σ1:Im}{rec:LoopState→Option Code→Loop}{xs:List D}{P:Nat→List D→Snap→LoopState→Option Code→Prop}{t:D}{fx cx:Nat→Prop}{w w':World}
 (h0:w0.heap.size≤W1.heap.size) (hL:L<W1.heap.size) (hR:∀t f c w,σR.F t f c w→∀k,f k→k<W1.heap.size) (h:RSt C w0 σR ids ρ1 lo aM L W1 σ1 rec xs P t fx cx w) (hb:Below 0 w w') (hs:∀k,fx k→w'.heap[k]?=w.heap[k]?):
 RSt C w0 σR ids ρ1 lo aM L W1 σ1 rec xs P t fx cx w':=by
 obtain⟨i,vo,Sx,st,pe,σ,own,hv,e1,e2,e3,e4,e5,e6,e7,e8,e9,e10⟩:=h.ex;refine⟨fun k hk=>Nat.lt_of_lt_of_le (h.lt k hk) hb.size,h.sub,h.old,i,vo,Sx,st,pe,σ,own,hv,e1,e2,?_,e4,e5,(hs L (h.old L hL)).trans e6,e7,e8,e9,e10⟩;exact e3.keep (X:=fx) hb hs (fun k hk=>h.old k (by omega)) e7 e8 e9 (fun t f c hf k hk=>h.old k (hR _ _ _ _ hf.F k hk))
theorem Im.noM_m {σ:Im}{k:Nat}{v:List (Value×Value)}(h:σ.noM.m k=some v):σ.m k=some v∧v≠cu:=by
 simp only[Im.noM] at h;split at h
 ·cases h
 ·rename_i aB;exact⟨h,fun e=>aB (by rw[h,e])⟩
structure SegL (L:Nat) (σ:Im) (own:Nat→Option Nat) (w:World) (σ':Im) (own':Nat→Option Nat) (w':World):Prop where
 le:σ.le σ'
 below:Below 0 w w'
 same:∀k,k<w.heap.size→own k=none→k≠L→w'.heap[k]?=w.heap[k]?
 ow:∀k j,own' k=some j→(∃i,own k=some i)∨w.heap.size≤k
 imm:∀k,((∃o x,σ'.c k o=some x)∨∃x,σ'.m k=some x)→(∃o x,σ.c k o=some x)∨(∃x,σ.m k=some x)∨(∃i,own k=some i)∨w.heap.size≤k
theorem aak (w:World)(L:Nat)(o:Obj):Below 0 w (w.putObj L o):=⟨rfl,rfl,rfl,by simp,fun k hk=>by omega⟩
theorem Seg.round {L:Nat}{σ' σ'':Im}{own' Z8:Nat→Option Nat}{w' iM:World}{o o':Obj}(h:Seg σ own w σ' own' w')(k:Seg σ' own' (w'.putObj L o) σ'' Z8 iM):SegL L σ own w σ'' Z8 (iM.putObj L o'):=by
 have aK:=h.below.size;have EF:=k.below.size;simp only[World.putObj_size] at EF;refine⟨h.le.trans k.le,h.below.trans ((aak _ _ _).trans (k.below.trans (aak _ _ _))),fun q hq ho hL=>?_,fun q j e=>?_,fun q e=>?_⟩
 ·have h1:own' q=none:=by
   cases e:own' q with
   |none=>rfl
   |some j=>
    rcases h.ow q j e with⟨i,e⟩|e
    ·rw[ho] at e;cases e
    ·omega
  rw[World.putObj_heap_other hL,k.same q (by simp;omega) h1,World.putObj_heap_other hL,h.same q hq ho]
 ·rcases k.ow q j e with⟨i,e⟩|e
  ·exact h.ow q i e
  ·simp only[World.putObj_size] at e;exact .inr (by omega)
 ·rcases k.imm q e with e|e|⟨i,e⟩|e
  ·exact h.imm q (.inl e)
  ·exact h.imm q (.inr e)
  ·rcases h.ow q i e with e|e
   ·exact .inr (.inr (.inl e))
   ·exact .inr (.inr (.inr e))
  ·simp only[World.putObj_size] at e;exact .inr (.inr (.inr (by omega)))
theorem Env.put_self (ρ:Env)(lo:List Nat):ρ.put [] [] lo (lo.map ρ.o)=ρ:=by
 have h2:∀u,putL ρ.o lo (lo.map ρ.o) u=ρ.o u:=fun u=>by rw[pG];split<;>rfl
 show Env.mk ρ.r (putL ρ.o lo (lo.map ρ.o))=ρ;rw[funext h2]
theorem atL {N:Nat}(eB:fc C Φ){g:Operand}{ps:Array Tmp}{ca cb:Code}(aY:rH C Φ fn s n ids R N ca)(cR:rH C Φ fn s n ids R N cb):rH C Φ fn s n ids R N (.rangeFunc g ps ca cb):=by
 intro rm S r hr rd w0 σ0 wr ρ x a w fo hC hY fU hn hg he;simp only[comp] at hr;split at hr
 case h_2=>cases hr;exact absurd he (ky _ _ _ _)
 rename_i aa rr e ix hu;split at hr
 case h_2=>cases hr;exact absurd he (ky _ _ _ _)
 rename_i ys sM;split at hr
 case h_2=>cases hr;exact absurd he (ky _ _ _ _)
 rename_i q hq;rw[Bool.cond_eq_ite] at hr;split at hr
 case isFalse=>cases hr;exact absurd he (ky _ _ _ _)
 rename_i sf;cases hr;simp only[Bool.and_eq_true] at sf;obtain⟨⟨⟨hl,aZ⟩,ah⟩,sE⟩:=sf;have hl:=Nat.eq_of_beq_eq_true hl;have sE:=Nat.le_of_ble_eq_true sE;obtain⟨hrd,kN⟩:=fo rfl;subst hrd;obtain⟨hs,uW,_⟩:=Ak (C:=C) (w0:=w0) (σ0:=σ0) (ids:=ids) 8 hq;simp only[Option.bind_eq_some_iff] at hs;obtain⟨ra,LJ,hs⟩:=hs;split at hs
 case h_2=>cases hs
 rename_i S1 hao U3;simp only[Option.map_eq_some_iff] at hs;obtain⟨rb,VS,gC⟩:=hs;have Vz:=qe ca LJ;have VA:=qe cb VS;obtain⟨q1,q2⟩:=q;simp only at LJ gC sE uW he ⊢;generalize sw:WK ids (q1::q2.ex.map (·.2)) q2.mo=lo at he;generalize qD:((lP cl q2.ex none).bind fun M=>tL C fn s (M.st ids))=rt at he;have zV:∃f caps d,e.ev ρ=.clo f caps∧Φ f caps=some d∧ff (q2.pc.ev Φ N) (ρ.setR n d) ps.toList lo rt d.l (lo.map ρ.o)=some x:=by
  simp only[PC.ev,PI.runs,PI.run,holds,List.all_nil,cond_true] at he;cases bD:e.ev ρ with
  |clo f caps=>
   rw[bD] at he;simp only[PE.evs,List.nil_append] at he;cases hΦ:Φ f caps with
   |none=>rw[hΦ] at he;simp at he
   |some d=>
    rw[hΦ] at he;simp only[Option.map_some,Option.bind_some,PE.ev,Env.setR,aP] at he;exact⟨f,caps,d,rfl,hΦ,he⟩
  |_=>rw[bD] at he;simp at he
 obtain⟨f,caps,d,bD,hΦ,he⟩:=zV;obtain⟨σ,own,hv,i⟩:=hg;have hx:=bO (gs:=[]) i hC rfl hu;rw[bD] at hx;generalize hgv:a.eval g=gv at hx;generalize aW:Ty.fn aa rr=ty at hx;cases hx with
 |fn f cs vs ds iU h1 h2 aQ=>
 cases aW;obtain⟨hfn,anq⟩:=eB f cs ys iU sM;obtain⟨xs,rfl,aB0,K4⟩:=anq caps d hΦ;simp only[D.l_list] at he;obtain⟨m,kC,hm,sI,Eu,jc⟩:=Ua he;have iq0:=Wj 8 hq i
 have iq:Inv C (q1.st ids) (ρ.setR n (.list xs)) σ own hv w0 σ0 (fun _=>False) a w:=by
  refine iq0.env (Snap.noOpt _ _) (fun t ht=>?_) (fun _ _=>rfl);have ah:t<q1.rs.length:=by
   refine Nat.lt_of_not_le fun hle=>?_;simp only[Snap.st,List.getD_eq_getElem?_getD,List.getElem?_eq_none hle,Option.getD_none,bY,isNone] at ht;cases ht
  simp[Env.setR,bl _ _ (show t≠n by omega)]
 obtain⟨ρ1,hρ1⟩:∃ρ1,ρ.setR n (.list xs)=ρ1:=⟨_,rfl⟩
 rw[hρ1] at he iq Eu jc;have gS:ρ.o=ρ1.o:=by rw[←hρ1];rfl
 rw[gS] at sI;refine wpIn_rangeFunc ?_;intro Ks aBE;obtain⟨L,UR⟩:∃L,w.heap.size+1=L:=⟨_,rfl⟩
 obtain⟨rec,gj⟩:∃rec:LoopState→Option Code→Loop,rec=fun st pe=>{state:=st,pending:=pe,fn:=Ks,tmps:=a.tmps,params:=ps,assign:=ca,body:=cb,defers:=w.heap.size}:=⟨_,rfl⟩
 have i1:=iq.enter (rec .ready none);obtain⟨t,fx0,cx0,Vg,ht0⟩:=iq.frame;have am6:=σ0.lt _ _ _ _ Vg.F;have KX:=FrOK.enter iq Vg (rec .ready none);have aBY:=iq.below.size;have uM:Free L (σ.mark w.heap.size) own:=by
  refine⟨?_,fun o=>?_,?_⟩
  ·cases e:own L with
   |none=>rfl
   |some j=>have:=(iq.owns L j e).2.1;omega
  ·cases e:σ.c L o with
   |none=>exact e
   |some x=>have:=iq.lt e;omega
  ·simp only[Im.mark,show L≠w.heap.size by omega,if_false];cases e:σ.m L with
   |none=>rfl
   |some x=>have:=iq.ltm e;omega
 have j8:σ.le (σ.mark w.heap.size):=by
  refine⟨fun _ _ _ e=>e,fun k x e=>?_⟩;have:k≠w.heap.size:=by have:=iq.ltm e;omega
  simp[Im.mark,this,e]
 have UO:((w.alloc (.deferred (some []))).alloc (.loop (rec .ready none))).heap[L]?=some (.loop (rec .ready none)):=by
  have:=World.alloc_heap_new (w.alloc (.deferred (some []))) (.loop (rec .ready none));rw[World.size_alloc,UR] at this;exact this
 obtain⟨W1,KD⟩:∃W1,(w.alloc (.deferred (some []))).alloc (.loop (rec .ready none))=W1:=⟨_,rfl⟩
 have aBx:W1.heap.size=w.heap.size+2:=by rw[←KD];simp
 rw[KD] at i1 KX UO;have KU:(Instr.enterLoop Ks a.tmps ps ca cb none).run C.P w=.ok (L,[{target:=.collected w.heap.size,args:=#[]}]) W1:=by
  rw[←KD,gj,←UR];exact run_enterLoop_outer _ _ _ _ _
 obtain⟨σ1,hσ1⟩:∃σ1,σ.mark w.heap.size=σ1:=⟨_,rfl⟩
 rw[hσ1] at i1 KX uM j8;obtain⟨aM,KE⟩:∃aM:Act,{a with defers:={target:=.collected w.heap.size,args:=#[]}::a.defers}=aM:=⟨_,rfl⟩
 have zj:aM.tmps=a.tmps:=by rw[←KE]
 rw[KE] at i1;have iR:=i1.toRnd (t:=t) (X:=fun k=>k=L) ht0;obtain⟨σR,hσR⟩:∃σR,σ0.rnd σ1 own W1 t (fun k=>k=L)=σR:=⟨_,rfl⟩
 have qo:∀t' f c w',σR.F t' f c w'→(∀k,f k→k<W1.heap.size∧k≠L)∧∀k,c k→f k∧(∀o,σ1.c k o=none)∧σ1.m k=none:=by
  rw[←hσR];rintro t' f c w' ⟨_,h2,h3,_⟩;exact⟨fun k hk=>⟨((h2 k).1 hk).1,((h2 k).1 hk).2.2.2⟩,fun k hk=>(h3 k).1 hk⟩
 have UU:CtxOK C σR:=by rw[←hσR];exact hC.mono i1.le
 rw[hσR] at iR
 obtain⟨P,hP⟩:∃P:Nat→List D→Snap→LoopState→Option Code→Prop,P=fun i vo Sx st pe=>(i≤m∧vo=kC i∧Sx=q1∧st=.ready∧pe=none)∨
  (i=m+1∧m<xs.length∧st=.done∧∃y id ρ',xs[m]?=some y∧q2.pc.ev Φ N (ρ1.put ps.toList (partsOf ps.toList y) lo (kC m))=some (.exit id ρ')∧vo=lo.map ρ'.o∧(id,Sx)∈q2.ex∧((id≠cl∧pe=some (.exit id))∨(id=cl∧pe=some .ret))):=⟨_,rfl⟩
 obtain⟨c1,c2⟩:=atK (C:=C) (w:=W1) (L:=L) hfn hgv;refine⟨L,[{target:=.collected w.heap.size,args:=#[]}],W1,_,W1,f,_,W1,KU,c1,fun _ _=>trivial,c2,(fun e=>by cases e),?_⟩
 refine Td ((K4 σ1 W1 (.func (.yield L) #[] #[]) vs (RSt C w0 σR ids ρ1 lo aM L W1 σ1 rec xs P) (fun k=>k<W1.heap.size) (fun k=>(∃j,own k=some j)∨k=L) m i1.ok (hC.mono i1.le) ⟨h1,h2,fun j t e=>(aQ j t e).mono j8⟩ hm
  (fun t f c w h=>h.lt) (fun t f c w h=>h.sub) (fun t f c w w' h hb hs=>h.keep (by omega) (by omega) (fun t f c w hF k hk=>((qo t f c w hF).1 k hk).1) hb hs) ?_ ?_ ?_ ?_).mono ?_)
 ·refine⟨fun k hk=>hk,fun k hk=>?_,fun k hk=>hk,0,kC 0,q1,.ready,none,σ1,own,hv,by simp,by rw[hP];exact .inl ⟨Nat.zero_le _,rfl,rfl,rfl,rfl⟩,?_,.refl σ1,uM,UO,fun k j e=>(iR.owns k j e).2.1,fun k o x e=>iR.lt e,fun k x e=>iR.ltm e,fun k=>.rfl⟩
  ·rcases hk with⟨j,e⟩|e
   ·exact(iR.owns k j e).2.1
   ·show k<W1.heap.size;omega
  ·rw[sI,Env.put_self];exact iR
 ·rintro k o x e (⟨j,hj⟩|rfl)
  ·have:=(iR.owns k j hj).2.2.1 o;rw[e] at this;cases this
  ·rw[uM.c] at e;cases e
 ·rintro k x e (⟨j,hj⟩|rfl)
  ·have:=(iR.owns k j hj).2.2.2;rw[e] at this;cases this
  ·rw[uM.m] at e;cases e
 ·intro i fx cx w1 σx args ds' hi cZ hF hσx gO gg kM cQ cK rd' o a' x' aa ts K Q bE cj U1 hK;have aBG:i<xs.length:=(List.getElem?_eq_some_iff.1 cZ).1;obtain⟨i',vo,Sx,st,pe,σa,tp,hva,e1,e2,iA,En,zh,DV,Lq,U7,zJ,uU⟩:=hF.ex;have hii:i'=i:=by
   have h9:=congrArg List.length (congrArg D.l e1);simp only[D.l_list,List.length_take] at h9;omega
  subst hii;rw[hP] at e2;rcases e2 with⟨_,rfl,zi,rfl,rfl⟩|⟨e2,_⟩
  case inr=>omega
  rw[zi] at iA;have US:L<w1.heap.size:=hF.lt L (hF.old L (by omega));have D4:cx L:=(uU L).2 (.inr rfl)
  have anQ:∀k o v,σx.c k o=some v→tp k=none:=fun k o v e=>by
   cases e2:tp k with
   |none=>rfl
   |some j=>exact absurd ((uU k).2 (.inl ⟨j,e2⟩)) (gg k o v e)
  have zN:∀k v,σx.m k=some v→tp k=none:=fun k v e=>by
   cases e2:tp k with
   |none=>rfl
   |some j=>exact absurd ((uU k).2 (.inl ⟨j,e2⟩)) (kM k v e)
  have hτok:σx.noM.ok w1:=⟨hσx.c,fun k v e=>hσx.m k v (Im.noM_m e).1⟩
  have iB:=iA.joinIm (τ:=σx.noM) hτok (fun k e=>(Im.noM_m e).2 rfl) anQ (fun k v e=>zN k v (Im.noM_m e).1)
   (fun k o v e=>(cQ k o v e).imp (fun e=>En.c k o v e) fun e=>by omega) (fun k v e=>(cK k v (Im.noM_m e).1).imp (fun e=>En.m k v e) fun e=>by omega)
   (fun t' f c hf=>⟨fun k o v e hc=>by
        obtain⟨g1,g2,g3⟩:=(qo _ _ _ _ hf.F).2 k hc;rcases cQ k o v e with e|e
        ·rw[g2 o] at e;cases e
        ·have:=((qo _ _ _ _ hf.F).1 k g1).1;omega,fun k v e hc=>by
        obtain⟨g1,g2,g3⟩:=(qo _ _ _ _ hf.F).2 k hc;rcases cK k v (Im.noM_m e).1 with e|e
        ·rw[g3] at e;cases e
        ·have:=((qo _ _ _ _ hf.F).1 k g1).1;omega⟩)
  have UL:Free L (σa.plus σx.noM) tp:=by
   refine⟨zh.own,fun o=>?_,?_⟩
   ·cases e:(σa.plus σx.noM).c L o with
    |none=>rfl
    |some v=>
     rcases Im.plus_c e with e|e
     ·rw[zh.c] at e;cases e
     ·exact absurd D4 (gg L o v e)
   ·cases e:(σa.plus σx.noM).m L with
    |none=>rfl
    |some v=>
     rcases Im.plus_m e with e|e
     ·rw[zh.m] at e;cases e
     ·exact absurd D4 (kM L v (Im.noM_m e).1)
  have pj:ps.toList.length=ys.length:=by rw[Array.length_toList];exact hl.symm
  have amv:nj C (σa.plus σx.noM) ys args ds':=⟨gO.1,gO.2.1,fun j t e=>((gO.2.2 j t e).noM).mono (Im.plus_le2 iA.ok hτok)⟩
  have iC:=iB.startR (ρ':=ρ1) pj aZ (fun p hp=>by
   have:=List.all_eq_true.1 ah p hp;rw[zj,hn];simpa [Nat.blt_eq] using this) amv rfl
  have LD:∃xi,q2.pc.ev Φ N (ρ1.put ps.toList (partsOf ps.toList (.tup ds')) lo (kC i'))=some xi∧((i'<m∧∃ρ',xi=.next ρ'∧lo.map ρ'.o=kC (i'+1))∨(i'=m∧m<xs.length∧∃id ρ',xi=.exit id ρ')):=by
   by_cases jb:i'<m
   ·obtain⟨y,ρ',g1,g2,g3⟩:=Eu i' jb;rw[cZ] at g1;cases g1;exact⟨_,g2,.inl ⟨jb,ρ',rfl,g3⟩⟩
   ·obtain rfl:i'=m:=by omega
    rcases jc with⟨g1,_⟩|⟨g1,y,id,ρ',g2,g3,_⟩
    ·omega
    ·rw[cZ] at g2;cases g2;exact⟨_,g3,.inr ⟨rfl,g1,id,ρ',rfl⟩⟩
  obtain⟨xi,pq,L6⟩:=LD;have ay:q2.pc=.seq ra.pc rb.pc:=by rw[←gC];rfl
  rw[ay] at pq;have aK:(kr ps.toList args aM.tmps).size=n:=by rw[abI,zj,hn]
  refine⟨fun _ _=>trivial,?_⟩;rw[Oper.semAt_eq _ _ _ (fun c e=>by rw[bE] at e;cases e)];have amw:aa.size=ps.size:=by
   have:=gO.1;rw[←U1,List.length_map,Array.length_toList] at this;omega
  have aj:=axF (C:=C) bE cj DV (by rw[gj];exact amw);have aoe:(rec .ready none).fn=Ks∧(rec .ready none).tmps=a.tmps∧(rec .ready none).params=ps∧(rec .ready none).assign=ca∧(rec .ready none).body=cb:=by rw[gj];exact⟨rfl,rfl,rfl,rfl,rfl⟩
  obtain⟨r1,r2,r3,r4,r5⟩:=aoe;rw[r1,r2,r3,r4,r5] at aj
  have mN:(ps.zip (aa.map a'.eval)).foldl (fun tmps (t,v)=>tmps.setIfInBounds t v) a.tmps=kr ps.toList args aM.tmps:=by
   rw[zj,←U1,←Array.toList_map];exact auG ps (aa.map a'.eval) a.tmps
  rw[mN] at aj;rw[aj];refine⟨(fun e=>by cases e),?_⟩;refine roundIn_of_wpIn (F:=FR rd') trivial ?_;show ca.wpIn (FR (some L)) 0 C.P _ _ _;cases kc:ra.pc.ev Φ N (ρ1.put ps.toList (partsOf ps.toList (.tup ds')) lo (kC i')) with
  |none=>simp only[PC.ev,kc] at pq;cases pq
  |some xa=>
  refine wpIn_mono (abC aY LJ ix UU iC (wr:=fun t=>t∈bW ca) (fun _ h=>h) aK kc L) fun e2 a1 R7 aop=>?_;obtain⟨ρ2,S2,σ2,gl,fS,iD,qF,fB,ir⟩:=aop;cases e2 with
  |normal=>
   obtain⟨rfl,uN⟩:=ir;rw[hao] at uN;cases uN;simp only[PC.ev,kc] at pq;have UP:R7.heap[L]?=some (.loop (rec .ready none)):=(qF.same L US UL.own).trans DV;have KA:=UL.seg US qF;have KB:L<R7.heap.size:=(Array.getElem?_eq_some_iff.1 UP).1;have UN:w0.heap.size≤L:=by omega
   refine⟨_,run_beginRound UP (by rw[gj]),?_⟩;have iE:=iD.putL UN KA (fun t' f c hf zx=>((qo _ _ _ _ hf.F).1 L zx).2 rfl) (.loop {rec .ready none with state:=.busy});have hL3:(R7.putObj L (.loop {rec .ready none with state:=.busy})).heap[L]?=some (.loop {rec .ready none with state:=.busy}):=World.putObj_heap_same KB;show cb.wpIn (FR (some L)) 0 C.P _ _ _;refine wpIn_mono (abC cR VS ix UU iE (wr:=fun t=>t∈bW cb) (fun _ h=>h) (fB.size.trans aK) pq L) fun e3 a3 w3 aoq=>?_;obtain⟨ρ3,S3,σ3,tn,Ac,iF,EE,aon,lK⟩:=aoq;have UQ:w3.heap[L]?=some (.loop {rec .ready none with state:=.busy}):=(EE.same L (by simpa using KB) KA.own).trans hL3;have UK:=KA.seg (by simpa using KB) EE;have ame:L<w3.heap.size:=(Array.getElem?_eq_some_iff.1 UQ).1;obtain⟨mk,Er⟩:∃mk,Nat.lor (sY (ps.toList++bW ca++bW cb)) (Nat.lor ra.mr rb.mr)=mk:=⟨_,rfl⟩
   have anJ:∀t,ar mk t=false→t∉ps.toList∧t∉bW ca∧t∉bW cb∧ar ra.mr t=false∧ar rb.mr t=false:=by
        intro t ht;rw[←Er,dU,dU,Bool.or_eq_false_iff,Bool.or_eq_false_iff] at ht;obtain⟨t1,t2,t3⟩:=ht;have:t∉ps.toList++bW ca++bW cb:=fun hm=>by rw[SZ hm] at t1;cases t1
        simp only[List.mem_append,not_or] at this;exact⟨this.1.1,this.1.2,this.2,t2,t3⟩
   have LL:∀t,ar mk t=false→aM.tmps.getD t undef=a3.tmps.getD t undef∧(ρ1.put [] [] lo (lo.map ρ3.o)).r t=ρ3.r t:=by
        intro t ht;obtain⟨t1,t2,t3,t4,t5⟩:=anJ t ht;refine⟨?_,?_⟩
        ·rw[aon.get t t3,fB.get t t2];exact(Ij _ _ _ _ t1).symm
        ·have hb3:∀ρ',xi=.next ρ'∨(∃id,xi=.exit id ρ')→ρ'.r t=ρ2.r t:=fun ρ' h=>by
          have sm:xi.env?=some ρ':=by rcases h with h|⟨id,h⟩<;>rw[h]<;>rfl
          exact(PC.ev_but rb.pc _ _ ρ' pq sm).r t fun hm=>by rw[VA.1 t hm] at t5;cases t5
         have cU:ρ2.r t=putL ρ1.r ps.toList (partsOf ps.toList (.tup ds')) t:=(PC.ev_but ra.pc _ _ ρ2 kc rfl).r t fun hm=>by rw[Vz.1 t hm] at t4;cases t4
         rw[v3 _ _ _ _ t1] at cU;show ρ1.r t=ρ3.r t;rw[hb3 ρ3 (by
          cases e3 with
          |normal=>exact .inl lK.1
          |exit id=>exact .inr ⟨id,lK.1⟩
          |ret=>exact .inr ⟨_,lK.1⟩
          |_=>exact lK.elim),cU]
   have Ld:q2.mo=gK ra.mo rb.mo:=by rw[←gC];rfl
   have Lt:∀j,j∉q2.mo→ρ3.o j=ρ1.o j:=by
        intro j hj;rw[Ld,mR,not_or] at hj;have sm:xi.env?=some ρ3:=by
         cases e3 with
         |normal=>rw[lK.1];rfl
         |exit id=>rw[lK.1];rfl
         |ret=>rw[lK.1];rfl
         |_=>exact lK.elim
        rw[(PC.ev_but rb.pc _ _ ρ3 pq sm).o j fun hm=>hj.2 (VA.2 j hm),(PC.ev_but ra.pc _ _ ρ2 kc rfl).o j fun hm=>hj.1 (Vz.2 j hm)]
        exact v3 _ _ _ _ fun hm=>by
         rw[←sw] at hm;have:=(List.mem_filter.1 hm).1;rw[Ld,mR] at this;exact this.elim hj.1 hj.2
   have Ls:∀(S:Snap),S∈(q1::q2.ex.map (·.2))→∀j,lN ((S.st ids).o j)=false→(ρ1.put [] [] lo (lo.map ρ3.o)).o j=ρ3.o j:=by
        intro S hS j hj;show putL ρ1.o lo (lo.map ρ3.o) j=ρ3.o j;rw[pG];split
        ·rfl
        ·rename_i eR;refine(Lt j fun qw=>eR ?_).symm;rw[←sw];exact List.mem_filter.2 ⟨qw,List.any_eq_true.2 ⟨S,hS,by simpa [Snap.st] using hj⟩⟩
   have fin:∀(jump:Option Code) (Sx:Snap),Inv C (Sx.st ids) (ρ1.put [] [] lo (lo.map ρ3.o)) σ3 tn Ac w0 σR (fun _=>False) aM w3→P (i'+1) (lo.map ρ3.o) Sx (if jump.isNone then .ready else .done) jump→jump.isNone=decide (i'<m)→
        ∃v w',(Instr.endRound L jump).run C.P w3=.ok v w'∧K (a'.put o.dst v) w':=by
        intro jump Sx iG hPn qw;refine⟨_,_,run_endRound jump UQ,?_⟩;have aod:({{rec .ready none with state:=.busy} with state:=if jump.isNone then .ready else .done,pending:=jump}:Loop)=rec (if jump.isNone then .ready else .done) jump:=by rw[gj]
        rw[aod];have aQ:=qF.round (L:=L) (o':=.loop (rec (if jump.isNone then .ready else .done) jump)) EE;have iH:=iG.putL UN UK (fun t' f c hf zx=>((qo _ _ _ _ hf.F).1 L zx).2 rfl) (.loop (rec (if jump.isNone then .ready else .done) jump));obtain⟨w4,L3⟩:∃w4,w3.putObj L (.loop (rec (if jump.isNone then .ready else .done) jump))=w4:=⟨_,rfl⟩
        have hL5:w4.heap[L]?=some (.loop (rec (if jump.isNone then .ready else .done) jump)):=by rw[←L3];exact World.putObj_heap_same ame
        have aB3:w4.heap.size=w3.heap.size:=by rw[←L3];simp
        rw[L3] at aQ iH ⊢;have aBw:W1.heap.size≤w1.heap.size:=by
         have:=hF.lt (W1.heap.size-1) (hF.old _ (by omega));omega
        have aBZ:=aQ.below.size
        refine hK _ _ ⟨by rw[qw],aQ.below,fun k hk hc=>aQ.same k hk (by
         cases e:tp k with
         |none=>rfl
         |some j=>exact absurd ((uU k).2 (.inl ⟨j,e⟩)) hc) (fun e=>hc (by rw[e];exact D4)),(fun k=>k<w4.heap.size∧(k<W1.heap.size∨(∃j,tn k=some j)∨(∃o x,σ3.c k o=some x)∨∃x,σ3.m k=some x)),(fun k=>(∃j,tn k=some j)∨k=L),?_,?_,?_⟩
        ·refine⟨fun k hk=>hk.1,fun k hk=>?_,fun k hk=>⟨by omega,.inl hk⟩,i'+1,lo.map ρ3.o,Sx,_,jump,σ3,tn,Ac,rfl,hPn,iH,En.trans ((Im.plus_le1 _ _).trans aQ.le),UK,hL5,fun k j e=>⟨(iH.owns k j e).2.1,.inr (.inl ⟨j,e⟩)⟩,fun k o x e=>⟨iH.lt e,.inr (.inr (.inl ⟨o,x,e⟩))⟩,fun k x e=>⟨iH.ltm e,.inr (.inr (.inr ⟨x,e⟩))⟩,fun k=>.rfl⟩;rcases hk with⟨j,e⟩|e
         ·exact⟨(iH.owns k j e).2.1,.inr (.inl ⟨j,e⟩)⟩
         ·exact⟨by omega,.inl (by omega)⟩
        ·rintro k ⟨_,hk⟩ bB
         have zB:((∃o x,σ3.c k o=some x)∨∃x,σ3.m k=some x)→fx k∨(∃o x,σx.c k o=some x)∨(∃x,σx.m k=some x∧x≠cu):=fun h=>by
          rcases aQ.imm k h with⟨o,x,e⟩|⟨x,e⟩|⟨j,e⟩|e
          ·rcases Im.plus_c e with e|e
           ·exact .inl (U7 k o x e)
           ·exact .inr (.inl ⟨o,x,e⟩)
          ·rcases Im.plus_m e with e|e
           ·exact .inl (zJ k x e)
           ·exact .inr (.inr ⟨x,(Im.noM_m e).1,(Im.noM_m e).2⟩)
          ·exact .inl (Lq k j e)
          ·omega
         rcases hk with hk|⟨j,e⟩|e|e
         ·exact .inl (hF.old k hk)
         ·rcases aQ.ow k j e with⟨j',e⟩|e
          ·exact .inl (Lq k j' e)
          ·omega
         ·exact zB (.inl e)
         ·exact zB (.inr e)
        ·rintro k (⟨j,e⟩|e) bB
         ·rcases aQ.ow k j e with⟨j',e⟩|e
          ·exact(uU k).2 (.inl ⟨j',e⟩)
          ·omega
         ·rw[e];exact D4
   have lD:iN σ3 w0.heap.size aM.defers:=iA.defers.mono ((Im.plus_le1 _ _).trans (qF.le.trans EE.le));have LF:q2.out=rb.out.map (Snap.mask mk)∧q2.ex=rb.ex.map (fun x=>(x.1,x.2.mask mk)):=by rw[←gC,←Er];exact⟨rfl,rfl⟩
   cases e3 with
   |normal=>
    obtain⟨e4,e5⟩:=lK;have hT:q2.out=some (S3.mask mk):=by rw[LF.1,e5];rfl
    have Vh:=uW _ hT
    have iG:Inv C (q1.st ids) ρ3 σ3 tn Ac w0 σR (fun _=>False) a3 w3:=by
        have:=Snap.meet_ok2 (x:=q1) (iF.maskR mk)
        rwa [Vh] at this
    have iH:=iG.restore (ρ':=ρ1.put [] [] lo (lo.map ρ3.o)) (a':=aM) (Snap.noOpt _ _) lD (fun t ht=>LL t (by
        cases e:ar mk t with
        |false=>rfl
        |true=>
         have h9:=arK (x:=q1) (S:=S3) (ids:=ids) e;rw[Vh] at h9;rw[h9] at ht;cases ht)) (fun j hj=>Ls q1 (List.mem_cons_self ..) j hj)
    rcases L6 with⟨jb,ρ',e6,e7⟩|⟨_,_,id,ρ',e6⟩
    ·rw[e4] at e6;cases e6;exact fin none q1 iH (by rw[hP];exact .inl ⟨by omega,e7,rfl,rfl,rfl⟩) (by simp[jb])
    ·rw[e4] at e6;cases e6
   |exit id=>
    obtain⟨e4,e5,e6⟩:=lK;have cE:(id,S3.mask mk)∈q2.ex:=by rw[LF.2];exact List.mem_map.2 ⟨_,e6,rfl⟩
    have iH:=(iF.maskR mk).restore (ρ':=ρ1.put [] [] lo (lo.map ρ3.o)) (a':=aM) (Snap.noOpt _ _) lD (fun t ht=>LL t (by
        cases e:ar mk t with
        |false=>rfl
        |true=>rw[As,if_pos e] at ht;cases ht)) (fun j hj=>Ls (S3.mask mk) (List.mem_cons_of_mem _ (List.mem_map.2 ⟨_,cE,rfl⟩)) j hj)
    rcases L6 with⟨jb,ρ',e7,_⟩|⟨jb,ph,bF,ρ',e7⟩
    ·rw[e4] at e7;cases e7
    ·subst jb;refine fin (some (.exit id)) (S3.mask mk) iH ?_ (by simp);rw[hP];refine .inr ⟨rfl,ph,rfl,_,id,ρ3,cZ,?_,rfl,cE,.inl ⟨e5,rfl⟩⟩;rw[ay];simp only[PC.ev,kc];rw[pq,e4]
   |ret=>
    obtain⟨e4,e6⟩:=lK;have cE:(cl,S3.mask mk)∈q2.ex:=by rw[LF.2];exact List.mem_map.2 ⟨_,e6,rfl⟩
    have iH:=(iF.maskR mk).restore (ρ':=ρ1.put [] [] lo (lo.map ρ3.o)) (a':=aM) (Snap.noOpt _ _) lD (fun t ht=>LL t (by
        cases e:ar mk t with
        |false=>rfl
        |true=>rw[As,if_pos e] at ht;cases ht)) (fun j hj=>Ls (S3.mask mk) (List.mem_cons_of_mem _ (List.mem_map.2 ⟨_,cE,rfl⟩)) j hj)
    rcases L6 with⟨jb,ρ',e7,_⟩|⟨jb,ph,bF,ρ',e7⟩
    ·rw[e4] at e7;cases e7
    ·subst jb;refine fin (some .ret) (S3.mask mk) iH ?_ (by simp);rw[hP];refine .inr ⟨rfl,ph,rfl,_,cl,ρ3,cZ,?_,rfl,cE,.inr ⟨rfl,rfl⟩⟩;rw[ay];simp only[PC.ev,kc];rw[pq,e4]
   |_=>exact lK.elim
  |exit id=>obtain⟨_,_,e6⟩:=ir;rw[U3] at e6;cases e6
  |ret=>obtain⟨_,e6⟩:=ir;rw[U3] at e6;cases e6
  |_=>exact ir.elim
 ·rintro e' w' ⟨⟨v,rfl⟩,fx,cx,hF⟩;rw[show({tmps:=a.tmps,defers:=[{target:=Target.collected w.heap.size,args:=#[]}]++a.defers}:Act)=aM from KE];obtain⟨i',vo,Sx,st,pe,σa,tp,hva,e1,e2,iA,En,zh,DV,Lq,U7,zJ,uU⟩:=hF.ex;have h9:=congrArg List.length (congrArg D.l e1);simp only[D.l_list,List.length_take] at h9;have cF:(rec st pe).state≠.busy:=by
   rw[hP] at e2;rw[gj];rcases e2 with⟨_,_,_,e3,_⟩|⟨_,_,e3,_⟩<;>(rw[e3];intro e;cases e)
  have qA:(rec st pe).pending=pe:=by rw[gj]
  have KV:(Instr.endLoop L).run C.P w'=.ok pe (w'.putObj L (.loop {rec st pe with state:=.exhausted})):=(run_endLoop (P:=C.P) DV cF).trans (congrArg (fun z=>Result.ok z _) qA);have iF:=iA.putL (by omega:w0.heap.size≤L) zh (fun t' f c hf zx=>((qo _ _ _ _ hf.F).1 L zx).2 rfl) (.loop {rec st pe with state:=.exhausted});rw[←hσR] at iF;have iG:=i1.ofRnd KX (fun k hk e=>by have:=am6 k hk;omega) iF;have iv:SameBut wr a aM:=⟨by rw[zj],fun t _=>by rw[zj]⟩
  refine⟨pe,_,KV,?_⟩;rw[hP] at e2;rcases e2 with⟨e3,rfl,zi,_,rfl⟩|⟨rfl,ph,_,y,id,ρ',g1,g2,rfl,g4,g5⟩
  ·rcases jc with⟨g1,g2⟩|⟨g1,_⟩
   ·obtain rfl:i'=m:=by omega
    rw[zi] at iG;exact⟨_,q1,g2,rfl,iv,_,_,_,iG⟩
   ·omega
  ·rcases jc with⟨g6,_⟩|⟨_,y',bF,ρ'',k1,k2,k3⟩
   ·omega
   ·rw[g1] at k1;cases k1;rw[g2] at k2;cases k2;rcases k3 with⟨k3,k4⟩|⟨k3,pe',k4,k5⟩
    ·rcases g5 with⟨_,rfl⟩|⟨g5,_⟩
     ·exact wpIn_exit ⟨_,Sx,k4,k3,List.mem_filter.2 ⟨g4,by simp[dI k3]⟩,iv,_,_,_,iG⟩
     ·exact absurd g5 k3
    ·rcases g5 with⟨g5,_⟩|⟨_,rfl⟩
     ·exact absurd k3 g5
     ·subst k3;rw[←qD,Option.bind_eq_some_iff] at k4;obtain⟨M,hM,LK⟩:=k4;obtain⟨M',UT,oZ⟩:=MT (⟨_,_,_,iG⟩:Good C w0 σ0 (Sx.st ids) _ (fun _=>False) aM _) q2.ex none g4;rw[hM] at UT;cases UT;obtain⟨σm,aCZ,V2,im⟩:=oZ;exact wpIn_ret ⟨_,k5,Inv.retD hC (fun _=>rfl) kN LK _ im rfl,iv⟩
theorem WO {arr:Array MapEntry}{clock:Nat}(hb:kE arr clock){idx:List Nat}(hi:∀i,i∈idx→i<arr.size){i:Nat}{e:MapEntry}(he:arr[i]?=some e):(fa arr idx).contains e.born=true↔i∈idx:=by
 simp only[fa,List.contains_toArray,List.contains_iff_mem,List.mem_map];constructor
 ·rintro⟨j,hj,h⟩;have ah:=hi j hj;rw[Array.getElem?_eq_getElem ah] at h;simp only at h;have:=hb.2 j i arr[j] e (Array.getElem?_eq_getElem ah) he h;rw[←this];exact hj
 ·intro h;exact⟨i,h,by rw[he]⟩
theorem auD (arr:Array MapEntry)(idx:List Nat){i:Nat}{e:MapEntry}(he:arr[i]?=some e):(fa arr idx).push e.born=fa arr (idx++[i]):=by
 simp[fa,he]
theorem ar5 {P:Program}{w:World}{k m:Nat}{arr:Array MapEntry}{clock:Nat}{idx:List Nat}(hk:w.heap[k]?=some (.mapIter (some m) clock (fa arr idx) clock))(hm:w.heap[m]?=some (.map arr clock))(hb:kE arr clock)(hi:∀i,i∈idx→i<arr.size)(T:TypeId):
 ∃w1:World,(w1=w∨w1=w.drew)∧(((∀i,i<arr.size→i∈idx)∧(Instr.next (.pointer (some ⟨k,0,none⟩)) false T).run P w=.ok (.tuple #[.bool false]) w1)∨
  ∃i e,arr[i]?=some e∧i∉idx∧(Instr.next (.pointer (some ⟨k,0,none⟩)) false T).run P w=.ok (.tuple #[.bool true,e.key,e.val]) {w1 with heap:=w1.heap.setIfInBounds k (.mapIter (some m) clock (fa arr (idx++[i])) clock)}):=by
 have cE:∀{e:MapEntry},e∈arr→∃i:Nat,arr[i]?=some e:=fun he=>by
  obtain⟨i,hi,rfl⟩:=Array.mem_iff_getElem.1 he;exact⟨i,Array.getElem?_eq_getElem hi⟩
 have hold:∀(l:Array MapEntry),(∀e,e∈l→e.born<clock)→l.filter (fun x=>decide (x.born<clock))=l:=fun l h=>by
  rw[Array.filter_eq_self];intro e he;simpa using h e he
 have jD:∀(l:Array MapEntry),(∀e,e∈l→e.born<clock)→l.filter (fun x=>decide (x.born≥clock))=#[]:=fun l h=>by
  rw[Array.filter_eq_empty_iff];intro e he;have:=h e he;simp;omega
 have U4:∀e,e∈arr→e.born<clock:=fun e he=>by obtain⟨i,hi⟩:=cE he;exact hb.1 i e hi
 have iW:(!(fa arr idx).isEmpty&& !arr.isEmpty&&arr.all (fun x=>decide (x.born≥clock)))=false:=by
  cases ha:arr.isEmpty
  ·have aB:arr.size≠0:=by simpa using ha
   have:arr.all (fun x=>decide (x.born≥clock))=false:=by
        rw[Bool.eq_false_iff];intro h;rw[Array.all_eq_true] at h;have h0:=h 0 (by omega);have h1:=U4 arr[0] (Array.getElem_mem _);simp at h0;omega
   rw[this,Bool.and_false]
  ·simp
 let left:=arr.filter fun e=> !(fa arr idx).contains e.born
 have hl:∀e,e∈left→e.born<clock:=fun e he=>U4 e (Array.mem_filter.1 he).1;by_cases hz:left.size=0
 ·refine⟨w,.inl rfl,.inl ⟨fun i ah=>?_,?_⟩⟩
  ·by_cases bx:i∈idx
   ·exact bx
   ·exfalso;have Ep:arr[i]∈left:=Array.mem_filter.2 ⟨Array.getElem_mem _,by
     have:=WO hb hi (Array.getElem?_eq_getElem ah);cases hc:(fa arr idx).contains arr[i].born with
     |false=>rfl
     |true=>exact absurd (this.1 hc) bx⟩
    have:left=#[]:=Array.eq_empty_of_size_eq_zero hz;rw[this] at Ep;simp at Ep
  ·have he:left=#[]:=Array.eq_empty_of_size_eq_zero hz;have jB:arr.filter (fun e=> !(fa arr idx).contains e.born)=#[]:=he;simp only[Instr.next,getObj,Sem.run_bind,Sem.run,hk,hm,Result.andThen_ok,iW,jB];simp[Question.forced,Sem.run]
 ·have gh:left.filter (fun x=>decide (x.born<clock))=left:=hold left hl;have iY:left.filter (fun x=>decide (x.born≥clock))=#[]:=jD left hl;have hem:left.isEmpty=false:=by simpa using hz
  have key:∀c,c<left.size→∃i e,arr[i]?=some e∧i∉idx∧left[c]?=some e:=fun c hc=>by
   have Ep:left[c]∈left:=Array.getElem_mem _;obtain⟨h1,h2⟩:=Array.mem_filter.1 Ep;obtain⟨i,cV⟩:=cE h1;refine⟨i,left[c],cV,fun bx=>?_,Array.getElem?_eq_getElem hc⟩;rw[(WO hb hi cV).2 bx] at h2;cases h2
  obtain⟨w1,c,jF,hc,j7⟩:∃w1 c,(w1=w∨w1=w.drew)∧c<left.size∧(choose (.mapNext left.size)).run P w=.ok c w1:=by
   by_cases h1:left.size≤1
   ·exact⟨w,0,.inl rfl,by omega,by simp[Question.forced,h1]⟩
   ·exact⟨w.drew,_,.inr rfl,Nat.mod_lt _ (by omega),by simp[Question.forced,h1,Question.cut];rfl⟩
  obtain⟨i,e,h1,h2,h3⟩:=key c hc;refine⟨w1,jF,.inr ⟨i,e,h1,h2,?_⟩⟩;have sv:arr.filter (fun e=> !(fa arr idx).contains e.born)=left:=rfl;have lE:(getObj k).run P w=.ok (.mapIter (some m) clock (fa arr idx) clock) w:=by simp[getObj,Sem.run,hk]
  have fA:(getObj m).run P w=.ok (.map arr clock) w:=by simp[getObj,Sem.run,hm]
  have bB:w1.heap[k]?=some (.mapIter (some m) clock (fa arr idx) clock):=by rcases jF with rfl|rfl<;>exact hk
  have Vi:(setObj k (.mapIter (some m) clock ((fa arr idx).push e.born) clock)).run P w1=.ok () {w1 with heap:=w1.heap.setIfInBounds k (.mapIter (some m) clock ((fa arr idx).push e.born) clock)}:=by simp[setObj,Sem.run,bB]
  have amD:((if false=true then #[none] else #[])++Array.map some (left++#[]):Array (Option MapEntry))=left.map some:=by simp
  have gg:(left.map some)[c]?=some (some e):=by simp[h3]
  have Vk:∀(xx:Array (Option MapEntry)) (cc:Nat),(choose (.mapNext xx.size)).run P w=.ok cc w1→xx[cc]?=some (some e)→(do
        match xx[←choose (.mapNext xx.size)]? with
        |some (some e)=>
         setObj k (.mapIter (some m) clock ((fa arr idx).push e.born) clock)
         pure (.tuple #[.bool true,e.key,e.val])
        |some none=>(pure (.tuple #[.bool false]):Sem Value)
        |none=>stuck "Next: no such candidate" :Sem Value).run P w=.ok (.tuple #[.bool true,e.key,e.val]) {w1 with heap:=w1.heap.setIfInBounds k (.mapIter (some m) clock ((fa arr idx).push e.born) clock)}:=by
   intro xx cc h4 h5;rw[Sem.run_bind,h4];simp only[Result.andThen_ok,h5];rw[Sem.run_bind,Vi];rfl
  rw[auD arr idx h1] at Vk Vi;have:=Vk (left.map some) c (by rw[Array.size_map];exact j7) gg;simp only[Instr.next];rw[Sem.run_bind,lE];simp only[Result.andThen_ok];rw[Sem.run_bind,fA];simp only[Result.andThen_ok,iW,sv,gh,iY,hem];rw[amD,if_neg (by decide)];exact this
theorem ai9 {P:Program}{w:World}{k m:Nat}{arr:Array MapEntry}{clock:Nat}{idx:List Nat}{i:Nat}{e:MapEntry}(hk:w.heap[k]?=some (.mapIter (some m) clock (fa arr (idx++[i])) clock))(hm:w.heap[m]?=some (.map arr clock))(hb:kE arr clock)(he:arr[i]?=some e):
 (Instr.entry (.pointer (some ⟨k,0,none⟩))).run P w=.ok (.tuple #[e.key,e.val]) w:=by
 have amz:(fa arr (idx++[i])).back?=some e.born:=by simp[fa,he]
 have zy:arr.find? (fun x=>x.born==e.born)=some e:=by
  have ah:i<arr.size:=(Array.getElem?_eq_some_iff.1 he).1;have hei:arr[i]=e:=(Array.getElem?_eq_some_iff.1 he).2;rw[Array.find?_eq_some_iff_getElem];refine⟨by simp,i,ah,hei,fun j hj=>?_⟩;have eR:j<arr.size:=by omega
  cases hc:(arr[j].born==e.born) with
  |false=>rfl
  |true=>
   have:=hb.2 j i arr[j] e (Array.getElem?_eq_getElem eR) he (by simpa using hc);omega
 simp[Instr.entry,getObj,Sem.run_bind,Sem.run,hk,hm,amz,zy]
theorem arD {x y z:Code}{k:Nat}{p:MP}(h:vA x y k z=some p):∃i1 i2 o1 o2 o3 l,x=.region i1 p.ops1 false∧y=.cond (.tmp p.mo) .skip (.exit p.out)∧z=.region i2 p.ops2 false∧p.next=k∧p.ops1.toList=[o1,o2]∧p.ops2.toList=o3::l∧
 o1.dst=some p.nx∧o1.guard=none∧o1.op=.next (.tmp p.it) false∧o2.dst=some p.mo∧o2.guard=none∧o2.op=.extract (.tmp p.nx) 0∧o3.dst=some p.pr∧o3.guard=none∧o3.op=.entry (.tmp p.it)∧jk p.pr l []=some p.aa∧
 p.it≠p.nx∧p.it≠p.mo∧p.it≠p.pr∧p.nx≠p.mo∧p.out≠cl∧k≠cl:=by
 unfold vA at h;split at h
 case h_2=>cases h
 rename_i i1 ops1 mo out i2 ops2;split at h
 case h_2=>cases h
 rename_i o1 o2 o3 l e1 e2;split at h
 case h_2=>cases h
 rename_i nx it mo' YC pr Wi d1 g1 q1 d2 g2 q2 d3 g3 q3;rw[Bool.cond_eq_ite] at h;split at h
 case isFalse=>cases h
 rename_i hc;simp only[Option.map_eq_some_iff] at h;obtain⟨aa,h4,rfl⟩:=h;simp only[Bool.and_eq_true,Bool.not_eq_true'] at hc;obtain⟨⟨⟨⟨⟨⟨⟨⟨c1,c2⟩,c3⟩,c4⟩,c5⟩,c6⟩,c7⟩,c8⟩,c9⟩:=hc;have ne:∀{a b:Nat},Nat.beq a b=false→a≠b:=fun h e=>by subst e;simp at h
 obtain rfl:=Nat.eq_of_beq_eq_true c1;obtain rfl:=Nat.eq_of_beq_eq_true c2;obtain rfl:=Nat.eq_of_beq_eq_true c3;exact⟨i1,i2,o1,o2,o3,l,rfl,rfl,rfl,rfl,e1,e2,d1,g1,q1,d2,g2,q2,d3,g3,q3,h4,ne c4,ne c5,ne c6,ne c7,ne c8,ne c9⟩
theorem Fs {pr:Nat}:∀(l:List Oper) {acc aa:List (Nat×Nat)},jk pr l acc=some aa→∀x,x∈acc→x∈aa
 |[],acc,aa,h,x,hx=>by simp only[jk,Option.some.injEq] at h;subst h;exact hx
 |o::l,acc,aa,h,x,hx=>by
  simp only[jk] at h;split at h
  case h_2=>cases h
  rw[Bool.cond_eq_ite] at h;split at h
  ·cases h
  split at h
  ·rw[Bool.cond_eq_ite] at h;split at h
   ·exact Fs l h x (List.mem_append_left _ hx)
   ·cases h
  ·simp only[Option.bind_eq_some_iff] at h;obtain⟨i,_,h⟩:=h;exact Fs l h x (List.mem_append_left _ hx)
  ·simp only[Option.bind_eq_some_iff] at h;obtain⟨i,_,h⟩:=h;exact Fs l h x (List.mem_append_left _ hx)
  ·cases h
theorem Aq:∀{l:List (Nat×Nat)} {t i:Nat},qQ l t=some i→(t,i)∈l
 |x::l,t,i,h=>by
  simp only[qQ] at h;cases hb:Nat.beq x.1 t<;>simp only[hb,cond_true,cond_false] at h
  ·exact List.mem_cons_of_mem _ (Aq h)
  ·cases h;have:=Nat.eq_of_beq_eq_true hb;subst this;exact List.mem_cons_self ..
theorem WG:∀{l:List (Nat×Nat)} {t:Nat},(qQ l t).isSome=false→∀x,x∈l→x.1≠t
 |y::l,t,h,x,hx=>by
  simp only[qQ] at h;cases hb:Nat.beq y.1 t<;>simp only[hb,cond_true,cond_false] at h
  ·rcases List.mem_cons.1 hx with e|hx
   ·subst e;intro e;subst e;simp at hb
   ·exact WG h x hx
  ·cases h
theorem N2 {pr:Nat}:∀(l:List Oper) {acc aa:List (Nat×Nat)},jk pr l acc=some aa→(∀x,x∈acc→x.2≤1)→∀x,x∈aa→x∈acc∨(x.2≤1∧∃o,o∈l∧o.dst=some x.1)
 |[],acc,aa,h,_,x,hx=>by simp only[jk,Option.some.injEq] at h;subst h;exact .inl hx
 |o::l,acc,aa,h,ha,x,hx=>by
  simp only[jk] at h;split at h
  case h_2=>cases h
  rename_i d hd il;rw[Bool.cond_eq_ite] at h;split at h
  ·cases h
  have go:∀(pt:Nat),pt≤1→jk pr l (acc++[(d,pt)])=some aa→x∈acc∨(x.2≤1∧∃o',o'∈o::l∧o'.dst=some x.1):=by
   intro pt qB hp
   rcases N2 l hp (fun y hy=>by
        rcases List.mem_append.1 hy with h|h
        ·exact ha y h
        ·simp at h;subst h;exact qB) x hx with h|⟨h1,o',h2,h3⟩
   ·rcases List.mem_append.1 h with h|h
    ·exact .inl h
    ·simp at h;subst h;exact .inr ⟨qB,o,List.mem_cons_self ..,hd⟩
   ·exact .inr ⟨h1,o',List.mem_cons_of_mem _ h2,h3⟩
  split at h
  ·rw[Bool.cond_eq_ite] at h;split at h
   case isFalse=>cases h
   rename_i gg;simp only[Bool.and_eq_true] at gg;exact go _ (Nat.le_of_ble_eq_true gg.2) h
  ·simp only[Option.bind_eq_some_iff] at h;obtain⟨i,hi,h⟩:=h;exact go i (ha _ (Aq hi)) h
  ·simp only[Option.bind_eq_some_iff] at h;obtain⟨i,hi,h⟩:=h;exact go i (ha _ (Aq hi)) h
  ·cases h
theorem vW {P:Program}{ops:Array Oper}{i:Nat}{rest:List Nat}{o:Oper}{rd:Option Nat}{a:Act}{w w':World}{Q:Exit→Act→World→Prop}{v:Value}(ho:ops[i]?=some o)(hg:o.guard=none)(aZ:lQ o.op=true)(hx:(execOp a.eval o).run P w=.ok (.value v) w')
 (k:wpOpsIn (FR rd) 0 P ops Q rest (a.put o.dst v) w'):wpOpsIn (FR rd) 0 P ops Q (i::rest) a w:=by
 simp only[wpOpsIn,ho];rw[if_pos (by simp[Region.wanted,hg])];exact Z5 aZ (by unfold Oper.wp;rw[hx];exact k)
theorem auy {ops:Array Oper}{o:Oper}(ho:o∈ops.toList)(a:Act)(v:Value):SameBut (ns ops) a (a.put o.dst v):=by
 have:=SameBut.put a o.dst v a.defers;exact this.mono fun t e=>⟨o,ho,e⟩
theorem v5 {a:Act}{d:Nat}{v:Value}(h:d<a.tmps.size):(a.put (some d) v).tmps.getD d undef=v:=by rw[B5];simp[h]
theorem Hv {a:Act}{d t:Nat}{v:Value}(h:t≠d):(a.put (some d) v).tmps.getD t undef=a.tmps.getD t undef:=by rw[B5];simp[h]
theorem put_defers (a:Act)(d:Option Nat)(v:Value):(a.put d v).defers=a.defers:=by cases d<;>rfl
def AF (kv vv:Value)(i:Nat):Value:=if i=0 then kv else vv
theorem Z9 {P:Program}{ops:Array Oper}{rd:Option Nat}{Q:Exit→Act→World→Prop}{pr:Nat}{kv vv:Value}{w:World}:∀(l:List Oper) (acc aa:List (Nat×Nat)) (i:Nat) (a:Act),jk pr l acc=some aa→ops.toList.drop i=l→(∀x,x∈aa→x.1<a.tmps.size)→a.tmps.getD pr undef=.tuple #[kv,vv]→
 (∀x,x∈acc→a.tmps.getD x.1 undef=AF kv vv x.2)→(∀a',SameBut (ns ops) a a'→a'.defers=a.defers→(∀x,x∈aa→a'.tmps.getD x.1 undef=AF kv vv x.2)→Q .normal a' w)→wpOpsIn (FR rd) 0 P ops Q (List.range' i (ops.size-i)) a w
 |[],acc,aa,i,a,h,hl,ah,mM,zk,hQ=>by
  simp only[jk,Option.some.injEq] at h;subst h;have:ops.size-i=0:=by
    have:=List.drop_eq_nil_iff.1 hl;simp at this;omega
  rw[this];exact hQ a (.refl _ _) rfl zk
 |o::l,acc,aa,i,a,h,hl,ah,mM,zk,hQ=>by
  have hi:i<ops.toList.length:=by
   refine Nat.lt_of_not_le fun hle=>?_;rw[List.drop_eq_nil_iff.2 hle] at hl;cases hl
  rw[List.drop_eq_getElem_cons hi] at hl;have ho:ops[i]?=some o:=by
   have:ops.toList[i]=o:=by injection hl
   rw[←this];simp at hi ⊢
  have va:ops.toList.drop (i+1)=l:=by injection hl
  have aK:ops.size-i=(ops.size-(i+1))+1:=by simp at hi;omega
  rw[aK,List.range'_succ];have cE:o∈ops.toList:=by simpa using Array.mem_of_getElem? ho
  simp only[jk] at h;split at h
  case h_2=>cases h
  rename_i d hd il;rw[Bool.cond_eq_ite] at h;split at h
  ·cases h
  rename_i hc;simp only[Bool.or_eq_true,not_or,Bool.not_eq_true] at hc;have hdp:pr≠d:=fun e=>by subst e;simp at hc
  have hda:∀x,x∈acc→x.1≠d:=WG hc.2;have go:∀(pt:Nat) (v:Value),jk pr l (acc++[(d,pt)])=some aa→lQ o.op=true→v=AF kv vv pt→(execOp a.eval o).run P w=.ok (.value v) w→wpOpsIn (FR rd) 0 P ops Q (i::List.range' (i+1) (ops.size-(i+1))) a w:=by
   intro pt v hp aZ hv hx;have KQ:d<a.tmps.size:=ah _ (Fs l hp (d,pt) (by simp));refine vW ho il aZ hx ?_;have iv:=auy cE a v;rw[hd] at iv ⊢;refine Z9 l _ aa (i+1) _ hp va (fun x hx=>by rw[iv.size];exact ah x hx) (by rw[Hv hdp];exact mM) (fun x hx=>?_) (fun a' h1 h2 h3=>hQ a' (iv.trans h1) (h2.trans (put_defers _ _ _)) h3);rcases List.mem_append.1 hx with hx|hx
   ·rw[Hv (hda x hx)];exact zk x hx
   ·simp at hx;subst hx;rw[v5 KQ];exact hv
  split at h
  ·rename_i t pt e;rw[Bool.cond_eq_ite] at h;split at h
   case isFalse=>cases h
   rename_i gg;simp only[Bool.and_eq_true] at gg;have ht:=Nat.eq_of_beq_eq_true gg.1;have qB:=Nat.le_of_ble_eq_true gg.2;subst ht;have bD:a.eval (.tmp t)=.tuple #[kv,vv]:=by simpa [Act.eval] using mM
   refine go pt (AF kv vv pt) h (by rw[e];rfl) rfl ?_;rcases(by omega:pt=0∨pt=1) with rfl|rfl<;>simp[execOp,e,bD,Instr.extract,AF]
  ·rename_i t e;simp only[Option.bind_eq_some_iff] at h;obtain⟨pt,sv,h⟩:=h;have:=zk _ (Aq sv);exact go pt (a.eval (.tmp t)) h (by rw[e];rfl) (by simpa [Act.eval] using this) (by simp[execOp,e])
  ·rename_i t e;simp only[Option.bind_eq_some_iff] at h;obtain⟨pt,sv,h⟩:=h;have:=zk _ (Aq sv);exact go pt (a.eval (.tmp t)) h (by rw[e];rfl) (by simpa [Act.eval] using this) (by simp[execOp,e])
  ·cases h
theorem Mf (ids:List Nat)(J j:Nat)(S:Snap):((S.kill ids J).st ids).o j=if j=J then .dead else(S.st ids).o j:=by
 show cO ids (sR ids J S.os) j=_;have:∀(is:List Nat) (os:List Ob),cO is (sR is J os) j=if j=J then .dead else cO is os j:=by
  intro is
  induction is with
  |nil=>intro os;simp[sR,cO]
  |cons i is ih=>
   intro os;cases os with
   |nil=>simp[sR,cO]
   |cons o os=>
    simp only[sR,cO];cases hb:Nat.beq i j
    ·simp only[cond_false];exact ih os
    ·have:=Nat.eq_of_beq_eq_true hb;subst this;simp only[cond_true];by_cases cJ:i=J
     ·subst cJ;simp
     ·simp[dI cJ,cJ]
 exact this ids S.os
theorem S7 {N:Nat}{id:Nat}(Ed:id≠cl){rm:Bool}{wr:Nat→Prop}{a:Act}{q:Res2}{x xi:Out}(nD:(∀t,t∈q.pc.modR→ar q.mr t=true)∧∀j,j∈q.pc.modO→j∈q.mo)(cZ:q.pc.ev Φ N ρ=some xi)(bD:(fe ids id q).pc.ev Φ N ρ=some x){e:Exit}{a':Act}{w':World}
 (fl:fw C w0 σ0 ids fn s rm wr a q.out q.ex xi e a' w'):Exit.inBlock id (fw C w0 σ0 ids fn s rm wr a (fe ids id q).out (fe ids id q).ex x) e a' w':=by
 have Vf:∀bF S1,(bF,S1)∈q.ex→bF≠id→(bF,S1)∈q.ex.filter fun x=> !Nat.beq x.1 id:=fun bF S1 hm aB=>List.mem_filter.2 ⟨hm,by simp[dI aB]⟩;have main:∀(o:Option Snap) (lr lo:List Nat),lP id q.ex q.out=o→(∀M,o=some M→lr=iI M q.mr∧lo=gE ids M q.mo)→(PC.block id lr lo q.pc).ev Φ N ρ=some x→
        Exit.inBlock id (fw C w0 σ0 ids fn s rm wr a o (q.ex.filter fun x=> !Nat.beq x.1 id) x) e a' w':=by
  intro o lr lo ho hl bD;simp only[PC.ev] at bD;rw[cZ] at bD
  have fin:∀{ρ1:Env} {a':Act} {w':World},(∃M,o=some M∧Good C w0 σ0 (M.st ids) ρ1 (fun _=>False) a' w')→xi.env?=some ρ1→x=.next (ρ.join lr lo ρ1)→SameBut wr a a'→
   fw C w0 σ0 ids fn s rm wr a o (q.ex.filter fun x=> !Nat.beq x.1 id) x .normal a' w':=by
        intro ρ1 a' w' hM sm hx ed;obtain⟨M,hM,oZ⟩:=hM;obtain⟨l1,l2⟩:=hl M hM;subst l1 l2;exact⟨_,M,hx,hM,ed,oZ.joined (PC.ev_but q.pc ρ _ ρ1 cZ sm) nD.1 nD.2⟩
  cases e with
  |normal=>
   obtain⟨ρ1,S2,e1,e2,ed,fA⟩:=fl;subst e1;simp only[Option.some.injEq] at bD;refine fin ?_ rfl bD.symm ed;rw[e2] at ho;obtain⟨M,h1,h2⟩:=EY (id:=id) q.ex fA;rw[ho] at h1;exact⟨M,h1,h2⟩
  |exit bF=>
   obtain⟨ρ1,S2,e1,e0,e2,ed,fA⟩:=fl;subst e1;simp only at bD;show if bF=id then _ else _;by_cases cf:bF=id
   ·subst cf;simp only[Nat.beq_refl,cond_true,Option.some.injEq] at bD;simp only[if_true];refine fin ?_ rfl bD.symm ed;rw[←ho];exact MT fA q.ex q.out e2
   ·simp only[dI cf,cond_false,Option.some.injEq] at bD;subst bD;simp only[cf,if_false];exact⟨ρ1,S2,rfl,e0,Vf _ _ e2 cf,ed,fA⟩
  |ret=>
   cases rm with
   |false=>
    have hy:=fl;obtain⟨d,e1,_⟩:=hy;subst e1;simp only[Option.some.injEq] at bD;subst bD;exact fl
   |true=>
    obtain⟨ρ1,S2,e1,e2,ed,fA⟩:=fl;subst e1;simp only[dI (fun e=>Ed e.symm:cl≠id),cond_false,Option.some.injEq] at bD;subst bD;exact⟨ρ1,S2,rfl,Vf _ _ e2 (fun e=>Ed e.symm),ed,fA⟩
  |_=>exact fl.elim
 unfold fe at bD ⊢;cases hm:lP id q.ex q.out with
 |none=>
  simp only[hm] at bD ⊢;exact main none [] [] hm (fun M e=>by cases e) bD
 |some M=>
  simp only[hm] at bD ⊢;exact main (some M) _ _ hm (fun M' e=>by cases e;exact⟨rfl,rfl⟩) bD
theorem S5 {N id:Nat}{q:Res2}{x:Out}(bD:(fe ids id q).pc.ev Φ N ρ=some x):∃xi,q.pc.ev Φ N ρ=some xi:=by
 unfold fe at bD;cases hm:lP id q.ex q.out<;>simp only[hm,PC.ev] at bD<;>cases cZ:q.pc.ev Φ N ρ<;>first|exact⟨_,rfl⟩|(rw[cZ] at bD;cases bD)
theorem abA {es:List (D×D)}{idx:List Nat}(hn:idx.Nodup)(ah:∀i,i∈idx→i<es.length)(aQ:∀i,i<es.length→i∈idx):(fp es idx).Perm (fW (.map es)):=by
 have h1:idx.Perm (List.range es.length):=by
  rw[List.perm_ext_iff_of_nodup hn List.nodup_range];intro i;rw[List.mem_range];exact⟨ah i,aQ i⟩
 have h2:fp es (List.range es.length)=fW (.map es):=by
  refine List.ext_getElem (by simp[fp,fW,D.m]) fun i g1 g2=>?_;have hi:i<es.length:=by simpa [fp] using g1
  simp[fp,fW,D.m,List.getElem?_eq_getElem hi]
 rw[←h2];exact h1.map _
theorem auE {es:List (D×D)}{idx:List Nat}(hn:idx.Nodup)(ah:∀i,i∈idx→i<es.length):∃rest,(fp es idx++rest).Perm (fW (.map es)):=by
 refine⟨fp es ((List.range es.length).filter fun i=> !idx.contains i),?_⟩;have e:fp es idx++fp es ((List.range es.length).filter fun i=> !idx.contains i)=fp es (idx++(List.range es.length).filter fun i=> !idx.contains i):=by simp[fp]
 rw[e];refine abA ?_ (fun i hi=>?_) (fun i hi=>?_)
 ·rw[List.nodup_append];refine⟨hn,List.nodup_range.filter _,fun a ha b hb e=>?_⟩;subst e;have:=(List.mem_filter.1 hb).2;simp[ha] at this
 ·rcases List.mem_append.1 hi with h|h
  ·exact ah i h
  ·exact List.mem_range.1 (List.mem_filter.1 h).1
 ·by_cases h:i∈idx
  ·exact List.mem_append_left _ h
  ·exact List.mem_append_right _ (List.mem_filter.2 ⟨List.mem_range.2 hi,by simp[h]⟩)
theorem abB (es:List (D×D))(idx:List Nat){i:Nat}{p:D×D}(h:es[i]?=some p):fp es (idx++[i])=fp es idx++[.tup [p.1,p.2]]:=by simp[fp,h]
theorem arF {N:Nat}{x y z code:Code}{k:Nat}{p:MP}(hp:vA x y k z=some p)(ihc:rH C Φ fn s n ids R N code){rm:Bool}{S:Snap}{r:Res2}
 (hr:vB ids n p (bW x++(bW y++(bW z++bW code))) (fun S=>comp C fn s n ids R rm code S) S=some r) {rd:Option Nat} {wr:Nat→Prop} {x0:Out} (fo:rm=false→rd=none∧σ0.fin) (hC:CtxOK C σ0) (hY:mf C Φ w0 σ0)
 (fU:∀t,t∈bW (.loop (.seq x (.seq y (.block k (.seq z code)))))→wr t) (hn:a.tmps.size=n) (hg:Good C w0 σ0 (S.st ids) ρ (fun _=>False) a w) (he:r.pc.ev Φ N ρ=some x0):
 (Code.loop (.seq x (.seq y (.block k (.seq z code))))).wpIn (FR rd) 0 C.P (fw C w0 σ0 ids fn s rm wr a r.out r.ex x0) a w:=by
 obtain⟨i1,i2,o1,o2,o3,l,rfl,rfl,rfl,hk,e1,e2,d1,g1,q1,d2,g2,q2,d3,g3,q3,kS,n1,n2,n3,n4,n5,n6⟩:=arD hp;subst hk;unfold vB at hr;split at hr
 case h_2=>cases hr;exact absurd he (ky _ _ _ _)
 rename_i J hJ;split at hr
 case h_2=>cases hr;exact absurd he (ky _ _ _ _)
 rename_i kt et Ej;simp only at hr;split at hr
 case h_2=>cases hr;exact absurd he (ky _ _ _ _)
 rename_i q hq;rw[Bool.cond_eq_ite] at hr;split at hr
 case isFalse=>cases hr;exact absurd he (ky _ _ _ _)
 rename_i sf;cases hr;generalize EI:bW (.region i1 p.ops1 false)++(bW (.cond (.tmp p.mo) .skip (.exit p.out))++(bW (.region i2 p.ops2 false)++bW code))=ws at*;simp only[Bool.and_eq_true,Bool.not_eq_true'] at sf;obtain⟨⟨⟨⟨⟨⟨⟨⟨c1,c2⟩,c3⟩,c4⟩,c5⟩,c6⟩,c7⟩,c8⟩,c9⟩:=sf;have hex:q.2.ex=[]:=List.isEmpty_iff.1 c1;have UM:J∉q.2.mo:=fun h=>by rw[(mQ _ _).2 h] at c2;cases c2
 simp only[Wg,Bool.and_eq_true,Bool.not_eq_true'] at c3;obtain⟨⟨c3a,c3b⟩,c3c⟩:=c3;have aog:q.1.rs.getD p.it .none=.obj J 0:=Sh.beq_eq _ _ c3a;have Ew:cO ids q.1.os J=.it kt et:=Ob.beq_eq _ _ c3b;have an8:∀t,t∈p.aa.map (·.1)→t<n:=fun t ht=>by have:=List.all_eq_true.1 c5 t ht;rwa [Nat.blt_eq] at this
 have Lo:p.nx<n:=by rwa [Nat.blt_eq] at c6
 have Ld:p.mo<n:=by rwa [Nat.blt_eq] at c7
 have mM:p.pr<n:=by rwa [Nat.blt_eq] at c8
 have zL:=Nat.eq_of_beq_eq_true c9;obtain⟨hs,uW,bx⟩:=Ak (C:=C) (w0:=w0) (σ0:=σ0) (ids:=ids) 8 hq;simp only[Option.map_eq_some_iff] at hs;obtain⟨q0,sC,gC⟩:=hs;obtain⟨qS,qR⟩:=q;simp only at*;subst gC;generalize hm:sY ws=m at*;generalize sw:gE ids qS (fe ids p.next q0).mo=lo at*;have Lg:=S6 (ids:=ids) (id:=p.next) (qe code sC);have anA:∀j,j∈lo→j∈(fe ids p.next q0).mo:=fun j hj=>by rw[←sw] at hj;exact vC hj
 have aBu:J∉lo:=fun h=>UM (anA J h);have zV:∃wW,Hp ((fe ids p.next q0).pc.ev Φ N) ρ J (p.aa.map (·.1)) (p.aa.map (·.2)) lo wW∧x0=.exit p.out (ρ.put [] [] lo wW):=by
  simp only[PC.ev] at he;cases mM:Hq ((fe ids p.next q0).pc.ev Φ N) ρ J (p.aa.map (·.1)) (p.aa.map (·.2)) lo with
  |none=>rw[mM] at he;cases he
  |some y=>
   obtain⟨wW,h1,rfl⟩:=tt.1 mM;rw[mM] at he;simp only[Option.some.injEq] at he;exact⟨wW,h1,he.symm⟩
 obtain⟨wW,⟨zR,amo⟩,hx0⟩:=zV;generalize gz:(ρ.o J).tget 1=es at*
 have jF:∀o,o∈p.ops1.toList→∀d,o.dst=some d→d∈ws:=fun o ho d hd=>by
  rw[←EI];exact List.mem_append_left _ (List.mem_filterMap.2 ⟨o,ho,hd⟩)
 have eG:∀o,o∈p.ops2.toList→∀d,o.dst=some d→d∈ws:=fun o ho d hd=>by
  rw[←EI];exact List.mem_append_right _ (List.mem_append_right _ (List.mem_append_left _ (List.mem_filterMap.2 ⟨o,ho,hd⟩)))
 have hwc:∀d,d∈bW code→d∈ws:=fun d hd=>by
  rw[←EI];exact List.mem_append_right _ (List.mem_append_right _ (List.mem_append_right _ hd))
 have L4:∀t,t∈ws→wr t:=fun t ht=>fU t (by rw[←EI] at ht;exact ht);have po:∀t,t∈ws→ar m t=true:=fun t ht=>by rw[←hm];exact SZ ht
 have Lc:∀t,ar m t=true→((qS.mask m).st ids).r t=.none:=fun t ht=>by rw[As,if_pos ht]
 have anG:∀t,isNone (((qS.mask m).st ids).r t)=false→ar m t=false:=fun t ht=>by
  cases hb:ar m t with
  |false=>rfl
  |true=>rw[Lc t hb] at ht;cases ht
 have jd:((qS.mask m).st ids).r p.it=.obj J 0:=by
  rw[As,c3c];show bY (qS.rs.getD p.it .none)=_;rw[aog];rfl
 have cn:((qS.mask m).st ids).o J=.it kt et:=Ew;have gS:p.ops1[0]?=some o1:=by rw[←Array.getElem?_toList,e1];rfl
 have cW:p.ops1[1]?=some o2:=by rw[←Array.getElem?_toList,e1];rfl
 have Lp:p.ops2[0]?=some o3:=by rw[←Array.getElem?_toList,e2];rfl
 have aoC:List.range p.ops1.size=[0,1]:=by
  have:p.ops1.size=2:=by rw[←Array.length_toList,e1];rfl
  rw[this];rfl
 have EF:List.range p.ops2.size=0::List.range' 1 (p.ops2.size-1):=by
  have:p.ops2.size=l.length+1:=by rw[←Array.length_toList,e2];rfl
  rw[this,List.range_eq_range',List.range'_succ];rfl
 have key:∀(kk:Nat) (done vo:List D) (a':Act) (w':World),SameBut wr a a'→Good C w0 σ0 ((qS.mask m).st ids) ((ρ.put [] [] lo vo).setO J (.tup [.list done,es])) (fun _=>False) a' w'→
  (∀ys,(done++ys).Perm (fW es)→jH ((fe ids p.next q0).pc.ev Φ N) ρ J es (p.aa.map (·.1)) (p.aa.map (·.2)) lo ys done vo=some wW)→done.length+kk=(fW es).length+1→
  Code.roundsIn (FR rd) 0 C.P (.seq (.region i1 p.ops1 false) (.seq (.cond (.tmp p.mo) .skip (.exit p.out)) (.block p.next (.seq (.region i2 p.ops2 false) code)))) (fw C w0 σ0 ids fn s rm wr a none [(p.out,(qS.mask m).kill ids J)] x0) kk a' w':=by
  intro kk
  induction kk with
  |zero=>
   intro done vo a' w' _ eD _ hlen;exfalso;obtain⟨σ,own,hv,h⟩:=eD;have ba:=h.objs J;rw[cn] at ba;obtain⟨kb,mb,arr,clock,fi,idx,h1,h2,h3,aB,h4,h5,h6,h7,h8,h9,oV,oW⟩:=ba;simp only[Env.setO,aP] at h6;injection h6 with h6;injection h6 with rX rY;injection rY with rY _;injection rX with rX;subst rX;subst rY;have hle:idx.length≤arr.size:=by
        have:=List.Nodup.length_le_of_subset h7 (l₂:=List.range arr.size) (fun i hi=>List.mem_range.2 (h8 i hi));simpa using this
   simp[fp,fW,D.m] at hlen;omega
  |succ kk ih=>
   intro done vo a' w' iv eD aQ hlen;rw[roundsIn_succ];obtain⟨σ,own,hv,h⟩:=eD;have ba:=h.objs J;rw[cn] at ba;obtain⟨kb,mb,arr,clock,fi,idx,h1,h2,h3,aB,h4,h5,h6,h7,h8,h9,oV,oW⟩:=ba;simp only[Env.setO,aP] at h6;injection h6 with h6;injection h6 with rX rY;injection rY with rY _;injection rX with rX;subst rX;subst rY;have gU:=h.regs p.it;rw[jd] at gU;have Ef:a'.eval (.tmp p.it)=.pointer (some ⟨kb,0,none⟩):=by
        have:=gU.2 rfl;simp only[Act.eval];rw[this];exact h1
   have nL:a'.tmps.size=n:=iv.size.trans hn;obtain⟨w1,V4,Eu⟩:=ar5 (P:=C.P) h5 h4 oV h8 o1.type;have Ae:Below w'.heap.size w' w1:=by rcases V4 with rfl|rfl;exact .refl _ _;exact⟨rfl,rfl,rfl,Nat.le_refl _,fun _ _=>rfl⟩
   have vl:w1.heap=w'.heap:=by rcases V4 with rfl|rfl<;>rfl
   have Vu:kb<w'.heap.size:=(h.owns kb J h2).2.1;have ph:mb<w'.heap.size:=(h.owns mb J h3).2.1;refine wpIn_seq (wpIn_region ?_);rw[aoC];rcases Eu with⟨KY,aj⟩|⟨i,e,lF,sq,aj⟩
   ·
        refine vW gS g1 (by rw[q1];rfl) (v:=.tuple #[.bool false]) (w':=w1) (by simp only[execOp,q1,Ef];simp[aj]) ?_;rw[d1]
        refine vW cW g2 (by rw[q2];rfl) (v:=.bool false) (w':=w1) (by
         have:(a'.put (some p.nx) (.tuple #[.bool false])).eval (.tmp p.nx)=.tuple #[.bool false]:=by simp only[Act.eval];exact v5 (by omega)
         simp only[execOp,q2,this];simp[Instr.extract]) ?_
        rw[d2];simp only[wpOpsIn]
        have sF:SameBut (fun t=>t∈ws) a' ((a'.put (some p.nx) (.tuple #[.bool false])).put (some p.mo) (.bool false)):=by
         have s1:=SameBut.put a' (some p.nx) (.tuple #[.bool false]) a'.defers;have s2:=SameBut.put (a'.put (some p.nx) (.tuple #[.bool false])) (some p.mo) (.bool false) (a'.put (some p.nx) (.tuple #[.bool false])).defers;exact(s1.mono fun t e=>by cases e;exact jF o1 (by rw[e1];simp) _ d1).trans (s2.mono fun t e=>by cases e;exact jF o2 (by rw[e1];simp) _ d2)
        generalize sc:(a'.put (some p.nx) (.tuple #[.bool false])).put (some p.mo) (.bool false)=a1 at sF;have Lf:a1.eval (.tmp p.mo)=.bool false:=by
         rw[←sc];simp only[Act.eval];exact v5 (by rw[size_put];omega)
        have lD:a1.defers=a'.defers:=by rw[←sc,put_defers,put_defers]
        refine wpIn_seq (wpIn_cond_false Lf (wpIn_exit ?_));have an4:(fp fi idx++[]).Perm (fW (.map fi)):=by
         rw[List.append_nil];exact abA h7 (fun i hi=>by rw[h9];exact h8 i hi) (fun i hi=>KY i (by omega))
        have V3:=aQ [] an4;simp only[jH,Option.some.injEq] at V3;subst V3;refine⟨_,_,hx0,n5,List.mem_singleton.2 rfl,iv.trans (sF.mono L4),?_⟩;refine⟨σ,own,hv,?_⟩
        refine h.step (S':=((qS.mask m).kill ids J).st ids) (ρ':=ρ.put [] [] lo vo) (A':=fun _=>False) (fun j=>j=J) lD (.refl σ) (h.ok.below Ae) (fun _ _ _ hx=>.inl hx) (fun _ _ hx=>.inl hx) (Ae.mono h.below.size) ⟨fun _=>Nat.le_refl _,fun _ _=>rfl⟩
         (fun j hj=>⟨by rw[Mf,if_neg hj],by simp[Env.setO,bl _ _ hj],rfl,fun b hb=>⟨hb,by rw[vl]⟩⟩) (fun j hj=>?_) (fun b j hb=>?_) (fun _=>id) (fun t=>?_) (fun _ hf=>hf.elim) (fun b hb _=>by rw[vl]) (fun b j hb=>.inl ⟨j,hb⟩) (fun j hj=>?_)
        ·rw[Mf,if_pos hj];trivial
        ·obtain⟨b1,b2,b3,b4⟩:=h.owns b j hb;exact⟨b1,by rw[vl];exact b2,b3,b4⟩
        ·by_cases ht:t∈ws
         ·refine .inr ⟨?_,fun gs s' e=>absurd e (Snap.noOpt _ _ t gs s')⟩;have:(((qS.mask m).kill ids J).st ids).r t=.none:=Lc t (po t ht);rw[this];trivial
         ·exact .inl ⟨rfl,sF.get t ht,rfl⟩
        ·rw[Mf,if_pos hj];intro e;cases e
   ·
        obtain⟨pd,Lz⟩:∃pd,fi[i]?=some pd:=⟨_,List.getElem?_eq_getElem (by rw[h9];exact(Array.getElem?_eq_some_iff.1 lF).1)⟩
        obtain⟨bB,cD⟩:=oW i e pd lF Lz;generalize vm:({w1 with heap:=w1.heap.setIfInBounds kb (.mapIter (some mb) clock (fa arr (idx++[i])) clock)}:World)=w2 at aj;have V5:w2.heap[kb]?=some (.mapIter (some mb) clock (fa arr (idx++[i])) clock):=by rw[←vm];simp[vl,Vu]
        have vn:∀b,b≠kb→w2.heap[b]?=w'.heap[b]?:=fun b hb=>by rw[←vm];simp only[vl];rw[Array.getElem?_setIfInBounds_ne (Ne.symm hb)]
        have aB2:w2.heap.size=w'.heap.size:=by rw[←vm];simp[vl]
        have V6:w2.heap[mb]?=some (.map arr clock):=by rw[vn mb (Ne.symm aB)];exact h4
        refine vW gS g1 (by rw[q1];rfl) (v:=.tuple #[.bool true,e.key,e.val]) (w':=w2) (by simp only[execOp,q1,Ef];simp[aj]) ?_;rw[d1]
        refine vW cW g2 (by rw[q2];rfl) (v:=.bool true) (w':=w2) (by
         have:(a'.put (some p.nx) (.tuple #[.bool true,e.key,e.val])).eval (.tmp p.nx)=.tuple #[.bool true,e.key,e.val]:=by simp only[Act.eval];exact v5 (by omega)
         simp only[execOp,q2,this];simp[Instr.extract]) ?_
        rw[d2];simp only[wpOpsIn]
        have sF:SameBut (fun t=>t∈ws) a' ((a'.put (some p.nx) (.tuple #[.bool true,e.key,e.val])).put (some p.mo) (.bool true)):=by
         have s1:=SameBut.put a' (some p.nx) (.tuple #[.bool true,e.key,e.val]) a'.defers;have s2:=SameBut.put (a'.put (some p.nx) (.tuple #[.bool true,e.key,e.val])) (some p.mo) (.bool true) (a'.put (some p.nx) (.tuple #[.bool true,e.key,e.val])).defers;exact(s1.mono fun t e=>by cases e;exact jF o1 (by rw[e1];simp) _ d1).trans (s2.mono fun t e=>by cases e;exact jF o2 (by rw[e1];simp) _ d2)
        have Vs:(((a'.put (some p.nx) (.tuple #[.bool true,e.key,e.val])).put (some p.mo) (.bool true))).eval (.tmp p.it)=.pointer (some ⟨kb,0,none⟩):=by
         simp only[Act.eval] at Ef ⊢;rw[Hv n2,Hv n1];exact Ef
        generalize sc:(a'.put (some p.nx) (.tuple #[.bool true,e.key,e.val])).put (some p.mo) (.bool true)=a1 at sF Vs;have Lf:a1.eval (.tmp p.mo)=.bool true:=by
         rw[←sc];simp only[Act.eval];exact v5 (by rw[size_put];omega)
        have lD:a1.defers=a'.defers:=by rw[←sc,put_defers,put_defers]
        refine wpIn_seq (wpIn_cond_true Lf (wpIn_skip ?_));refine wpIn_block (wpIn_seq (wpIn_region ?_));rw[EF];refine vW Lp g3 (by rw[q3];rfl) (v:=.tuple #[e.key,e.val]) (w':=w2) (by simp only[execOp,q3,Vs];simp[ai9 V5 V6 oV lF]) ?_;rw[d3]
        have VU:SameBut (fun t=>t∈ws) a1 (a1.put (some p.pr) (.tuple #[e.key,e.val])):=
         (SameBut.put a1 (some p.pr) (.tuple #[e.key,e.val]) a1.defers).mono fun t e=>by cases e;exact eG o3 (by rw[e2];simp) _ d3
        have VX:a1.tmps.size=n:=sF.size.trans nL;refine Z9 (kv:=e.key) (vv:=e.val) l [] p.aa 1 _ kS (by rw[e2];rfl) (fun x hx=>by rw[VU.size,VX];exact an8 _ (List.mem_map.2 ⟨x,hx,rfl⟩)) (v5 (by rw[VX];exact mM)) (fun x hx=>by cases hx) (fun a2 ed dk an2=>?_);have LM:SameBut (fun t=>t∈ws) a' a2:=(sF.trans VU).trans (ed.mono fun t ⟨o,ho,hd⟩=>eG o ho t hd);have amT:a2.defers=a'.defers:=by rw[dk,put_defers,lD]
        have aoz:Good C w0 σ0 (((qS.mask m).start (p.aa.map (·.1)) (p.aa.map fun x=>bif Nat.beq x.2 0 then kt else et)).st ids) ((ρ.put (p.aa.map (·.1)) ((p.aa.map (·.2)).map (D.tup [pd.1,pd.2]).tget) lo vo).setO J (.tup [.list (fp fi idx++[.tup [pd.1,pd.2]]),.map fi])) (fun _=>False) a2 w2:=by
         have zn:Below w0.heap.size w' w2:=⟨by rw[←vm];exact Ae.os,by rw[←vm];exact Ae.tape,by rw[←vm];exact Ae.output,by omega,fun b hb=>vn b (fun e=>by subst e;have:=(h.owns b J h2).1;omega)⟩
         have gT:σ.ok w2:=by
          refine⟨fun b o v hc=>?_,fun b es hc=>?_⟩
          ·have KK:b≠kb:=fun e=>by subst e;rw[(h.owns b J h2).2.2.1 o] at hc;cases hc
           have:=h.ok.c b o v hc;simp only[World.cell?] at this ⊢;rw[vn b KK];exact this
          ·have KK:b≠kb:=fun e=>by subst e;rw[(h.owns b J h2).2.2.2] at hc;cases hc
           exact(h.ok.m b es hc).keep (vn b KK)
         have fl:∀j,((ρ.put (p.aa.map (·.1)) ((p.aa.map (·.2)).map (D.tup [pd.1,pd.2]).tget) lo vo).setO J (.tup [.list (fp fi idx++[.tup [pd.1,pd.2]]),.map fi])).o j=if j=J then .tup [.list (fp fi idx++[.tup [pd.1,pd.2]]),.map fi] else putL ρ.o lo vo j:=fun j=>by
          simp only[Env.setO,fb];rfl
         refine⟨σ,own,hv,h.step (fun j=>j=J) amT (.refl σ) gT (fun _ _ _ hx=>.inl hx) (fun _ _ hx=>.inl hx) zn ⟨fun _=>Nat.le_refl _,fun _ _=>rfl⟩
          (fun j hj=>⟨rfl,by rw[fl,if_neg hj];simp[Env.setO,bl _ _ hj,Env.put],rfl,fun b hb=>⟨hb,vn b (fun e=>by subst e;rw[h2] at hb;cases hb;exact hj rfl)⟩⟩) (fun j hj=>?_) (fun b j hb=>?_) (fun _=>id) (fun t=>?_) (fun _ hf=>hf.elim)
          (fun b hb ho=>vn b (fun e=>by subst e;rw[h2] at ho;cases ho)) (fun b j hb=>.inl ⟨j,hb⟩) (fun j hj=>?_)⟩
         ·subst hj;have:(((qS.mask m).start (p.aa.map (·.1)) (p.aa.map fun x=>bif Nat.beq x.2 0 then kt else et)).st ids).o j=.it kt et:=Ew;rw[this];refine⟨kb,mb,arr,clock,fi,idx++[i],h1,h2,h3,aB,V6,V5,by rw[fl,if_pos rfl,abB fi idx Lz],?_,?_,h9,oV,oW⟩
          ·rw[List.nodup_append];exact⟨h7,by simp,fun a ha b hb e=>by simp at hb;subst hb;subst e;exact sq ha⟩
          ·intro i' cV;rcases List.mem_append.1 cV with h|h
           ·exact h8 i' h
           ·simp at h;subst h;exact(Array.getElem?_eq_some_iff.1 lF).1
         ·obtain⟨b1,b2,b3,b4⟩:=h.owns b j hb;exact⟨b1,by omega,b3,b4⟩
         ·have hc:Compat ((qS.mask m).st ids) hv (((qS.mask m).start (p.aa.map (·.1)) (p.aa.map fun x=>bif Nat.beq x.2 0 then kt else et)).st ids) hv:=⟨fun _=>Nat.le_refl _,fun _ _=>rfl⟩
          refine .inr ⟨?_,fun gs s' e=>absurd e (Snap.noOpt _ _ t gs s')⟩;show aI C _ _ σ hv (bY ((oh (p.aa.map (·.1)) (p.aa.map fun x=>bif Nat.beq x.2 0 then kt else et) ((qS.mask m).rs.map pf)).getD t .none)) (a2.tmps.getD t undef) (putL ρ.r (p.aa.map (·.1)) ((p.aa.map (·.2)).map (D.tup [pd.1,pd.2]).tget) t);rcases PS (p.aa.map (·.1)) (p.aa.map fun x=>bif Nat.beq x.2 0 then kt else et) ((qS.mask m).rs.map pf) (by simp) c4 t with e|⟨uy,qf⟩|⟨i',y,uy,qf,J8⟩
          ·rw[e];trivial
          ·rw[qf,v3 _ _ _ _ uy];have e3:((qS.mask m).rs.map pf).getD t .none=pf ((qS.mask m).rs.getD t .none):=by
            simp only[List.getD_eq_getElem?_getD,List.getElem?_map];cases(qS.mask m).rs[t]?<;>rfl
           rw[e3];by_cases VZ:t∈ws
           ·have vd:=Lc t (po t VZ);change bY ((qS.mask m).rs.getD t .none)=.none at vd;generalize (qS.mask m).rs.getD t .none=s' at vd;cases s'<;>simp[bY] at vd<;>trivial
           ·have hr:=h.regs t;change aI C _ _ σ hv (bY ((qS.mask m).rs.getD t .none)) _ (ρ.r t) at hr;rw[LM.get t VZ];generalize (qS.mask m).rs.getD t .none=s' at hr;cases s' with
            |yv=>trivial
            |opt gs s=>trivial
            |none=>trivial
            |fclo f c=>exact aI.mono' (.refl σ) hc (fun _ _ e=>by cases e) hr
            |dat t=>exact hr
            |obj j v=>exact aI.mono' (.refl σ) hc (fun _ _ e=>by cases e) hr
            |ptr j v o=>exact aI.mono' (.refl σ) hc (fun _ _ e=>by cases e) hr
            |eptr j v o q=>exact aI.mono' (.refl σ) hc (fun _ _ e=>by cases e) hr
          ·rw[J8];have ani:i'<p.aa.length:=by have:=(List.getElem?_eq_some_iff.1 uy).1;simpa using this
           rw[Ok _ (p.aa.map (·.1)) _ i' t (ld c4) (by simp) uy];obtain⟨xa,kc⟩:∃xa,p.aa[i']?=some xa:=⟨_,List.getElem?_eq_getElem ani⟩
           simp only[List.getElem?_map,kc,Option.map_some,Option.some.injEq] at uy qf;subst uy;subst qf;rw[an2 xa (List.mem_of_getElem? kc)];have hd:((p.aa.map (·.2)).map (D.tup [pd.1,pd.2]).tget).getD i' .none=(D.tup [pd.1,pd.2]).tget xa.2:=by simp[List.getD_eq_getElem?_getD,kc]
           rw[hd];have h2x:xa.2≤1:=by
            rcases N2 l kS (fun x hx=>by cases hx) xa (List.mem_of_getElem? kc) with h|h
            ·cases h
            ·exact h.1
           rcases(by omega:xa.2=0∨xa.2=1) with e0|e0<;>rw[e0]
           ·exact bB
           ·exact cD
         ·have:(((qS.mask m).start (p.aa.map (·.1)) (p.aa.map fun x=>bif Nat.beq x.2 0 then kt else et)).st ids).o j=.it kt et:=by rw[hj];exact Ew
          rw[this];intro e;cases e
        have an3:=abB fi idx Lz;obtain⟨rest,qC⟩:∃rest,(fp fi idx++(D.tup [pd.1,pd.2])::rest).Perm (fW (.map fi)):=by
         obtain⟨rest,hr⟩:=auE (es:=fi) (idx:=idx++[i]) (by rw[List.nodup_append];exact⟨h7,by simp,fun a ha b hb e=>by simp at hb;subst hb;subst e;exact sq ha⟩) (fun i' cV=>by
          rcases List.mem_append.1 cV with h|h
          ·rw[h9];exact h8 i' h
          ·simp at h;subst h;rw[h9];exact(Array.getElem?_eq_some_iff.1 lF).1)
         rw[an3] at hr;exact⟨rest,by simpa using hr⟩
        have gP:=aQ _ qC;simp only[jH] at gP;split at gP
        case h_2=>cases gP
        rename_i ρ2 D2;obtain⟨xi,cZ⟩:=S5 D2;refine wpIn_mono (ihc rm _ q0 sC rd w0 σ0 wr _ xi a2 w2 fo hC hY (fun t ht=>L4 t (hwc t ht)) (LM.size.trans nL) aoz cZ) fun ee a3 w3 fl=>?_;have iu:=S7 n6 (qe code sC) cZ D2 fl;have conv:∀ee a3 w3,fw C w0 σ0 ids fn s rm wr a2 (fe ids p.next q0).out (fe ids p.next q0).ex (.next ρ2) ee a3 w3→Exit.then (Code.roundsIn (FR rd) 0 C.P (.seq (.region i1 p.ops1 false) (.seq (.cond (.tmp p.mo) .skip (.exit p.out)) (.block p.next (.seq (.region i2 p.ops2 false) code)))) (fw C w0 σ0 ids fn s rm wr a none [(p.out,(qS.mask m).kill ids J)] x0) kk) (fw C w0 σ0 ids fn s rm wr a none [(p.out,(qS.mask m).kill ids J)] x0) ee a3 w3:=by
         intro ee a3 w3 ho;cases ee with
         |normal=>
          obtain⟨ρ3,T,f1,f2,f3,f4⟩:=ho;cases f1;refine ih (fp fi idx++[.tup [pd.1,pd.2]]) (lo.map ρ2.o) a3 w3 (iv.trans ((LM.mono L4).trans f3)) ?_ (fun ys sM=>?_) (by simp at hlen ⊢;omega)
          ·have oZ:Good C w0 σ0 (qS.st ids) ρ2 (fun _=>False) a3 w3:=by
            have:=f4.meet2 (x:=qS)
            rwa [uW T f2] at this
           obtain⟨σ3,tn,Ac,fO⟩:=oZ;have KM:=PC.ev_but _ _ _ ρ2 D2 rfl;refine⟨σ3,tn,Ac,(fO.maskR m).env (Snap.noOpt _ _) (fun t ht=>?_) (fun j hj=>?_)⟩
           ·have vd:=anG t ht
            have cK:t∉(fe ids p.next q0).pc.modR:=fun dZ=>by
                 have:=Lg.1 t dZ;have h2:ar (Nat.lor m (fe ids p.next q0).mr) t=true:=by rw[dU,this,Bool.or_true]
                 rw[zL,vd] at h2;cases h2
            rw[KM.r t cK]
            have nF:t∉p.aa.map (·.1):=fun aS=>by
                 have:ar m t=true:=by
                  refine po t ?_;obtain⟨xa,kc,rfl⟩:=List.mem_map.1 aS;rcases N2 l kS (fun x hx=>by cases hx) xa kc with h|⟨_,o,ho,hd⟩
                  ·cases h
                  ·exact eG o (by rw[e2];exact List.mem_cons_of_mem _ ho) _ hd
                 rw[vd] at this;cases this
            show ρ.r t=putL ρ.r (p.aa.map (·.1)) _ t;rw[v3 _ _ _ _ nF]
           ·have hjd:lN (cO ids qS.os j)=false:=hj;show bN (putL ρ.o lo (lo.map ρ2.o)) J _ j=ρ2.o j;by_cases u7:j=J
            ·subst u7;rw[aP,KM.o j (fun dZ=>UM (Lg.2 j dZ))];simp[Env.setO,aP]
            ·rw[bl _ _ u7,pG];split
             ·rfl
             ·rename_i eR;have cK:j∉(fe ids p.next q0).pc.modO:=fun dZ=>eR (by rw[←sw];exact List.mem_filter.2 ⟨Lg.2 j dZ,by rw[hjd];rfl⟩);rw[KM.o j cK];simp only[Env.setO,bl _ _ u7];exact(Ol _ _ _ _ eR).symm
          ·have:=aQ ((D.tup [pd.1,pd.2])::ys) (by simpa using sM);simp only[jH,D2] at this;exact this
         |exit id=>obtain⟨ρ3,T,f1,_⟩:=ho;cases f1
         |ret=>
          cases rm with
          |false=>obtain⟨d,f1,_⟩:=ho;cases f1
          |true=>obtain⟨ρ3,T,f1,_⟩:=ho;cases f1
         |_=>exact ho.elim
        cases ee with
        |exit id=>
         simp only[Exit.inBlock] at iu;show if id=p.next then _ else _;split
         ·rename_i cf;rw[if_pos cf] at iu;exact conv .normal a3 w3 iu
         ·rename_i cf;rw[if_neg cf] at iu;exact conv (.exit id) a3 w3 iu
        |normal=>exact conv .normal a3 w3 iu
        |ret=>exact conv .ret a3 w3 iu
        |panic c=>exact fl.elim
        |goto l=>exact fl.elim
        |_=>exact fl.elim
 have hgq:Good C w0 σ0 (qS.st ids) ρ (fun _=>False) a w:=bx hg;obtain⟨σ,own,hv,h⟩:=hgq;have ba:=h.objs J;have:(qS.st ids).o J=.it kt et:=Ew;rw[this] at ba;obtain⟨kb,mb,arr,clock,fi,idx,h1,h2,h3,aB,h4,h5,h6,h7,h8,h9,oV,oW⟩:=ba;have hρJ:ρ.o J=.tup [.list [],es]:=by
  rw[h6] at zR gz;simp[D.tget] at zR gz;rw[h6,zR,←gz]
 have sm:(ρ.put [] [] lo (lo.map ρ.o)).setO J (.tup [.list [],es])=ρ:=by
  rw[Env.put_self];show Env.mk _ _=_;have:bN ρ.o J (.tup [.list [],es])=ρ.o:=by
   funext j;rw[fb];split
   ·rename_i e;rw[e];exact hρJ.symm
   ·rfl
  rw[this]
 exact wpIn_loop_rounds _ (key ((fW es).length+1) [] (lo.map ρ.o) a w (.refl _ _) (by rw[sm];exact⟨σ,own,hv,h.maskR m⟩) (fun ys sM=>amo ys sM) (by simp))
theorem ah3 {N:Nat}(eB:fc C Φ)(hR:IY C n ids Φ R):∀(k:Nat) (c:Code),sizeOf c<k→rH C Φ fn s n ids R N c:=by
 intro k;refine Nat.rec (fun c h=>absurd h (Nat.not_lt_zero _)) (fun k IH=>?_) k;intro c hc;cases c with
 |skip=>
  intro rm S r h rd w0 σ0 wr ρ x a w fo hC hY fU hn hg he;simp only[comp,Option.some.injEq] at h;subst h;simp only[PC.ev,Option.some.injEq] at he;subst he;exact wpIn_skip ⟨ρ,S,rfl,rfl,.refl _ _,hg⟩
 |region id ops draw=>
  intro rm S r h rd w0 σ0 wr ρ x a w fo hC hY fU hn hg he;simp only[comp,Option.map_eq_some_iff] at h;obtain⟨q,hq,rfl⟩:=h;simp only[PC.ev,Option.map_eq_some_iff] at he;obtain⟨ρ',hr,rfl⟩:=he;exact hR id ops draw S q hq rd w0 σ0 ρ ρ' a w _ hC hY hn hg hr (fun a' w' dJ eD=>⟨ρ',q.1,rfl,rfl,dJ.mono (fun t ⟨o,h1,h2⟩=>fU t (List.mem_filterMap.2 ⟨o,h1,h2⟩)),eD⟩)
 |seq c1 c2=>
  have qK:=IH c1 (by simp at hc;omega);have kg:=IH c2 (by simp at hc;omega);intro rm S r h rd w0 σ0 wr ρ x a w fo hC hY fU hn hg he;have jF:∀t,t∈bW c1→wr t:=fun t ht=>fU t (List.mem_append_left _ ht);have eG:∀t,t∈bW c2→wr t:=fun t ht=>fU t (List.mem_append_right _ ht);simp only[comp,Option.bind_eq_some_iff] at h;obtain⟨q,hq,h⟩:=h;split at h
  ·rename_i ir;cases h;refine wpIn_seq (wpIn_mono (qK rm S _ hq rd w0 σ0 wr ρ x a w fo hC hY jF hn hg he) fun e a' w' ho=>?_);cases e with
   |normal=>obtain⟨_,_,_,h2,_⟩:=ho;rw[ir] at h2;cases h2
   |_=>exact ho
  ·rename_i S1 ir;simp only[Option.map_eq_some_iff] at h;obtain⟨p,hp,rfl⟩:=h;simp only[PC.ev] at he
   have key:∀x1,q.pc.ev Φ N ρ=some x1→(match some x1 with|some (.next ρ')=>p.pc.ev Φ N ρ'|y=>y)=some x→(Code.seq c1 c2).wpIn (FR rd) 0 C.P (fw C w0 σ0 ids fn s rm wr a p.out (q.ex++p.ex) x) a w:=by
      intro x1 h1 h2;refine wpIn_seq (wpIn_mono (qK rm S _ hq rd w0 σ0 wr ρ x1 a w fo hC hY jF hn hg h1) fun e a' w' ho=>?_);have other:∀{e:Exit},e≠.normal→fw C w0 σ0 ids fn s rm wr a q.out q.ex x1 e a' w'→x1=x→fw C w0 σ0 ids fn s rm wr a p.out (q.ex++p.ex) x e a' w':=by
       intro e aB ho hx;subst hx;exact ho.mono (fun y hy=>List.mem_append_left _ hy) (.refl _ _) (fun e=>absurd e aB)
      cases e with
      |normal=>
       obtain⟨ρ1,S2,e1,e2,ed,fA⟩:=ho;subst e1;rw[ir] at e2;cases e2;simp only at h2;refine wpIn_mono (kg rm S1 _ hp rd w0 σ0 wr ρ1 x a' w' fo hC hY eG (ed.size.trans hn) fA h2) fun e a2 w2 cW=>?_;exact cW.mono (fun y hy=>List.mem_append_right _ hy) ed (fun _=>rfl)
      |exit id=>
       refine other (by simp) ho ?_;obtain⟨ρ1,S2,e1,_⟩:=ho;subst e1;simpa using h2
      |ret=>
       refine other (by simp) ho ?_;cases rm with
       |false=>obtain⟨d,e1,_⟩:=ho;subst e1;simpa using h2
       |true=>obtain⟨ρ1,S2,e1,_⟩:=ho;subst e1;simpa using h2
      |_=>exact ho.elim
   cases h1:q.pc.ev Φ N ρ with
   |none=>rw[h1] at he;simp at he
   |some x1=>rw[h1] at he;exact key x1 h1 he
 |cond c c1 c2=>
  have qK:=IH c1 (by simp at hc;omega);have kg:=IH c2 (by simp at hc;omega);intro rm S r h rd w0 σ0 wr ρ x a w fo hC hY fU hn hg he;have jF:∀t,t∈bW c1→wr t:=fun t ht=>fU t (List.mem_append_left _ ht);have eG:∀t,t∈bW c2→wr t:=fun t ht=>fU t (List.mem_append_right _ ht);simp only[comp] at h;split at h
  case h_2=>cases h;exact absurd he (ky _ _ _ _)
  rename_i e hu;simp only[Option.bind_eq_some_iff,Option.map_eq_some_iff] at h;obtain⟨q,hq,p,hp,rfl⟩:=h;have hb:∃b,a.eval c=.bool b∧e.ev ρ=.v (.bool b):=by
   obtain⟨σ,own,hv,hi⟩:=hg;have:=bO (gs:=[]) hi hC rfl hu;generalize a.eval c=v at this;generalize e.ev ρ=d at this;cases this with|bool b=>exact⟨b,rfl,rfl⟩
  obtain⟨b,gP,cU⟩:=hb;have nD:=qe c1 hq;have zK:=qe c2 hp;have main:∀(o:Option Snap) (lr lo:List Nat) (rx:Res2),rx=⟨.ite e lr lo q.pc p.pc,o,q.ex++p.ex,Nat.lor q.mr p.mr,gK q.mo p.mo⟩→
        (∀M,o=some M→lr=iI M (Nat.lor q.mr p.mr)∧lo=gE ids M (gK q.mo p.mo))→
        (∀S1 ρ1 a w,q.out=some S1→Good C w0 σ0 (S1.st ids) ρ1 (fun _=>False) a w→∃M,o=some M∧Good C w0 σ0 (M.st ids) ρ1 (fun _=>False) a w)→
        (∀S1 ρ1 a w,p.out=some S1→Good C w0 σ0 (S1.st ids) ρ1 (fun _=>False) a w→∃M,o=some M∧Good C w0 σ0 (M.st ids) ρ1 (fun _=>False) a w)→
        rx.pc.ev Φ N ρ=some x→(Code.cond c c1 c2).wpIn (FR rd) 0 C.P (fw C w0 σ0 ids fn s rm wr a rx.out rx.ex x) a w:=by
   intro o lr lo rx hrx hl nI kS bD;subst hrx;simp only[PC.ev,cU,D.b_bool] at bD;have fin:∀(ci:Code) (qi:Res2) (xi:Out),(∀y,y∈qi.ex→y∈q.ex++p.ex)→(∀t,t∈qi.pc.modR→ar (Nat.lor q.mr p.mr) t=true)→(∀j,j∈qi.pc.modO→j∈gK q.mo p.mo)→
    (∀S1 ρ1 a w,qi.out=some S1→Good C w0 σ0 (S1.st ids) ρ1 (fun _=>False) a w→∃M,o=some M∧Good C w0 σ0 (M.st ids) ρ1 (fun _=>False) a w)→
    qi.pc.ev Φ N ρ=some xi→(match some xi with|some (.next ρ')=>some (Out.next (ρ.join lr lo ρ'))|y=>y)=some x→
    ci.wpIn (FR rd) 0 C.P (fw C w0 σ0 ids fn s rm wr a qi.out qi.ex xi) a w→ci.wpIn (FR rd) 0 C.P (fw C w0 σ0 ids fn s rm wr a o (q.ex++p.ex) x) a w:=by
        intro ci qi xi hex gi nJ ir cZ hx hwp;refine wpIn_mono hwp fun ee a' w' ho=>?_;have other:ee≠.normal→xi=x→fw C w0 σ0 ids fn s rm wr a o (q.ex++p.ex) x ee a' w':=by
         intro aB iw;subst iw;exact ho.mono hex (.refl _ _) (fun e=>absurd e aB)
        cases ee with
        |normal=>
         obtain⟨ρ1,S2,e1,e2,ed,fA⟩:=ho;subst e1;simp only[Option.some.injEq] at hx;subst hx;obtain⟨M,hM,oZ⟩:=ir S2 ρ1 a' w' e2 fA;obtain⟨l1,l2⟩:=hl M hM;subst l1 l2;exact⟨_,M,rfl,hM,ed,oZ.joined (PC.ev_but qi.pc ρ _ ρ1 cZ rfl) gi nJ⟩
        |exit id=>
         refine other (by simp) ?_;obtain⟨ρ1,S2,e1,_⟩:=ho;subst e1;simpa using hx
        |ret=>
         refine other (by simp) ?_;cases rm with
         |false=>obtain⟨d,e1,_⟩:=ho;subst e1;simpa using hx
         |true=>obtain⟨ρ1,S2,e1,_⟩:=ho;subst e1;simpa using hx
        |_=>exact ho.elim
   refine wpIn_cond gP ?_;cases b with
   |true=>
    simp only[cond_true] at bD;cases cZ:q.pc.ev Φ N ρ with
    |none=>rw[cZ] at bD;simp at bD
    |some xi=>
     rw[cZ] at bD;refine fin c1 q xi (fun y hy=>List.mem_append_left _ hy) (fun t ht=>?_) (fun j hj=>mR.2 (.inl (nD.2 j hj))) nI cZ bD (qK rm S _ hq rd w0 σ0 wr ρ xi a w fo hC hY jF hn hg cZ);rw[dU,nD.1 t ht];rfl
   |false=>
    simp only[cond_false] at bD;cases cZ:p.pc.ev Φ N ρ with
    |none=>rw[cZ] at bD;simp at bD
    |some xi=>
     rw[cZ] at bD;refine fin c2 p xi (fun y hy=>List.mem_append_right _ hy) (fun t ht=>?_) (fun j hj=>mR.2 (.inr (zK.2 j hj))) kS cZ bD (kg rm S _ hp rd w0 σ0 wr ρ xi a w fo hC hY eG hn hg cZ);rw[dU,zK.1 t ht,Bool.or_true]
  have nI:∀S1 ρ1 a w,q.out=some S1→Good C w0 σ0 (S1.st ids) ρ1 (fun _=>False) a w→∃M,kj q.out p.out=some M∧Good C w0 σ0 (M.st ids) ρ1 (fun _=>False) a w:=by
   intro S1 ρ1 a w e1 g1;rw[e1];obtain⟨M,hM⟩:=@W2 S1 p.out;exact⟨M,hM,WZ g1 hM⟩
  have kS:∀S1 ρ1 a w,p.out=some S1→Good C w0 σ0 (S1.st ids) ρ1 (fun _=>False) a w→∃M,kj q.out p.out=some M∧Good C w0 σ0 (M.st ids) ρ1 (fun _=>False) a w:=by
   intro S1 ρ1 a w e1 g1;rw[e1];obtain⟨M,hM⟩:=@W3 q.out S1;exact⟨M,hM,W0 g1 hM⟩
  cases hm:kj q.out p.out with
  |none=>
   rw[hm] at nI kS;simp only[hm] at he ⊢;exact main none [] [] _ rfl (fun M e=>by cases e) nI kS he
  |some M=>
   rw[hm] at nI kS;simp only[hm] at he ⊢;exact main (some M) _ _ _ rfl (fun M' e=>by cases e;exact⟨rfl,rfl⟩) nI kS he
 |block id c1=>
  have qK:=IH c1 (by simp at hc;omega);intro rm S r h rd w0 σ0 wr ρ x a w fo hC hY fU hn hg he;simp only[comp] at h;cases cf:Nat.beq id cl<;>simp only[cf,cond_true,cond_false] at h
  case true=>cases h;exact absurd he (ky _ _ _ _)
  have Ed:id≠cl:=fun e=>by subst e;simp at cf
  simp only[Option.map_eq_some_iff] at h;obtain⟨q,hq,rfl⟩:=h;obtain⟨xi,cZ⟩:=S5 he;exact wpIn_block (wpIn_mono (qK rm S _ hq rd w0 σ0 wr ρ xi a w fo hC hY fU hn hg cZ) fun e a' w' fl=>S7 Ed (qe c1 hq) cZ he fl)
 |loop c1=>
  have qK:=IH c1 (by simp at hc;omega);intro rm S r h rd w0 σ0 wr ρ x a w fo hC hY fU hn hg he;rw[TU] at h;split at h
  ·rename_i qb zW;obtain⟨p,code,ws⟩:=qb;unfold sW at zW;split at zW
   case h_2=>cases zW
   rename_i cx cy ck cz cc;simp only[Option.map_eq_some_iff] at zW;obtain⟨p',aS,ep⟩:=zW;cases ep;exact arF aS (IH _ (by simp at hc;omega)) h fo hC hY fU hn hg he
  split at h
  case h_2=>cases h;exact absurd he (ky _ _ _ _)
  rename_i q hq;cases h;obtain⟨hs,uW,bx⟩:=Ak (C:=C) (w0:=w0) (σ0:=σ0) (ids:=ids) 8 hq;have nD:=qe c1 hs;simp only[PC.ev] at he
  have uX:Good C w0 σ0 (q.1.st ids) (ρ.put (iI q.1 q.2.mr) ((iI q.1 q.2.mr).map ρ.r) (gE ids q.1 q.2.mo) ((gE ids q.1 q.2.mo).map ρ.o)) (fun _=>False) a w:=by
   exact Good.joined (bx hg) (.refl ρ q.2.pc.modR q.2.pc.modO) nD.1 nD.2
  have key:∀(k:Nat) (ρ1:Env) (a':Act) (w:World),SameBut wr a a'→eH (q.2.pc.ev Φ N) ρ (iI q.1 q.2.mr) (gE ids q.1 q.2.mo) k ((iI q.1 q.2.mr).map ρ1.r) ((gE ids q.1 q.2.mo).map ρ1.o)=some x→
        Good C w0 σ0 (q.1.st ids) (ρ.join (iI q.1 q.2.mr) (gE ids q.1 q.2.mo) ρ1) (fun _=>False) a' w→Code.roundsIn (FR rd) 0 C.P c1 (fw C w0 σ0 ids fn s rm wr a none q.2.ex x) k a' w:=by
   intro k
   induction k with
   |zero=>intro ρ1 a' w hn hl hg;simp[eH] at hl
   |succ k ih=>
    intro ρ1 a' w iv hl hg;rw[roundsIn_succ];simp only[eH] at hl;change (match q.2.pc.ev Φ N (ρ.join (iI q.1 q.2.mr) (gE ids q.1 q.2.mo) ρ1) with|some (.next ρ')=>_|y=>y)=some x at hl;cases cZ:q.2.pc.ev Φ N (ρ.join (iI q.1 q.2.mr) (gE ids q.1 q.2.mo) ρ1) with
    |none=>rw[cZ] at hl;simp at hl
    |some xi=>
     rw[cZ] at hl;refine wpIn_mono (qK rm _ _ hs rd w0 σ0 wr _ xi a' w fo hC hY fU (iv.size.trans hn) hg cZ) fun e a2 w' fl=>?_;have other:e≠.normal→xi=x→fw C w0 σ0 ids fn s rm wr a none q.2.ex x e a2 w':=by
         intro aB iw;subst iw;exact fl.mono (fun y hy=>hy) iv (fun e=>absurd e aB)
     cases e with
     |normal=>
      obtain⟨ρ2,S2,e1,e2,ed,fA⟩:=fl;subst e1;simp only at hl;refine ih ρ2 a2 w' (iv.trans ed) hl ?_
      have oZ:Good C w0 σ0 (q.1.st ids) ρ2 (fun _=>False) a2 w':=by
       have:=fA.meet2 (x:=q.1)
       rwa [uW S2 e2] at this
      refine oZ.joined (mr':=iI q.1 q.2.mr++q.2.pc.modR) (mo':=gE ids q.1 q.2.mo++q.2.pc.modO) ?_ (fun t ht=>?_) (fun j hj=>?_)
      ·exact((Env.but.join ρ ρ1 _ _).mono (fun t ht=>List.mem_append_left _ ht) (fun t ht=>List.mem_append_left _ ht)).trans
        ((PC.ev_but q.2.pc _ _ ρ2 cZ rfl).mono (fun t ht=>List.mem_append_right _ ht) (fun t ht=>List.mem_append_right _ ht))
      ·exact(List.mem_append.1 ht).elim EZ (nD.1 t)
      ·exact(List.mem_append.1 hj).elim vC (nD.2 j)
     |exit id=>
      refine other (by simp) ?_;obtain⟨ρ1,S2,e1,_⟩:=fl;subst e1;simpa using hl
     |ret=>
      refine other (by simp) ?_;cases rm with
      |false=>obtain⟨d,e1,_⟩:=fl;subst e1;simpa using hl
      |true=>obtain⟨ρ1,S2,e1,_⟩:=fl;subst e1;simpa using hl
     |_=>exact fl.elim
  exact wpIn_loop_rounds N (key N ρ a w (.refl _ _) he uX)
 |exit id=>
  intro rm S r h rd w0 σ0 wr ρ x a w fo hC hY fU hn hg he;simp only[comp] at h;cases cf:Nat.beq id cl<;>simp only[cf,cond_true,cond_false] at h
  case true=>cases h;exact absurd he (ky _ _ _ _)
  cases h;simp only[PC.ev,Option.some.injEq] at he;subst he;exact wpIn_exit ⟨ρ,S,rfl,fun e=>by subst e;simp at cf,by simp,.refl _ _,hg⟩
 |ret=>
  intro rm S r h rd w0 σ0 wr ρ x a w fo hC hY fU hn hg he;simp only[comp] at h;cases rm<;>simp only[cond_true,cond_false] at h
  case true=>
   cases h;simp only[PC.ev,Option.some.injEq] at he;subst he;exact wpIn_ret ⟨ρ,S,rfl,by simp,.refl _ _,hg⟩
  split at h
  ·rename_i e LK;cases h;simp only[PC.ev,Option.some.injEq] at he;subst he;obtain⟨σ,own,hv,hi⟩:=hg;exact wpIn_ret ⟨_,rfl,Inv.retD hC (fun _=>rfl) (fo rfl).2 LK _ hi rfl,.refl _ _⟩
  ·cases h;exact absurd he (ky _ _ _ _)
 |rangeFunc g ps ca cb=>exact atL eB (IH ca (by simp at hc;omega)) (IH cb (by simp at hc;omega))
 |_=>intro rm S r h rd w0 σ0 wr ρ x a w fo hC hY fU hn hg he;simp only[comp,Option.some.injEq] at h;subst h;exact absurd he (ky _ _ _ _)
theorem ah2 {N:Nat}(eB:fc C Φ)(hR:IY C n ids Φ R)(c:Code):rH C Φ fn s n ids R N c:=ah3 eB hR _ c (Nat.lt_succ_self _)
end
end Cx
