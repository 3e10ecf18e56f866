/-
  Code: sequences, choices, blocks, loops.
-/
import Derived.LoopNIn
import Derived.Test.YtbeeplempgffoaaGreatDoorQAD
import Derived.LoopN
set_option linter.unusedSimpArgs false
set_option linter.unusedVariables false
namespace Cx
open Go Go.RowKit
def aO (m t:Nat):Bool:= !Nat.beq (Nat.land 1 (Nat.shiftRight m t)) 0
theorem va (m t:Nat):aO m t=m.testBit t:=by
 unfold aO Nat.testBit;show(!Nat.beq (1&&& (m>>>t)) 0)=((1&&& (m>>>t))!=0)
 generalize 1&&& (m>>>t)=x;cases x<;>rfl
def gp (t:Nat):Nat:=Nat.shiftLeft 1 t
theorem pA (t:Nat):aO (gp t) t=true:=by
 rw[va];show(1<<<t).testBit t=true;simp[Nat.testBit_shiftLeft]
theorem fR (m k t:Nat):aO (Nat.lor m k) t=(aO m t||aO k t):=by
 simp only[va];exact Nat.testBit_or m k t
def PI.mask:PI→Nat
 |.setR t _=>gp t|.call _ t _ _=>gp t|.callc _ t _ _=>gp t|_=>0
def Jo:List PI→Nat
 |[]=>0
 |p::l=>Nat.lor p.mask (Jo l)
def PI.objs:PI→List Nat
 |.setO j _=>[j]|.mcall j _ _=>[j]|_=>[]
def fu (l:List Nat)(x:Nat):Bool:=l.any (Nat.beq x)
def iT (a b:List Nat):List Nat:=a.foldl (fun acc x=>bif fu acc x then acc else x::acc) b
def aa5 (l:List PI):List Nat:=l.foldl (fun acc p=>iT p.objs acc) []
theorem p6 (l:List Nat)(x:Nat):fu l x=true↔x∈l:=by
 unfold fu;rw[xC];constructor
 ·rintro⟨y,hy,h⟩;rw[aG h];exact hy
 ·intro h;exact⟨x,h,lU x⟩
theorem oN {x:Nat}:∀{a b:List Nat},x∈iT a b↔x∈a∨x∈b
 |[],b=>by simp[iT]
 |y::a,b=>by
  have ih:=@oN x a (bif fu b y then b else y::b);have e:iT (y::a) b=iT a (bif fu b y then b else y::b):=rfl;rw[e,ih];cases hb:fu b y
  ·simp[or_assoc,or_left_comm]
  ·have:=(p6 b y).1 hb;simp only[cond_true,di];constructor
   ·rintro(h|h)
    ·exact .inl (.inr h)
    ·exact .inr h
   ·rintro((h|h)|h)
    ·subst h;exact .inr this
    ·exact .inl h
    ·exact .inr h
theorem aps {x:Nat}(l:List PI)(h:x∈l.flatMap PI.modO):x∈aa5 l:=by
 have key:∀(l:List PI) (acc:List Nat),(x∈l.flatMap PI.modO∨x∈acc)→x∈l.foldl (fun acc p=>iT p.objs acc) acc:=by
  intro l
  induction l with
  |nil=>intro acc h;simpa using h
  |cons p l ih=>
   intro acc h;refine ih _ ?_;rw[Bj,dp] at h;rcases h with(h|h)|h
   ·refine .inr (oN.2 (.inl ?_));cases p<;>simp_all [PI.modO,PI.objs]
   ·exact .inl h
   ·exact .inr (oN.2 (.inr h))
 exact key l [] (.inl h)
theorem aaH {t:Nat}:∀(l:List PI),t∈l.flatMap PI.modR→aO (Jo l) t=true
 |[],h=>by simp at h
 |p::l,h=>by
  rw[Bj,dp] at h;simp only[Jo,fR,kV];rcases h with h|h
  ·left;cases p<;>simp[PI.modR] at h<;>subst h<;>exact pA _
  ·exact .inr (aaH l h)
structure Res2 where
 pc:PC
 out:Option Snap
 ex:List (Nat×Snap)
 mr:Nat
 mo:List Nat
 deriving Inhabited
def lC:Option Snap→Option Snap→Option Snap
 |none,x=>x
 |x,none=>x
 |some a,some b=>some (a.meet b)
def nr (id:Nat):List (Nat×Snap)→Option Snap→Option Snap
 |[],acc=>acc
 |x::l,acc=>nr id l (bif Nat.beq x.1 id then lC acc (some x.2) else acc)
def iter (step:Snap→Option Res2):Nat→Snap→Option (Snap×Res2)
 |0,_=>none
 |k+1,S=>(step S).bind fun r=>
  match r.out with
  |none=>some (S,r)
  |some T=>bif (S.meet T).beq S then some (S,r) else iter step k (S.meet T)
def jJ (S:Snap)(m:Nat):List Nat:=(List.range S.rs.length).filter fun t=>aO m t&& !isNone (cG (S.rs.getD t .none))
def iL (ids:List Nat)(S:Snap)(l:List Nat):List Nat:=l.filter fun j=> !pY (dX ids S.os j)
def gi:Res2:=⟨.is [Fs],none,[],0,[]⟩
theorem lM (Φ:aR)(N:Nat)(ρ:Env)(x:Out):gi.pc.ev Φ N ρ≠some x:=by
 intro h;simp[gi,PC.ev,PI.runs,PI.run,Fs,PE.ev,D.b_bool] at h
theorem lN:(∀t,t∈gi.pc.modR→aO gi.mr t=true)∧∀j,j∈gi.pc.modO→j∈gi.mo:=by
 constructor<;>intro t h<;>simp[gi,PC.modR,PC.modO,PI.modR,PI.modO,Fs] at h
def cH:Code→List Nat
 |.region _ ops _=>ops.toList.filterMap (·.dst)
 |.seq a b=>cH a++cH b
 |.cond _ a b=>cH a++cH b
 |.block _ a=>cH a
 |.loop a=>cH a
 |_=>[]
def wy (l:List Nat):Nat:=l.foldr (fun t m=>Nat.lor (gp t) m) 0
def rJ (m:Nat):Nat→List Sh→List Sh
 |_,[]=>[]
 |t,s::l=>(bif aO m t then .none else s)::rJ m (t+1) l
def Snap.mask (m:Nat)(S:Snap):Snap:=⟨rJ m 0 S.rs,S.os⟩
def rq:Sh→Sh
 |.yv=>.none
 |s=>s
def qp:List Nat→List Ty→List Sh→List Sh
 |p::ps,y::ys,l=>qp ps ys (l.set p (.dat y))
 |_,_,l=>l
def Snap.start (ps:List Nat)(ys:List Ty)(S:Snap):Snap:=⟨qp ps ys (S.rs.map rq),S.os⟩
def aaz (ids:List Nat)(l:List Snap)(mo:List Nat):List Nat:=mo.filter fun j=>l.any fun S=> !pY (dX ids S.os j)
def ar7 (wm:Nat)(ra rb:Res2):Res2:=
 let m:=Nat.lor wm (Nat.lor ra.mr rb.mr)
 ⟨.seq ra.pc rb.pc,rb.out.map (Snap.mask m),rb.ex.map (fun x=>(x.1,x.2.mask m)),m,iT ra.mo rb.mo⟩
def fS (ids:List Nat)(id:Nat)(r:Res2):Res2:=
    match nr id r.ex r.out with
    |some M=>⟨.block id (jJ M r.mr) (iL ids M r.mo) r.pc,some M,r.ex.filter fun x=> !Nat.beq x.1 id,r.mr,r.mo⟩
    |none=>⟨.block id [] [] r.pc,none,r.ex.filter fun x=> !Nat.beq x.1 id,r.mr,r.mo⟩
def tR:List (Nat×Nat)→Nat→Option Nat
 |[],_=>none
 |x::l,t=>bif Nat.beq x.1 t then some x.2 else tR l t
def kc (pr:Nat):List Oper→List (Nat×Nat)→Option (List (Nat×Nat))
 |[],acc=>some acc
 |o::l,acc=>
  match o.dst,o.guard with
  |some d,none=>
   bif Nat.beq d pr||(tR acc d).isSome then none else
   match o.op with
   |.extract (.tmp t) i=>bif Nat.beq t pr&&Nat.ble i 1 then kc pr l (acc++[(d,i)]) else none
   |.assign (.tmp t)=>(tR acc t).bind fun i=>kc pr l (acc++[(d,i)])
   |.move (.tmp t)=>(tR acc t).bind fun i=>kc pr l (acc++[(d,i)])
   |_=>none
  |_,_=>none
structure MP where
 it:Nat
 nx:Nat
 mo:Nat
 out:Nat
 next:Nat
 pr:Nat
 ops1:Array Oper
 ops2:Array Oper
 aa:List (Nat×Nat)
 deriving Inhabited
def Ah (x y:Code)(k:Nat)(z:Code):Option MP:=
 match x,y,z with
 |.region _ ops1 false,.cond (.tmp mo) .skip (.exit out),.region _ ops2 false=>
  match ops1.toList,ops2.toList with
  |[o1,o2],o3::l=>
   match o1.dst,o1.guard,o1.op,o2.dst,o2.guard,o2.op,o3.dst,o3.guard,o3.op with
   |some nx,none,.next (.tmp it) false,some mo',none,.extract (.tmp nx') 0,some pr,none,.entry (.tmp Z7)=>
    bif Nat.beq mo mo'&&Nat.beq nx nx'&&Nat.beq it Z7&& !Nat.beq it nx&& !Nat.beq it mo&& !Nat.beq it pr&& !Nat.beq nx mo&& !Nat.beq out cL&& !Nat.beq k cL then
     (kc pr l []).map fun aa=>⟨it,nx,mo,out,k,pr,ops1,ops2,aa⟩
    else none
   |_,_,_,_,_,_,_,_,_=>none
  |_,_=>none
 |_,_,_=>none
def wh:List Nat→Nat→List Ob→List Ob
 |i::is,J,o::os=>(bif Nat.beq i J then .dead else o)::wh is J os
 |_,_,os=>os
def Snap.kill (ids:List Nat)(J:Nat)(S:Snap):Snap:=⟨S.rs,wh ids J S.os⟩
def Z5 (J:Nat)(kt et:Ty)(ids:List Nat)(p:MP)(m:Nat)(S:Snap):Bool:=
 Sh.beq (S.rs.getD p.it .none) (.obj J 0)&&Ob.beq (dX ids S.os J) (.it kt et)&& !aO m p.it
def Ai (ids:List Nat)(n:Nat)(p:MP)(ws:List Nat)(f:Snap→Option Res2)(S:Snap):Option Res2:=
 match cG (S.rs.getD p.it .none) with
 |.obj J 0=>
  match dX ids S.os J with
  |.it kt et=>
   let ps:=p.aa.map (·.1)
   let ys:=p.aa.map fun x=>bif Nat.beq x.2 0 then kt else et
   let m:=wy ws
   match iter (fun S=>(f ((S.mask m).start ps ys)).map (fS ids p.next)) 8 S with
   |some r=>
    bif r.2.ex.isEmpty&& !fu r.2.mo J&&Z5 J kt et ids p m r.1&&lE ps&&ps.all (fun t=>Nat.blt t n)&&Nat.blt p.nx n&&Nat.blt p.mo n&&Nat.blt p.pr n&&Nat.beq (Nat.lor m r.2.mr) m then
       some ⟨.seq (.meach J ps (p.aa.map (·.2)) (iL ids r.1 r.2.mo) r.2.pc) (.exit p.out),none,[(p.out,(r.1.mask m).kill ids J)],0,r.2.mo⟩
    else some gi
   |none=>some gi
  |_=>some gi
 |_=>some gi
def comp (C:Ctx)(fn:Func)(s:Sig)(n:Nat)(ids:List Nat)(R:Array Oper→Bool→Snap→Option (Snap×List PI)):Bool→Code→Snap→Option Res2
 |_,.skip,S=>some ⟨.skip,some S,[],0,[]⟩
 |_,.region _ ops draw,S=>(R ops draw S).map fun r=>⟨.is r.2,some r.1,[],Jo r.2,aa5 r.2⟩
 |rm,.seq a b,S=>(comp C fn s n ids R rm a S).bind fun r=>
  match r.out with
  |none=>some r
  |some S1=>(comp C fn s n ids R rm b S1).map fun q=>⟨.seq r.pc q.pc,q.out,r.ex++q.ex,Nat.lor r.mr q.mr,iT r.mo q.mo⟩
 |rm,.cond c a b,S=>
  match use C (S.st ids) [] c with
  |some (.bool,e)=>
   (comp C fn s n ids R rm a S).bind fun r=>(comp C fn s n ids R rm b S).map fun q=>
     match lC r.out q.out with
     |some M=>⟨.ite e (jJ M (Nat.lor r.mr q.mr)) (iL ids M (iT r.mo q.mo)) r.pc q.pc,some M,r.ex++q.ex,Nat.lor r.mr q.mr,iT r.mo q.mo⟩
     |none=>⟨.ite e [] [] r.pc q.pc,none,r.ex++q.ex,Nat.lor r.mr q.mr,iT r.mo q.mo⟩
  |_=>some gi
 |rm,.block id a,S=>bif Nat.beq id cL then some gi else(comp C fn s n ids R rm a S).map (fS ids id)
 |rm,.loop (.seq x (.seq y (.block k (.seq z code)))),S=>
  (match Ah x y k z with
  |some p=>Ai ids n p (cH x++(cH y++(cH z++cH code))) (fun S=>comp C fn s n ids R rm code S) S
  |none=>
  match iter (fun S=>comp C fn s n ids R rm (.seq x (.seq y (.block k (.seq z code)))) S) 8 S with
  |some r=>some ⟨.loop (jJ r.1 r.2.mr) (iL ids r.1 r.2.mo) r.2.pc,none,r.2.ex,r.2.mr,r.2.mo⟩
  |none=>some gi)
 |rm,.loop a,S=>
  match iter (fun S=>comp C fn s n ids R rm a S) 8 S with
  |some r=>some ⟨.loop (jJ r.1 r.2.mr) (iL ids r.1 r.2.mo) r.2.pc,none,r.2.ex,r.2.mr,r.2.mo⟩
  |none=>some gi
 |_,.exit id,S=>bif Nat.beq id cL then some gi else some ⟨.exit id,none,[(id,S)],0,[]⟩
 |rm,.ret,S=>
  bif rm then some ⟨.exit cL,none,[(cL,S)],0,[]⟩ else
  match xf C fn s (S.st ids) with
  |some e=>some ⟨.ret e,none,[],0,[]⟩
  |none=>some gi
 |rm,.rangeFunc g ps a b,S=>
  match rm,C.yl,use C (S.st ids) [] g with
  |false,none,some (.fn aa r,e)=>
   match mB aa r with
   |some ys=>
    match iter (fun S=>(comp C fn s n ids R true a (S.start ps.toList ys)).bind fun ra=>
          match ra.out,ra.ex with
          |some S1,[]=>(comp C fn s n ids R true b S1).map (ar7 (wy (ps.toList++cH a++cH b)) ra)
          |_,_=>none) 8 S with
    |some r=>
     bif Nat.beq ys.length ps.size&&lE ps.toList&&ps.toList.all (fun p=>Nat.blt p n)&&Nat.ble r.1.rs.length n then
           some ⟨.seq (.is [.callc [] n e []]) (.each (.r n) ps.toList (aaz ids (r.1::r.2.ex.map (·.2)) r.2.mo) ((nr cL r.2.ex none).bind fun M=>xf C fn s (M.st ids)) r.2.pc),
            some r.1,r.2.ex.filter (fun x=> !Nat.beq x.1 cL),gp n,r.2.mo⟩
     else some gi
    |none=>some gi
   |none=>some gi
  |_,_,_=>some gi
 |_,_,_=>some gi
termination_by structural _ c=>c
def wv:Code→Option (MP×Code×List Nat)
 |.seq x (.seq y (.block k (.seq z code)))=>(Ah x y k z).map fun p=>(p,code,cH x++(cH y++(cH z++cH code)))
 |_=>none
theorem Xt (C:Ctx)(fn:Func)(s:Sig)(n:Nat)(ids:List Nat)(R:Array Oper→Bool→Snap→Option (Snap×List PI))(rm:Bool)(a:Code)(S:Snap):comp C fn s n ids R rm (.loop a) S=
 match wv a with
 |some q=>Ai ids n q.1 q.2.2 (fun S=>comp C fn s n ids R rm q.2.1 S) S
 |none=>
  match iter (fun S=>comp C fn s n ids R rm a S) 8 S with
  |some r=>some ⟨.loop (jJ r.1 r.2.mr) (iL ids r.1 r.2.mo) r.2.pc,none,r.2.ex,r.2.mr,r.2.mo⟩
  |none=>some gi:=by
 by_cases h:∃x y k z code,a=.seq x (.seq y (.block k (.seq z code)))
 ·obtain⟨x,y,k,z,code,rfl⟩:=h
  conv=>lhs;unfold comp
  simp only[wv];cases Ah x y k z<;>rfl
 ·have e:wv a=none:=by
   unfold wv;split
   ·rename_i x y k z code;exact absurd ⟨x,y,k,z,code,rfl⟩ h
   ·rfl
  rw[e];rw[comp];intro x y k z code e;exact h ⟨x,y,k,z,code,e⟩
def subs:Code→List Code
 |.seq a b=>.seq a b::(subs a++subs b)
 |.cond c a b=>.cond c a b::(subs a++subs b)
 |.block i a=>.block i a::subs a
 |.loop a=>.loop a::subs a
 |.rangeFunc g ps a b=>.rangeFunc g ps a b::(subs a++subs b)
 |c=>[c]
theorem asP (c:Code):c∈subs c:=by cases c<;>simp[subs]
theorem aBT {a code:Code}{p:MP}{ws:List Nat}(h:wv a=some (p,code,ws)):code∈subs a:=by
 unfold wv at h;split at h
 ·simp only[aK] at h;obtain⟨q,_,e⟩:=h;cases e;simp[subs,asP]
 ·cases h
def L7 (C:Ctx)(n:Nat)(ids:List Nat)(Φ:aR)(R:Array Oper→Bool→Snap→Option (Snap×List PI)):Prop:=
 ∀(id:Nat) (ops:Array Oper) (draw:Bool) (S:Snap) (r:Snap×List PI),R ops draw S=some r→
  ∀(rd:Option Nat) (w0:World) (σ0:Base) (ρ ρ':Env) (a:Act) (w:World) (Q:Exit→Act→World→Prop),CtxOK C σ0→qQ C Φ w0 σ0→a.tmps.size=n→Good C w0 σ0 (S.st ids) ρ (fun _=>False) a w→PI.runs Φ r.2 ρ=some ρ'→
   (∀a' w',SameBut (za ops) a a'→Good C w0 σ0 (r.1.st ids) ρ' (fun _=>False) a' w'→Q .normal a' w')→(Code.region id ops draw).wpIn (FR rd) 0 C.P Q a w
section
variable {C:Ctx} {ρ ρ':Env} {σ:Im} {own:Nat→Option Nat} {hv:Nat→Value} {w0:World} {σ0:Base} {A:Nat→Prop} {a:Act} {w:World} {Φ:aR} {n:Nat} {ids:List Nat} {fn:Func} {s:Sig}
 {R:Array Oper→Bool→Snap→Option (Snap×List PI)}
def gn (C:Ctx)(w0:World)(σ0:Base)(ids:List Nat)(fn:Func)(s:Sig)(rm:Bool)(wr:Nat→Prop)(a0:Act)(out:Option Snap)(ex:List (Nat×Snap))(x:Out):Exit→Act→World→Prop
 |.normal,a,w=>∃ρ S,x=.next ρ∧out=some S∧SameBut wr a0 a∧Good C w0 σ0 (S.st ids) ρ (fun _=>False) a w
 |.exit id,a,w=>∃ρ S,x=.exit id ρ∧id≠cL∧(id,S)∈ex∧SameBut wr a0 a∧Good C w0 σ0 (S.st ids) ρ (fun _=>False) a w
 |.ret,a,w=>match rm with
  |false=>∃d,x=.ret d∧qN C w0 σ0 fn s d a.tmps a.defers w∧SameBut wr a0 a
  |true=>∃ρ S,x=.exit cL ρ∧(cL,S)∈ex∧SameBut wr a0 a∧Good C w0 σ0 (S.st ids) ρ (fun _=>False) a w
 |_,_,_=>False
theorem Good.meet1 {x y:Snap}(h:Good C w0 σ0 (x.st ids) ρ A a w):Good C w0 σ0 ((x.meet y).st ids) ρ (fun _=>False) a w:=by
 obtain⟨σ,own,hv,h⟩:=h;exact⟨σ,own,hv,Snap.meet_ok1 h⟩
theorem Good.meet2 {x y:Snap}(h:Good C w0 σ0 (y.st ids) ρ A a w):Good C w0 σ0 ((x.meet y).st ids) ρ (fun _=>False) a w:=by
 obtain⟨σ,own,hv,h⟩:=h;exact⟨σ,own,hv,Snap.meet_ok2 h⟩
theorem aaO {x:Snap}{y:Option Snap}{M:Snap}(h:Good C w0 σ0 (x.st ids) ρ (fun _=>False) a w)(hm:lC (some x) y=some M):Good C w0 σ0 (M.st ids) ρ (fun _=>False) a w:=by
 cases y<;>simp[lC] at hm<;>subst hm
 ·exact h
 ·exact h.meet1
theorem aaP {x:Option Snap}{y:Snap}{M:Snap}(h:Good C w0 σ0 (y.st ids) ρ (fun _=>False) a w)(hm:lC x (some y)=some M):Good C w0 σ0 (M.st ids) ρ (fun _=>False) a w:=by
 cases x<;>simp[lC] at hm<;>subst hm
 ·exact h
 ·exact h.meet2
theorem aaQ {x:Snap}{y:Option Snap}:∃M,lC (some x) y=some M:=by cases y<;>simp[lC]
theorem aaR {x:Option Snap}{y:Snap}:∃M,lC x (some y)=some M:=by cases x<;>simp[lC]
theorem Jp {id:Nat}:∀(l:List (Nat×Snap)) {x:Snap},Good C w0 σ0 (x.st ids) ρ (fun _=>False) a w→∃M,nr id l (some x)=some M∧Good C w0 σ0 (M.st ids) ρ (fun _=>False) a w
 |[],x,h=>⟨x,rfl,h⟩
 |y::l,x,h=>by
  simp only[nr];cases Nat.beq y.1 id
  ·exact Jp l h
  ·obtain⟨M,hM⟩:=@aaQ x (some y.2);simp only[cond_true,hM];exact Jp l (aaO h hM)
theorem PB {id:Nat}{S:Snap}(h:Good C w0 σ0 (S.st ids) ρ (fun _=>False) a w):∀(l:List (Nat×Snap)) (x:Option Snap),(id,S)∈l→∃M,nr id l x=some M∧Good C w0 σ0 (M.st ids) ρ (fun _=>False) a w
 |y::l,x,hm=>by
  simp only[nr];rcases di.1 hm with e|hm
  ·subst e;simp only[lU,cond_true];obtain⟨M,hM⟩:=@aaR x S;rw[hM];exact Jp l (aaP h hM)
  ·exact PB h l _ hm
theorem Dr {step:Snap→Option Res2}:∀(k:Nat) {S:Snap} {r:Snap×Res2},iter step k S=some r→
 step r.1=some r.2∧(∀T,r.2.out=some T→r.1.meet T=r.1)∧∀{ρ:Env} {a:Act} {w:World},Good C w0 σ0 (S.st ids) ρ (fun _=>False) a w→Good C w0 σ0 (r.1.st ids) ρ (fun _=>False) a w
 |0,S,r,h=>by simp[iter] at h
 |k+1,S,r,h=>by
  simp only[iter,aB] at h;obtain⟨q,hq,h⟩:=h;split at h
  ·rename_i ho;cases h;exact⟨hq,fun T hT=>by simp[ho] at hT,fun g=>g⟩
  ·rename_i T ho;cases hb:(S.meet T).beq S<;>simp only[hb,cond_true,cond_false] at h
   ·obtain⟨h1,h2,h3⟩:=Dr k h;exact⟨h1,h2,fun g=>h3 g.meet1⟩
   ·cases h;refine⟨hq,fun T' hT=>?_,fun g=>g⟩;simp only[ho,bp] at hT;subst hT;exact Snap.beq_eq _ _ hb
theorem Z8 {step:Snap→Option Res2}{hv:Nat→Value}:∀(k:Nat) {S:Snap} {r:Snap×Res2},iter step k S=some r→Inv C (S.st ids) ρ σ own hv w0 σ0 (fun _=>False) a w→Inv C (r.1.st ids) ρ σ own hv w0 σ0 (fun _=>False) a w
 |0,S,r,h,_=>by simp[iter] at h
 |k+1,S,r,h,i=>by
  simp only[iter,aB] at h;obtain⟨q,hq,h⟩:=h;split at h
  ·cases h;exact i
  ·rename_i T ho;cases hb:(S.meet T).beq S<;>simp only[hb,cond_true,cond_false] at h
   ·exact Z8 k h (Snap.meet_ok1 i)
   ·cases h;exact i
theorem Good.joined {M:Snap}{m:Nat}{mo mr' mo':List Nat}(h:Good C w0 σ0 (M.st ids) ρ' (fun _=>False) a w)(hb:ρ.but ρ' mr' mo')(h1:∀t,t∈mr'→aO m t=true)(h2:∀j,j∈mo'→j∈mo):
 Good C w0 σ0 (M.st ids) (ρ.join (jJ M m) (iL ids M mo) ρ') (fun _=>False) a w:=by
 obtain⟨σ,own,hv,h⟩:=h;refine⟨σ,own,hv,h.env (Snap.noOpt _ _) (fun t ht=>?_) (fun j hj=>?_)⟩
 ·simp only[Env.join,Env.put,rP];split
  ·rfl
  ·rename_i hm;refine(hb.r t fun CT=>hm ?_).symm;have aq:t<M.rs.length:=by
        refine WI fun hle=>?_;simp only[Snap.st,be,qI hle,Option.getD_none,cG,isNone] at ht;cases ht
   exact gC.2 ⟨gm.2 aq,by rw[h1 t CT];simpa [Snap.st] using ht⟩
 ·simp only[Env.join,Env.put,rP];split
  ·rfl
  ·rename_i hm;refine(hb.o j fun CT=>hm ?_).symm;exact gC.2 ⟨h2 j CT,by simpa [Snap.st] using hj⟩
theorem Jq {S:Snap}{m t:Nat}(h:t∈jJ S m):aO m t=true:=by
 have:=(gC.1 h).2;simp only[ay] at this;exact this.1
theorem Aj {S:Snap}{l:List Nat}{j:Nat}(h:j∈iL ids S l):j∈l:=(gC.1 h).1
theorem W8 {id:Nat}{q:Res2}(h:(∀t,t∈q.pc.modR→aO q.mr t=true)∧∀j,j∈q.pc.modO→j∈q.mo):(∀t,t∈(fS ids id q).pc.modR→aO (fS ids id q).mr t=true)∧∀j,j∈(fS ids id q).pc.modO→j∈(fS ids id q).mo:=by
 unfold fS;cases hm:nr id q.ex q.out<;>simp only
 ·simpa [PC.modR,PC.modO] using h
 ·refine⟨fun t ht=>?_,fun j hj=>?_⟩
  ·simp only[PC.modR,dp] at ht;exact ht.elim Jq (h.1 t)
  ·simp only[PC.modO,dp] at hj;exact hj.elim Aj (h.2 j)
theorem apl {p:MP}{ws:List Nat}{f:Snap→Option Res2}{S:Snap}{r:Res2}(h:Ai ids n p ws f S=some r):(∀t,t∈r.pc.modR→aO r.mr t=true)∧∀j,j∈r.pc.modO→j∈r.mo:=by
 unfold Ai at h;split at h
 case h_2=>cases h;exact lN
 split at h
 case h_2=>cases h;exact lN
 simp only at h;split at h
 case h_2=>cases h;exact lN
 rw[nR] at h;split at h
 ·cases h;refine⟨fun t ht=>by simp[PC.modR] at ht,fun j hj=>?_⟩;simp only[PC.modO,qG] at hj;exact Aj hj
 ·cases h;exact lN
theorem sT:∀(c:Code) {rm:Bool} {S:Snap} {r:Res2},comp C fn s n ids R rm c S=some r→(∀t,t∈r.pc.modR→aO r.mr t=true)∧∀j,j∈r.pc.modO→j∈r.mo:=by
 intro c
 induction c with
 |skip=>intro rm S r h;simp only[comp,bp] at h;subst h;simp[PC.modR,PC.modO]
 |region id ops draw=>
  intro rm S r h;simp only[comp,aK] at h;obtain⟨q,_,rfl⟩:=h;exact⟨fun t ht=>aaH _ ht,fun j hj=>aps _ hj⟩
 |seq x y iK v8=>
  intro rm S r h;simp only[comp,aB] at h;obtain⟨q,hq,h⟩:=h;split at h
  ·cases h;exact iK hq
  ·simp only[aK] at h;obtain⟨p,hp,rfl⟩:=h;refine⟨fun t ht=>?_,fun j hj=>?_⟩
   ·simp only[PC.modR,dp] at ht;rw[fR,kV];exact ht.imp ((iK hq).1 t) ((v8 hp).1 t)
   ·simp only[PC.modO,dp] at hj;rw[oN];exact hj.imp ((iK hq).2 j) ((v8 hp).2 j)
 |cond c x y iK v8=>
  intro rm S r h;simp only[comp] at h;split at h
  case h_2=>cases h;exact lN
  rename_i e _;simp only[aB,aK] at h;obtain⟨q,hq,p,hp,rfl⟩:=h;cases hm:lC q.out p.out<;>simp only[hm]
  ·refine⟨fun t ht=>?_,fun j hj=>?_⟩
   ·simp only[PC.modR,dp,uT] at ht;rw[fR,kV];exact ht.imp ((iK hq).1 t) ((v8 hp).1 t)
   ·simp only[PC.modO,dp,uT] at hj;rw[oN];exact hj.imp ((iK hq).2 j) ((v8 hp).2 j)
  ·refine⟨fun t ht=>?_,fun j hj=>?_⟩
   ·simp only[PC.modR,dp] at ht;rw[fR,kV];rcases ht with(ht|ht)|ht
    ·have:=Jq ht;rw[fR,kV] at this;exact this
    ·exact .inl ((iK hq).1 t ht)
    ·exact .inr ((v8 hp).1 t ht)
   ·simp only[PC.modO,dp] at hj;rcases hj with(hj|hj)|hj
    ·exact Aj hj
    ·exact oN.2 (.inl ((iK hq).2 j hj))
    ·exact oN.2 (.inr ((v8 hp).2 j hj))
 |block id x iK=>
  intro rm S r h;simp only[comp] at h;cases cE:Nat.beq id cL<;>simp only[cE,cond_true,cond_false] at h
  case true=>cases h;exact lN
  simp only[aK] at h;obtain⟨q,hq,rfl⟩:=h;exact W8 (iK hq)
 |loop x iK=>
  intro rm S r h;rw[Xt] at h;split at h
  ·exact apl h
  split at h
  case h_2=>cases h;exact lN
  rename_i q hq;cases h;have hs:=(Dr (C:=C) (w0:=default) (σ0:=Base.mk0 ⟨fun _ _=>none,fun _=>none⟩ 0) (ids:=ids) 8 hq).1;refine⟨fun t ht=>?_,fun j hj=>?_⟩
  ·simp only[PC.modR,dp] at ht;exact ht.elim Jq ((iK hs).1 t)
  ·simp only[PC.modO,dp] at hj;exact hj.elim Aj ((iK hs).2 j)
 |exit id=>
  intro rm S r h;simp only[comp] at h;cases cE:Nat.beq id cL<;>simp only[cE,cond_true,cond_false] at h<;>cases h
  ·simp[PC.modR,PC.modO]
  ·exact lN
 |ret=>
  intro rm S r h;simp only[comp] at h;cases rm<;>simp only[cond_true,cond_false] at h
  case true=>cases h;simp[PC.modR,PC.modO]
  split at h
  ·cases h;simp[PC.modR,PC.modO]
  ·cases h;exact lN
 |rangeFunc g ps x y _ _=>
  intro rm S r h;simp only[comp] at h;split at h
  case h_2=>cases h;exact lN
  split at h
  case h_2=>cases h;exact lN
  split at h
  case h_2=>cases h;exact lN
  rename_i q hq;rw[nR] at h;split at h
  ·cases h;refine⟨fun t ht=>?_,fun j hj=>?_⟩
   ·simp[PC.modR,PI.modR] at ht;subst ht;exact pA _
   ·simp only[PC.modO,PI.modO,Bj,List.flatMap_nil,qG,uT] at hj;exact(gC.1 hj).1
  ·cases h;exact lN
 |_=>intro rm S r h;simp only[comp,bp] at h;subst h;exact lN
theorem gn.mono {rm:Bool}{wr:Nat→Prop}{a0 a1:Act}{out ac5:Option Snap}{ex XP:List (Nat×Snap)}{x:Out}{e:Exit}(h:gn C w0 σ0 ids fn s rm wr a0 out ex x e a w)(he:∀y,y∈ex→y∈XP)(hs:SameBut wr a1 a0)
 (ho:e=.normal→ac5=out):gn C w0 σ0 ids fn s rm wr a1 ac5 XP x e a w:=by
 cases e with
 |normal=>obtain⟨ρ,S,h1,h2,h3,h4⟩:=h;exact⟨ρ,S,h1,by rw[ho rfl];exact h2,hs.trans h3,h4⟩
 |exit id=>obtain⟨ρ,S,h1,h2,h3,h4,h5⟩:=h;exact⟨ρ,S,h1,h2,he _ h3,hs.trans h4,h5⟩
 |ret=>
  cases rm with
  |false=>obtain⟨d,h1,h2,h3⟩:=h;exact⟨d,h1,h2,hs.trans h3⟩
  |true=>obtain⟨ρ,S,h1,h3,h4,h5⟩:=h;exact⟨ρ,S,h1,he _ h3,hs.trans h4,h5⟩
 |_=>exact h.elim
theorem XI {body:Env→Option Out}{ρ:Env}{ps lo:List Nat}{rt:Option PE}{x:Out}:∀{xs vo:List D},g8 body ρ ps lo rt xs vo=some x→
 ∃(m:Nat) (lO:Nat→List D),m≤xs.length∧lO 0=vo∧
  (∀i,i<m→∃y ρ',xs[i]?=some y∧body (ρ.put ps (partsOf ps y) lo (lO i))=some (.next ρ')∧lo.map ρ'.o=lO (i+1))∧
  ((m=xs.length∧x=.next (ρ.put [] [] lo (lO m)))∨
   (m<xs.length∧∃y id ρ',xs[m]?=some y∧body (ρ.put ps (partsOf ps y) lo (lO m))=some (.exit id ρ')∧
    ((id≠cL∧x=.exit id (ρ.put [] [] lo (lo.map ρ'.o)))∨(id=cL∧∃e,rt=some e∧x=.ret (e.ev (ρ.put [] [] lo (lo.map ρ'.o)))))))
 |[],vo,h=>by
  simp only[g8,bp] at h;exact⟨0,fun _=>vo,bJ _,rfl,fun i hi=>by omega,.inl ⟨rfl,h.symm⟩⟩
 |y::xs,vo,h=>by
  simp only[g8] at h;split at h
  ·rename_i ρ' hb;obtain⟨m,lO,h1,h2,h3,h4⟩:=XI h;refine⟨m+1,fun i=>match i with|0=>vo|i+1=>lO i,by simp;omega,rfl,fun i hi=>?_,?_⟩
   ·cases i with
    |zero=>exact⟨y,ρ',rfl,hb,h2.symm⟩
    |succ i=>simpa using h3 i (by omega)
   ·rcases h4 with⟨e1,e2⟩|⟨e1,z,id,ρ2,e2,e3,e4⟩
    ·exact .inl ⟨by simp[e1],e2⟩
    ·exact .inr ⟨by simp;omega,z,id,ρ2,by simpa using e2,e3,e4⟩
  ·rename_i id ρ' hb;refine⟨0,fun _=>vo,xI _,rfl,fun i hi=>by omega,.inr ⟨by simp,y,id,ρ',rfl,hb,?_⟩⟩;cases cE:Nat.beq id cL<;>simp only[cE,cond_true,cond_false] at h
   ·refine .inl ⟨fun e=>?_,(Bo h).symm⟩;subst e;simp at cE
   ·simp only[aK] at h;obtain⟨e,he,e2⟩:=h;exact .inr ⟨aG cE,e,he,e2.symm⟩
  ·cases h
theorem W6 {l:List Nat}{t:Nat}(h:t∈l):aO (wy l) t=true:=by
 induction l with
 |nil=>cases h
 |cons x l ih=>
  have e:wy (x::l)=Nat.lor (gp x) (wy l):=rfl;rw[e,fR];rcases di.1 h with e|e
  ·subst e;rw[pA];rfl
  ·rw[ih e];simp
theorem Pz (m:Nat):∀(l:List Sh) (k t:Nat),(rJ m k l).getD t .none=if aO m (k+t)=true then .none else l.getD t .none
 |[],k,t=>by simp[rJ]
 |s::l,k,0=>by
  simp only[rJ,uS,qL];cases aO m k<;>rfl
 |s::l,k,t+1=>by
  simp only[rJ,FJ];rw[Pz m l (k+1) t,show k+1+t=k+(t+1) by omega]
theorem Dy (m:Nat)(S:Snap)(t:Nat):((S.mask m).st ids).r t=if aO m t=true then .none else(S.st ids).r t:=by
 show cG ((rJ m 0 S.rs).getD t .none)=if aO m t=true then .none else cG (S.rs.getD t .none);rw[Pz,lV];split<;>rfl
theorem apr {m:Nat}{x S:Snap}{t:Nat}(h:aO m t=true):((x.meet (S.mask m)).st ids).r t=.none:=by
 show cG ((List.zipWith iM x.rs (rJ m 0 S.rs)).getD t .none)=.none;rcases LH (f:=iM) x.rs (rJ m 0 S.rs) t with h0|⟨s,u,h1,h2,h3⟩
 ·rw[h0];rfl
 ·rw[Pz,lV,if_pos h] at h2;subst h2;rw[h3];cases s<;>rfl
theorem Inv.maskR {S:Snap}{hv:Nat→Value}(h:Inv C (S.st ids) ρ σ own hv w0 σ0 A a w)(m:Nat):Inv C ((S.mask m).st ids) ρ σ own hv w0 σ0 (fun _=>False) a w:=by
 have hc:Compat (S.st ids) hv ((S.mask m).st ids) hv:=⟨fun _=>bJ _,fun _ _=>rfl⟩
 refine h.weaken (fun t=>?_) (fun j=>?_) (Snap.noOpt _ _) (fun j hj=>⟨hj,rfl⟩)
 ·refine aT.mono' (ρ:=ρ) (.refl σ) hc (Snap.noOpt _ _ t) ?_;rw[Dy];split
  ·trivial
  ·exact h.regs t
 ·exact(h.objs j).mono (.refl σ) hc rfl rfl (fun k hk=>⟨hk,rfl⟩)
theorem S7:∀(ps:List Nat) (ys:List Ty) (l:List Sh),ps.length=ys.length→lE ps=true→∀t,(qp ps ys l).getD t .none=.none∨(t∉ps∧(qp ps ys l).getD t .none=l.getD t .none)∨∃(i:Nat) (y:Ty),ps[i]?=some t∧ys[i]?=some y∧(qp ps ys l).getD t .none=.dat y
 |[],ys,l,_,_,t=>.inr (.inl ⟨by simp,by cases ys<;>rfl⟩)
 |p::ps,[],l,h,_,t=>by simp at h
 |p::ps,y::ys,l,h,hn,t=>by
  have iz:=rK hn;rw[sI] at iz;have dL:lE ps=true:=by
   simp only[lE,ay] at hn;exact hn.2
  show(qp ps ys (l.set p (.dat y))).getD t .none=_∨_∨_;rcases S7 ps ys (l.set p (.dat y)) (by simpa using h) dL t with e|⟨e1,e2⟩|⟨i,z,e1,e2,e3⟩
  ·exact .inl e
  ·by_cases hp:t=p
   ·subst hp;by_cases aq:t<l.length
    ·exact .inr (.inr ⟨0,y,rfl,rfl,by show(qp ps ys (l.set t (.dat y))).getD t .none=_;rw[e2];simp[be,aq]⟩)
    ·left;rw[e2];simp[be,aq]
   ·refine .inr (.inl ⟨by simp[hp,e1],?_⟩);show(qp ps ys (l.set p (.dat y))).getD t .none=_;rw[e2];simp only[be,Bk];rw[if_neg (fun e=>hp e.symm)]
  ·exact .inr (.inr ⟨i+1,z,by simpa using e1,by simpa using e2,e3⟩)
def lL:List Nat→List Value→Array Value→Array Value
 |p::ps,v::vs,T=>lL ps vs (T.setIfInBounds p v)
 |_,_,T=>T
theorem asw (ps:Array Nat)(vs:Array Value)(T:Array Value):(ps.zip vs).foldl (fun T x=>T.setIfInBounds x.1 x.2) T=lL ps.toList vs.toList T:=by
 rw[←Array.foldl_toList,Array.toList_zip];generalize ps.toList=l;generalize vs.toList=k
 induction l generalizing k T with
 |nil=>rfl
 |cons p l ih=>
  cases k with
  |nil=>rfl
  |cons v k=>simpa [lL] using ih (T.setIfInBounds p v) k
theorem aeW:∀(ps:List Nat) (vs:List Value) (T:Array Value),(lL ps vs T).size=T.size
 |[],vs,T=>by cases vs<;>rfl
 |p::ps,[],T=>rfl
 |p::ps,v::vs,T=>by simp[lL,aeW ps vs]
theorem K5:∀(ps:List Nat) (vs:List Value) (T:Array Value) (t:Nat),t∉ps→(lL ps vs T).getD t undef=T.getD t undef
 |[],vs,T,t,_=>by cases vs<;>rfl
 |p::ps,[],T,t,_=>rfl
 |p::ps,v::vs,T,t,h=>by
  simp only[di,not_or] at h;simp only[lL];rw[K5 ps vs _ t h.2];simp only[gA,Bb];rw[if_neg (fun e=>h.1 e.symm)]
theorem aeV:∀(ps:List Nat) (vs:List Value) (T:Array Value) (i t:Nat),ps.Nodup→ps.length=vs.length→(∀p,p∈ps→p<T.size)→ps[i]?=some t→(lL ps vs T).getD t undef=vs.getD i undef
 |p::ps,v::vs,T,0,t,hn,hl,aq,h=>by
  simp at h;subst h;rw[sI] at hn;simp only[lL];rw[K5 ps vs _ p hn.1];simp[Bb,aq p (fF ..)]
 |p::ps,v::vs,T,i+1,t,hn,hl,aq,h=>by
  rw[sI] at hn;simp only[lL];have:=aeV ps vs (T.setIfInBounds p v) i t hn.2 (by simpa using hl) (fun q hq=>by simpa using aq q (fj _ hq)) (by simpa using h);simpa using this
 |p::ps,[],T,i,t,hn,hl,aq,h=>by simp at hl
 |[],vs,T,i,t,hn,hl,aq,h=>by simp at h
theorem Ax (f:Nat→D):∀(ps:List Nat) (vs:List D) (t:Nat),t∉ps→putL f ps vs t=f t
 |[],vs,t,_=>by cases vs<;>rfl
 |p::ps,[],t,_=>rfl
 |p::ps,v::vs,t,h=>by
  simp only[di,not_or] at h;simp only[putL,bO _ _ h.1];exact Ax f ps vs t h.2
theorem Q3 (f:Nat→D):∀(ps:List Nat) (vs:List D) (i t:Nat),ps.Nodup→ps.length=vs.length→ps[i]?=some t→putL f ps vs t=vs.getD i .none
 |p::ps,v::vs,0,t,hn,hl,h=>by
  simp at h;subst h;simp[putL,aS]
 |p::ps,v::vs,i+1,t,hn,hl,h=>by
  rw[sI] at hn;have ht:t∈ps:=sH (by simpa using h);have aC:t≠p:=fun e=>hn.1 (e▸ht);simp only[putL,bO _ _ aC];have:=Q3 f ps vs i t hn.2 (by simpa using hl) (by simpa using h);simpa using this
 |p::ps,[],i,t,hn,hl,h=>by simp at hl
 |[],vs,i,t,hn,hl,h=>by simp at h
theorem aqu (ps:List Nat)(ds:List D)(i:Nat)(h:i<ps.length):(partsOf ps (.tup ds)).getD i .none=ds.getD i .none:=by
 simp[partsOf,be,h,D.tget]
theorem aqt (ps:List Nat)(x:D):(partsOf ps x).length=ps.length:=by simp[partsOf]
theorem Inv.startR {S:Snap}{hv:Nat→Value}(h:Inv C (S.st ids) ρ σ own hv w0 σ0 A a w){ps:List Nat}{ys:List Ty}{args:List Value}{ds:List D}{lo:List Nat}{vo:List D}(hl:ps.length=ys.length)(bS:lE ps=true)(aq:∀p,p∈ps→p<a.tmps.size)(ha:pq C σ ys args ds)
 (hρ:ρ=ρ'.put [] [] lo vo):Inv C ((S.start ps ys).st ids) (ρ'.put ps (partsOf ps (.tup ds)) lo vo) σ own hv w0 σ0 (fun _=>False) {tmps:=lL ps args a.tmps,defers:=[]} w:=by
 obtain⟨a1,a2,a3⟩:=ha;have hn:=rK bS;have hc:Compat (S.st ids) hv ((S.start ps ys).st ids) hv:=⟨fun _=>bJ _,fun _ _=>rfl⟩
 have ho:∀j,(ρ'.put ps (partsOf ps (.tup ds)) lo vo).o j=ρ.o j:=fun j=>by rw[hρ];rfl
 refine⟨trivial,h.ok,h.le,h.old,h.newc,h.newm,h.below,h.bw,h.owns,fun t=>?_,fun j=>(h.objs j).mono (.refl σ) hc rfl (ho j) (fun k hk=>⟨hk,rfl⟩),fun t gs s e=>absurd e (Snap.noOpt _ _ t gs s),?_⟩
 ·show aT C _ _ σ hv (cG ((qp ps ys (S.rs.map rq)).getD t .none)) ((lL ps args a.tmps).getD t undef) (putL ρ'.r ps (partsOf ps (.tup ds)) t);rcases S7 ps ys (S.rs.map rq) hl bS t with e|⟨e1,e2⟩|⟨i,y,e1,e2,e3⟩
  ·rw[e];trivial
  ·rw[e2,K5 _ _ _ _ e1,Ax _ _ _ _ e1];have hr:=h.regs t;change aT C _ ρ σ hv (cG (S.rs.getD t .none)) _ _ at hr;have hρr:ρ.r t=ρ'.r t:=by rw[hρ];show putL ρ'.r [] [] t=_;rfl
   rw[hρr] at hr;have e3:(S.rs.map rq).getD t .none=rq (S.rs.getD t .none):=by
        simp only[be,dm];cases S.rs[t]?<;>rfl
   rw[e3];generalize S.rs.getD t .none=s at hr;cases s with
   |yv=>trivial
   |opt gs s=>trivial
   |none=>trivial
   |fclo f c=>exact aT.mono' (.refl σ) hc (fun _ _ e=>by cases e) hr
   |dat t=>exact hr
   |obj j v=>exact aT.mono' (.refl σ) hc (fun _ _ e=>by cases e) hr
   |ptr j v o=>exact aT.mono' (.refl σ) hc (fun _ _ e=>by cases e) hr
   |eptr j v o q=>exact aT.mono' (.refl σ) hc (fun _ _ e=>by cases e) hr
  ·rw[e3];have hi:i<ps.length:=(iu.1 e1).1;rw[aeV ps args a.tmps i t hn (by omega) aq e1,Q3 _ ps _ i t hn (by rw[aqt]) e1,aqu _ _ _ hi];exact a3 i y e2
 ·obtain⟨t,fx,cx,h1,h2⟩:=h.frame;exact⟨t,fx,cx,h1,fun j hj=>⟨(h2 j hj).1,by rw[ho j];exact(h2 j hj).2⟩⟩
def uV (C:Ctx)(Φ:aR)(fn:Func)(s:Sig)(n:Nat)(ids:List Nat)(R:Array Oper→Bool→Snap→Option (Snap×List PI))(N:Nat)(c:Code):Prop:=
 ∀(rm:Bool) (S:Snap) (r:Res2),comp C fn s n ids R rm c S=some r→∀(rd:Option Nat) (w0:World) (σ0:Base) (wr:Nat→Prop) (ρ:Env) (x:Out) (a:Act) (w:World),(rm=false→rd=none∧σ0.fin)→CtxOK C σ0→qQ C Φ w0 σ0→(∀t,t∈cH c→wr t)→a.tmps.size=n→
  Good C w0 σ0 (S.st ids) ρ (fun _=>False) a w→r.pc.ev Φ N ρ=some x→c.wpIn (FR rd) 0 C.P (gn C w0 σ0 ids fn s rm wr a r.out r.ex x) a w
structure Seg (σ:Im) (own:Nat→Option Nat) (w:World) (σ':Im) (own':Nat→Option Nat) (w':World):Prop where
 le:σ.le σ'
 below:Below 0 w w'
 same:∀k,k<w.heap.size→own k=none→w'.heap[k]?=w.heap[k]?
 ow:∀k j,own' k=some j→(∃i,own k=some i)∨w.heap.size≤k
 imm:∀k,((∃o x,σ'.c k o=some x)∨∃x,σ'.m k=some x)→(∃o x,σ.c k o=some x)∨(∃x,σ.m k=some x)∨(∃i,own k=some i)∨w.heap.size≤k
structure Free (L:Nat) (σ:Im) (own:Nat→Option Nat):Prop where
 own:own L=none
 c:∀o,σ.c L o=none
 m:σ.m L=none
theorem Free.seg {L:Nat}{σ':Im}{own':Nat→Option Nat}{w':World}(h:Free L σ own)(hL:L<w.heap.size)(k:Seg σ own w σ' own' w'):Free L σ' own':=by
 have CO:¬((∃o x,σ'.c L o=some x)∨∃x,σ'.m L=some x):=fun e=>by
  rcases k.imm L e with⟨o,x,e⟩|⟨x,e⟩|⟨i,e⟩|e
  ·rw[h.c o] at e;cases e
  ·rw[h.m] at e;cases e
  ·rw[h.own] at e;cases e
  ·omega
 refine⟨?_,fun o=>?_,?_⟩
 ·cases e:own' L with
  |none=>rfl
  |some j=>
   rcases k.ow L j e with⟨i,e⟩|e
   ·rw[h.own] at e;cases e
   ·omega
 ·cases e:σ'.c L o with
  |none=>rfl
  |some x=>exact absurd (.inl ⟨o,x,e⟩) CO
 ·cases e:σ'.m L with
  |none=>rfl
  |some x=>exact absurd (.inr ⟨x,e⟩) CO
def agq (C:Ctx)(w0:World)(σ0:Base)(ids:List Nat)(wr:Nat→Prop)(a0:Act)(σ:Im)(own:Nat→Option Nat)(w:World)(out:Option Snap)(ex:List (Nat×Snap))(x:Out)(e:Exit)(a':Act)(w':World):Prop:=
 ∃ρ' S' σ' own' hv',Inv C (S'.st ids) ρ' σ' own' hv' w0 σ0 (fun _=>False) a' w'∧Seg σ own w σ' own' w'∧SameBut wr a0 a'∧
  match e with
  |.normal=>x=.next ρ'∧out=some S'
  |.exit id=>x=.exit id ρ'∧id≠cL∧(id,S')∈ex
  |.ret=>x=.exit cL ρ'∧(cL,S')∈ex
  |_=>False
theorem aeS {N:Nat}{c:Code}(hc:uV C Φ fn s n ids R N c){S:Snap}{r:Res2}(hr:comp C fn s n ids R true c S=some r)(my:C.yl=none)(hC:CtxOK C σ0){wr:Nat→Prop}{ρ:Env}{x:Out}{hv:Nat→Value}(h:Inv C (S.st ids) ρ σ own hv w0 σ0 (fun _=>False) a w)
 (gN:∀t,t∈cH c→wr t) (hn:a.tmps.size=n) (he:r.pc.ev Φ N ρ=some x) (L:Nat):c.wpIn (FR (some L)) 0 C.P (agq C w0 σ0 ids wr a σ own w r.out r.ex x) a w:=by
 obtain⟨t,fx,cx,fI,ht⟩:=h.frame;have h1:=h.toRnd (X:=fun _=>False) ht;refine wpIn_mono (hc true S r hr (some L) w0 (σ0.rnd σ own w t fun _=>False) wr ρ x a w (fun e=>by cases e) (hC.mono h.le) (fun J ys e=>by rw[my] at e;cases e) gN hn ⟨_,_,_,h1⟩ he) fun e a' w' ho=>?_
 have main:∀{S':Snap} {ρ':Env},SameBut wr a a'→Good C w0 (σ0.rnd σ own w t fun _=>False) (S'.st ids) ρ' (fun _=>False) a' w'→∃σ' own' hv',Inv C (S'.st ids) ρ' σ' own' hv' w0 σ0 (fun _=>False) a' w'∧Seg σ own w σ' own' w'∧SameBut wr a a':=by
  intro S' ρ' hs hg;obtain⟨σ',own',hv',h2⟩:=hg;exact⟨σ',own',hv',h.ofRnd fI (fun _ _=>id) h2,⟨h2.le,h.rndBelow h2,fun k hk ho=>Inv.rndSame h.ok h2 hk ho id,fun k j e=>Inv.rndOwn h2 e id,fun k e=>Inv.rndC h2 e id⟩,hs⟩
 cases e with
 |normal=>
  obtain⟨ρ',S',e1,e2,e3,e4⟩:=ho;obtain⟨σ',own',hv',g1,g2,g3⟩:=main e3 e4;exact⟨ρ',S',σ',own',hv',g1,g2,g3,e1,e2⟩
 |exit id=>
  obtain⟨ρ',S',e1,e0,e2,e3,e4⟩:=ho;obtain⟨σ',own',hv',g1,g2,g3⟩:=main e3 e4;exact⟨ρ',S',σ',own',hv',g1,g2,g3,e1,e0,e2⟩
 |ret=>
  obtain⟨ρ',S',e1,e2,e3,e4⟩:=ho;obtain⟨σ',own',hv',g1,g2,g3⟩:=main e3 e4;exact⟨ρ',S',σ',own',hv',g1,g2,g3,e1,e2⟩
 |_=>exact ho.elim
theorem Inv.putL {L:Nat}{hv:Nat→Value}{S:St}{ρ:Env}(h:Inv C S ρ σ own hv w0 σ0 A a w)(hL:w0.heap.size≤L)(hf:Free L σ own)(hx:∀t fx cx,FrOK σ own w0.heap.size σ0 w t fx cx→¬fx L)(o:Obj):Inv C S ρ σ own hv w0 σ0 A a (w.putObj L o):=
 h.keep (X:=fun k=>k≠L) ⟨rfl,rfl,rfl,by simp,fun k hk=>by omega⟩ (fun k hk=>World.putObj_heap_other hk) (fun k hk=>by omega) (fun k j e1 e2=>by subst e2;rw[hf.own] at e1;cases e1) (fun k o v e1 e2=>by subst e2;rw[hf.c] at e1;cases e1)
  (fun k v e1 e2=>by subst e2;rw[hf.m] at e1;cases e1) (fun t fx cx fI k hk e=>by subst e;exact hx t fx cx fI hk)
theorem awv {o:Oper}{L:Nat}{x:Operand}{aa:Array Operand}{ts:Array TypeId}{r:Loop}(cZ:o.op=.call {callee:=.value x,args:=aa,argTypes:=ts})(hx:a.eval x=.func (.yield L) #[] #[])(hL:w.heap[L]?=some (.loop r))(hs:aa.size=r.params.size):
 (execOp a.eval o).run C.P w=.ok (.round L r.fn ((r.params.zip (aa.map a.eval)).foldl (fun tmps (t,v)=>tmps.setIfInBounds t v) r.tmps) r.assign r.body) w:=by
 have hy:=run_yield (P:=C.P) (args:=aa.map a.eval) hL (by simpa using hs);simp[execOp,cZ,resolve,hx,Deferred.ofValue,invoke,hy]
theorem arA {g:Operand}{f:Nat}{vs:List Value}{L:Nat}(hf:∃fn,C.P.funcs[f]?=some fn∧fn.body.isSome=true∧(fn.name== "runtime.NumGoroutine")=false)(hg:a.eval g=.func (.func f) #[] vs.toArray):
 (resolve a.eval (rangeCall g L) 0).run C.P w=.ok {target:=.fn (.func f) vs.toArray,args:=#[.func (.yield L) #[] #[]]} w∧
 (invoke (.fn (.func f) vs.toArray) #[.func (.yield L) #[] #[]]).run C.P w=.ok (.enter f (#[.func (.yield L) #[] #[]]++vs.toArray)) w:=by
 obtain⟨fn,h1,h2,h3⟩:=hf;obtain⟨bd,gF⟩:=WJ.1 h2;have h4:¬fn.name= "runtime.NumGoroutine" :=by simpa using h3
 constructor
 ·simp only[resolve,hg];simp[go_sem]
 ·simp[invoke,callFunc,h1,gF,h4]
theorem FrOK.enter {hv:Nat→Value}{S:St}{ρ:Env}(h:Inv C S ρ σ own hv w0 σ0 A a w){t:D}{fx cx:Nat→Prop}(hf:FrOK σ own w0.heap.size σ0 w t fx cx)(r:Loop):FrOK (σ.mark w.heap.size) own w0.heap.size σ0 ((w.alloc (.deferred (some []))).alloc (.loop r)) t fx cx:=by
 have hb:=XL w (.deferred (some [])) (.loop r);have aq:=σ0.lt _ _ _ _ hf.F;have cJ:=σ0.sub _ _ _ _ hf.F;have vN:∀k x,(σ.mark w.heap.size).m k=some x→σ.m k=some x∨k=w.heap.size:=by
  intro k x e;simp only[Im.mark] at e;split at e
  ·rename_i e2;exact .inr e2
  ·exact .inl e
 refine⟨σ0.keep _ _ _ _ _ hf.F (hb.mono (xI _)) fun k hk=>hb.block k (aq k hk),hf.own,hf.c,fun k x e hc=>?_,fun k e hB hk=>?_⟩
 ·rcases vN k x e with e|e
  ·exact hf.m k x e hc
  ·have:=aq k (cJ k hc);omega
 ·rcases vN k _ e with e|e
  ·exact hf.d k e hB hk
  ·have:=aq k hk;omega
structure RSt (C:Ctx) (w0:World) (σR:Base) (ids:List Nat) (ρ1:Env) (lo:List Nat) (aM:Act) (L:Nat) (W1:World) (σ1:Im) (rec:LoopState→Option Code→Loop) (xs:List D) (P:Nat→List D→Snap→LoopState→Option Code→Prop) (t:D) (fx cx:Nat→Prop) (w:World):Prop where
 lt:∀k,fx k→k<w.heap.size
 sub:∀k,cx k→fx k
 old:∀k,k<W1.heap.size→fx k
 ex:∃(i:Nat) (vo:List D) (Sx:Snap) (st:LoopState) (pe:Option Code) (σ:Im) (own:Nat→Option Nat) (hv:Nat→Value),t=.list (xs.take i)∧P i vo Sx st pe∧Inv C (Sx.st ids) (ρ1.put [] [] lo vo) σ own hv w0 σR (fun _=>False) aM w∧
  σ1.le σ∧Free L σ own∧w.heap[L]?=some (.loop (rec st pe))∧(∀k j,own k=some j→fx k)∧(∀k o x,σ.c k o=some x→fx k)∧(∀k x,σ.m k=some x→fx k)∧∀k,cx k↔((∃j,own k=some j)∨k=L)
theorem RSt.keep {σR:Base}{ρ1:Env}{lo:List Nat}{aM:Act}{L:Nat}{W1:World}{σ1:Im}{rec:LoopState→Option Code→Loop}{xs:List D}{P:Nat→List D→Snap→LoopState→Option Code→Prop}{t:D}{fx cx:Nat→Prop}{w w':World}
 (h0:w0.heap.size≤W1.heap.size) (hL:L<W1.heap.size) (hR:∀t f c w,σR.F t f c w→∀k,f k→k<W1.heap.size) (h:RSt C w0 σR ids ρ1 lo aM L W1 σ1 rec xs P t fx cx w) (hb:Below 0 w w') (hs:∀k,fx k→w'.heap[k]?=w.heap[k]?):
 RSt C w0 σR ids ρ1 lo aM L W1 σ1 rec xs P t fx cx w':=by
 obtain⟨i,vo,Sx,st,pe,σ,own,hv,e1,e2,e3,e4,e5,e6,e7,e8,e9,e10⟩:=h.ex;refine⟨fun k hk=>FP (h.lt k hk) hb.size,h.sub,h.old,i,vo,Sx,st,pe,σ,own,hv,e1,e2,?_,e4,e5,(hs L (h.old L hL)).trans e6,e7,e8,e9,e10⟩;exact e3.keep (X:=fx) hb hs (fun k hk=>h.old k (by omega)) e7 e8 e9 (fun t f c hf k hk=>h.old k (hR _ _ _ _ hf.F k hk))
theorem Im.noM_m {σ:Im}{k:Nat}{v:List (Value×Value)}(h:σ.noM.m k=some v):σ.m k=some v∧v≠fl:=by
 simp only[Im.noM] at h;split at h
 ·cases h
 ·rename_i aC;exact⟨h,fun e=>aC (by rw[h,e])⟩
structure SegL (L:Nat) (σ:Im) (own:Nat→Option Nat) (w:World) (σ':Im) (own':Nat→Option Nat) (w':World):Prop where
 le:σ.le σ'
 below:Below 0 w w'
 same:∀k,k<w.heap.size→own k=none→k≠L→w'.heap[k]?=w.heap[k]?
 ow:∀k j,own' k=some j→(∃i,own k=some i)∨w.heap.size≤k
 imm:∀k,((∃o x,σ'.c k o=some x)∨∃x,σ'.m k=some x)→(∃o x,σ.c k o=some x)∨(∃x,σ.m k=some x)∨(∃i,own k=some i)∨w.heap.size≤k
theorem adf (w:World)(L:Nat)(o:Obj):Below 0 w (w.putObj L o):=⟨rfl,rfl,rfl,by simp,fun k hk=>by omega⟩
theorem Seg.round {L:Nat}{σ' σ'':Im}{own' ac6:Nat→Option Nat}{w' kg:World}{o o':Obj}(h:Seg σ own w σ' own' w')(k:Seg σ' own' (w'.putObj L o) σ'' ac6 kg):SegL L σ own w σ'' ac6 (kg.putObj L o'):=by
 have bh:=h.below.size;have I7:=k.below.size;simp only[World.putObj_size] at I7;refine⟨h.le.trans k.le,h.below.trans ((adf _ _ _).trans (k.below.trans (adf _ _ _))),fun q hq ho hL=>?_,fun q j e=>?_,fun q e=>?_⟩
 ·have h1:own' q=none:=by
   cases e:own' q with
   |none=>rfl
   |some j=>
    rcases h.ow q j e with⟨i,e⟩|e
    ·rw[ho] at e;cases e
    ·omega
  rw[World.putObj_heap_other hL,k.same q (by simp;omega) h1,World.putObj_heap_other hL,h.same q hq ho]
 ·rcases k.ow q j e with⟨i,e⟩|e
  ·exact h.ow q i e
  ·simp only[World.putObj_size] at e;exact .inr (by omega)
 ·rcases k.imm q e with e|e|⟨i,e⟩|e
  ·exact h.imm q (.inl e)
  ·exact h.imm q (.inr e)
  ·rcases h.ow q i e with e|e
   ·exact .inr (.inr (.inl e))
   ·exact .inr (.inr (.inr e))
  ·simp only[World.putObj_size] at e;exact .inr (.inr (.inr (by omega)))
theorem Env.put_self (ρ:Env)(lo:List Nat):ρ.put [] [] lo (lo.map ρ.o)=ρ:=by
 have h2:∀u,putL ρ.o lo (lo.map ρ.o) u=ρ.o u:=fun u=>by rw[rP];split<;>rfl
 show Env.mk ρ.r (putL ρ.o lo (lo.map ρ.o))=ρ;rw[funext h2]
theorem arB {N:Nat}(fG:fP C Φ){g:Operand}{ps:Array Tmp}{ca cb:Code}(bL:uV C Φ fn s n ids R N ca)(dW:uV C Φ fn s n ids R N cb):uV C Φ fn s n ids R N (.rangeFunc g ps ca cb):=by
 intro rm S r hr rd w0 σ0 wr ρ x a w fY hC hY gN hn hg he;simp only[comp] at hr;split at hr
 case h_2=>cases hr;exact absurd he (lM _ _ _ _)
 rename_i aa rr e my hu;split at hr
 case h_2=>cases hr;exact absurd he (lM _ _ _ _)
 rename_i ys tJ;split at hr
 case h_2=>cases hr;exact absurd he (lM _ _ _ _)
 rename_i q hq;rw[nR] at hr;split at hr
 case isFalse=>cases hr;exact absurd he (lM _ _ _ _)
 rename_i vD;cases hr;simp only[ay] at vD;obtain⟨⟨⟨hl,bS⟩,aq⟩,C6⟩:=vD;have hl:=aG hl;have C6:=kZ C6;obtain⟨hrd,oz⟩:=fY rfl;subst hrd;obtain⟨hs,zB,_⟩:=Dr (C:=C) (w0:=w0) (σ0:=σ0) (ids:=ids) 8 hq;simp only[aB] at hs;obtain⟨ra,OT,hs⟩:=hs;split at hs
 case h_2=>cases hs
 rename_i S1 hao Yy;simp only[aK] at hs;obtain⟨rb,ZE,iJ⟩:=hs;have Zh:=sT ca OT;have Zi:=sT cb ZE;obtain⟨q1,q2⟩:=q;simp only at OT iJ C6 zB he ⊢;generalize vI:aaz ids (q1::q2.ex.map (·.2)) q2.mo=lo at he;generalize tB:((nr cL q2.ex none).bind fun M=>xf C fn s (M.st ids))=rt at he;have C2:∃f caps d,e.ev ρ=.clo f caps∧Φ f caps=some d∧g8 (q2.pc.ev Φ N) (ρ.setR n d) ps.toList lo rt d.l (lo.map ρ.o)=some x:=by
  simp only[PC.ev,PI.runs,PI.run,holds,List.all_nil,cond_true] at he;cases bU:e.ev ρ with
  |clo f caps=>
   rw[bU] at he;simp only[PE.evs,uT] at he;cases hΦ:Φ f caps with
   |none=>rw[hΦ] at he;simp at he
   |some d=>
    rw[hΦ] at he;simp only[kj,uU,PE.ev,Env.setR,aS] at he;exact⟨f,caps,d,rfl,hΦ,he⟩
  |_=>rw[bU] at he;simp at he
 obtain⟨f,caps,d,bU,hΦ,he⟩:=C2;obtain⟨σ,own,hv,i⟩:=hg;have hx:=cv (gs:=[]) i hC rfl hu;rw[bU] at hx;generalize hgv:a.eval g=gv at hx;generalize bn:Ty.fn aa rr=ty at hx;cases hx with
 |fn f cs vs ds YE h1 h2 aW=>
 cases bn;obtain⟨oA,alz⟩:=fG f cs ys YE tJ;obtain⟨xs,rfl,aBx,Oq⟩:=alz caps d hΦ;simp only[D.l_list] at he;obtain⟨m,lO,hm,vU,IY,ib⟩:=XI he;have iq0:=Z8 8 hq i
 have iq:Inv C (q1.st ids) (ρ.setR n (.list xs)) σ own hv w0 σ0 (fun _=>False) a w:=by
  refine iq0.env (Snap.noOpt _ _) (fun t ht=>?_) (fun _ _=>rfl);have aq:t<q1.rs.length:=by
   refine WI fun hle=>?_;simp only[Snap.st,be,qI hle,Option.getD_none,cG,isNone] at ht;cases ht
  simp[Env.setR,bO _ _ (show t≠n by omega)]
 obtain⟨ρ1,hρ1⟩:∃ρ1,ρ.setR n (.list xs)=ρ1:=⟨_,rfl⟩
 rw[hρ1] at he iq IY ib;have jf:ρ.o=ρ1.o:=by rw[←hρ1];rfl
 rw[jf] at vU;refine wpIn_rangeFunc ?_;intro NL aBe;obtain⟨L,Yo⟩:∃L,w.heap.size+1=L:=⟨_,rfl⟩
 obtain⟨rec,eV⟩:∃rec:LoopState→Option Code→Loop,rec=fun st pe=>{state:=st,pending:=pe,fn:=NL,tmps:=a.tmps,params:=ps,assign:=ca,body:=cb,defers:=w.heap.size}:=⟨_,rfl⟩
 have i1:=iq.enter (rec .ready none);obtain⟨t,fx0,cx0,YP,ht0⟩:=iq.frame;have ali:=σ0.lt _ _ _ _ YP.F;have Ok:=FrOK.enter iq YP (rec .ready none);have aBv:=iq.below.size;have zo:Free L (σ.mark w.heap.size) own:=by
  refine⟨?_,fun o=>?_,?_⟩
  ·cases e:own L with
   |none=>rfl
   |some j=>have:=(iq.owns L j e).2.1;omega
  ·cases e:σ.c L o with
   |none=>exact e
   |some x=>have:=iq.lt e;omega
  ·simp only[Im.mark,show L≠w.heap.size by omega,if_false];cases e:σ.m L with
   |none=>rfl
   |some x=>have:=iq.ltm e;omega
 have ry:σ.le (σ.mark w.heap.size):=by
  refine⟨fun _ _ _ e=>e,fun k x e=>?_⟩;have:k≠w.heap.size:=by have:=iq.ltm e;omega
  simp[Im.mark,this,e]
 have Yl:((w.alloc (.deferred (some []))).alloc (.loop (rec .ready none))).heap[L]?=some (.loop (rec .ready none)):=by
  have:=World.alloc_heap_new (w.alloc (.deferred (some []))) (.loop (rec .ready none));rw[World.size_alloc,Yo] at this;exact this
 obtain⟨W1,NW⟩:∃W1,(w.alloc (.deferred (some []))).alloc (.loop (rec .ready none))=W1:=⟨_,rfl⟩
 have aA7:W1.heap.size=w.heap.size+2:=by rw[←NW];simp
 rw[NW] at i1 Ok Yl;have Oi:(Instr.enterLoop NL a.tmps ps ca cb none).run C.P w=.ok (L,[{target:=.collected w.heap.size,args:=#[]}]) W1:=by
  rw[←NW,eV,←Yo];exact run_enterLoop_outer _ _ _ _ _
 obtain⟨σ1,hσ1⟩:∃σ1,σ.mark w.heap.size=σ1:=⟨_,rfl⟩
 rw[hσ1] at i1 Ok zo ry;obtain⟨aM,NX⟩:∃aM:Act,{a with defers:={target:=.collected w.heap.size,args:=#[]}::a.defers}=aM:=⟨_,rfl⟩
 have CA:aM.tmps=a.tmps:=by rw[←NX]
 rw[NX] at i1;have iR:=i1.toRnd (t:=t) (X:=fun k=>k=L) ht0;obtain⟨σR,hσR⟩:∃σR,σ0.rnd σ1 own W1 t (fun k=>k=L)=σR:=⟨_,rfl⟩
 have s9:∀t' f c w',σR.F t' f c w'→(∀k,f k→k<W1.heap.size∧k≠L)∧∀k,c k→f k∧(∀o,σ1.c k o=none)∧σ1.m k=none:=by
  rw[←hσR];rintro t' f c w' ⟨_,h2,h3,_⟩;exact⟨fun k hk=>⟨((h2 k).1 hk).1,((h2 k).1 hk).2.2.2⟩,fun k hk=>(h3 k).1 hk⟩
 have Yr:CtxOK C σR:=by rw[←hσR];exact hC.mono i1.le
 rw[hσR] at iR
 obtain⟨P,hP⟩:∃P:Nat→List D→Snap→LoopState→Option Code→Prop,P=fun i vo Sx st pe=>(i≤m∧vo=lO i∧Sx=q1∧st=.ready∧pe=none)∨
  (i=m+1∧m<xs.length∧st=.done∧∃y id ρ',xs[m]?=some y∧q2.pc.ev Φ N (ρ1.put ps.toList (partsOf ps.toList y) lo (lO m))=some (.exit id ρ')∧vo=lo.map ρ'.o∧(id,Sx)∈q2.ex∧((id≠cL∧pe=some (.exit id))∨(id=cL∧pe=some .ret))):=⟨_,rfl⟩
 obtain⟨c1,c2⟩:=arA (C:=C) (w:=W1) (L:=L) oA hgv;refine⟨L,[{target:=.collected w.heap.size,args:=#[]}],W1,_,W1,f,_,W1,Oi,c1,fun _ _=>trivial,c2,(fun e=>by cases e),?_⟩
 refine Xd ((Oq σ1 W1 (.func (.yield L) #[] #[]) vs (RSt C w0 σR ids ρ1 lo aM L W1 σ1 rec xs P) (fun k=>k<W1.heap.size) (fun k=>(∃j,own k=some j)∨k=L) m i1.ok (hC.mono i1.le) ⟨h1,h2,fun j t e=>(aW j t e).mono ry⟩ hm
  (fun t f c w h=>h.lt) (fun t f c w h=>h.sub) (fun t f c w w' h hb hs=>h.keep (by omega) (by omega) (fun t f c w hF k hk=>((s9 t f c w hF).1 k hk).1) hb hs) ?_ ?_ ?_ ?_).mono ?_)
 ·refine⟨fun k hk=>hk,fun k hk=>?_,fun k hk=>hk,0,lO 0,q1,.ready,none,σ1,own,hv,by simp,by rw[hP];exact .inl ⟨xI _,rfl,rfl,rfl,rfl⟩,?_,.refl σ1,zo,Yl,fun k j e=>(iR.owns k j e).2.1,fun k o x e=>iR.lt e,fun k x e=>iR.ltm e,fun k=>.rfl⟩
  ·rcases hk with⟨j,e⟩|e
   ·exact(iR.owns k j e).2.1
   ·show k<W1.heap.size;omega
  ·rw[vU,Env.put_self];exact iR
 ·rintro k o x e (⟨j,hj⟩|rfl)
  ·have:=(iR.owns k j hj).2.2.1 o;rw[e] at this;cases this
  ·rw[zo.c] at e;cases e
 ·rintro k x e (⟨j,hj⟩|rfl)
  ·have:=(iR.owns k j hj).2.2.2;rw[e] at this;cases this
  ·rw[zo.m] at e;cases e
 ·intro i fx cx w1 σx args cw hi dw hF hσx kr hZ ku fK dM rd' o a' x' aa ts K Q cZ cT Yw hK;have aBh:i<xs.length:=(iu.1 dw).1;obtain⟨i',vo,Sx,st,pe,σa,wI,hva,e1,e2,iA,IT,Cy,Iu,OI,YD,CS,zz⟩:=hF.ex;have hii:i'=i:=by
   have h9:=congrArg List.length (congrArg D.l e1);simp only[D.l_list,dZ] at h9;omega
  subst hii;rw[hP] at e2;rcases e2 with⟨_,rfl,Cz,rfl,rfl⟩|⟨e2,_⟩
  case inr=>omega
  rw[Cz] at iA;have Yp:L<w1.heap.size:=hF.lt L (hF.old L (by omega));have IC:cx L:=(zz L).2 (.inr rfl)
  have al5:∀k o v,σx.c k o=some v→wI k=none:=fun k o v e=>by
   cases e2:wI k with
   |none=>rfl
   |some j=>exact absurd ((zz k).2 (.inl ⟨j,e2⟩)) (hZ k o v e)
  have al6:∀k v,σx.m k=some v→wI k=none:=fun k v e=>by
   cases e2:wI k with
   |none=>rfl
   |some j=>exact absurd ((zz k).2 (.inl ⟨j,e2⟩)) (ku k v e)
  have hτok:σx.noM.ok w1:=⟨hσx.c,fun k v e=>hσx.m k v (Im.noM_m e).1⟩
  have iB:=iA.joinIm (τ:=σx.noM) hτok (fun k e=>(Im.noM_m e).2 rfl) al5 (fun k v e=>al6 k v (Im.noM_m e).1)
   (fun k o v e=>(fK k o v e).imp (fun e=>IT.c k o v e) fun e=>by omega) (fun k v e=>(dM k v (Im.noM_m e).1).imp (fun e=>IT.m k v e) fun e=>by omega)
   (fun t' f c hf=>⟨fun k o v e hc=>by
        obtain⟨g1,g2,g3⟩:=(s9 _ _ _ _ hf.F).2 k hc;rcases fK k o v e with e|e
        ·rw[g2 o] at e;cases e
        ·have:=((s9 _ _ _ _ hf.F).1 k g1).1;omega,fun k v e hc=>by
        obtain⟨g1,g2,g3⟩:=(s9 _ _ _ _ hf.F).2 k hc;rcases dM k v (Im.noM_m e).1 with e|e
        ·rw[g3] at e;cases e
        ·have:=((s9 _ _ _ _ hf.F).1 k g1).1;omega⟩)
  have Yi:Free L (σa.plus σx.noM) wI:=by
   refine⟨Cy.own,fun o=>?_,?_⟩
   ·cases e:(σa.plus σx.noM).c L o with
    |none=>rfl
    |some v=>
     rcases Im.plus_c e with e|e
     ·rw[Cy.c] at e;cases e
     ·exact absurd IC (hZ L o v e)
   ·cases e:(σa.plus σx.noM).m L with
    |none=>rfl
    |some v=>
     rcases Im.plus_m e with e|e
     ·rw[Cy.m] at e;cases e
     ·exact absurd IC (ku L v (Im.noM_m e).1)
  have zS:ps.toList.length=ys.length:=by rw[Bd];exact hl.symm
  have akN:pq C (σa.plus σx.noM) ys args cw:=⟨kr.1,kr.2.1,fun j t e=>((kr.2.2 j t e).noM).mono (Im.plus_le2 iA.ok hτok)⟩
  have iC:=iB.startR (ρ':=ρ1) zS bS (fun p hp=>by
   have:=eQ.1 aq p hp;rw[CA,hn];simpa [py] using this) akN rfl
  have OO:∃xi,q2.pc.ev Φ N (ρ1.put ps.toList (partsOf ps.toList (.tup cw)) lo (lO i'))=some xi∧((i'<m∧∃ρ',xi=.next ρ'∧lo.map ρ'.o=lO (i'+1))∨(i'=m∧m<xs.length∧∃id ρ',xi=.exit id ρ')):=by
   by_cases pP:i'<m
   ·obtain⟨y,ρ',g1,g2,g3⟩:=IY i' pP;rw[dw] at g1;cases g1;exact⟨_,g2,.inl ⟨pP,ρ',rfl,g3⟩⟩
   ·obtain rfl:i'=m:=by omega
    rcases ib with⟨g1,_⟩|⟨g1,y,id,ρ',g2,g3,_⟩
    ·omega
    ·rw[dw] at g2;cases g2;exact⟨_,g3,.inr ⟨rfl,g1,id,ρ',rfl⟩⟩
  obtain⟨xi,rE,Pf⟩:=OO;have ab:q2.pc=.seq ra.pc rb.pc:=by rw[←iJ];rfl
  rw[ab] at rE;have bh:(lL ps.toList args aM.tmps).size=n:=by rw[aeW,CA,hn]
  refine⟨fun _ _=>trivial,?_⟩;rw[Oper.semAt_eq _ _ _ (fun c e=>by rw[cZ] at e;cases e)];have akO:aa.size=ps.size:=by
   have:=kr.1;rw[←Yw,mV,Bd] at this;omega
  have ax:=awv (C:=C) cZ cT Iu (by rw[eV];exact akO);have amx:(rec .ready none).fn=NL∧(rec .ready none).tmps=a.tmps∧(rec .ready none).params=ps∧(rec .ready none).assign=ca∧(rec .ready none).body=cb:=by rw[eV];exact⟨rfl,rfl,rfl,rfl,rfl⟩
  obtain⟨r1,r2,r3,r4,r5⟩:=amx;rw[r1,r2,r3,r4,r5] at ax
  have tE:(ps.zip (aa.map a'.eval)).foldl (fun tmps (t,v)=>tmps.setIfInBounds t v) a.tmps=lL ps.toList args aM.tmps:=by
   rw[CA,←Yw,←FF];exact asw ps (aa.map a'.eval) a.tmps
  rw[tE] at ax;rw[ax];refine⟨(fun e=>by cases e),?_⟩;refine roundIn_of_wpIn (F:=FR rd') trivial ?_;show ca.wpIn (FR (some L)) 0 C.P _ _ _;cases j6:ra.pc.ev Φ N (ρ1.put ps.toList (partsOf ps.toList (.tup cw)) lo (lO i')) with
  |none=>simp only[PC.ev,j6] at rE;cases rE
  |some xa=>
  refine wpIn_mono (aeS bL OT my Yr iC (wr:=fun t=>t∈cH ca) (fun _ h=>h) bh j6 L) fun e2 a1 Wm amG=>?_;obtain⟨ρ2,S2,σ2,iP,gL,iD,gK,oK,jD⟩:=amG;cases e2 with
  |normal=>
   obtain⟨rfl,pJ⟩:=jD;rw[hao] at pJ;cases pJ;simp only[PC.ev,j6] at rE;have Ym:Wm.heap[L]?=some (.loop (rec .ready none)):=(gK.same L Yp Yi.own).trans Iu;have NU:=Yi.seg Yp gK;have NV:L<Wm.heap.size:=(gl.1 Ym).1;have Yk:w0.heap.size≤L:=by omega
   refine⟨_,run_beginRound Ym (by rw[eV]),?_⟩;have iE:=iD.putL Yk NU (fun t' f c hf CK=>((s9 _ _ _ _ hf.F).1 L CK).2 rfl) (.loop {rec .ready none with state:=.busy});have hL3:(Wm.putObj L (.loop {rec .ready none with state:=.busy})).heap[L]?=some (.loop {rec .ready none with state:=.busy}):=World.putObj_heap_same NV;show cb.wpIn (FR (some L)) 0 C.P _ _ _;refine wpIn_mono (aeS dW ZE my Yr iE (wr:=fun t=>t∈cH cb) (fun _ h=>h) (oK.size.trans bh) rE L) fun e3 a3 w3 amH=>?_;obtain⟨ρ3,S3,σ3,wH,Df,iF,nl,amE,ni⟩:=amH;have Yn:w3.heap[L]?=some (.loop {rec .ready none with state:=.busy}):=(nl.same L (by simpa using NV) NU.own).trans hL3;have Yh:=NU.seg (by simpa using NV) nl;have akA:L<w3.heap.size:=(gl.1 Yn).1;obtain⟨mk,Zj⟩:∃mk,Nat.lor (wy (ps.toList++cH ca++cH cb)) (Nat.lor ra.mr rb.mr)=mk:=⟨_,rfl⟩
   have alW:∀t,aO mk t=false→t∉ps.toList∧t∉cH ca∧t∉cH cb∧aO ra.mr t=false∧aO rb.mr t=false:=by
        intro t ht;rw[←Zj,fR,fR,Wv,Wv] at ht;obtain⟨t1,t2,t3⟩:=ht;have:t∉ps.toList++cH ca++cH cb:=fun hm=>by rw[W6 hm] at t1;cases t1
        simp only[dp,not_or] at this;exact⟨this.1.1,this.1.2,this.2,t2,t3⟩
   have OV:∀t,aO mk t=false→aM.tmps.getD t undef=a3.tmps.getD t undef∧(ρ1.put [] [] lo (lo.map ρ3.o)).r t=ρ3.r t:=by
        intro t ht;obtain⟨t1,t2,t3,t4,t5⟩:=alW t ht;refine⟨?_,?_⟩
        ·rw[amE.get t t3,oK.get t t2];exact(K5 _ _ _ _ t1).symm
        ·have hb3:∀ρ',xi=.next ρ'∨(∃id,xi=.exit id ρ')→ρ'.r t=ρ2.r t:=fun ρ' h=>by
          have vE:xi.env?=some ρ':=by rcases h with h|⟨id,h⟩<;>rw[h]<;>rfl
          exact(PC.ev_but rb.pc _ _ ρ' rE vE).r t fun hm=>by rw[Zi.1 t hm] at t5;cases t5
         have dT:ρ2.r t=putL ρ1.r ps.toList (partsOf ps.toList (.tup cw)) t:=(PC.ev_but ra.pc _ _ ρ2 j6 rfl).r t fun hm=>by rw[Zh.1 t hm] at t4;cases t4
         rw[Ax _ _ _ _ t1] at dT;show ρ1.r t=ρ3.r t;rw[hb3 ρ3 (by
          cases e3 with
          |normal=>exact .inl ni.1
          |exit id=>exact .inr ⟨id,ni.1⟩
          |ret=>exact .inr ⟨_,ni.1⟩
          |_=>exact ni.elim),dT]
   have OC:q2.mo=iT ra.mo rb.mo:=by rw[←iJ];rfl
   have ama:∀j,j∉q2.mo→ρ3.o j=ρ1.o j:=by
        intro j hj;rw[OC,oN,not_or] at hj;have vE:xi.env?=some ρ3:=by
         cases e3 with
         |normal=>rw[ni.1];rfl
         |exit id=>rw[ni.1];rfl
         |ret=>rw[ni.1];rfl
         |_=>exact ni.elim
        rw[(PC.ev_but rb.pc _ _ ρ3 rE vE).o j fun hm=>hj.2 (Zi.2 j hm),(PC.ev_but ra.pc _ _ ρ2 j6 rfl).o j fun hm=>hj.1 (Zh.2 j hm)]
        exact Ax _ _ _ _ fun hm=>by
         rw[←vI] at hm;have:=(gC.1 hm).1;rw[OC,oN] at this;exact this.elim hj.1 hj.2
   have OJ:∀(S:Snap),S∈(q1::q2.ex.map (·.2))→∀j,pY ((S.st ids).o j)=false→(ρ1.put [] [] lo (lo.map ρ3.o)).o j=ρ3.o j:=by
        intro S hS j hj;show putL ρ1.o lo (lo.map ρ3.o) j=ρ3.o j;rw[rP];split
        ·rfl
        ·rename_i gI;refine(ama j fun tn=>gI ?_).symm;rw[←vI];exact gC.2 ⟨tn,xC.2 ⟨S,hS,by simpa [Snap.st] using hj⟩⟩
   have fin:∀(jump:Option Code) (Sx:Snap),Inv C (Sx.st ids) (ρ1.put [] [] lo (lo.map ρ3.o)) σ3 wH Df w0 σR (fun _=>False) aM w3→P (i'+1) (lo.map ρ3.o) Sx (if jump.isNone then .ready else .done) jump→jump.isNone=decide (i'<m)→
        ∃v w',(Instr.endRound L jump).run C.P w3=.ok v w'∧K (a'.put o.dst v) w':=by
        intro jump Sx iG hPn tn;refine⟨_,_,run_endRound jump Yn,?_⟩;have amw:({{rec .ready none with state:=.busy} with state:=if jump.isNone then .ready else .done,pending:=jump}:Loop)=rec (if jump.isNone then .ready else .done) jump:=by rw[eV]
        rw[amw];have aW:=gK.round (L:=L) (o':=.loop (rec (if jump.isNone then .ready else .done) jump)) nl;have iH:=iG.putL Yk Yh (fun t' f c hf CK=>((s9 _ _ _ _ hf.F).1 L CK).2 rfl) (.loop (rec (if jump.isNone then .ready else .done) jump));obtain⟨w4,Pb⟩:∃w4,w3.putObj L (.loop (rec (if jump.isNone then .ready else .done) jump))=w4:=⟨_,rfl⟩
        have hL5:w4.heap[L]?=some (.loop (rec (if jump.isNone then .ready else .done) jump)):=by rw[←Pb];exact World.putObj_heap_same akA
        have aBA:w4.heap.size=w3.heap.size:=by rw[←Pb];simp
        rw[Pb] at aW iH ⊢;have aA6:W1.heap.size≤w1.heap.size:=by
         have:=hF.lt (W1.heap.size-1) (hF.old _ (by omega));omega
        have aBw:=aW.below.size
        refine hK _ _ ⟨by rw[tn],aW.below,fun k hk hc=>aW.same k hk (by
         cases e:wI k with
         |none=>rfl
         |some j=>exact absurd ((zz k).2 (.inl ⟨j,e⟩)) hc) (fun e=>hc (by rw[e];exact IC)),(fun k=>k<w4.heap.size∧(k<W1.heap.size∨(∃j,wH k=some j)∨(∃o x,σ3.c k o=some x)∨∃x,σ3.m k=some x)),(fun k=>(∃j,wH k=some j)∨k=L),?_,?_,?_⟩
        ·refine⟨fun k hk=>hk.1,fun k hk=>?_,fun k hk=>⟨by omega,.inl hk⟩,i'+1,lo.map ρ3.o,Sx,_,jump,σ3,wH,Df,rfl,hPn,iH,IT.trans ((Im.plus_le1 _ _).trans aW.le),Yh,hL5,fun k j e=>⟨(iH.owns k j e).2.1,.inr (.inl ⟨j,e⟩)⟩,fun k o x e=>⟨iH.lt e,.inr (.inr (.inl ⟨o,x,e⟩))⟩,fun k x e=>⟨iH.ltm e,.inr (.inr (.inr ⟨x,e⟩))⟩,fun k=>.rfl⟩;rcases hk with⟨j,e⟩|e
         ·exact⟨(iH.owns k j e).2.1,.inr (.inl ⟨j,e⟩)⟩
         ·exact⟨by omega,.inl (by omega)⟩
        ·rintro k ⟨_,hk⟩ bE
         have CO:((∃o x,σ3.c k o=some x)∨∃x,σ3.m k=some x)→fx k∨(∃o x,σx.c k o=some x)∨(∃x,σx.m k=some x∧x≠fl):=fun h=>by
          rcases aW.imm k h with⟨o,x,e⟩|⟨x,e⟩|⟨j,e⟩|e
          ·rcases Im.plus_c e with e|e
           ·exact .inl (YD k o x e)
           ·exact .inr (.inl ⟨o,x,e⟩)
          ·rcases Im.plus_m e with e|e
           ·exact .inl (CS k x e)
           ·exact .inr (.inr ⟨x,(Im.noM_m e).1,(Im.noM_m e).2⟩)
          ·exact .inl (OI k j e)
          ·omega
         rcases hk with hk|⟨j,e⟩|e|e
         ·exact .inl (hF.old k hk)
         ·rcases aW.ow k j e with⟨j',e⟩|e
          ·exact .inl (OI k j' e)
          ·omega
         ·exact CO (.inl e)
         ·exact CO (.inr e)
        ·rintro k (⟨j,e⟩|e) bE
         ·rcases aW.ow k j e with⟨j',e⟩|e
          ·exact(zz k).2 (.inl ⟨j',e⟩)
          ·omega
         ·rw[e];exact IC
   have m9:jS σ3 w0.heap.size aM.defers:=iA.defers.mono ((Im.plus_le1 _ _).trans (gK.le.trans nl.le));have OP:q2.out=rb.out.map (Snap.mask mk)∧q2.ex=rb.ex.map (fun x=>(x.1,x.2.mask mk)):=by rw[←iJ,←Zj];exact⟨rfl,rfl⟩
   cases e3 with
   |normal=>
    obtain⟨e4,e5⟩:=ni;have hT:q2.out=some (S3.mask mk):=by rw[OP.1,e5];rfl
    have YR:=zB _ hT
    have iG:Inv C (q1.st ids) ρ3 σ3 wH Df w0 σR (fun _=>False) a3 w3:=by
        have:=Snap.meet_ok2 (x:=q1) (iF.maskR mk)
        rwa [YR] at this
    have iH:=iG.restore (ρ':=ρ1.put [] [] lo (lo.map ρ3.o)) (a':=aM) (Snap.noOpt _ _) m9 (fun t ht=>OV t (by
        cases e:aO mk t with
        |false=>rfl
        |true=>
         have h9:=apr (x:=q1) (S:=S3) (ids:=ids) e;rw[YR] at h9;rw[h9] at ht;cases ht)) (fun j hj=>OJ q1 (fF ..) j hj)
    rcases Pf with⟨pP,ρ',e6,e7⟩|⟨_,_,id,ρ',e6⟩
    ·rw[e4] at e6;cases e6;exact fin none q1 iH (by rw[hP];exact .inl ⟨by omega,e7,rfl,rfl,rfl⟩) (by simp[pP])
    ·rw[e4] at e6;cases e6
   |exit id=>
    obtain⟨e4,e5,e6⟩:=ni;have cI:(id,S3.mask mk)∈q2.ex:=by rw[OP.2];exact eR.2 ⟨_,e6,rfl⟩
    have iH:=(iF.maskR mk).restore (ρ':=ρ1.put [] [] lo (lo.map ρ3.o)) (a':=aM) (Snap.noOpt _ _) m9 (fun t ht=>OV t (by
        cases e:aO mk t with
        |false=>rfl
        |true=>rw[Dy,if_pos e] at ht;cases ht)) (fun j hj=>OJ (S3.mask mk) (fj _ (eR.2 ⟨_,cI,rfl⟩)) j hj)
    rcases Pf with⟨pP,ρ',e7,_⟩|⟨pP,oD,bV,ρ',e7⟩
    ·rw[e4] at e7;cases e7
    ·subst pP;refine fin (some (.exit id)) (S3.mask mk) iH ?_ (by simp);rw[hP];refine .inr ⟨rfl,oD,rfl,_,id,ρ3,dw,?_,rfl,cI,.inl ⟨e5,rfl⟩⟩;rw[ab];simp only[PC.ev,j6];rw[rE,e4]
   |ret=>
    obtain⟨e4,e6⟩:=ni;have cI:(cL,S3.mask mk)∈q2.ex:=by rw[OP.2];exact eR.2 ⟨_,e6,rfl⟩
    have iH:=(iF.maskR mk).restore (ρ':=ρ1.put [] [] lo (lo.map ρ3.o)) (a':=aM) (Snap.noOpt _ _) m9 (fun t ht=>OV t (by
        cases e:aO mk t with
        |false=>rfl
        |true=>rw[Dy,if_pos e] at ht;cases ht)) (fun j hj=>OJ (S3.mask mk) (fj _ (eR.2 ⟨_,cI,rfl⟩)) j hj)
    rcases Pf with⟨pP,ρ',e7,_⟩|⟨pP,oD,bV,ρ',e7⟩
    ·rw[e4] at e7;cases e7
    ·subst pP;refine fin (some .ret) (S3.mask mk) iH ?_ (by simp);rw[hP];refine .inr ⟨rfl,oD,rfl,_,cL,ρ3,dw,?_,rfl,cI,.inr ⟨rfl,rfl⟩⟩;rw[ab];simp only[PC.ev,j6];rw[rE,e4]
   |_=>exact ni.elim
  |exit id=>obtain⟨_,_,e6⟩:=jD;rw[Yy] at e6;cases e6
  |ret=>obtain⟨_,e6⟩:=jD;rw[Yy] at e6;cases e6
  |_=>exact jD.elim
 ·rintro e' w' ⟨⟨v,rfl⟩,fx,cx,hF⟩;rw[show({tmps:=a.tmps,defers:=[{target:=Target.collected w.heap.size,args:=#[]}]++a.defers}:Act)=aM from NX];obtain⟨i',vo,Sx,st,pe,σa,wI,hva,e1,e2,iA,IT,Cy,Iu,OI,YD,CS,zz⟩:=hF.ex;have h9:=congrArg List.length (congrArg D.l e1);simp only[D.l_list,dZ] at h9;have da:(rec st pe).state≠.busy:=by
   rw[hP] at e2;rw[eV];rcases e2 with⟨_,_,_,e3,_⟩|⟨_,_,e3,_⟩<;>(rw[e3];intro e;cases e)
  have tu:(rec st pe).pending=pe:=by rw[eV]
  have Oj:(Instr.endLoop L).run C.P w'=.ok pe (w'.putObj L (.loop {rec st pe with state:=.exhausted})):=(run_endLoop (P:=C.P) Iu da).trans (congrArg (fun z=>Result.ok z _) tu);have iF:=iA.putL (by omega:w0.heap.size≤L) Cy (fun t' f c hf CK=>((s9 _ _ _ _ hf.F).1 L CK).2 rfl) (.loop {rec st pe with state:=.exhausted});rw[←hσR] at iF;have iG:=i1.ofRnd Ok (fun k hk e=>by have:=ali k hk;omega) iF;have jE:SameBut wr a aM:=⟨by rw[CA],fun t _=>by rw[CA]⟩
  refine⟨pe,_,Oj,?_⟩;rw[hP] at e2;rcases e2 with⟨e3,rfl,Cz,_,rfl⟩|⟨rfl,oD,_,y,id,ρ',g1,g2,rfl,g4,g5⟩
  ·rcases ib with⟨g1,g2⟩|⟨g1,_⟩
   ·obtain rfl:i'=m:=by omega
    rw[Cz] at iG;exact⟨_,q1,g2,rfl,jE,_,_,_,iG⟩
   ·omega
  ·rcases ib with⟨g6,_⟩|⟨_,y',bV,ρ'',k1,k2,k3⟩
   ·omega
   ·rw[g1] at k1;cases k1;rw[g2] at k2;cases k2;rcases k3 with⟨k3,k4⟩|⟨k3,pe',k4,k5⟩
    ·rcases g5 with⟨_,rfl⟩|⟨g5,_⟩
     ·exact wpIn_exit ⟨_,Sx,k4,k3,gC.2 ⟨g4,by simp[fQ k3]⟩,jE,_,_,_,iG⟩
     ·exact absurd g5 k3
    ·rcases g5 with⟨g5,_⟩|⟨_,rfl⟩
     ·exact absurd k3 g5
     ·subst k3;rw[←tB,aB] at k4;obtain⟨M,hM,OU⟩:=k4;obtain⟨M',Yq,rp⟩:=PB (⟨_,_,_,iG⟩:Good C w0 σ0 (Sx.st ids) _ (fun _=>False) aM _) q2.ex none g4;rw[hM] at Yq;cases Yq;obtain⟨σm,aCt,ZQ,im⟩:=rp;exact wpIn_ret ⟨_,k5,Inv.retD hC (fun _=>rfl) oz OU _ im rfl,jE⟩
theorem aaE {arr:Array MapEntry}{clock:Nat}(hb:lQ arr clock){idx:List Nat}(hi:∀i,i∈idx→i<arr.size){i:Nat}{e:MapEntry}(he:arr[i]?=some e):(fO arr idx).contains e.born=true↔i∈idx:=by
 simp only[fO,List.contains_toArray,List.contains_iff_mem,eR];constructor
 ·rintro⟨j,hj,h⟩;have aq:=hi j hj;rw[jo aq] at h;simp only at h;have:=hb.2 j i arr[j] e (jo aq) he h;rw[←this];exact hj
 ·intro h;exact⟨i,h,by rw[he]⟩
theorem aso (arr:Array MapEntry)(idx:List Nat){i:Nat}{e:MapEntry}(he:arr[i]?=some e):(fO arr idx).push e.born=fO arr (idx++[i]):=by
 simp[fO,he]
theorem apN {P:Program}{w:World}{k m:Nat}{arr:Array MapEntry}{clock:Nat}{idx:List Nat}(hk:w.heap[k]?=some (.mapIter (some m) clock (fO arr idx) clock))(hm:w.heap[m]?=some (.map arr clock))(hb:lQ arr clock)(hi:∀i,i∈idx→i<arr.size)(T:TypeId):
 ∃w1:World,(w1=w∨w1=w.drew)∧(((∀i,i<arr.size→i∈idx)∧(Instr.next (.pointer (some ⟨k,0,none⟩)) false T).run P w=.ok (.tuple #[.bool false]) w1)∨
  ∃i e,arr[i]?=some e∧i∉idx∧(Instr.next (.pointer (some ⟨k,0,none⟩)) false T).run P w=.ok (.tuple #[.bool true,e.key,e.val]) {w1 with heap:=w1.heap.setIfInBounds k (.mapIter (some m) clock (fO arr (idx++[i])) clock)}):=by
 have cI:∀{e:MapEntry},e∈arr→∃i:Nat,arr[i]?=some e:=fun he=>by
  obtain⟨i,hi,rfl⟩:=Array.mem_iff_getElem.1 he;exact⟨i,jo hi⟩
 have hold:∀(l:Array MapEntry),(∀e,e∈l→e.born<clock)→l.filter (fun x=>decide (x.born<clock))=l:=fun l h=>by
  rw[Array.filter_eq_self];intro e he;simpa using h e he
 have kA:∀(l:Array MapEntry),(∀e,e∈l→e.born<clock)→l.filter (fun x=>decide (x.born≥clock))=#[]:=fun l h=>by
  rw[Array.filter_eq_empty_iff];intro e he;have:=h e he;simp;omega
 have Yz:∀e,e∈arr→e.born<clock:=fun e he=>by obtain⟨i,hi⟩:=cI he;exact hb.1 i e hi
 have gG:(!(fO arr idx).isEmpty&& !arr.isEmpty&&arr.all (fun x=>decide (x.born≥clock)))=false:=by
  cases ha:arr.isEmpty
  ·have aC:arr.size≠0:=by simpa using ha
   have:arr.all (fun x=>decide (x.born≥clock))=false:=by
        rw[Bool.eq_false_iff];intro h;rw[Array.all_eq_true] at h;have h0:=h 0 (by omega);have h1:=Yz arr[0] (Wt _);simp at h0;omega
   rw[this,xw]
  ·simp
 let left:=arr.filter fun e=> !(fO arr idx).contains e.born
 have hl:∀e,e∈left→e.born<clock:=fun e he=>Yz e (Wu.1 he).1;by_cases hz:left.size=0
 ·refine⟨w,.inl rfl,.inl ⟨fun i aq=>?_,?_⟩⟩
  ·by_cases cf:i∈idx
   ·exact cf
   ·exfalso;have IV:arr[i]∈left:=Wu.2 ⟨Wt _,by
     have:=aaE hb hi (jo aq);cases hc:(fO arr idx).contains arr[i].born with
     |false=>rfl
     |true=>exact absurd (this.1 hc) cf⟩
    have:left=#[]:=LI hz;rw[this] at IV;simp at IV
  ·have he:left=#[]:=LI hz;have rl:arr.filter (fun e=> !(fO arr idx).contains e.born)=#[]:=he;simp only[Instr.next,getObj,Sem.run_bind,Sem.run,hk,hm,Result.andThen_ok,gG,rl];simp[Question.forced,Sem.run]
 ·have oy:left.filter (fun x=>decide (x.born<clock))=left:=hold left hl;have CH:left.filter (fun x=>decide (x.born≥clock))=#[]:=kA left hl;have hem:left.isEmpty=false:=by simpa using hz
  have key:∀c,c<left.size→∃i e,arr[i]?=some e∧i∉idx∧left[c]?=some e:=fun c hc=>by
   have IV:left[c]∈left:=Wt _;obtain⟨h1,h2⟩:=Wu.1 IV;obtain⟨i,fo⟩:=cI h1;refine⟨i,left[c],fo,fun cf=>?_,jo hc⟩;rw[(aaE hb hi fo).2 cf] at h2;cases h2
  obtain⟨w1,c,gM,hc,j1⟩:∃w1 c,(w1=w∨w1=w.drew)∧c<left.size∧(choose (.mapNext left.size)).run P w=.ok c w1:=by
   by_cases h1:left.size≤1
   ·exact⟨w,0,.inl rfl,by omega,by simp[Question.forced,h1]⟩
   ·exact⟨w.drew,_,.inr rfl,Nat.mod_lt _ (by omega),by simp[Question.forced,h1,Question.cut];rfl⟩
  obtain⟨i,e,h1,h2,h3⟩:=key c hc;refine⟨w1,gM,.inr ⟨i,e,h1,h2,?_⟩⟩;have rz:arr.filter (fun e=> !(fO arr idx).contains e.born)=left:=rfl;have oB:(getObj k).run P w=.ok (.mapIter (some m) clock (fO arr idx) clock) w:=by simp[getObj,Sem.run,hk]
  have ia:(getObj m).run P w=.ok (.map arr clock) w:=by simp[getObj,Sem.run,hm]
  have bE:w1.heap[k]?=some (.mapIter (some m) clock (fO arr idx) clock):=by rcases gM with rfl|rfl<;>exact hk
  have YS:(setObj k (.mapIter (some m) clock ((fO arr idx).push e.born) clock)).run P w1=.ok () {w1 with heap:=w1.heap.setIfInBounds k (.mapIter (some m) clock ((fO arr idx).push e.born) clock)}:=by simp[setObj,Sem.run,bE]
  have akV:((if false=true then #[none] else #[])++Array.map some (left++#[]):Array (Option MapEntry))=left.map some:=by simp
  have hZ:(left.map some)[c]?=some (some e):=by simp[h3]
  have YU:∀(BS:Array (Option MapEntry)) (cc:Nat),(choose (.mapNext BS.size)).run P w=.ok cc w1→BS[cc]?=some (some e)→(do
        match BS[←choose (.mapNext BS.size)]? with
        |some (some e)=>
         setObj k (.mapIter (some m) clock ((fO arr idx).push e.born) clock)
         pure (.tuple #[.bool true,e.key,e.val])
        |some none=>(pure (.tuple #[.bool false]):Sem Value)
        |none=>stuck "Next: no such candidate" :Sem Value).run P w=.ok (.tuple #[.bool true,e.key,e.val]) {w1 with heap:=w1.heap.setIfInBounds k (.mapIter (some m) clock ((fO arr idx).push e.born) clock)}:=by
   intro BS cc h4 h5;rw[Sem.run_bind,h4];simp only[Result.andThen_ok,h5];rw[Sem.run_bind,YS];rfl
  rw[aso arr idx h1] at YU YS;have:=YU (left.map some) c (by rw[Array.size_map];exact j1) hZ;simp only[Instr.next];rw[Sem.run_bind,oB];simp only[Result.andThen_ok];rw[Sem.run_bind,ia];simp only[Result.andThen_ok,gG,rz,oy,CH,hem];rw[akV,if_neg (by decide)];exact this
theorem aiE {P:Program}{w:World}{k m:Nat}{arr:Array MapEntry}{clock:Nat}{idx:List Nat}{i:Nat}{e:MapEntry}(hk:w.heap[k]?=some (.mapIter (some m) clock (fO arr (idx++[i])) clock))(hm:w.heap[m]?=some (.map arr clock))(hb:lQ arr clock)(he:arr[i]?=some e):
 (Instr.entry (.pointer (some ⟨k,0,none⟩))).run P w=.ok (.tuple #[e.key,e.val]) w:=by
 have akR:(fO arr (idx++[i])).back?=some e.born:=by simp[fO,he]
 have CL:arr.find? (fun x=>x.born==e.born)=some e:=by
  have aq:i<arr.size:=(gl.1 he).1;have hei:arr[i]=e:=(gl.1 he).2;rw[Array.find?_eq_some_iff_getElem];refine⟨by simp,i,aq,hei,fun j hj=>?_⟩;have gI:j<arr.size:=by omega
  cases hc:(arr[j].born==e.born) with
  |false=>rfl
  |true=>
   have:=hb.2 j i arr[j] e (jo gI) he (by simpa using hc);omega
 simp[Instr.entry,getObj,Sem.run_bind,Sem.run,hk,hm,akR,CL]
theorem apk {x y z:Code}{k:Nat}{p:MP}(h:Ah x y k z=some p):∃i1 i2 o1 o2 o3 l,x=.region i1 p.ops1 false∧y=.cond (.tmp p.mo) .skip (.exit p.out)∧z=.region i2 p.ops2 false∧p.next=k∧p.ops1.toList=[o1,o2]∧p.ops2.toList=o3::l∧
 o1.dst=some p.nx∧o1.guard=none∧o1.op=.next (.tmp p.it) false∧o2.dst=some p.mo∧o2.guard=none∧o2.op=.extract (.tmp p.nx) 0∧o3.dst=some p.pr∧o3.guard=none∧o3.op=.entry (.tmp p.it)∧kc p.pr l []=some p.aa∧
 p.it≠p.nx∧p.it≠p.mo∧p.it≠p.pr∧p.nx≠p.mo∧p.out≠cL∧k≠cL:=by
 unfold Ah at h;split at h
 case h_2=>cases h
 rename_i i1 ops1 mo out i2 ops2;split at h
 case h_2=>cases h
 rename_i o1 o2 o3 l e1 e2;split at h
 case h_2=>cases h
 rename_i nx it mo' nx' pr Z7 d1 g1 q1 d2 g2 q2 d3 g3 q3;rw[nR] at h;split at h
 case isFalse=>cases h
 rename_i hc;simp only[aK] at h;obtain⟨aa,h4,rfl⟩:=h;simp only[ay,kh] at hc;obtain⟨⟨⟨⟨⟨⟨⟨⟨c1,c2⟩,c3⟩,c4⟩,c5⟩,c6⟩,c7⟩,c8⟩,c9⟩:=hc;have ne:∀{a b:Nat},Nat.beq a b=false→a≠b:=fun h e=>by subst e;simp at h
 obtain rfl:=aG c1;obtain rfl:=aG c2;obtain rfl:=aG c3;exact⟨i1,i2,o1,o2,o3,l,rfl,rfl,rfl,rfl,e1,e2,d1,g1,q1,d2,g2,q2,d3,g3,q3,h4,ne c4,ne c5,ne c6,ne c7,ne c8,ne c9⟩
theorem JV {pr:Nat}:∀(l:List Oper) {acc aa:List (Nat×Nat)},kc pr l acc=some aa→∀x,x∈acc→x∈aa
 |[],acc,aa,h,x,hx=>by simp only[kc,bp] at h;subst h;exact hx
 |o::l,acc,aa,h,x,hx=>by
  simp only[kc] at h;split at h
  case h_2=>cases h
  rw[nR] at h;split at h
  ·cases h
  split at h
  ·rw[nR] at h;split at h
   ·exact JV l h x (ju _ hx)
   ·cases h
  ·simp only[aB] at h;obtain⟨i,_,h⟩:=h;exact JV l h x (ju _ hx)
  ·simp only[aB] at h;obtain⟨i,_,h⟩:=h;exact JV l h x (ju _ hx)
  ·cases h
theorem Dx:∀{l:List (Nat×Nat)} {t i:Nat},tR l t=some i→(t,i)∈l
 |x::l,t,i,h=>by
  simp only[tR] at h;cases hb:Nat.beq x.1 t<;>simp only[hb,cond_true,cond_false] at h
  ·exact fj _ (Dx h)
  ·cases h;have:=aG hb;subst this;exact fF ..
theorem aat:∀{l:List (Nat×Nat)} {t:Nat},(tR l t).isSome=false→∀x,x∈l→x.1≠t
 |y::l,t,h,x,hx=>by
  simp only[tR] at h;cases hb:Nat.beq y.1 t<;>simp only[hb,cond_true,cond_false] at h
  ·rcases di.1 hx with e|hx
   ·subst e;intro e;subst e;simp at hb
   ·exact aat h x hx
  ·cases h
theorem QU {pr:Nat}:∀(l:List Oper) {acc aa:List (Nat×Nat)},kc pr l acc=some aa→(∀x,x∈acc→x.2≤1)→∀x,x∈aa→x∈acc∨(x.2≤1∧∃o,o∈l∧o.dst=some x.1)
 |[],acc,aa,h,_,x,hx=>by simp only[kc,bp] at h;subst h;exact .inl hx
 |o::l,acc,aa,h,ha,x,hx=>by
  simp only[kc] at h;split at h
  case h_2=>cases h
  rename_i d hd mf;rw[nR] at h;split at h
  ·cases h
  have go:∀(pt:Nat),pt≤1→kc pr l (acc++[(d,pt)])=some aa→x∈acc∨(x.2≤1∧∃o',o'∈o::l∧o'.dst=some x.1):=by
   intro pt tw hp
   rcases QU l hp (fun y hy=>by
        rcases dp.1 hy with h|h
        ·exact ha y h
        ·simp at h;subst h;exact tw) x hx with h|⟨h1,o',h2,h3⟩
   ·rcases dp.1 h with h|h
    ·exact .inl h
    ·simp at h;subst h;exact .inr ⟨tw,o,fF ..,hd⟩
   ·exact .inr ⟨h1,o',fj _ h2,h3⟩
  split at h
  ·rw[nR] at h;split at h
   case isFalse=>cases h
   rename_i hZ;simp only[ay] at hZ;exact go _ (kZ hZ.2) h
  ·simp only[aB] at h;obtain⟨i,hi,h⟩:=h;exact go i (ha _ (Dx hi)) h
  ·simp only[aB] at h;obtain⟨i,hi,h⟩:=h;exact go i (ha _ (Dx hi)) h
  ·cases h
theorem As {P:Program}{ops:Array Oper}{i:Nat}{rest:List Nat}{o:Oper}{rd:Option Nat}{a:Act}{w w':World}{Q:Exit→Act→World→Prop}{v:Value}(ho:ops[i]?=some o)(hg:o.guard=none)(bS:p8 o.op=true)(hx:(execOp a.eval o).run P w=.ok (.value v) w')
 (k:wpOpsIn (FR rd) 0 P ops Q rest (a.put o.dst v) w'):wpOpsIn (FR rd) 0 P ops Q (i::rest) a w:=by
 simp only[wpOpsIn,ho];rw[if_pos (by simp[Region.wanted,hg])];exact ac4 bS (by unfold Oper.wp;rw[hx];exact k)
theorem ash {ops:Array Oper}{o:Oper}(ho:o∈ops.toList)(a:Act)(v:Value):SameBut (za ops) a (a.put o.dst v):=by
 have:=SameBut.put a o.dst v a.defers;exact this.mono fun t e=>⟨o,ho,e⟩
theorem Ay {a:Act}{d:Nat}{v:Value}(h:d<a.tmps.size):(a.put (some d) v).tmps.getD d undef=v:=by rw[Fv];simp[h]
theorem J4 {a:Act}{d t:Nat}{v:Value}(h:t≠d):(a.put (some d) v).tmps.getD t undef=a.tmps.getD t undef:=by rw[Fv];simp[h]
theorem put_defers (a:Act)(d:Option Nat)(v:Value):(a.put d v).defers=a.defers:=by cases d<;>rfl
def DK (kv vv:Value)(i:Nat):Value:=if i=0 then kv else vv
theorem ac7 {P:Program}{ops:Array Oper}{rd:Option Nat}{Q:Exit→Act→World→Prop}{pr:Nat}{kv vv:Value}{w:World}:∀(l:List Oper) (acc aa:List (Nat×Nat)) (i:Nat) (a:Act),kc pr l acc=some aa→ops.toList.drop i=l→(∀x,x∈aa→x.1<a.tmps.size)→a.tmps.getD pr undef=.tuple #[kv,vv]→
 (∀x,x∈acc→a.tmps.getD x.1 undef=DK kv vv x.2)→(∀a',SameBut (za ops) a a'→a'.defers=a.defers→(∀x,x∈aa→a'.tmps.getD x.1 undef=DK kv vv x.2)→Q .normal a' w)→wpOpsIn (FR rd) 0 P ops Q (List.range' i (ops.size-i)) a w
 |[],acc,aa,i,a,h,hl,aq,oI,CB,hQ=>by
  simp only[kc,bp] at h;subst h;have:ops.size-i=0:=by
    have:=Wy.1 hl;simp at this;omega
  rw[this];exact hQ a (.refl _ _) rfl CB
 |o::l,acc,aa,i,a,h,hl,aq,oI,CB,hQ=>by
  have hi:i<ops.toList.length:=by
   refine WI fun hle=>?_;rw[Wy.2 hle] at hl;cases hl
  rw[agf hi] at hl;have ho:ops[i]?=some o:=by
   have:ops.toList[i]=o:=by injection hl
   rw[←this];simp at hi ⊢
  have fV:ops.toList.drop (i+1)=l:=by injection hl
  have bh:ops.size-i=(ops.size-(i+1))+1:=by simp at hi;omega
  rw[bh,L0];have cI:o∈ops.toList:=by simpa using nQ ho
  simp only[kc] at h;split at h
  case h_2=>cases h
  rename_i d hd mf;rw[nR] at h;split at h
  ·cases h
  rename_i hc;simp only[kV,not_or,Bool.not_eq_true] at hc;have hdp:pr≠d:=fun e=>by subst e;simp at hc
  have hda:∀x,x∈acc→x.1≠d:=aat hc.2;have go:∀(pt:Nat) (v:Value),kc pr l (acc++[(d,pt)])=some aa→p8 o.op=true→v=DK kv vv pt→(execOp a.eval o).run P w=.ok (.value v) w→wpOpsIn (FR rd) 0 P ops Q (i::List.range' (i+1) (ops.size-(i+1))) a w:=by
   intro pt v hp bS hv hx;have Od:d<a.tmps.size:=aq _ (JV l hp (d,pt) (by simp));refine As ho mf bS hx ?_;have jE:=ash cI a v;rw[hd] at jE ⊢;refine ac7 l _ aa (i+1) _ hp fV (fun x hx=>by rw[jE.size];exact aq x hx) (by rw[J4 hdp];exact oI) (fun x hx=>?_) (fun a' h1 h2 h3=>hQ a' (jE.trans h1) (h2.trans (put_defers _ _ _)) h3);rcases dp.1 hx with hx|hx
   ·rw[J4 (hda x hx)];exact CB x hx
   ·simp at hx;subst hx;rw[Ay Od];exact hv
  split at h
  ·rename_i t pt e;rw[nR] at h;split at h
   case isFalse=>cases h
   rename_i hZ;simp only[ay] at hZ;have ht:=aG hZ.1;have tw:=kZ hZ.2;subst ht;have bU:a.eval (.tmp t)=.tuple #[kv,vv]:=by simpa [Act.eval] using oI
   refine go pt (DK kv vv pt) h (by rw[e];rfl) rfl ?_;rcases(by omega:pt=0∨pt=1) with rfl|rfl<;>simp[execOp,e,bU,Instr.extract,DK]
  ·rename_i t e;simp only[aB] at h;obtain⟨pt,rz,h⟩:=h;have:=CB _ (Dx rz);exact go pt (a.eval (.tmp t)) h (by rw[e];rfl) (by simpa [Act.eval] using this) (by simp[execOp,e])
  ·rename_i t e;simp only[aB] at h;obtain⟨pt,rz,h⟩:=h;have:=CB _ (Dx rz);exact go pt (a.eval (.tmp t)) h (by rw[e];rfl) (by simpa [Act.eval] using this) (by simp[execOp,e])
  ·cases h
theorem Po (ids:List Nat)(J j:Nat)(S:Snap):((S.kill ids J).st ids).o j=if j=J then .dead else(S.st ids).o j:=by
 show dX ids (wh ids J S.os) j=_;have:∀(is:List Nat) (os:List Ob),dX is (wh is J os) j=if j=J then .dead else dX is os j:=by
  intro is
  induction is with
  |nil=>intro os;simp[wh,dX]
  |cons i is ih=>
   intro os;cases os with
   |nil=>simp[wh,dX]
   |cons o os=>
    simp only[wh,dX];cases hb:Nat.beq i j
    ·simp only[cond_false];exact ih os
    ·have:=aG hb;subst this;simp only[cond_true];by_cases ru:i=J
     ·subst ru;simp
     ·simp[fQ ru,ru]
 exact this ids S.os
theorem W9 {N:Nat}{id:Nat}(IK:id≠cL){rm:Bool}{wr:Nat→Prop}{a:Act}{q:Res2}{x xi:Out}(pR:(∀t,t∈q.pc.modR→aO q.mr t=true)∧∀j,j∈q.pc.modO→j∈q.mo)(dw:q.pc.ev Φ N ρ=some xi)(bU:(fS ids id q).pc.ev Φ N ρ=some x){e:Exit}{a':Act}{w':World}
 (fW:gn C w0 σ0 ids fn s rm wr a q.out q.ex xi e a' w'):Exit.inBlock id (gn C w0 σ0 ids fn s rm wr a (fS ids id q).out (fS ids id q).ex x) e a' w':=by
 have YN:∀bV S1,(bV,S1)∈q.ex→bV≠id→(bV,S1)∈q.ex.filter fun x=> !Nat.beq x.1 id:=fun bV S1 hm aC=>gC.2 ⟨hm,by simp[fQ aC]⟩;have main:∀(o:Option Snap) (lr lo:List Nat),nr id q.ex q.out=o→(∀M,o=some M→lr=jJ M q.mr∧lo=iL ids M q.mo)→(PC.block id lr lo q.pc).ev Φ N ρ=some x→
        Exit.inBlock id (gn C w0 σ0 ids fn s rm wr a o (q.ex.filter fun x=> !Nat.beq x.1 id) x) e a' w':=by
  intro o lr lo ho hl bU;simp only[PC.ev] at bU;rw[dw] at bU
  have fin:∀{ρ1:Env} {a':Act} {w':World},(∃M,o=some M∧Good C w0 σ0 (M.st ids) ρ1 (fun _=>False) a' w')→xi.env?=some ρ1→x=.next (ρ.join lr lo ρ1)→SameBut wr a a'→
   gn C w0 σ0 ids fn s rm wr a o (q.ex.filter fun x=> !Nat.beq x.1 id) x .normal a' w':=by
        intro ρ1 a' w' hM vE hx fg;obtain⟨M,hM,rp⟩:=hM;obtain⟨l1,l2⟩:=hl M hM;subst l1 l2;exact⟨_,M,hx,hM,fg,rp.joined (PC.ev_but q.pc ρ _ ρ1 dw vE) pR.1 pR.2⟩
  cases e with
  |normal=>
   obtain⟨ρ1,S2,e1,e2,fg,ia⟩:=fW;subst e1;simp only[bp] at bU;refine fin ?_ rfl bU.symm fg;rw[e2] at ho;obtain⟨M,h1,h2⟩:=Jp (id:=id) q.ex ia;rw[ho] at h1;exact⟨M,h1,h2⟩
  |exit bV=>
   obtain⟨ρ1,S2,e1,e0,e2,fg,ia⟩:=fW;subst e1;simp only at bU;show if bV=id then _ else _;by_cases cE:bV=id
   ·subst cE;simp only[lU,cond_true,bp] at bU;simp only[if_true];refine fin ?_ rfl bU.symm fg;rw[←ho];exact PB ia q.ex q.out e2
   ·simp only[fQ cE,cond_false,bp] at bU;subst bU;simp only[cE,if_false];exact⟨ρ1,S2,rfl,e0,YN _ _ e2 cE,fg,ia⟩
  |ret=>
   cases rm with
   |false=>
    have hy:=fW;obtain⟨d,e1,_⟩:=hy;subst e1;simp only[bp] at bU;subst bU;exact fW
   |true=>
    obtain⟨ρ1,S2,e1,e2,fg,ia⟩:=fW;subst e1;simp only[fQ (fun e=>IK e.symm:cL≠id),cond_false,bp] at bU;subst bU;exact⟨ρ1,S2,rfl,YN _ _ e2 (fun e=>IK e.symm),fg,ia⟩
  |_=>exact fW.elim
 unfold fS at bU ⊢;cases hm:nr id q.ex q.out with
 |none=>
  simp only[hm] at bU ⊢;exact main none [] [] hm (fun M e=>by cases e) bU
 |some M=>
  simp only[hm] at bU ⊢;exact main (some M) _ _ hm (fun M' e=>by cases e;exact⟨rfl,rfl⟩) bU
theorem W7 {N id:Nat}{q:Res2}{x:Out}(bU:(fS ids id q).pc.ev Φ N ρ=some x):∃xi,q.pc.ev Φ N ρ=some xi:=by
 unfold fS at bU;cases hm:nr id q.ex q.out<;>simp only[hm,PC.ev] at bU<;>cases dw:q.pc.ev Φ N ρ<;>first|exact⟨_,rfl⟩|(rw[dw] at bU;cases bU)
theorem aeP {es:List (D×D)}{idx:List Nat}(hn:idx.Nodup)(aq:∀i,i∈idx→i<es.length)(aW:∀i,i<es.length→i∈idx):(gh es idx).Perm (gR (.map es)):=by
 have h1:idx.Perm (List.range es.length):=by
  rw[List.perm_ext_iff_of_nodup hn WG];intro i;rw[gm];exact⟨aq i,aW i⟩
 have h2:gh es (List.range es.length)=gR (.map es):=by
  refine LW (by simp[gh,gR,D.m]) fun i g1 g2=>?_;have hi:i<es.length:=by simpa [gh] using g1
  simp[gh,gR,D.m,bW hi]
 rw[←h2];exact h1.map _
theorem asp {es:List (D×D)}{idx:List Nat}(hn:idx.Nodup)(aq:∀i,i∈idx→i<es.length):∃rest,(gh es idx++rest).Perm (gR (.map es)):=by
 refine⟨gh es ((List.range es.length).filter fun i=> !idx.contains i),?_⟩;have e:gh es idx++gh es ((List.range es.length).filter fun i=> !idx.contains i)=gh es (idx++(List.range es.length).filter fun i=> !idx.contains i):=by simp[gh]
 rw[e];refine aeP ?_ (fun i hi=>?_) (fun i hi=>?_)
 ·rw[Bm];refine⟨hn,WG.filter _,fun a ha b hb e=>?_⟩;subst e;have:=(gC.1 hb).2;simp[ha] at this
 ·rcases dp.1 hi with h|h
  ·exact aq i h
  ·exact gm.1 (gC.1 h).1
 ·by_cases h:i∈idx
  ·exact ju _ h
  ·exact jT _ (gC.2 ⟨gm.2 hi,by simp[h]⟩)
theorem aeQ (es:List (D×D))(idx:List Nat){i:Nat}{p:D×D}(h:es[i]?=some p):gh es (idx++[i])=gh es idx++[.tup [p.1,p.2]]:=by simp[gh,h]
theorem apm {N:Nat}{x y z code:Code}{k:Nat}{p:MP}(hp:Ah x y k z=some p)(ihc:uV C Φ fn s n ids R N code){rm:Bool}{S:Snap}{r:Res2}
 (hr:Ai ids n p (cH x++(cH y++(cH z++cH code))) (fun S=>comp C fn s n ids R rm code S) S=some r) {rd:Option Nat} {wr:Nat→Prop} {x0:Out} (fY:rm=false→rd=none∧σ0.fin) (hC:CtxOK C σ0) (hY:qQ C Φ w0 σ0)
 (gN:∀t,t∈cH (.loop (.seq x (.seq y (.block k (.seq z code)))))→wr t) (hn:a.tmps.size=n) (hg:Good C w0 σ0 (S.st ids) ρ (fun _=>False) a w) (he:r.pc.ev Φ N ρ=some x0):
 (Code.loop (.seq x (.seq y (.block k (.seq z code))))).wpIn (FR rd) 0 C.P (gn C w0 σ0 ids fn s rm wr a r.out r.ex x0) a w:=by
 obtain⟨i1,i2,o1,o2,o3,l,rfl,rfl,rfl,hk,e1,e2,d1,g1,q1,d2,g2,q2,d3,g3,q3,mm,n1,n2,n3,n4,n5,n6⟩:=apk hp;subst hk;unfold Ai at hr;split at hr
 case h_2=>cases hr;exact absurd he (lM _ _ _ _)
 rename_i J hJ;split at hr
 case h_2=>cases hr;exact absurd he (lM _ _ _ _)
 rename_i kt et IP;simp only at hr;split at hr
 case h_2=>cases hr;exact absurd he (lM _ _ _ _)
 rename_i q hq;rw[nR] at hr;split at hr
 case isFalse=>cases hr;exact absurd he (lM _ _ _ _)
 rename_i vD;cases hr;generalize Ja:cH (.region i1 p.ops1 false)++(cH (.cond (.tmp p.mo) .skip (.exit p.out))++(cH (.region i2 p.ops2 false)++cH code))=ws at*;simp only[ay,kh] at vD;obtain⟨⟨⟨⟨⟨⟨⟨⟨c1,c2⟩,c3⟩,c4⟩,c5⟩,c6⟩,c7⟩,c8⟩,c9⟩:=vD;have hex:q.2.ex=[]:=WD.1 c1;have Yj:J∉q.2.mo:=fun h=>by rw[(p6 _ _).2 h] at c2;cases c2
 simp only[Z5,ay,kh] at c3;obtain⟨⟨c3a,c3b⟩,c3c⟩:=c3;have amy:q.1.rs.getD p.it .none=.obj J 0:=Sh.beq_eq _ _ c3a;have IZ:dX ids q.1.os J=.it kt et:=Ob.beq_eq _ _ c3b;have amr:∀t,t∈p.aa.map (·.1)→t<n:=fun t ht=>by have:=eQ.1 c5 t ht;rwa [py] at this
 have zN:p.nx<n:=by rwa [py] at c6
 have OC:p.mo<n:=by rwa [py] at c7
 have oI:p.pr<n:=by rwa [py] at c8
 have CT:=aG c9;obtain⟨hs,zB,cf⟩:=Dr (C:=C) (w0:=w0) (σ0:=σ0) (ids:=ids) 8 hq;simp only[aK] at hs;obtain⟨q0,zT,iJ⟩:=hs;obtain⟨qS,qR⟩:=q;simp only at*;subst iJ;generalize hm:wy ws=m at*;generalize vI:iL ids qS (fS ids p.next q0).mo=lo at*;have OE:=W8 (ids:=ids) (id:=p.next) (sT code zT);have alP:∀j,j∈lo→j∈(fS ids p.next q0).mo:=fun j hj=>by rw[←vI] at hj;exact Aj hj
 have aA4:J∉lo:=fun h=>Yj (alP J h);have C2:∃A8,JY ((fS ids p.next q0).pc.ev Φ N) ρ J (p.aa.map (·.1)) (p.aa.map (·.2)) lo A8∧x0=.exit p.out (ρ.put [] [] lo A8):=by
  simp only[PC.ev] at he;cases oI:JZ ((fS ids p.next q0).pc.ev Φ N) ρ J (p.aa.map (·.1)) (p.aa.map (·.2)) lo with
  |none=>rw[oI] at he;cases he
  |some y=>
   obtain⟨A8,h1,rfl⟩:=Aw.1 oI;rw[oI] at he;simp only[bp] at he;exact⟨A8,h1,he.symm⟩
 obtain⟨A8,⟨zP,akI⟩,hx0⟩:=C2;generalize ky:(ρ.o J).tget 1=es at*
 have gM:∀o,o∈p.ops1.toList→∀d,o.dst=some d→d∈ws:=fun o ho d hd=>by
  rw[←Ja];exact ju _ (xF.2 ⟨o,ho,hd⟩)
 have cM:∀o,o∈p.ops2.toList→∀d,o.dst=some d→d∈ws:=fun o ho d hd=>by
  rw[←Ja];exact jT _ (jT _ (ju _ (xF.2 ⟨o,ho,hd⟩)))
 have hwc:∀d,d∈cH code→d∈ws:=fun d hd=>by
  rw[←Ja];exact jT _ (jT _ (jT _ hd))
 have Pe:∀t,t∈ws→wr t:=fun t ht=>gN t (by rw[←Ja] at ht;exact ht);have rD:∀t,t∈ws→aO m t=true:=fun t ht=>by rw[←hm];exact W6 ht
 have OB:∀t,aO m t=true→((qS.mask m).st ids).r t=.none:=fun t ht=>by rw[Dy,if_pos ht]
 have alV:∀t,isNone (((qS.mask m).st ids).r t)=false→aO m t=false:=fun t ht=>by
  cases hb:aO m t with
  |false=>rfl
  |true=>rw[OB t hb] at ht;cases ht
 have zW:((qS.mask m).st ids).r p.it=.obj J 0:=by
  rw[Dy,c3c];show cG (qS.rs.getD p.it .none)=_;rw[amy];rfl
 have cS:((qS.mask m).st ids).o J=.it kt et:=IZ;have jf:p.ops1[0]?=some o1:=by rw[←Bc,e1];rfl
 have ff:p.ops1[1]?=some o2:=by rw[←Bc,e1];rfl
 have ho3:p.ops2[0]?=some o3:=by rw[←Bc,e2];rfl
 have amS:List.range p.ops1.size=[0,1]:=by
  have:p.ops1.size=2:=by rw[←Bd,e1];rfl
  rw[this];rfl
 have I7:List.range p.ops2.size=0::List.range' 1 (p.ops2.size-1):=by
  have:p.ops2.size=l.length+1:=by rw[←Bd,e2];rfl
  rw[this,L1,L0];rfl
 have key:∀(kk:Nat) (done vo:List D) (a':Act) (w':World),SameBut wr a a'→Good C w0 σ0 ((qS.mask m).st ids) ((ρ.put [] [] lo vo).setO J (.tup [.list done,es])) (fun _=>False) a' w'→
  (∀ys,(done++ys).Perm (gR es)→nv ((fS ids p.next q0).pc.ev Φ N) ρ J es (p.aa.map (·.1)) (p.aa.map (·.2)) lo ys done vo=some A8)→done.length+kk=(gR es).length+1→
  Code.roundsIn (FR rd) 0 C.P (.seq (.region i1 p.ops1 false) (.seq (.cond (.tmp p.mo) .skip (.exit p.out)) (.block p.next (.seq (.region i2 p.ops2 false) code)))) (gn C w0 σ0 ids fn s rm wr a none [(p.out,(qS.mask m).kill ids J)] x0) kk a' w':=by
  intro kk
  induction kk with
  |zero=>
   intro done vo a' w' _ j2 _ hlen;exfalso;obtain⟨σ,own,hv,h⟩:=j2;have bC:=h.objs J;rw[cS] at bC;obtain⟨kb,mb,arr,clock,fT,idx,h1,h2,h3,aC,h4,h5,h6,h7,h8,h9,m3,m4⟩:=bC;simp only[Env.setO,aS] at h6;injection h6 with h6;injection h6 with vx vy;injection vy with vy _;injection vx with vx;subst vx;subst vy;have hle:idx.length≤arr.size:=by
        have:=List.Nodup.length_le_of_subset h7 (l₂:=List.range arr.size) (fun i hi=>gm.2 (h8 i hi));simpa using this
   simp[gh,gR,D.m] at hlen;omega
  |succ kk ih=>
   intro done vo a' w' jE j2 aW hlen;rw[roundsIn_succ];obtain⟨σ,own,hv,h⟩:=j2;have bC:=h.objs J;rw[cS] at bC;obtain⟨kb,mb,arr,clock,fT,idx,h1,h2,h3,aC,h4,h5,h6,h7,h8,h9,m3,m4⟩:=bC;simp only[Env.setO,aS] at h6;injection h6 with h6;injection h6 with vx vy;injection vy with vy _;injection vx with vx;subst vx;subst vy;have oJ:=h.regs p.it;rw[zW] at oJ;have IM:a'.eval (.tmp p.it)=.pointer (some ⟨kb,0,none⟩):=by
        have:=oJ.2 rfl;simp only[Act.eval];rw[this];exact h1
   have tG:a'.tmps.size=n:=jE.size.trans hn;obtain⟨w1,ZS,IY⟩:=apN (P:=C.P) h5 h4 m3 h8 o1.type;have Dh:Below w'.heap.size w' w1:=by rcases ZS with rfl|rfl;exact .refl _ _;exact⟨rfl,rfl,rfl,bJ _,fun _ _=>rfl⟩
   have z7:w1.heap=w'.heap:=by rcases ZS with rfl|rfl<;>rfl
   have Zb:kb<w'.heap.size:=(h.owns kb J h2).2.1;have oD:mb<w'.heap.size:=(h.owns mb J h3).2.1;refine wpIn_seq (wpIn_region ?_);rw[amS];rcases IY with⟨Ol,ax⟩|⟨i,e,tl,IJ,ax⟩
   ·
        refine As jf g1 (by rw[q1];rfl) (v:=.tuple #[.bool false]) (w':=w1) (by simp only[execOp,q1,IM];simp[ax]) ?_;rw[d1]
        refine As ff g2 (by rw[q2];rfl) (v:=.bool false) (w':=w1) (by
         have:(a'.put (some p.nx) (.tuple #[.bool false])).eval (.tmp p.nx)=.tuple #[.bool false]:=by simp only[Act.eval];exact Ay (by omega)
         simp only[execOp,q2,this];simp[Instr.extract]) ?_
        rw[d2];simp only[wpOpsIn]
        have vQ:SameBut (fun t=>t∈ws) a' ((a'.put (some p.nx) (.tuple #[.bool false])).put (some p.mo) (.bool false)):=by
         have s1:=SameBut.put a' (some p.nx) (.tuple #[.bool false]) a'.defers;have s2:=SameBut.put (a'.put (some p.nx) (.tuple #[.bool false])) (some p.mo) (.bool false) (a'.put (some p.nx) (.tuple #[.bool false])).defers;exact(s1.mono fun t e=>by cases e;exact gM o1 (by rw[e1];simp) _ d1).trans (s2.mono fun t e=>by cases e;exact gM o2 (by rw[e1];simp) _ d2)
        generalize vB:(a'.put (some p.nx) (.tuple #[.bool false])).put (some p.mo) (.bool false)=a1 at vQ;have OD:a1.eval (.tmp p.mo)=.bool false:=by
         rw[←vB];simp only[Act.eval];exact Ay (by rw[size_put];omega)
        have m9:a1.defers=a'.defers:=by rw[←vB,put_defers,put_defers]
        refine wpIn_seq (wpIn_cond_false OD (wpIn_exit ?_));have amn:(gh fT idx++[]).Perm (gR (.map fT)):=by
         rw[qG];exact aeP h7 (fun i hi=>by rw[h9];exact h8 i hi) (fun i hi=>Ol i (by omega))
        have ZR:=aW [] amn;simp only[nv,bp] at ZR;subst ZR;refine⟨_,_,hx0,n5,FM.2 rfl,jE.trans (vQ.mono Pe),?_⟩;refine⟨σ,own,hv,?_⟩
        refine h.step (S':=((qS.mask m).kill ids J).st ids) (ρ':=ρ.put [] [] lo vo) (A':=fun _=>False) (fun j=>j=J) m9 (.refl σ) (h.ok.below Dh) (fun _ _ _ hx=>.inl hx) (fun _ _ hx=>.inl hx) (Dh.mono h.below.size) ⟨fun _=>bJ _,fun _ _=>rfl⟩
         (fun j hj=>⟨by rw[Po,if_neg hj],by simp[Env.setO,bO _ _ hj],rfl,fun b hb=>⟨hb,by rw[z7]⟩⟩) (fun j hj=>?_) (fun b j hb=>?_) (fun _=>id) (fun t=>?_) (fun _ hf=>hf.elim) (fun b hb _=>by rw[z7]) (fun b j hb=>.inl ⟨j,hb⟩) (fun j hj=>?_)
        ·rw[Po,if_pos hj];trivial
        ·obtain⟨b1,b2,b3,b4⟩:=h.owns b j hb;exact⟨b1,by rw[z7];exact b2,b3,b4⟩
        ·by_cases ht:t∈ws
         ·refine .inr ⟨?_,fun gs s' e=>absurd e (Snap.noOpt _ _ t gs s')⟩;have:(((qS.mask m).kill ids J).st ids).r t=.none:=OB t (rD t ht);rw[this];trivial
         ·exact .inl ⟨rfl,vQ.get t ht,rfl⟩
        ·rw[Po,if_pos hj];intro e;cases e
   ·
        obtain⟨pd,OM⟩:∃pd,fT[i]?=some pd:=⟨_,bW (by rw[h9];exact(gl.1 tl).1)⟩
        obtain⟨bE,de⟩:=m4 i e pd tl OM;generalize z8:({w1 with heap:=w1.heap.setIfInBounds kb (.mapIter (some mb) clock (fO arr (idx++[i])) clock)}:World)=w2 at ax;have ZT:w2.heap[kb]?=some (.mapIter (some mb) clock (fO arr (idx++[i])) clock):=by rw[←z8];simp[z7,Zb]
        have Aa:∀b,b≠kb→w2.heap[b]?=w'.heap[b]?:=fun b hb=>by rw[←z8];simp only[z7];rw[Ws (sJ hb)]
        have aBz:w2.heap.size=w'.heap.size:=by rw[←z8];simp[z7]
        have ZU:w2.heap[mb]?=some (.map arr clock):=by rw[Aa mb (sJ aC)];exact h4
        refine As jf g1 (by rw[q1];rfl) (v:=.tuple #[.bool true,e.key,e.val]) (w':=w2) (by simp only[execOp,q1,IM];simp[ax]) ?_;rw[d1]
        refine As ff g2 (by rw[q2];rfl) (v:=.bool true) (w':=w2) (by
         have:(a'.put (some p.nx) (.tuple #[.bool true,e.key,e.val])).eval (.tmp p.nx)=.tuple #[.bool true,e.key,e.val]:=by simp only[Act.eval];exact Ay (by omega)
         simp only[execOp,q2,this];simp[Instr.extract]) ?_
        rw[d2];simp only[wpOpsIn]
        have vQ:SameBut (fun t=>t∈ws) a' ((a'.put (some p.nx) (.tuple #[.bool true,e.key,e.val])).put (some p.mo) (.bool true)):=by
         have s1:=SameBut.put a' (some p.nx) (.tuple #[.bool true,e.key,e.val]) a'.defers;have s2:=SameBut.put (a'.put (some p.nx) (.tuple #[.bool true,e.key,e.val])) (some p.mo) (.bool true) (a'.put (some p.nx) (.tuple #[.bool true,e.key,e.val])).defers;exact(s1.mono fun t e=>by cases e;exact gM o1 (by rw[e1];simp) _ d1).trans (s2.mono fun t e=>by cases e;exact gM o2 (by rw[e1];simp) _ d2)
        have YZ:(((a'.put (some p.nx) (.tuple #[.bool true,e.key,e.val])).put (some p.mo) (.bool true))).eval (.tmp p.it)=.pointer (some ⟨kb,0,none⟩):=by
         simp only[Act.eval] at IM ⊢;rw[J4 n2,J4 n1];exact IM
        generalize vB:(a'.put (some p.nx) (.tuple #[.bool true,e.key,e.val])).put (some p.mo) (.bool true)=a1 at vQ YZ;have OD:a1.eval (.tmp p.mo)=.bool true:=by
         rw[←vB];simp only[Act.eval];exact Ay (by rw[size_put];omega)
        have m9:a1.defers=a'.defers:=by rw[←vB,put_defers,put_defers]
        refine wpIn_seq (wpIn_cond_true OD (wpIn_skip ?_));refine wpIn_block (wpIn_seq (wpIn_region ?_));rw[I7];refine As ho3 g3 (by rw[q3];rfl) (v:=.tuple #[e.key,e.val]) (w':=w2) (by simp only[execOp,q3,YZ];simp[aiE ZT ZU m3 tl]) ?_;rw[d3]
        have ZH:SameBut (fun t=>t∈ws) a1 (a1.put (some p.pr) (.tuple #[e.key,e.val])):=
         (SameBut.put a1 (some p.pr) (.tuple #[e.key,e.val]) a1.defers).mono fun t e=>by cases e;exact cM o3 (by rw[e2];simp) _ d3
        have ZK:a1.tmps.size=n:=vQ.size.trans tG;refine ac7 (kv:=e.key) (vv:=e.val) l [] p.aa 1 _ mm (by rw[e2];rfl) (fun x hx=>by rw[ZH.size,ZK];exact amr _ (eR.2 ⟨x,hx,rfl⟩)) (Ay (by rw[ZK];exact oI)) (fun x hx=>by cases hx) (fun a2 fg dC aml=>?_);have OY:SameBut (fun t=>t∈ws) a' a2:=(vQ.trans ZH).trans (fg.mono fun t ⟨o,ho,hd⟩=>cM o ho t hd);have ak3:a2.defers=a'.defers:=by rw[dC,put_defers,m9]
        have amP:Good C w0 σ0 (((qS.mask m).start (p.aa.map (·.1)) (p.aa.map fun x=>bif Nat.beq x.2 0 then kt else et)).st ids) ((ρ.put (p.aa.map (·.1)) ((p.aa.map (·.2)).map (D.tup [pd.1,pd.2]).tget) lo vo).setO J (.tup [.list (gh fT idx++[.tup [pd.1,pd.2]]),.map fT])) (fun _=>False) a2 w2:=by
         have hbw:Below w0.heap.size w' w2:=⟨by rw[←z8];exact Dh.os,by rw[←z8];exact Dh.tape,by rw[←z8];exact Dh.output,by omega,fun b hb=>Aa b (fun e=>by subst e;have:=(h.owns b J h2).1;omega)⟩
         have jh:σ.ok w2:=by
          refine⟨fun b o v hc=>?_,fun b es hc=>?_⟩
          ·have N4:b≠kb:=fun e=>by subst e;rw[(h.owns b J h2).2.2.1 o] at hc;cases hc
           have:=h.ok.c b o v hc;simp only[World.cell?] at this ⊢;rw[Aa b N4];exact this
          ·have N4:b≠kb:=fun e=>by subst e;rw[(h.owns b J h2).2.2.2] at hc;cases hc
           exact(h.ok.m b es hc).keep (Aa b N4)
         have fW:∀j,((ρ.put (p.aa.map (·.1)) ((p.aa.map (·.2)).map (D.tup [pd.1,pd.2]).tget) lo vo).setO J (.tup [.list (gh fT idx++[.tup [pd.1,pd.2]]),.map fT])).o j=if j=J then .tup [.list (gh fT idx++[.tup [pd.1,pd.2]]),.map fT] else putL ρ.o lo vo j:=fun j=>by
          simp only[Env.setO,gj];rfl
         refine⟨σ,own,hv,h.step (fun j=>j=J) ak3 (.refl σ) jh (fun _ _ _ hx=>.inl hx) (fun _ _ hx=>.inl hx) hbw ⟨fun _=>bJ _,fun _ _=>rfl⟩
          (fun j hj=>⟨rfl,by rw[fW,if_neg hj];simp[Env.setO,bO _ _ hj,Env.put],rfl,fun b hb=>⟨hb,Aa b (fun e=>by subst e;rw[h2] at hb;cases hb;exact hj rfl)⟩⟩) (fun j hj=>?_) (fun b j hb=>?_) (fun _=>id) (fun t=>?_) (fun _ hf=>hf.elim)
          (fun b hb ho=>Aa b (fun e=>by subst e;rw[h2] at ho;cases ho)) (fun b j hb=>.inl ⟨j,hb⟩) (fun j hj=>?_)⟩
         ·subst hj;have:(((qS.mask m).start (p.aa.map (·.1)) (p.aa.map fun x=>bif Nat.beq x.2 0 then kt else et)).st ids).o j=.it kt et:=IZ;rw[this];refine⟨kb,mb,arr,clock,fT,idx++[i],h1,h2,h3,aC,ZU,ZT,by rw[fW,if_pos rfl,aeQ fT idx OM],?_,?_,h9,m3,m4⟩
          ·rw[Bm];exact⟨h7,by simp,fun a ha b hb e=>by simp at hb;subst hb;subst e;exact IJ ha⟩
          ·intro i' fo;rcases dp.1 fo with h|h
           ·exact h8 i' h
           ·simp at h;subst h;exact(gl.1 tl).1
         ·obtain⟨b1,b2,b3,b4⟩:=h.owns b j hb;exact⟨b1,by omega,b3,b4⟩
         ·have hc:Compat ((qS.mask m).st ids) hv (((qS.mask m).start (p.aa.map (·.1)) (p.aa.map fun x=>bif Nat.beq x.2 0 then kt else et)).st ids) hv:=⟨fun _=>bJ _,fun _ _=>rfl⟩
          refine .inr ⟨?_,fun gs s' e=>absurd e (Snap.noOpt _ _ t gs s')⟩;show aT C _ _ σ hv (cG ((qp (p.aa.map (·.1)) (p.aa.map fun x=>bif Nat.beq x.2 0 then kt else et) ((qS.mask m).rs.map rq)).getD t .none)) (a2.tmps.getD t undef) (putL ρ.r (p.aa.map (·.1)) ((p.aa.map (·.2)).map (D.tup [pd.1,pd.2]).tget) t);rcases S7 (p.aa.map (·.1)) (p.aa.map fun x=>bif Nat.beq x.2 0 then kt else et) ((qS.mask m).rs.map rq) (by simp) c4 t with e|⟨zb,sU⟩|⟨i',y,zb,sU,Nw⟩
          ·rw[e];trivial
          ·rw[sU,Ax _ _ _ _ zb];have e3:((qS.mask m).rs.map rq).getD t .none=rq ((qS.mask m).rs.getD t .none):=by
            simp only[be,dm];cases(qS.mask m).rs[t]?<;>rfl
           rw[e3];by_cases ZM:t∈ws
           ·have zM:=OB t (rD t ZM);change cG ((qS.mask m).rs.getD t .none)=.none at zM;generalize (qS.mask m).rs.getD t .none=s' at zM;cases s'<;>simp[cG] at zM<;>trivial
           ·have hr:=h.regs t;change aT C _ _ σ hv (cG ((qS.mask m).rs.getD t .none)) _ (ρ.r t) at hr;rw[OY.get t ZM];generalize (qS.mask m).rs.getD t .none=s' at hr;cases s' with
            |yv=>trivial
            |opt gs s=>trivial
            |none=>trivial
            |fclo f c=>exact aT.mono' (.refl σ) hc (fun _ _ e=>by cases e) hr
            |dat t=>exact hr
            |obj j v=>exact aT.mono' (.refl σ) hc (fun _ _ e=>by cases e) hr
            |ptr j v o=>exact aT.mono' (.refl σ) hc (fun _ _ e=>by cases e) hr
            |eptr j v o q=>exact aT.mono' (.refl σ) hc (fun _ _ e=>by cases e) hr
          ·rw[Nw];have alq:i'<p.aa.length:=by have:=(iu.1 zb).1;simpa using this
           rw[Q3 _ (p.aa.map (·.1)) _ i' t (rK c4) (by simp) zb];obtain⟨xa,j6⟩:∃xa,p.aa[i']?=some xa:=⟨_,bW alq⟩
           simp only[dm,j6,kj,bp] at zb sU;subst zb;subst sU;rw[aml xa (sH j6)];have hd:((p.aa.map (·.2)).map (D.tup [pd.1,pd.2]).tget).getD i' .none=(D.tup [pd.1,pd.2]).tget xa.2:=by simp[be,j6]
           rw[hd];have h2x:xa.2≤1:=by
            rcases QU l mm (fun x hx=>by cases hx) xa (sH j6) with h|h
            ·cases h
            ·exact h.1
           rcases(by omega:xa.2=0∨xa.2=1) with e0|e0<;>rw[e0]
           ·exact bE
           ·exact de
         ·have:(((qS.mask m).start (p.aa.map (·.1)) (p.aa.map fun x=>bif Nat.beq x.2 0 then kt else et)).st ids).o j=.it kt et:=by rw[hj];exact IZ
          rw[this];intro e;cases e
        have amm:=aeQ fT idx OM;obtain⟨rest,tA⟩:∃rest,(gh fT idx++(D.tup [pd.1,pd.2])::rest).Perm (gR (.map fT)):=by
         obtain⟨rest,hr⟩:=asp (es:=fT) (idx:=idx++[i]) (by rw[Bm];exact⟨h7,by simp,fun a ha b hb e=>by simp at hb;subst hb;subst e;exact IJ ha⟩) (fun i' fo=>by
          rcases dp.1 fo with h|h
          ·rw[h9];exact h8 i' h
          ·simp at h;subst h;rw[h9];exact(gl.1 tl).1)
         rw[amm] at hr;exact⟨rest,by simpa using hr⟩
        have jd:=aW _ tA;simp only[nv] at jd;split at jd
        case h_2=>cases jd
        rename_i ρ2 IB;obtain⟨xi,dw⟩:=W7 IB;refine wpIn_mono (ihc rm _ q0 zT rd w0 σ0 wr _ xi a2 w2 fY hC hY (fun t ht=>Pe t (hwc t ht)) (OY.size.trans tG) amP dw) fun ee a3 w3 fW=>?_;have oH:=W9 n6 (sT code zT) dw IB fW;have conv:∀ee a3 w3,gn C w0 σ0 ids fn s rm wr a2 (fS ids p.next q0).out (fS ids p.next q0).ex (.next ρ2) ee a3 w3→Exit.then (Code.roundsIn (FR rd) 0 C.P (.seq (.region i1 p.ops1 false) (.seq (.cond (.tmp p.mo) .skip (.exit p.out)) (.block p.next (.seq (.region i2 p.ops2 false) code)))) (gn C w0 σ0 ids fn s rm wr a none [(p.out,(qS.mask m).kill ids J)] x0) kk) (gn C w0 σ0 ids fn s rm wr a none [(p.out,(qS.mask m).kill ids J)] x0) ee a3 w3:=by
         intro ee a3 w3 ho;cases ee with
         |normal=>
          obtain⟨ρ3,T,f1,f2,f3,f4⟩:=ho;cases f1;refine ih (gh fT idx++[.tup [pd.1,pd.2]]) (lo.map ρ2.o) a3 w3 (jE.trans ((OY.mono Pe).trans f3)) ?_ (fun ys tJ=>?_) (by simp at hlen ⊢;omega)
          ·have rp:Good C w0 σ0 (qS.st ids) ρ2 (fun _=>False) a3 w3:=by
            have:=f4.meet2 (x:=qS)
            rwa [zB T f2] at this
           obtain⟨σ3,wH,Df,gr⟩:=rp;have N6:=PC.ev_but _ _ _ ρ2 IB rfl;refine⟨σ3,wH,Df,(gr.maskR m).env (Snap.noOpt _ _) (fun t ht=>?_) (fun j hj=>?_)⟩
           ·have zM:=alV t ht
            have dM:t∉(fS ids p.next q0).pc.modR:=fun cA=>by
                 have:=OE.1 t cA;have h2:aO (Nat.lor m (fS ids p.next q0).mr) t=true:=by rw[fR,this,qF]
                 rw[CT,zM] at h2;cases h2
            rw[N6.r t dM]
            have oF:t∉p.aa.map (·.1):=fun aU=>by
                 have:aO m t=true:=by
                  refine rD t ?_;obtain⟨xa,j6,rfl⟩:=eR.1 aU;rcases QU l mm (fun x hx=>by cases hx) xa j6 with h|⟨_,o,ho,hd⟩
                  ·cases h
                  ·exact cM o (by rw[e2];exact fj _ ho) _ hd
                 rw[zM] at this;cases this
            show ρ.r t=putL ρ.r (p.aa.map (·.1)) _ t;rw[Ax _ _ _ _ oF]
           ·have hjd:pY (dX ids qS.os j)=false:=hj;show cu (putL ρ.o lo (lo.map ρ2.o)) J _ j=ρ2.o j;by_cases zI:j=J
            ·subst zI;rw[aS,N6.o j (fun cA=>Yj (OE.2 j cA))];simp[Env.setO,aS]
            ·rw[bO _ _ zI,rP];split
             ·rfl
             ·rename_i gI;have dM:j∉(fS ids p.next q0).pc.modO:=fun cA=>gI (by rw[←vI];exact gC.2 ⟨OE.2 j cA,by rw[hjd];rfl⟩);rw[N6.o j dM];simp only[Env.setO,bO _ _ zI];exact(Q4 _ _ _ _ gI).symm
          ·have:=aW ((D.tup [pd.1,pd.2])::ys) (by simpa using tJ);simp only[nv,IB] at this;exact this
         |exit id=>obtain⟨ρ3,T,f1,_⟩:=ho;cases f1
         |ret=>
          cases rm with
          |false=>obtain⟨d,f1,_⟩:=ho;cases f1
          |true=>obtain⟨ρ3,T,f1,_⟩:=ho;cases f1
         |_=>exact ho.elim
        cases ee with
        |exit id=>
         simp only[Exit.inBlock] at oH;show if id=p.next then _ else _;split
         ·rename_i cE;rw[if_pos cE] at oH;exact conv .normal a3 w3 oH
         ·rename_i cE;rw[if_neg cE] at oH;exact conv (.exit id) a3 w3 oH
        |normal=>exact conv .normal a3 w3 oH
        |ret=>exact conv .ret a3 w3 oH
        |panic c=>exact fW.elim
        |goto l=>exact fW.elim
        |_=>exact fW.elim
 have hgq:Good C w0 σ0 (qS.st ids) ρ (fun _=>False) a w:=cf hg;obtain⟨σ,own,hv,h⟩:=hgq;have bC:=h.objs J;have:(qS.st ids).o J=.it kt et:=IZ;rw[this] at bC;obtain⟨kb,mb,arr,clock,fT,idx,h1,h2,h3,aC,h4,h5,h6,h7,h8,h9,m3,m4⟩:=bC;have hρJ:ρ.o J=.tup [.list [],es]:=by
  rw[h6] at zP ky;simp[D.tget] at zP ky;rw[h6,zP,←ky]
 have vE:(ρ.put [] [] lo (lo.map ρ.o)).setO J (.tup [.list [],es])=ρ:=by
  rw[Env.put_self];show Env.mk _ _=_;have:cu ρ.o J (.tup [.list [],es])=ρ.o:=by
   funext j;rw[gj];split
   ·rename_i e;rw[e];exact hρJ.symm
   ·rfl
  rw[this]
 exact wpIn_loop_rounds _ (key ((gR es).length+1) [] (lo.map ρ.o) a w (.refl _ _) (by rw[vE];exact⟨σ,own,hv,h.maskR m⟩) (fun ys tJ=>akI ys tJ) (by simp))
theorem ahC {N:Nat}(fG:fP C Φ)(hR:L7 C n ids Φ R):∀(k:Nat) (c:Code),sizeOf c<k→uV C Φ fn s n ids R N c:=by
 intro k;refine Nat.rec (fun c h=>absurd h (Nat.not_lt_zero _)) (fun k IH=>?_) k;intro c hc;cases c with
 |skip=>
  intro rm S r h rd w0 σ0 wr ρ x a w fY hC hY gN hn hg he;simp only[comp,bp] at h;subst h;simp only[PC.ev,bp] at he;subst he;exact wpIn_skip ⟨ρ,S,rfl,rfl,.refl _ _,hg⟩
 |region id ops draw=>
  intro rm S r h rd w0 σ0 wr ρ x a w fY hC hY gN hn hg he;simp only[comp,aK] at h;obtain⟨q,hq,rfl⟩:=h;simp only[PC.ev,aK] at he;obtain⟨ρ',hr,rfl⟩:=he;exact hR id ops draw S q hq rd w0 σ0 ρ ρ' a w _ hC hY hn hg hr (fun a' w' dV j2=>⟨ρ',q.1,rfl,rfl,dV.mono (fun t ⟨o,h1,h2⟩=>gN t (xF.2 ⟨o,h1,h2⟩)),j2⟩)
 |seq c1 c2=>
  have tL:=IH c1 (by simp at hc;omega);have np:=IH c2 (by simp at hc;omega);intro rm S r h rd w0 σ0 wr ρ x a w fY hC hY gN hn hg he;have gM:∀t,t∈cH c1→wr t:=fun t ht=>gN t (ju _ ht);have cM:∀t,t∈cH c2→wr t:=fun t ht=>gN t (jT _ ht);simp only[comp,aB] at h;obtain⟨q,hq,h⟩:=h;split at h
  ·rename_i jD;cases h;refine wpIn_seq (wpIn_mono (tL rm S _ hq rd w0 σ0 wr ρ x a w fY hC hY gM hn hg he) fun e a' w' ho=>?_);cases e with
   |normal=>obtain⟨_,_,_,h2,_⟩:=ho;rw[jD] at h2;cases h2
   |_=>exact ho
  ·rename_i S1 jD;simp only[aK] at h;obtain⟨p,hp,rfl⟩:=h;simp only[PC.ev] at he
   have key:∀x1,q.pc.ev Φ N ρ=some x1→(match some x1 with|some (.next ρ')=>p.pc.ev Φ N ρ'|y=>y)=some x→(Code.seq c1 c2).wpIn (FR rd) 0 C.P (gn C w0 σ0 ids fn s rm wr a p.out (q.ex++p.ex) x) a w:=by
      intro x1 h1 h2;refine wpIn_seq (wpIn_mono (tL rm S _ hq rd w0 σ0 wr ρ x1 a w fY hC hY gM hn hg h1) fun e a' w' ho=>?_);have other:∀{e:Exit},e≠.normal→gn C w0 σ0 ids fn s rm wr a q.out q.ex x1 e a' w'→x1=x→gn C w0 σ0 ids fn s rm wr a p.out (q.ex++p.ex) x e a' w':=by
       intro e aC ho hx;subst hx;exact ho.mono (fun y hy=>ju _ hy) (.refl _ _) (fun e=>absurd e aC)
      cases e with
      |normal=>
       obtain⟨ρ1,S2,e1,e2,fg,ia⟩:=ho;subst e1;rw[jD] at e2;cases e2;simp only at h2;refine wpIn_mono (np rm S1 _ hp rd w0 σ0 wr ρ1 x a' w' fY hC hY cM (fg.size.trans hn) ia h2) fun e a2 w2 ff=>?_;exact ff.mono (fun y hy=>jT _ hy) fg (fun _=>rfl)
      |exit id=>
       refine other (by simp) ho ?_;obtain⟨ρ1,S2,e1,_⟩:=ho;subst e1;simpa using h2
      |ret=>
       refine other (by simp) ho ?_;cases rm with
       |false=>obtain⟨d,e1,_⟩:=ho;subst e1;simpa using h2
       |true=>obtain⟨ρ1,S2,e1,_⟩:=ho;subst e1;simpa using h2
      |_=>exact ho.elim
   cases h1:q.pc.ev Φ N ρ with
   |none=>rw[h1] at he;simp at he
   |some x1=>rw[h1] at he;exact key x1 h1 he
 |cond c c1 c2=>
  have tL:=IH c1 (by simp at hc;omega);have np:=IH c2 (by simp at hc;omega);intro rm S r h rd w0 σ0 wr ρ x a w fY hC hY gN hn hg he;have gM:∀t,t∈cH c1→wr t:=fun t ht=>gN t (ju _ ht);have cM:∀t,t∈cH c2→wr t:=fun t ht=>gN t (jT _ ht);simp only[comp] at h;split at h
  case h_2=>cases h;exact absurd he (lM _ _ _ _)
  rename_i e hu;simp only[aB,aK] at h;obtain⟨q,hq,p,hp,rfl⟩:=h;have hb:∃b,a.eval c=.bool b∧e.ev ρ=.v (.bool b):=by
   obtain⟨σ,own,hv,hi⟩:=hg;have:=cv (gs:=[]) hi hC rfl hu;generalize a.eval c=v at this;generalize e.ev ρ=d at this;cases this with|bool b=>exact⟨b,rfl,rfl⟩
  obtain⟨b,jd,dT⟩:=hb;have pR:=sT c1 hq;have Zl:=sT c2 hp;have main:∀(o:Option Snap) (lr lo:List Nat) (rx:Res2),rx=⟨.ite e lr lo q.pc p.pc,o,q.ex++p.ex,Nat.lor q.mr p.mr,iT q.mo p.mo⟩→
        (∀M,o=some M→lr=jJ M (Nat.lor q.mr p.mr)∧lo=iL ids M (iT q.mo p.mo))→
        (∀S1 ρ1 a w,q.out=some S1→Good C w0 σ0 (S1.st ids) ρ1 (fun _=>False) a w→∃M,o=some M∧Good C w0 σ0 (M.st ids) ρ1 (fun _=>False) a w)→
        (∀S1 ρ1 a w,p.out=some S1→Good C w0 σ0 (S1.st ids) ρ1 (fun _=>False) a w→∃M,o=some M∧Good C w0 σ0 (M.st ids) ρ1 (fun _=>False) a w)→
        rx.pc.ev Φ N ρ=some x→(Code.cond c c1 c2).wpIn (FR rd) 0 C.P (gn C w0 σ0 ids fn s rm wr a rx.out rx.ex x) a w:=by
   intro o lr lo rx hrx hl pU mm bU;subst hrx;simp only[PC.ev,dT,D.b_bool] at bU;have fin:∀(ci:Code) (qi:Res2) (xi:Out),(∀y,y∈qi.ex→y∈q.ex++p.ex)→(∀t,t∈qi.pc.modR→aO (Nat.lor q.mr p.mr) t=true)→(∀j,j∈qi.pc.modO→j∈iT q.mo p.mo)→
    (∀S1 ρ1 a w,qi.out=some S1→Good C w0 σ0 (S1.st ids) ρ1 (fun _=>False) a w→∃M,o=some M∧Good C w0 σ0 (M.st ids) ρ1 (fun _=>False) a w)→
    qi.pc.ev Φ N ρ=some xi→(match some xi with|some (.next ρ')=>some (Out.next (ρ.join lr lo ρ'))|y=>y)=some x→
    ci.wpIn (FR rd) 0 C.P (gn C w0 σ0 ids fn s rm wr a qi.out qi.ex xi) a w→ci.wpIn (FR rd) 0 C.P (gn C w0 σ0 ids fn s rm wr a o (q.ex++p.ex) x) a w:=by
        intro ci qi xi hex nj tz jD dw hx hwp;refine wpIn_mono hwp fun ee a' w' ho=>?_;have other:ee≠.normal→xi=x→gn C w0 σ0 ids fn s rm wr a o (q.ex++p.ex) x ee a' w':=by
         intro aC jG;subst jG;exact ho.mono hex (.refl _ _) (fun e=>absurd e aC)
        cases ee with
        |normal=>
         obtain⟨ρ1,S2,e1,e2,fg,ia⟩:=ho;subst e1;simp only[bp] at hx;subst hx;obtain⟨M,hM,rp⟩:=jD S2 ρ1 a' w' e2 ia;obtain⟨l1,l2⟩:=hl M hM;subst l1 l2;exact⟨_,M,rfl,hM,fg,rp.joined (PC.ev_but qi.pc ρ _ ρ1 dw rfl) nj tz⟩
        |exit id=>
         refine other (by simp) ?_;obtain⟨ρ1,S2,e1,_⟩:=ho;subst e1;simpa using hx
        |ret=>
         refine other (by simp) ?_;cases rm with
         |false=>obtain⟨d,e1,_⟩:=ho;subst e1;simpa using hx
         |true=>obtain⟨ρ1,S2,e1,_⟩:=ho;subst e1;simpa using hx
        |_=>exact ho.elim
   refine wpIn_cond jd ?_;cases b with
   |true=>
    simp only[cond_true] at bU;cases dw:q.pc.ev Φ N ρ with
    |none=>rw[dw] at bU;simp at bU
    |some xi=>
     rw[dw] at bU;refine fin c1 q xi (fun y hy=>ju _ hy) (fun t ht=>?_) (fun j hj=>oN.2 (.inl (pR.2 j hj))) pU dw bU (tL rm S _ hq rd w0 σ0 wr ρ xi a w fY hC hY gM hn hg dw);rw[fR,pR.1 t ht];rfl
   |false=>
    simp only[cond_false] at bU;cases dw:p.pc.ev Φ N ρ with
    |none=>rw[dw] at bU;simp at bU
    |some xi=>
     rw[dw] at bU;refine fin c2 p xi (fun y hy=>jT _ hy) (fun t ht=>?_) (fun j hj=>oN.2 (.inr (Zl.2 j hj))) mm dw bU (np rm S _ hp rd w0 σ0 wr ρ xi a w fY hC hY cM hn hg dw);rw[fR,Zl.1 t ht,qF]
  have pU:∀S1 ρ1 a w,q.out=some S1→Good C w0 σ0 (S1.st ids) ρ1 (fun _=>False) a w→∃M,lC q.out p.out=some M∧Good C w0 σ0 (M.st ids) ρ1 (fun _=>False) a w:=by
   intro S1 ρ1 a w e1 g1;rw[e1];obtain⟨M,hM⟩:=@aaQ S1 p.out;exact⟨M,hM,aaO g1 hM⟩
  have mm:∀S1 ρ1 a w,p.out=some S1→Good C w0 σ0 (S1.st ids) ρ1 (fun _=>False) a w→∃M,lC q.out p.out=some M∧Good C w0 σ0 (M.st ids) ρ1 (fun _=>False) a w:=by
   intro S1 ρ1 a w e1 g1;rw[e1];obtain⟨M,hM⟩:=@aaR q.out S1;exact⟨M,hM,aaP g1 hM⟩
  cases hm:lC q.out p.out with
  |none=>
   rw[hm] at pU mm;simp only[hm] at he ⊢;exact main none [] [] _ rfl (fun M e=>by cases e) pU mm he
  |some M=>
   rw[hm] at pU mm;simp only[hm] at he ⊢;exact main (some M) _ _ _ rfl (fun M' e=>by cases e;exact⟨rfl,rfl⟩) pU mm he
 |block id c1=>
  have tL:=IH c1 (by simp at hc;omega);intro rm S r h rd w0 σ0 wr ρ x a w fY hC hY gN hn hg he;simp only[comp] at h;cases cE:Nat.beq id cL<;>simp only[cE,cond_true,cond_false] at h
  case true=>cases h;exact absurd he (lM _ _ _ _)
  have IK:id≠cL:=fun e=>by subst e;simp at cE
  simp only[aK] at h;obtain⟨q,hq,rfl⟩:=h;obtain⟨xi,dw⟩:=W7 he;exact wpIn_block (wpIn_mono (tL rm S _ hq rd w0 σ0 wr ρ xi a w fY hC hY gN hn hg dw) fun e a' w' fW=>W9 IK (sT c1 hq) dw he fW)
 |loop c1=>
  have tL:=IH c1 (by simp at hc;omega);intro rm S r h rd w0 σ0 wr ρ x a w fY hC hY gN hn hg he;rw[Xt] at h;split at h
  ·rename_i qb C3;obtain⟨p,code,ws⟩:=qb;unfold wv at C3;split at C3
   case h_2=>cases C3
   rename_i cx cy ck cz cc;simp only[aK] at C3;obtain⟨p',aU,ep⟩:=C3;cases ep;exact apm aU (IH _ (by simp at hc;omega)) h fY hC hY gN hn hg he
  split at h
  case h_2=>cases h;exact absurd he (lM _ _ _ _)
  rename_i q hq;cases h;obtain⟨hs,zB,cf⟩:=Dr (C:=C) (w0:=w0) (σ0:=σ0) (ids:=ids) 8 hq;have pR:=sT c1 hs;simp only[PC.ev] at he
  have rn:Good C w0 σ0 (q.1.st ids) (ρ.put (jJ q.1 q.2.mr) ((jJ q.1 q.2.mr).map ρ.r) (iL ids q.1 q.2.mo) ((iL ids q.1 q.2.mo).map ρ.o)) (fun _=>False) a w:=by
   exact Good.joined (cf hg) (.refl ρ q.2.pc.modR q.2.pc.modO) pR.1 pR.2
  have key:∀(k:Nat) (ρ1:Env) (a':Act) (w:World),SameBut wr a a'→gP (q.2.pc.ev Φ N) ρ (jJ q.1 q.2.mr) (iL ids q.1 q.2.mo) k ((jJ q.1 q.2.mr).map ρ1.r) ((iL ids q.1 q.2.mo).map ρ1.o)=some x→
        Good C w0 σ0 (q.1.st ids) (ρ.join (jJ q.1 q.2.mr) (iL ids q.1 q.2.mo) ρ1) (fun _=>False) a' w→Code.roundsIn (FR rd) 0 C.P c1 (gn C w0 σ0 ids fn s rm wr a none q.2.ex x) k a' w:=by
   intro k
   induction k with
   |zero=>intro ρ1 a' w hn hl hg;simp[gP] at hl
   |succ k ih=>
    intro ρ1 a' w jE hl hg;rw[roundsIn_succ];simp only[gP] at hl;change (match q.2.pc.ev Φ N (ρ.join (jJ q.1 q.2.mr) (iL ids q.1 q.2.mo) ρ1) with|some (.next ρ')=>_|y=>y)=some x at hl;cases dw:q.2.pc.ev Φ N (ρ.join (jJ q.1 q.2.mr) (iL ids q.1 q.2.mo) ρ1) with
    |none=>rw[dw] at hl;simp at hl
    |some xi=>
     rw[dw] at hl;refine wpIn_mono (tL rm _ _ hs rd w0 σ0 wr _ xi a' w fY hC hY gN (jE.size.trans hn) hg dw) fun e a2 w' fW=>?_;have other:e≠.normal→xi=x→gn C w0 σ0 ids fn s rm wr a none q.2.ex x e a2 w':=by
         intro aC jG;subst jG;exact fW.mono (fun y hy=>hy) jE (fun e=>absurd e aC)
     cases e with
     |normal=>
      obtain⟨ρ2,S2,e1,e2,fg,ia⟩:=fW;subst e1;simp only at hl;refine ih ρ2 a2 w' (jE.trans fg) hl ?_
      have rp:Good C w0 σ0 (q.1.st ids) ρ2 (fun _=>False) a2 w':=by
       have:=ia.meet2 (x:=q.1)
       rwa [zB S2 e2] at this
      refine rp.joined (mr':=jJ q.1 q.2.mr++q.2.pc.modR) (mo':=iL ids q.1 q.2.mo++q.2.pc.modO) ?_ (fun t ht=>?_) (fun j hj=>?_)
      ·exact((Env.but.join ρ ρ1 _ _).mono (fun t ht=>ju _ ht) (fun t ht=>ju _ ht)).trans
        ((PC.ev_but q.2.pc _ _ ρ2 dw rfl).mono (fun t ht=>jT _ ht) (fun t ht=>jT _ ht))
      ·exact(dp.1 ht).elim Jq (pR.1 t)
      ·exact(dp.1 hj).elim Aj (pR.2 j)
     |exit id=>
      refine other (by simp) ?_;obtain⟨ρ1,S2,e1,_⟩:=fW;subst e1;simpa using hl
     |ret=>
      refine other (by simp) ?_;cases rm with
      |false=>obtain⟨d,e1,_⟩:=fW;subst e1;simpa using hl
      |true=>obtain⟨ρ1,S2,e1,_⟩:=fW;subst e1;simpa using hl
     |_=>exact fW.elim
  exact wpIn_loop_rounds N (key N ρ a w (.refl _ _) he rn)
 |exit id=>
  intro rm S r h rd w0 σ0 wr ρ x a w fY hC hY gN hn hg he;simp only[comp] at h;cases cE:Nat.beq id cL<;>simp only[cE,cond_true,cond_false] at h
  case true=>cases h;exact absurd he (lM _ _ _ _)
  cases h;simp only[PC.ev,bp] at he;subst he;exact wpIn_exit ⟨ρ,S,rfl,fun e=>by subst e;simp at cE,by simp,.refl _ _,hg⟩
 |ret=>
  intro rm S r h rd w0 σ0 wr ρ x a w fY hC hY gN hn hg he;simp only[comp] at h;cases rm<;>simp only[cond_true,cond_false] at h
  case true=>
   cases h;simp only[PC.ev,bp] at he;subst he;exact wpIn_ret ⟨ρ,S,rfl,by simp,.refl _ _,hg⟩
  split at h
  ·rename_i e OU;cases h;simp only[PC.ev,bp] at he;subst he;obtain⟨σ,own,hv,hi⟩:=hg;exact wpIn_ret ⟨_,rfl,Inv.retD hC (fun _=>rfl) (fY rfl).2 OU _ hi rfl,.refl _ _⟩
  ·cases h;exact absurd he (lM _ _ _ _)
 |rangeFunc g ps ca cb=>exact arB fG (IH ca (by simp at hc;omega)) (IH cb (by simp at hc;omega))
 |_=>intro rm S r h rd w0 σ0 wr ρ x a w fY hC hY gN hn hg he;simp only[comp,bp] at h;subst h;exact absurd he (lM _ _ _ _)
theorem ahB {N:Nat}(fG:fP C Φ)(hR:L7 C n ids Φ R)(c:Code):uV C Φ fn s n ids R N c:=ahC fG hR _ c (Nat.lt_succ_self _)
end
end Cx
