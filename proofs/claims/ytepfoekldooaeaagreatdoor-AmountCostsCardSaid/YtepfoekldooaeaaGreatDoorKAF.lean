/-
  Code: sequences, choices, blocks, loops.
-/
import Derived.LoopNIn
import Derived.Test.YtepfoekldooaeaaGreatDoorKAE
import Derived.LoopN
set_option linter.unusedSimpArgs false
set_option linter.unusedVariables false
namespace Cx
open Go Go.RowKit
def ar (m t:Nat):Bool:= !Nat.beq (Nat.land 1 (Nat.shiftRight m t)) 0
theorem qP (m t:Nat):ar m t=m.testBit t:=by
 unfold ar Nat.testBit;show(!Nat.beq (1&&& (m>>>t)) 0)=((1&&& (m>>>t))!=0)
 generalize 1&&& (m>>>t)=x;cases x<;>rfl
def dA (t:Nat):Nat:=Nat.shiftLeft 1 t
theorem pC (t:Nat):ar (dA t) t=true:=by
 rw[qP];show(1<<<t).testBit t=true;simp[Nat.testBit_shiftLeft]
theorem eK (m k t:Nat):ar (Nat.lor m k) t=(ar m t||ar k t):=by
 simp only[qP];exact Nat.testBit_or m k t
def PI.mask:PI→Nat
 |.setR t _=>dA t|.call _ t _ _=>dA t|.callc _ t _ _=>dA t|_=>0
def Ic:List PI→Nat
 |[]=>0
 |p::l=>Nat.lor p.mask (Ic l)
def PI.objs:PI→List Nat
 |.setO j _=>[j]|.mcall j _ _=>[j]|_=>[]
def eU (l:List Nat)(x:Nat):Bool:=l.any (Nat.beq x)
def iP (a b:List Nat):List Nat:=a.foldl (fun acc x=>bif eU acc x then acc else x::acc) b
def ac0 (l:List PI):List Nat:=l.foldl (fun acc p=>iP p.objs acc) []
theorem oL (l:List Nat)(x:Nat):eU l x=true↔x∈l:=by
 unfold eU;rw[List.any_eq_true];constructor
 ·rintro⟨y,hy,h⟩;rw[Nat.eq_of_beq_eq_true h];exact hy
 ·intro h;exact⟨x,h,Nat.beq_refl x⟩
theorem oM {x:Nat}:∀{a b:List Nat},x∈iP a b↔x∈a∨x∈b
 |[],b=>by simp[iP]
 |y::a,b=>by
  have ih:=@oM x a (bif eU b y then b else y::b);have e:iP (y::a) b=iP a (bif eU b y then b else y::b):=rfl;rw[e,ih];cases hb:eU b y
  ·simp[or_assoc,or_left_comm]
  ·have:=(oL b y).1 hb;simp only[cond_true,List.mem_cons];constructor
   ·rintro(h|h)
    ·exact .inl (.inr h)
    ·exact .inr h
   ·rintro((h|h)|h)
    ·subst h;exact .inr this
    ·exact .inl h
    ·exact .inr h
theorem awM {x:Nat}(l:List PI)(h:x∈l.flatMap PI.modO):x∈ac0 l:=by
 have key:∀(l:List PI) (acc:List Nat),(x∈l.flatMap PI.modO∨x∈acc)→x∈l.foldl (fun acc p=>iP p.objs acc) acc:=by
  intro l
  induction l with
  |nil=>intro acc h;simpa using h
  |cons p l ih=>
   intro acc h;refine ih _ ?_;rw[List.flatMap_cons,List.mem_append] at h;rcases h with(h|h)|h
   ·refine .inr (oM.2 (.inl ?_));cases p<;>simp_all [PI.modO,PI.objs]
   ·exact .inl h
   ·exact .inr (oM.2 (.inr h))
 exact key l [] (.inl h)
theorem aay {t:Nat}:∀(l:List PI),t∈l.flatMap PI.modR→ar (Ic l) t=true
 |[],h=>by simp at h
 |p::l,h=>by
  rw[List.flatMap_cons,List.mem_append] at h;simp only[Ic,eK,Bool.or_eq_true];rcases h with h|h
  ·left;cases p<;>simp[PI.modR] at h<;>subst h<;>exact pC _
  ·exact .inr (aay l h)
structure Res2 where
 pc:PC
 out:Option Snap
 ex:List (Nat×Snap)
 mr:Nat
 mo:List Nat
 deriving Inhabited
def lC:Option Snap→Option Snap→Option Snap
 |none,x=>x
 |x,none=>x
 |some a,some b=>some (a.meet b)
def nB (id:Nat):List (Nat×Snap)→Option Snap→Option Snap
 |[],acc=>acc
 |x::l,acc=>nB id l (bif Nat.beq x.1 id then lC acc (some x.2) else acc)
def iter (step:Snap→Option Res2):Nat→Snap→Option (Snap×Res2)
 |0,_=>none
 |k+1,S=>(step S).bind fun r=>
  match r.out with
  |none=>some (S,r)
  |some T=>bif (S.meet T).beq S then some (S,r) else iter step k (S.meet T)
def jS (S:Snap)(m:Nat):List Nat:=(List.range S.rs.length).filter fun t=>ar m t&& !isNone (cr (S.rs.getD t .none))
def ix (ids:List Nat)(S:Snap)(l:List Nat):List Nat:=l.filter fun j=> !nw (db ids S.os j)
def fX:Res2:=⟨.is [Em],none,[],0,[]⟩
theorem lO (Φ:aS)(N:Nat)(ρ:Env)(x:Out):fX.pc.ev Φ N ρ≠some x:=by
 intro h;simp[fX,PC.ev,PI.runs,PI.run,Em,PE.ev,D.b_bool] at h
theorem lP:(∀t,t∈fX.pc.modR→ar fX.mr t=true)∧∀j,j∈fX.pc.modO→j∈fX.mo:=by
 constructor<;>intro t h<;>simp[fX,PC.modR,PC.modO,PI.modR,PI.modO,Em] at h
def cq:Code→List Nat
 |.region _ ops _=>ops.toList.filterMap (·.dst)
 |.seq a b=>cq a++cq b
 |.cond _ a b=>cq a++cq b
 |.block _ a=>cq a
 |.loop a=>cq a
 |_=>[]
def vU (l:List Nat):Nat:=l.foldr (fun t m=>Nat.lor (dA t) m) 0
def rF (m:Nat):Nat→List Sh→List Sh
 |_,[]=>[]
 |t,s::l=>(bif ar m t then .none else s)::rF m (t+1) l
def Snap.mask (m:Nat)(S:Snap):Snap:=⟨rF m 0 S.rs,S.os⟩
def rp:Sh→Sh
 |.yv=>.none
 |s=>s
def qD:List Nat→List Ty→List Sh→List Sh
 |p::ps,y::ys,l=>qD ps ys (l.set p (.dat y))
 |_,_,l=>l
def Snap.start (ps:List Nat)(ys:List Ty)(S:Snap):Snap:=⟨qD ps ys (S.rs.map rp),S.os⟩
def aar (ids:List Nat)(l:List Snap)(mo:List Nat):List Nat:=mo.filter fun j=>l.any fun S=> !nw (db ids S.os j)
def ay2 (wm:Nat)(ra rb:Res2):Res2:=
 let m:=Nat.lor wm (Nat.lor ra.mr rb.mr)
 ⟨.seq ra.pc rb.pc,rb.out.map (Snap.mask m),rb.ex.map (fun x=>(x.1,x.2.mask m)),m,iP ra.mo rb.mo⟩
def fK (ids:List Nat)(id:Nat)(r:Res2):Res2:=
    match nB id r.ex r.out with
    |some M=>⟨.block id (jS M r.mr) (ix ids M r.mo) r.pc,some M,r.ex.filter fun x=> !Nat.beq x.1 id,r.mr,r.mo⟩
    |none=>⟨.block id [] [] r.pc,none,r.ex.filter fun x=> !Nat.beq x.1 id,r.mr,r.mo⟩
def tE:List (Nat×Nat)→Nat→Option Nat
 |[],_=>none
 |x::l,t=>bif Nat.beq x.1 t then some x.2 else tE l t
def kj (pr:Nat):List Oper→List (Nat×Nat)→Option (List (Nat×Nat))
 |[],acc=>some acc
 |o::l,acc=>
  match o.dst,o.guard with
  |some d,none=>
   bif Nat.beq d pr||(tE acc d).isSome then none else
   match o.op with
   |.extract (.tmp t) i=>bif Nat.beq t pr&&Nat.ble i 1 then kj pr l (acc++[(d,i)]) else none
   |.assign (.tmp t)=>(tE acc t).bind fun i=>kj pr l (acc++[(d,i)])
   |.move (.tmp t)=>(tE acc t).bind fun i=>kj pr l (acc++[(d,i)])
   |_=>none
  |_,_=>none
structure MP where
 it:Nat
 nx:Nat
 mo:Nat
 out:Nat
 next:Nat
 pr:Nat
 ops1:Array Oper
 ops2:Array Oper
 as:List (Nat×Nat)
 deriving Inhabited
def yt (x y:Code)(k:Nat)(z:Code):Option MP:=
 match x,y,z with
 |.region _ ops1 false,.cond (.tmp mo) .skip (.exit out),.region _ ops2 false=>
  match ops1.toList,ops2.toList with
  |[o1,o2],o3::l=>
   match o1.dst,o1.guard,o1.op,o2.dst,o2.guard,o2.op,o3.dst,o3.guard,o3.op with
   |some nx,none,.next (.tmp it) false,some mo',none,.extract (.tmp nx') 0,some pr,none,.entry (.tmp ZS)=>
    bif Nat.beq mo mo'&&Nat.beq nx nx'&&Nat.beq it ZS&& !Nat.beq it nx&& !Nat.beq it mo&& !Nat.beq it pr&& !Nat.beq nx mo&& !Nat.beq out cC&& !Nat.beq k cC then
     (kj pr l []).map fun as=>⟨it,nx,mo,out,k,pr,ops1,ops2,as⟩
    else none
   |_,_,_,_,_,_,_,_,_=>none
  |_,_=>none
 |_,_,_=>none
def vM:List Nat→Nat→List Ob→List Ob
 |i::is,J,o::os=>(bif Nat.beq i J then .dead else o)::vM is J os
 |_,_,os=>os
def Snap.kill (ids:List Nat)(J:Nat)(S:Snap):Snap:=⟨S.rs,vM ids J S.os⟩
def ZP (J:Nat)(kt et:Ty)(ids:List Nat)(p:MP)(m:Nat)(S:Snap):Bool:=
 Sh.beq (S.rs.getD p.it .none) (.obj J 0)&&Ob.beq (db ids S.os J) (.it kt et)&& !ar m p.it
def yu (ids:List Nat)(n:Nat)(p:MP)(ws:List Nat)(f:Snap→Option Res2)(S:Snap):Option Res2:=
 match cr (S.rs.getD p.it .none) with
 |.obj J 0=>
  match db ids S.os J with
  |.it kt et=>
   let ps:=p.as.map (·.1)
   let ys:=p.as.map fun x=>bif Nat.beq x.2 0 then kt else et
   let m:=vU ws
   match iter (fun S=>(f ((S.mask m).start ps ys)).map (fK ids p.next)) 8 S with
   |some r=>
    bif r.2.ex.isEmpty&& !eU r.2.mo J&&ZP J kt et ids p m r.1&&jo ps&&ps.all (fun t=>Nat.blt t n)&&Nat.blt p.nx n&&Nat.blt p.mo n&&Nat.blt p.pr n&&Nat.beq (Nat.lor m r.2.mr) m then
       some ⟨.seq (.meach J ps (p.as.map (·.2)) (ix ids r.1 r.2.mo) r.2.pc) (.exit p.out),none,[(p.out,(r.1.mask m).kill ids J)],0,r.2.mo⟩
    else some fX
   |none=>some fX
  |_=>some fX
 |_=>some fX
def comp (C:Ctx)(fn:Func)(s:Sig)(n:Nat)(ids:List Nat)(R:Array Oper→Bool→Snap→Option (Snap×List PI)):Bool→Code→Snap→Option Res2
 |_,.skip,S=>some ⟨.skip,some S,[],0,[]⟩
 |_,.region _ ops draw,S=>(R ops draw S).map fun r=>⟨.is r.2,some r.1,[],Ic r.2,ac0 r.2⟩
 |rm,.seq a b,S=>(comp C fn s n ids R rm a S).bind fun r=>
  match r.out with
  |none=>some r
  |some S1=>(comp C fn s n ids R rm b S1).map fun q=>⟨.seq r.pc q.pc,q.out,r.ex++q.ex,Nat.lor r.mr q.mr,iP r.mo q.mo⟩
 |rm,.cond c a b,S=>
  match use C (S.st ids) [] c with
  |some (.bool,e)=>
   (comp C fn s n ids R rm a S).bind fun r=>(comp C fn s n ids R rm b S).map fun q=>
     match lC r.out q.out with
     |some M=>⟨.ite e (jS M (Nat.lor r.mr q.mr)) (ix ids M (iP r.mo q.mo)) r.pc q.pc,some M,r.ex++q.ex,Nat.lor r.mr q.mr,iP r.mo q.mo⟩
     |none=>⟨.ite e [] [] r.pc q.pc,none,r.ex++q.ex,Nat.lor r.mr q.mr,iP r.mo q.mo⟩
  |_=>some fX
 |rm,.block id a,S=>bif Nat.beq id cC then some fX else(comp C fn s n ids R rm a S).map (fK ids id)
 |rm,.loop (.seq x (.seq y (.block k (.seq z code)))),S=>
  (match yt x y k z with
  |some p=>yu ids n p (cq x++(cq y++(cq z++cq code))) (fun S=>comp C fn s n ids R rm code S) S
  |none=>
  match iter (fun S=>comp C fn s n ids R rm (.seq x (.seq y (.block k (.seq z code)))) S) 8 S with
  |some r=>some ⟨.loop (jS r.1 r.2.mr) (ix ids r.1 r.2.mo) r.2.pc,none,r.2.ex,r.2.mr,r.2.mo⟩
  |none=>some fX)
 |rm,.loop a,S=>
  match iter (fun S=>comp C fn s n ids R rm a S) 8 S with
  |some r=>some ⟨.loop (jS r.1 r.2.mr) (ix ids r.1 r.2.mo) r.2.pc,none,r.2.ex,r.2.mr,r.2.mo⟩
  |none=>some fX
 |_,.exit id,S=>bif Nat.beq id cC then some fX else some ⟨.exit id,none,[(id,S)],0,[]⟩
 |rm,.ret,S=>
  bif rm then some ⟨.exit cC,none,[(cC,S)],0,[]⟩ else
  match wN C fn s (S.st ids) with
  |some e=>some ⟨.ret e,none,[],0,[]⟩
  |none=>some fX
 |rm,.rangeFunc g ps a b,S=>
  match rm,C.yl,use C (S.st ids) [] g with
  |false,none,some (.fn as r,e)=>
   match lz as r with
   |some ys=>
    match iter (fun S=>(comp C fn s n ids R true a (S.start ps.toList ys)).bind fun ra=>
          match ra.out,ra.ex with
          |some S1,[]=>(comp C fn s n ids R true b S1).map (ay2 (vU (ps.toList++cq a++cq b)) ra)
          |_,_=>none) 8 S with
    |some r=>
     bif Nat.beq ys.length ps.size&&jo ps.toList&&ps.toList.all (fun p=>Nat.blt p n)&&Nat.ble r.1.rs.length n then
           some ⟨.seq (.is [.callc [] n e []]) (.each (.r n) ps.toList (aar ids (r.1::r.2.ex.map (·.2)) r.2.mo) ((nB cC r.2.ex none).bind fun M=>wN C fn s (M.st ids)) r.2.pc),
            some r.1,r.2.ex.filter (fun x=> !Nat.beq x.1 cC),dA n,r.2.mo⟩
     else some fX
    |none=>some fX
   |none=>some fX
  |_,_,_=>some fX
 |_,_,_=>some fX
termination_by structural _ c=>c
def vS:Code→Option (MP×Code×List Nat)
 |.seq x (.seq y (.block k (.seq z code)))=>(yt x y k z).map fun p=>(p,code,cq x++(cq y++(cq z++cq code)))
 |_=>none
theorem Xa (C:Ctx)(fn:Func)(s:Sig)(n:Nat)(ids:List Nat)(R:Array Oper→Bool→Snap→Option (Snap×List PI))(rm:Bool)(a:Code)(S:Snap):comp C fn s n ids R rm (.loop a) S=
 match vS a with
 |some q=>yu ids n q.1 q.2.2 (fun S=>comp C fn s n ids R rm q.2.1 S) S
 |none=>
  match iter (fun S=>comp C fn s n ids R rm a S) 8 S with
  |some r=>some ⟨.loop (jS r.1 r.2.mr) (ix ids r.1 r.2.mo) r.2.pc,none,r.2.ex,r.2.mr,r.2.mo⟩
  |none=>some fX:=by
 by_cases h:∃x y k z code,a=.seq x (.seq y (.block k (.seq z code)))
 ·obtain⟨x,y,k,z,code,rfl⟩:=h
  conv=>lhs;unfold comp
  simp only[vS];cases yt x y k z<;>rfl
 ·have e:vS a=none:=by
   unfold vS;split
   ·rename_i x y k z code;exact absurd ⟨x,y,k,z,code,rfl⟩ h
   ·rfl
  rw[e];rw[comp];intro x y k z code e;exact h ⟨x,y,k,z,code,e⟩
def subs:Code→List Code
 |.seq a b=>.seq a b::(subs a++subs b)
 |.cond c a b=>.cond c a b::(subs a++subs b)
 |.block i a=>.block i a::subs a
 |.loop a=>.loop a::subs a
 |.rangeFunc g ps a b=>.rangeFunc g ps a b::(subs a++subs b)
 |c=>[c]
theorem azA (c:Code):c∈subs c:=by cases c<;>simp[subs]
theorem aIn {a code:Code}{p:MP}{ws:List Nat}(h:vS a=some (p,code,ws)):code∈subs a:=by
 unfold vS at h;split at h
 ·simp only[Option.map_eq_some_iff] at h;obtain⟨q,_,e⟩:=h;cases e;simp[subs,azA]
 ·cases h
def MZ (C:Ctx)(n:Nat)(ids:List Nat)(Φ:aS)(R:Array Oper→Bool→Snap→Option (Snap×List PI)):Prop:=
 ∀(id:Nat) (ops:Array Oper) (draw:Bool) (S:Snap) (r:Snap×List PI),R ops draw S=some r→
  ∀(rd:Option Nat) (w0:World) (σ0:Base) (ρ ρ':Env) (a:Act) (w:World) (Q:Exit→Act→World→Prop),CtxOK C σ0→nX C Φ w0 σ0→a.tmps.size=n→Good C w0 σ0 (S.st ids) ρ (fun _=>False) a w→PI.runs Φ r.2 ρ=some ρ'→
   (∀a' w',SameBut (pG ops) a a'→Good C w0 σ0 (r.1.st ids) ρ' (fun _=>False) a' w'→Q .normal a' w')→(Code.region id ops draw).wpIn (FR rd) 0 C.P Q a w
section
variable {C:Ctx} {ρ ρ':Env} {σ:Im} {own:Nat→Option Nat} {hv:Nat→Value} {w0:World} {σ0:Base} {A:Nat→Prop} {a:Act} {w:World} {Φ:aS} {n:Nat} {ids:List Nat} {fn:Func} {s:Sig}
 {R:Array Oper→Bool→Snap→Option (Snap×List PI)}
def fZ (C:Ctx)(w0:World)(σ0:Base)(ids:List Nat)(fn:Func)(s:Sig)(rm:Bool)(wr:Nat→Prop)(a0:Act)(out:Option Snap)(ex:List (Nat×Snap))(x:Out):Exit→Act→World→Prop
 |.normal,a,w=>∃ρ S,x=.next ρ∧out=some S∧SameBut wr a0 a∧Good C w0 σ0 (S.st ids) ρ (fun _=>False) a w
 |.exit id,a,w=>∃ρ S,x=.exit id ρ∧id≠cC∧(id,S)∈ex∧SameBut wr a0 a∧Good C w0 σ0 (S.st ids) ρ (fun _=>False) a w
 |.ret,a,w=>match rm with
  |false=>∃d,x=.ret d∧pz C w0 σ0 fn s d a.tmps a.defers w∧SameBut wr a0 a
  |true=>∃ρ S,x=.exit cC ρ∧(cC,S)∈ex∧SameBut wr a0 a∧Good C w0 σ0 (S.st ids) ρ (fun _=>False) a w
 |_,_,_=>False
theorem Good.meet1 {x y:Snap}(h:Good C w0 σ0 (x.st ids) ρ A a w):Good C w0 σ0 ((x.meet y).st ids) ρ (fun _=>False) a w:=by
 obtain⟨σ,own,hv,h⟩:=h;exact⟨σ,own,hv,Snap.meet_ok1 h⟩
theorem Good.meet2 {x y:Snap}(h:Good C w0 σ0 (y.st ids) ρ A a w):Good C w0 σ0 ((x.meet y).st ids) ρ (fun _=>False) a w:=by
 obtain⟨σ,own,hv,h⟩:=h;exact⟨σ,own,hv,Snap.meet_ok2 h⟩
theorem aaH {x:Snap}{y:Option Snap}{M:Snap}(h:Good C w0 σ0 (x.st ids) ρ (fun _=>False) a w)(hm:lC (some x) y=some M):Good C w0 σ0 (M.st ids) ρ (fun _=>False) a w:=by
 cases y<;>simp[lC] at hm<;>subst hm
 ·exact h
 ·exact h.meet1
theorem aaI {x:Option Snap}{y:Snap}{M:Snap}(h:Good C w0 σ0 (y.st ids) ρ (fun _=>False) a w)(hm:lC x (some y)=some M):Good C w0 σ0 (M.st ids) ρ (fun _=>False) a w:=by
 cases x<;>simp[lC] at hm<;>subst hm
 ·exact h
 ·exact h.meet2
theorem aaJ {x:Snap}{y:Option Snap}:∃M,lC (some x) y=some M:=by cases y<;>simp[lC]
theorem aaK {x:Option Snap}{y:Snap}:∃M,lC x (some y)=some M:=by cases x<;>simp[lC]
theorem Ie {id:Nat}:∀(l:List (Nat×Snap)) {x:Snap},Good C w0 σ0 (x.st ids) ρ (fun _=>False) a w→∃M,nB id l (some x)=some M∧Good C w0 σ0 (M.st ids) ρ (fun _=>False) a w
 |[],x,h=>⟨x,rfl,h⟩
 |y::l,x,h=>by
  simp only[nB];cases Nat.beq y.1 id
  ·exact Ie l h
  ·obtain⟨M,hM⟩:=@aaJ x (some y.2);simp only[cond_true,hM];exact Ie l (aaH h hM)
theorem QD {id:Nat}{S:Snap}(h:Good C w0 σ0 (S.st ids) ρ (fun _=>False) a w):∀(l:List (Nat×Snap)) (x:Option Snap),(id,S)∈l→∃M,nB id l x=some M∧Good C w0 σ0 (M.st ids) ρ (fun _=>False) a w
 |y::l,x,hm=>by
  simp only[nB];rcases List.mem_cons.1 hm with e|hm
  ·subst e;simp only[Nat.beq_refl,cond_true];obtain⟨M,hM⟩:=@aaK x S;rw[hM];exact Ie l (aaI h hM)
  ·exact QD h l _ hm
theorem CG {step:Snap→Option Res2}:∀(k:Nat) {S:Snap} {r:Snap×Res2},iter step k S=some r→
 step r.1=some r.2∧(∀T,r.2.out=some T→r.1.meet T=r.1)∧∀{ρ:Env} {a:Act} {w:World},Good C w0 σ0 (S.st ids) ρ (fun _=>False) a w→Good C w0 σ0 (r.1.st ids) ρ (fun _=>False) a w
 |0,S,r,h=>by simp[iter] at h
 |k+1,S,r,h=>by
  simp only[iter,Option.bind_eq_some_iff] at h;obtain⟨q,hq,h⟩:=h;split at h
  ·rename_i ho;cases h;exact⟨hq,fun T hT=>by simp[ho] at hT,fun g=>g⟩
  ·rename_i T ho;cases hb:(S.meet T).beq S<;>simp only[hb,cond_true,cond_false] at h
   ·obtain⟨h1,h2,h3⟩:=CG k h;exact⟨h1,h2,fun g=>h3 g.meet1⟩
   ·cases h;refine⟨hq,fun T' hT=>?_,fun g=>g⟩;simp only[ho,Option.some.injEq] at hT;subst hT;exact Snap.beq_eq _ _ hb
theorem ZT {step:Snap→Option Res2}{hv:Nat→Value}:∀(k:Nat) {S:Snap} {r:Snap×Res2},iter step k S=some r→Inv C (S.st ids) ρ σ own hv w0 σ0 (fun _=>False) a w→Inv C (r.1.st ids) ρ σ own hv w0 σ0 (fun _=>False) a w
 |0,S,r,h,_=>by simp[iter] at h
 |k+1,S,r,h,i=>by
  simp only[iter,Option.bind_eq_some_iff] at h;obtain⟨q,hq,h⟩:=h;split at h
  ·cases h;exact i
  ·rename_i T ho;cases hb:(S.meet T).beq S<;>simp only[hb,cond_true,cond_false] at h
   ·exact ZT k h (Snap.meet_ok1 i)
   ·cases h;exact i
theorem Good.joined {M:Snap}{m:Nat}{mo mr' mo':List Nat}(h:Good C w0 σ0 (M.st ids) ρ' (fun _=>False) a w)(hb:ρ.but ρ' mr' mo')(h1:∀t,t∈mr'→ar m t=true)(h2:∀j,j∈mo'→j∈mo):
 Good C w0 σ0 (M.st ids) (ρ.join (jS M m) (ix ids M mo) ρ') (fun _=>False) a w:=by
 obtain⟨σ,own,hv,h⟩:=h;refine⟨σ,own,hv,h.env (Snap.noOpt _ _) (fun t ht=>?_) (fun j hj=>?_)⟩
 ·simp only[Env.join,Env.put,rO];split
  ·rfl
  ·rename_i hm;refine(hb.r t fun xR=>hm ?_).symm;have af:t<M.rs.length:=by
        refine Nat.lt_of_not_le fun hle=>?_;simp only[Snap.st,List.getD_eq_getElem?_getD,List.getElem?_eq_none hle,Option.getD_none,cr,isNone] at ht;cases ht
   exact List.mem_filter.2 ⟨List.mem_range.2 af,by rw[h1 t xR];simpa [Snap.st] using ht⟩
 ·simp only[Env.join,Env.put,rO];split
  ·rfl
  ·rename_i hm;refine(hb.o j fun xR=>hm ?_).symm;exact List.mem_filter.2 ⟨h2 j xR,by simpa [Snap.st] using hj⟩
theorem If {S:Snap}{m t:Nat}(h:t∈jS S m):ar m t=true:=by
 have:=(List.mem_filter.1 h).2;simp only[Bool.and_eq_true] at this;exact this.1
theorem yw {S:Snap}{l:List Nat}{j:Nat}(h:j∈ix ids S l):j∈l:=(List.mem_filter.1 h).1
theorem WH {id:Nat}{q:Res2}(h:(∀t,t∈q.pc.modR→ar q.mr t=true)∧∀j,j∈q.pc.modO→j∈q.mo):(∀t,t∈(fK ids id q).pc.modR→ar (fK ids id q).mr t=true)∧∀j,j∈(fK ids id q).pc.modO→j∈(fK ids id q).mo:=by
 unfold fK;cases hm:nB id q.ex q.out<;>simp only
 ·simpa [PC.modR,PC.modO] using h
 ·refine⟨fun t ht=>?_,fun j hj=>?_⟩
  ·simp only[PC.modR,List.mem_append] at ht;exact ht.elim If (h.1 t)
  ·simp only[PC.modO,List.mem_append] at hj;exact hj.elim yw (h.2 j)
theorem awG {p:MP}{ws:List Nat}{f:Snap→Option Res2}{S:Snap}{r:Res2}(h:yu ids n p ws f S=some r):(∀t,t∈r.pc.modR→ar r.mr t=true)∧∀j,j∈r.pc.modO→j∈r.mo:=by
 unfold yu at h;split at h
 case h_2=>cases h;exact lP
 split at h
 case h_2=>cases h;exact lP
 simp only at h;split at h
 case h_2=>cases h;exact lP
 rw[Bool.cond_eq_ite] at h;split at h
 ·cases h;refine⟨fun t ht=>by simp[PC.modR] at ht,fun j hj=>?_⟩;simp only[PC.modO,List.append_nil] at hj;exact yw hj
 ·cases h;exact lP
theorem sn:∀(c:Code) {rm:Bool} {S:Snap} {r:Res2},comp C fn s n ids R rm c S=some r→(∀t,t∈r.pc.modR→ar r.mr t=true)∧∀j,j∈r.pc.modO→j∈r.mo:=by
 intro c
 induction c with
 |skip=>intro rm S r h;simp only[comp,Option.some.injEq] at h;subst h;simp[PC.modR,PC.modO]
 |region id ops draw=>
  intro rm S r h;simp only[comp,Option.map_eq_some_iff] at h;obtain⟨q,_,rfl⟩:=h;exact⟨fun t ht=>aay _ ht,fun j hj=>awM _ hj⟩
 |seq x y iv vH=>
  intro rm S r h;simp only[comp,Option.bind_eq_some_iff] at h;obtain⟨q,hq,h⟩:=h;split at h
  ·cases h;exact iv hq
  ·simp only[Option.map_eq_some_iff] at h;obtain⟨p,hp,rfl⟩:=h;refine⟨fun t ht=>?_,fun j hj=>?_⟩
   ·simp only[PC.modR,List.mem_append] at ht;rw[eK,Bool.or_eq_true];exact ht.imp ((iv hq).1 t) ((vH hp).1 t)
   ·simp only[PC.modO,List.mem_append] at hj;rw[oM];exact hj.imp ((iv hq).2 j) ((vH hp).2 j)
 |cond c x y iv vH=>
  intro rm S r h;simp only[comp] at h;split at h
  case h_2=>cases h;exact lP
  rename_i e _;simp only[Option.bind_eq_some_iff,Option.map_eq_some_iff] at h;obtain⟨q,hq,p,hp,rfl⟩:=h;cases hm:lC q.out p.out<;>simp only[hm]
  ·refine⟨fun t ht=>?_,fun j hj=>?_⟩
   ·simp only[PC.modR,List.mem_append,List.nil_append] at ht;rw[eK,Bool.or_eq_true];exact ht.imp ((iv hq).1 t) ((vH hp).1 t)
   ·simp only[PC.modO,List.mem_append,List.nil_append] at hj;rw[oM];exact hj.imp ((iv hq).2 j) ((vH hp).2 j)
  ·refine⟨fun t ht=>?_,fun j hj=>?_⟩
   ·simp only[PC.modR,List.mem_append] at ht;rw[eK,Bool.or_eq_true];rcases ht with(ht|ht)|ht
    ·have:=If ht;rw[eK,Bool.or_eq_true] at this;exact this
    ·exact .inl ((iv hq).1 t ht)
    ·exact .inr ((vH hp).1 t ht)
   ·simp only[PC.modO,List.mem_append] at hj;rcases hj with(hj|hj)|hj
    ·exact yw hj
    ·exact oM.2 (.inl ((iv hq).2 j hj))
    ·exact oM.2 (.inr ((vH hp).2 j hj))
 |block id x iv=>
  intro rm S r h;simp only[comp] at h;cases bL:Nat.beq id cC<;>simp only[bL,cond_true,cond_false] at h
  case true=>cases h;exact lP
  simp only[Option.map_eq_some_iff] at h;obtain⟨q,hq,rfl⟩:=h;exact WH (iv hq)
 |loop x iv=>
  intro rm S r h;rw[Xa] at h;split at h
  ·exact awG h
  split at h
  case h_2=>cases h;exact lP
  rename_i q hq;cases h;have hs:=(CG (C:=C) (w0:=default) (σ0:=Base.mk0 ⟨fun _ _=>none,fun _=>none⟩ 0) (ids:=ids) 8 hq).1;refine⟨fun t ht=>?_,fun j hj=>?_⟩
  ·simp only[PC.modR,List.mem_append] at ht;exact ht.elim If ((iv hs).1 t)
  ·simp only[PC.modO,List.mem_append] at hj;exact hj.elim yw ((iv hs).2 j)
 |exit id=>
  intro rm S r h;simp only[comp] at h;cases bL:Nat.beq id cC<;>simp only[bL,cond_true,cond_false] at h<;>cases h
  ·simp[PC.modR,PC.modO]
  ·exact lP
 |ret=>
  intro rm S r h;simp only[comp] at h;cases rm<;>simp only[cond_true,cond_false] at h
  case true=>cases h;simp[PC.modR,PC.modO]
  split at h
  ·cases h;simp[PC.modR,PC.modO]
  ·cases h;exact lP
 |rangeFunc g ps x y _ _=>
  intro rm S r h;simp only[comp] at h;split at h
  case h_2=>cases h;exact lP
  split at h
  case h_2=>cases h;exact lP
  split at h
  case h_2=>cases h;exact lP
  rename_i q hq;rw[Bool.cond_eq_ite] at h;split at h
  ·cases h;refine⟨fun t ht=>?_,fun j hj=>?_⟩
   ·simp[PC.modR,PI.modR] at ht;subst ht;exact pC _
   ·simp only[PC.modO,PI.modO,List.flatMap_cons,List.flatMap_nil,List.append_nil,List.nil_append] at hj;exact(List.mem_filter.1 hj).1
  ·cases h;exact lP
 |_=>intro rm S r h;simp only[comp,Option.some.injEq] at h;subst h;exact lP
theorem fZ.mono {rm:Bool}{wr:Nat→Prop}{a0 a1:Act}{out aeG:Option Snap}{ex XA:List (Nat×Snap)}{x:Out}{e:Exit}(h:fZ C w0 σ0 ids fn s rm wr a0 out ex x e a w)(he:∀y,y∈ex→y∈XA)(hs:SameBut wr a1 a0)
 (ho:e=.normal→aeG=out):fZ C w0 σ0 ids fn s rm wr a1 aeG XA x e a w:=by
 cases e with
 |normal=>obtain⟨ρ,S,h1,h2,h3,h4⟩:=h;exact⟨ρ,S,h1,by rw[ho rfl];exact h2,hs.trans h3,h4⟩
 |exit id=>obtain⟨ρ,S,h1,h2,h3,h4,h5⟩:=h;exact⟨ρ,S,h1,h2,he _ h3,hs.trans h4,h5⟩
 |ret=>
  cases rm with
  |false=>obtain⟨d,h1,h2,h3⟩:=h;exact⟨d,h1,h2,hs.trans h3⟩
  |true=>obtain⟨ρ,S,h1,h3,h4,h5⟩:=h;exact⟨ρ,S,h1,he _ h3,hs.trans h4,h5⟩
 |_=>exact h.elim
theorem Xt {body:Env→Option Out}{ρ:Env}{ps lo:List Nat}{rt:Option PE}{x:Out}:∀{xs vo:List D},gO body ρ ps lo rt xs vo=some x→
 ∃(m:Nat) (lS:Nat→List D),m≤xs.length∧lS 0=vo∧
  (∀i,i<m→∃y ρ',xs[i]?=some y∧body (ρ.put ps (partsOf ps y) lo (lS i))=some (.next ρ')∧lo.map ρ'.o=lS (i+1))∧
  ((m=xs.length∧x=.next (ρ.put [] [] lo (lS m)))∨
   (m<xs.length∧∃y id ρ',xs[m]?=some y∧body (ρ.put ps (partsOf ps y) lo (lS m))=some (.exit id ρ')∧
    ((id≠cC∧x=.exit id (ρ.put [] [] lo (lo.map ρ'.o)))∨(id=cC∧∃e,rt=some e∧x=.ret (e.ev (ρ.put [] [] lo (lo.map ρ'.o)))))))
 |[],vo,h=>by
  simp only[gO,Option.some.injEq] at h;exact⟨0,fun _=>vo,Nat.le_refl _,rfl,fun i hi=>by omega,.inl ⟨rfl,h.symm⟩⟩
 |y::xs,vo,h=>by
  simp only[gO] at h;split at h
  ·rename_i ρ' hb;obtain⟨m,lS,h1,h2,h3,h4⟩:=Xt h;refine⟨m+1,fun i=>match i with|0=>vo|i+1=>lS i,by simp;omega,rfl,fun i hi=>?_,?_⟩
   ·cases i with
    |zero=>exact⟨y,ρ',rfl,hb,h2.symm⟩
    |succ i=>simpa using h3 i (by omega)
   ·rcases h4 with⟨e1,e2⟩|⟨e1,z,id,ρ2,e2,e3,e4⟩
    ·exact .inl ⟨by simp[e1],e2⟩
    ·exact .inr ⟨by simp;omega,z,id,ρ2,by simpa using e2,e3,e4⟩
  ·rename_i id ρ' hb;refine⟨0,fun _=>vo,Nat.zero_le _,rfl,fun i hi=>by omega,.inr ⟨by simp,y,id,ρ',rfl,hb,?_⟩⟩;cases bL:Nat.beq id cC<;>simp only[bL,cond_true,cond_false] at h
   ·refine .inl ⟨fun e=>?_,(Option.some.inj h).symm⟩;subst e;simp at bL
   ·simp only[Option.map_eq_some_iff] at h;obtain⟨e,he,e2⟩:=h;exact .inr ⟨Nat.eq_of_beq_eq_true bL,e,he,e2.symm⟩
  ·cases h
theorem WD {l:List Nat}{t:Nat}(h:t∈l):ar (vU l) t=true:=by
 induction l with
 |nil=>cases h
 |cons x l ih=>
  have e:vU (x::l)=Nat.lor (dA x) (vU l):=rfl;rw[e,eK];rcases List.mem_cons.1 h with e|e
  ·subst e;rw[pC];rfl
  ·rw[ih e];simp
theorem QB (m:Nat):∀(l:List Sh) (k t:Nat),(rF m k l).getD t .none=if ar m (k+t)=true then .none else l.getD t .none
 |[],k,t=>by simp[rF]
 |s::l,k,0=>by
  simp only[rF,List.getD_cons_zero,Nat.add_zero];cases ar m k<;>rfl
 |s::l,k,t+1=>by
  simp only[rF,List.getD_cons_succ];rw[QB m l (k+1) t,show k+1+t=k+(t+1) by omega]
theorem CO (m:Nat)(S:Snap)(t:Nat):((S.mask m).st ids).r t=if ar m t=true then .none else(S.st ids).r t:=by
 show cr ((rF m 0 S.rs).getD t .none)=if ar m t=true then .none else cr (S.rs.getD t .none);rw[QB,Nat.zero_add];split<;>rfl
theorem awL {m:Nat}{x S:Snap}{t:Nat}(h:ar m t=true):((x.meet (S.mask m)).st ids).r t=.none:=by
 show cr ((List.zipWith iy x.rs (rF m 0 S.rs)).getD t .none)=.none;rcases MT (f:=iy) x.rs (rF m 0 S.rs) t with h0|⟨s,u,h1,h2,h3⟩
 ·rw[h0];rfl
 ·rw[QB,Nat.zero_add,if_pos h] at h2;subst h2;rw[h3];cases s<;>rfl
theorem Inv.maskR {S:Snap}{hv:Nat→Value}(h:Inv C (S.st ids) ρ σ own hv w0 σ0 A a w)(m:Nat):Inv C ((S.mask m).st ids) ρ σ own hv w0 σ0 (fun _=>False) a w:=by
 have hc:Compat (S.st ids) hv ((S.mask m).st ids) hv:=⟨fun _=>Nat.le_refl _,fun _ _=>rfl⟩
 refine h.weaken (fun t=>?_) (fun j=>?_) (Snap.noOpt _ _) (fun j hj=>⟨hj,rfl⟩)
 ·refine aJ.mono' (ρ:=ρ) (.refl σ) hc (Snap.noOpt _ _ t) ?_;rw[CO];split
  ·trivial
  ·exact h.regs t
 ·exact(h.objs j).mono (.refl σ) hc rfl rfl (fun k hk=>⟨hk,rfl⟩)
theorem Tl:∀(ps:List Nat) (ys:List Ty) (l:List Sh),ps.length=ys.length→jo ps=true→∀t,(qD ps ys l).getD t .none=.none∨(t∉ps∧(qD ps ys l).getD t .none=l.getD t .none)∨∃(i:Nat) (y:Ty),ps[i]?=some t∧ys[i]?=some y∧(qD ps ys l).getD t .none=.dat y
 |[],ys,l,_,_,t=>.inr (.inl ⟨by simp,by cases ys<;>rfl⟩)
 |p::ps,[],l,h,_,t=>by simp at h
 |p::ps,y::ys,l,h,hn,t=>by
  have gx:=mQ hn;rw[List.nodup_cons] at gx;have df:jo ps=true:=by
   simp only[jo,Bool.and_eq_true] at hn;exact hn.2
  show(qD ps ys (l.set p (.dat y))).getD t .none=_∨_∨_;rcases Tl ps ys (l.set p (.dat y)) (by simpa using h) df t with e|⟨e1,e2⟩|⟨i,z,e1,e2,e3⟩
  ·exact .inl e
  ·by_cases hp:t=p
   ·subst hp;by_cases af:t<l.length
    ·exact .inr (.inr ⟨0,y,rfl,rfl,by show(qD ps ys (l.set t (.dat y))).getD t .none=_;rw[e2];simp[List.getD_eq_getElem?_getD,af]⟩)
    ·left;rw[e2];simp[List.getD_eq_getElem?_getD,af]
   ·refine .inr (.inl ⟨by simp[hp,e1],?_⟩);show(qD ps ys (l.set p (.dat y))).getD t .none=_;rw[e2];simp only[List.getD_eq_getElem?_getD,List.getElem?_set];rw[if_neg (fun e=>hp e.symm)]
  ·exact .inr (.inr ⟨i+1,z,by simpa using e1,by simpa using e2,e3⟩)
def lM:List Nat→List Value→Array Value→Array Value
 |p::ps,v::vs,T=>lM ps vs (T.setIfInBounds p v)
 |_,_,T=>T
theorem azl (ps:Array Nat)(vs:Array Value)(T:Array Value):(ps.zip vs).foldl (fun T x=>T.setIfInBounds x.1 x.2) T=lM ps.toList vs.toList T:=by
 rw[←Array.foldl_toList,Array.toList_zip];generalize ps.toList=l;generalize vs.toList=k
 induction l generalizing k T with
 |nil=>rfl
 |cons p l ih=>
  cases k with
  |nil=>rfl
  |cons v k=>simpa [lM] using ih (T.setIfInBounds p v) k
theorem agq:∀(ps:List Nat) (vs:List Value) (T:Array Value),(lM ps vs T).size=T.size
 |[],vs,T=>by cases vs<;>rfl
 |p::ps,[],T=>rfl
 |p::ps,v::vs,T=>by simp[lM,agq ps vs]
theorem Mg:∀(ps:List Nat) (vs:List Value) (T:Array Value) (t:Nat),t∉ps→(lM ps vs T).getD t undef=T.getD t undef
 |[],vs,T,t,_=>by cases vs<;>rfl
 |p::ps,[],T,t,_=>rfl
 |p::ps,v::vs,T,t,h=>by
  simp only[List.mem_cons,not_or] at h;simp only[lM];rw[Mg ps vs _ t h.2];simp only[Array.getD_eq_getD_getElem?,Array.getElem?_setIfInBounds];rw[if_neg (fun e=>h.1 e.symm)]
theorem agp:∀(ps:List Nat) (vs:List Value) (T:Array Value) (i t:Nat),ps.Nodup→ps.length=vs.length→(∀p,p∈ps→p<T.size)→ps[i]?=some t→(lM ps vs T).getD t undef=vs.getD i undef
 |p::ps,v::vs,T,0,t,hn,hl,af,h=>by
  simp at h;subst h;rw[List.nodup_cons] at hn;simp only[lM];rw[Mg ps vs _ p hn.1];simp[Array.getElem?_setIfInBounds,af p (List.mem_cons_self ..)]
 |p::ps,v::vs,T,i+1,t,hn,hl,af,h=>by
  rw[List.nodup_cons] at hn;simp only[lM];have:=agp ps vs (T.setIfInBounds p v) i t hn.2 (by simpa using hl) (fun q hq=>by simpa using af q (List.mem_cons_of_mem _ hq)) (by simpa using h);simpa using this
 |p::ps,[],T,i,t,hn,hl,af,h=>by simp at hl
 |[],vs,T,i,t,hn,hl,af,h=>by simp at h
theorem yX (f:Nat→D):∀(ps:List Nat) (vs:List D) (t:Nat),t∉ps→putL f ps vs t=f t
 |[],vs,t,_=>by cases vs<;>rfl
 |p::ps,[],t,_=>rfl
 |p::ps,v::vs,t,h=>by
  simp only[List.mem_cons,not_or] at h;simp only[putL,bk _ _ h.1];exact yX f ps vs t h.2
theorem RM (f:Nat→D):∀(ps:List Nat) (vs:List D) (i t:Nat),ps.Nodup→ps.length=vs.length→ps[i]?=some t→putL f ps vs t=vs.getD i .none
 |p::ps,v::vs,0,t,hn,hl,h=>by
  simp at h;subst h;simp[putL,aQ]
 |p::ps,v::vs,i+1,t,hn,hl,h=>by
  rw[List.nodup_cons] at hn;have ht:t∈ps:=List.mem_of_getElem? (by simpa using h);have aE:t≠p:=fun e=>hn.1 (e▸ht);simp only[putL,bk _ _ aE];have:=RM f ps vs i t hn.2 (by simpa using hl) (by simpa using h);simpa using this
 |p::ps,[],i,t,hn,hl,h=>by simp at hl
 |[],vs,i,t,hn,hl,h=>by simp at h
theorem ax8 (ps:List Nat)(ds:List D)(i:Nat)(h:i<ps.length):(partsOf ps (.tup ds)).getD i .none=ds.getD i .none:=by
 simp[partsOf,List.getD_eq_getElem?_getD,h,D.tget]
theorem ax7 (ps:List Nat)(x:D):(partsOf ps x).length=ps.length:=by simp[partsOf]
theorem Inv.startR {S:Snap}{hv:Nat→Value}(h:Inv C (S.st ids) ρ σ own hv w0 σ0 A a w){ps:List Nat}{ys:List Ty}{args:List Value}{ds:List D}{lo:List Nat}{vo:List D}(hl:ps.length=ys.length)(bu:jo ps=true)(af:∀p,p∈ps→p<a.tmps.size)(ha:pw C σ ys args ds)
 (hρ:ρ=ρ'.put [] [] lo vo):Inv C ((S.start ps ys).st ids) (ρ'.put ps (partsOf ps (.tup ds)) lo vo) σ own hv w0 σ0 (fun _=>False) {tmps:=lM ps args a.tmps,defers:=[]} w:=by
 obtain⟨a1,a2,a3⟩:=ha;have hn:=mQ bu;have hc:Compat (S.st ids) hv ((S.start ps ys).st ids) hv:=⟨fun _=>Nat.le_refl _,fun _ _=>rfl⟩
 have ho:∀j,(ρ'.put ps (partsOf ps (.tup ds)) lo vo).o j=ρ.o j:=fun j=>by rw[hρ];rfl
 refine⟨trivial,h.ok,h.le,h.old,h.newc,h.newm,h.below,h.bw,h.owns,fun t=>?_,fun j=>(h.objs j).mono (.refl σ) hc rfl (ho j) (fun k hk=>⟨hk,rfl⟩),fun t gs s e=>absurd e (Snap.noOpt _ _ t gs s),?_⟩
 ·show aJ C _ _ σ hv (cr ((qD ps ys (S.rs.map rp)).getD t .none)) ((lM ps args a.tmps).getD t undef) (putL ρ'.r ps (partsOf ps (.tup ds)) t);rcases Tl ps ys (S.rs.map rp) hl bu t with e|⟨e1,e2⟩|⟨i,y,e1,e2,e3⟩
  ·rw[e];trivial
  ·rw[e2,Mg _ _ _ _ e1,yX _ _ _ _ e1];have hr:=h.regs t;change aJ C _ ρ σ hv (cr (S.rs.getD t .none)) _ _ at hr;have hρr:ρ.r t=ρ'.r t:=by rw[hρ];show putL ρ'.r [] [] t=_;rfl
   rw[hρr] at hr;have e3:(S.rs.map rp).getD t .none=rp (S.rs.getD t .none):=by
        simp only[List.getD_eq_getElem?_getD,List.getElem?_map];cases S.rs[t]?<;>rfl
   rw[e3];generalize S.rs.getD t .none=s at hr;cases s with
   |yv=>trivial
   |opt gs s=>trivial
   |none=>trivial
   |fclo f c=>exact aJ.mono' (.refl σ) hc (fun _ _ e=>by cases e) hr
   |dat t=>exact hr
   |obj j v=>exact aJ.mono' (.refl σ) hc (fun _ _ e=>by cases e) hr
   |ptr j v o=>exact aJ.mono' (.refl σ) hc (fun _ _ e=>by cases e) hr
   |eptr j v o q=>exact aJ.mono' (.refl σ) hc (fun _ _ e=>by cases e) hr
  ·rw[e3];have hi:i<ps.length:=(List.getElem?_eq_some_iff.1 e1).1;rw[agp ps args a.tmps i t hn (by omega) af e1,RM _ ps _ i t hn (by rw[ax7]) e1,ax8 _ _ _ hi];exact a3 i y e2
 ·obtain⟨t,fx,cx,h1,h2⟩:=h.frame;exact⟨t,fx,cx,h1,fun j hj=>⟨(h2 j hj).1,by rw[ho j];exact(h2 j hj).2⟩⟩
def uF (C:Ctx)(Φ:aS)(fn:Func)(s:Sig)(n:Nat)(ids:List Nat)(R:Array Oper→Bool→Snap→Option (Snap×List PI))(N:Nat)(c:Code):Prop:=
 ∀(rm:Bool) (S:Snap) (r:Res2),comp C fn s n ids R rm c S=some r→∀(rd:Option Nat) (w0:World) (σ0:Base) (wr:Nat→Prop) (ρ:Env) (x:Out) (a:Act) (w:World),(rm=false→rd=none∧σ0.fin)→CtxOK C σ0→nX C Φ w0 σ0→(∀t,t∈cq c→wr t)→a.tmps.size=n→
  Good C w0 σ0 (S.st ids) ρ (fun _=>False) a w→r.pc.ev Φ N ρ=some x→c.wpIn (FR rd) 0 C.P (fZ C w0 σ0 ids fn s rm wr a r.out r.ex x) a w
structure Seg (σ:Im) (own:Nat→Option Nat) (w:World) (σ':Im) (own':Nat→Option Nat) (w':World):Prop where
 le:σ.le σ'
 below:Below 0 w w'
 same:∀k,k<w.heap.size→own k=none→w'.heap[k]?=w.heap[k]?
 ow:∀k j,own' k=some j→(∃i,own k=some i)∨w.heap.size≤k
 imm:∀k,((∃o x,σ'.c k o=some x)∨∃x,σ'.m k=some x)→(∃o x,σ.c k o=some x)∨(∃x,σ.m k=some x)∨(∃i,own k=some i)∨w.heap.size≤k
structure Free (L:Nat) (σ:Im) (own:Nat→Option Nat):Prop where
 own:own L=none
 c:∀o,σ.c L o=none
 m:σ.m L=none
theorem Free.seg {L:Nat}{σ':Im}{own':Nat→Option Nat}{w':World}(h:Free L σ own)(hL:L<w.heap.size)(k:Seg σ own w σ' own' w'):Free L σ' own':=by
 have B2:¬((∃o x,σ'.c L o=some x)∨∃x,σ'.m L=some x):=fun e=>by
  rcases k.imm L e with⟨o,x,e⟩|⟨x,e⟩|⟨i,e⟩|e
  ·rw[h.c o] at e;cases e
  ·rw[h.m] at e;cases e
  ·rw[h.own] at e;cases e
  ·omega
 refine⟨?_,fun o=>?_,?_⟩
 ·cases e:own' L with
  |none=>rfl
  |some j=>
   rcases k.ow L j e with⟨i,e⟩|e
   ·rw[h.own] at e;cases e
   ·omega
 ·cases e:σ'.c L o with
  |none=>rfl
  |some x=>exact absurd (.inl ⟨o,x,e⟩) B2
 ·cases e:σ'.m L with
  |none=>rfl
  |some x=>exact absurd (.inr ⟨x,e⟩) B2
def aho (C:Ctx)(w0:World)(σ0:Base)(ids:List Nat)(wr:Nat→Prop)(a0:Act)(σ:Im)(own:Nat→Option Nat)(w:World)(out:Option Snap)(ex:List (Nat×Snap))(x:Out)(e:Exit)(a':Act)(w':World):Prop:=
 ∃ρ' S' σ' own' hv',Inv C (S'.st ids) ρ' σ' own' hv' w0 σ0 (fun _=>False) a' w'∧Seg σ own w σ' own' w'∧SameBut wr a0 a'∧
  match e with
  |.normal=>x=.next ρ'∧out=some S'
  |.exit id=>x=.exit id ρ'∧id≠cC∧(id,S')∈ex
  |.ret=>x=.exit cC ρ'∧(cC,S')∈ex
  |_=>False
theorem agk {N:Nat}{c:Code}(hc:uF C Φ fn s n ids R N c){S:Snap}{r:Res2}(hr:comp C fn s n ids R true c S=some r)(jO:C.yl=none)(hC:CtxOK C σ0){wr:Nat→Prop}{ρ:Env}{x:Out}{hv:Nat→Value}(h:Inv C (S.st ids) ρ σ own hv w0 σ0 (fun _=>False) a w)
 (gB:∀t,t∈cq c→wr t) (hn:a.tmps.size=n) (he:r.pc.ev Φ N ρ=some x) (L:Nat):c.wpIn (FR (some L)) 0 C.P (aho C w0 σ0 ids wr a σ own w r.out r.ex x) a w:=by
 obtain⟨t,fx,cx,cV,ht⟩:=h.frame;have h1:=h.toRnd (X:=fun _=>False) ht;refine wpIn_mono (hc true S r hr (some L) w0 (σ0.rnd σ own w t fun _=>False) wr ρ x a w (fun e=>by cases e) (hC.mono h.le) (fun J ys e=>by rw[jO] at e;cases e) gB hn ⟨_,_,_,h1⟩ he) fun e a' w' ho=>?_
 have main:∀{S':Snap} {ρ':Env},SameBut wr a a'→Good C w0 (σ0.rnd σ own w t fun _=>False) (S'.st ids) ρ' (fun _=>False) a' w'→∃σ' own' hv',Inv C (S'.st ids) ρ' σ' own' hv' w0 σ0 (fun _=>False) a' w'∧Seg σ own w σ' own' w'∧SameBut wr a a':=by
  intro S' ρ' hs hg;obtain⟨σ',own',hv',h2⟩:=hg;exact⟨σ',own',hv',h.ofRnd cV (fun _ _=>id) h2,⟨h2.le,h.rndBelow h2,fun k hk ho=>Inv.rndSame h.ok h2 hk ho id,fun k j e=>Inv.rndOwn h2 e id,fun k e=>Inv.rndC h2 e id⟩,hs⟩
 cases e with
 |normal=>
  obtain⟨ρ',S',e1,e2,e3,e4⟩:=ho;obtain⟨σ',own',hv',g1,g2,g3⟩:=main e3 e4;exact⟨ρ',S',σ',own',hv',g1,g2,g3,e1,e2⟩
 |exit id=>
  obtain⟨ρ',S',e1,e0,e2,e3,e4⟩:=ho;obtain⟨σ',own',hv',g1,g2,g3⟩:=main e3 e4;exact⟨ρ',S',σ',own',hv',g1,g2,g3,e1,e0,e2⟩
 |ret=>
  obtain⟨ρ',S',e1,e2,e3,e4⟩:=ho;obtain⟨σ',own',hv',g1,g2,g3⟩:=main e3 e4;exact⟨ρ',S',σ',own',hv',g1,g2,g3,e1,e2⟩
 |_=>exact ho.elim
theorem Inv.putL {L:Nat}{hv:Nat→Value}{S:St}{ρ:Env}(h:Inv C S ρ σ own hv w0 σ0 A a w)(hL:w0.heap.size≤L)(hf:Free L σ own)(hx:∀t fx cx,FrOK σ own w0.heap.size σ0 w t fx cx→¬fx L)(o:Obj):Inv C S ρ σ own hv w0 σ0 A a (w.putObj L o):=
 h.keep (X:=fun k=>k≠L) ⟨rfl,rfl,rfl,by simp,fun k hk=>by omega⟩ (fun k hk=>World.putObj_heap_other hk) (fun k hk=>by omega) (fun k j e1 e2=>by subst e2;rw[hf.own] at e1;cases e1) (fun k o v e1 e2=>by subst e2;rw[hf.c] at e1;cases e1)
  (fun k v e1 e2=>by subst e2;rw[hf.m] at e1;cases e1) (fun t fx cx cV k hk e=>by subst e;exact hx t fx cx cV hk)
theorem aCB {o:Oper}{L:Nat}{x:Operand}{as:Array Operand}{ts:Array TypeId}{r:Loop}(bF:o.op=.call {callee:=.value x,args:=as,argTypes:=ts})(hx:a.eval x=.func (.yield L) #[] #[])(hL:w.heap[L]?=some (.loop r))(hs:as.size=r.params.size):
 (execOp a.eval o).run C.P w=.ok (.round L r.fn ((r.params.zip (as.map a.eval)).foldl (fun tmps (t,v)=>tmps.setIfInBounds t v) r.tmps) r.assign r.body) w:=by
 have hy:=run_yield (P:=C.P) (args:=as.map a.eval) hL (by simpa using hs);simp[execOp,bF,resolve,hx,Deferred.ofValue,invoke,hy]
theorem ayy {g:Operand}{f:Nat}{vs:List Value}{L:Nat}(hf:∃fn,C.P.funcs[f]?=some fn∧fn.body.isSome=true∧(fn.name== "runtime.NumGoroutine")=false)(hg:a.eval g=.func (.func f) #[] vs.toArray):
 (resolve a.eval (rangeCall g L) 0).run C.P w=.ok {target:=.fn (.func f) vs.toArray,args:=#[.func (.yield L) #[] #[]]} w∧
 (invoke (.fn (.func f) vs.toArray) #[.func (.yield L) #[] #[]]).run C.P w=.ok (.enter f (#[.func (.yield L) #[] #[]]++vs.toArray)) w:=by
 obtain⟨fn,h1,h2,h3⟩:=hf;obtain⟨bd,hZ⟩:=Option.isSome_iff_exists.1 h2;have h4:¬fn.name= "runtime.NumGoroutine" :=by simpa using h3
 constructor
 ·simp only[resolve,hg];simp[go_sem]
 ·simp[invoke,callFunc,h1,hZ,h4]
theorem FrOK.enter {hv:Nat→Value}{S:St}{ρ:Env}(h:Inv C S ρ σ own hv w0 σ0 A a w){t:D}{fx cx:Nat→Prop}(hf:FrOK σ own w0.heap.size σ0 w t fx cx)(r:Loop):FrOK (σ.mark w.heap.size) own w0.heap.size σ0 ((w.alloc (.deferred (some []))).alloc (.loop r)) t fx cx:=by
 have hb:=Xv w (.deferred (some [])) (.loop r);have af:=σ0.lt _ _ _ _ hf.F;have bV:=σ0.sub _ _ _ _ hf.F;have vq:∀k x,(σ.mark w.heap.size).m k=some x→σ.m k=some x∨k=w.heap.size:=by
  intro k x e;simp only[Im.mark] at e;split at e
  ·rename_i e2;exact .inr e2
  ·exact .inl e
 refine⟨σ0.keep _ _ _ _ _ hf.F (hb.mono (Nat.zero_le _)) fun k hk=>hb.block k (af k hk),hf.own,hf.c,fun k x e hc=>?_,fun k e hB hk=>?_⟩
 ·rcases vq k x e with e|e
  ·exact hf.m k x e hc
  ·have:=af k (bV k hc);omega
 ·rcases vq k _ e with e|e
  ·exact hf.d k e hB hk
  ·have:=af k hk;omega
structure RSt (C:Ctx) (w0:World) (σR:Base) (ids:List Nat) (ρ1:Env) (lo:List Nat) (aM:Act) (L:Nat) (W1:World) (σ1:Im) (rec:LoopState→Option Code→Loop) (xs:List D) (P:Nat→List D→Snap→LoopState→Option Code→Prop) (t:D) (fx cx:Nat→Prop) (w:World):Prop where
 lt:∀k,fx k→k<w.heap.size
 sub:∀k,cx k→fx k
 old:∀k,k<W1.heap.size→fx k
 ex:∃(i:Nat) (vo:List D) (Sx:Snap) (st:LoopState) (pe:Option Code) (σ:Im) (own:Nat→Option Nat) (hv:Nat→Value),t=.list (xs.take i)∧P i vo Sx st pe∧Inv C (Sx.st ids) (ρ1.put [] [] lo vo) σ own hv w0 σR (fun _=>False) aM w∧
  σ1.le σ∧Free L σ own∧w.heap[L]?=some (.loop (rec st pe))∧(∀k j,own k=some j→fx k)∧(∀k o x,σ.c k o=some x→fx k)∧(∀k x,σ.m k=some x→fx k)∧∀k,cx k↔((∃j,own k=some j)∨k=L)
theorem RSt.keep {σR:Base}{ρ1:Env}{lo:List Nat}{aM:Act}{L:Nat}{W1:World}{σ1:Im}{rec:LoopState→Option Code→Loop}{xs:List D}{P:Nat→List D→Snap→LoopState→Option Code→Prop}{t:D}{fx cx:Nat→Prop}{w w':World}
 (h0:w0.heap.size≤W1.heap.size) (hL:L<W1.heap.size) (hR:∀t f c w,σR.F t f c w→∀k,f k→k<W1.heap.size) (h:RSt C w0 σR ids ρ1 lo aM L W1 σ1 rec xs P t fx cx w) (hb:Below 0 w w') (hs:∀k,fx k→w'.heap[k]?=w.heap[k]?):
 RSt C w0 σR ids ρ1 lo aM L W1 σ1 rec xs P t fx cx w':=by
 obtain⟨i,vo,Sx,st,pe,σ,own,hv,e1,e2,e3,e4,e5,e6,e7,e8,e9,e10⟩:=h.ex;refine⟨fun k hk=>Nat.lt_of_lt_of_le (h.lt k hk) hb.size,h.sub,h.old,i,vo,Sx,st,pe,σ,own,hv,e1,e2,?_,e4,e5,(hs L (h.old L hL)).trans e6,e7,e8,e9,e10⟩;exact e3.keep (X:=fx) hb hs (fun k hk=>h.old k (by omega)) e7 e8 e9 (fun t f c hf k hk=>h.old k (hR _ _ _ _ hf.F k hk))
theorem Im.noM_m {σ:Im}{k:Nat}{v:List (Value×Value)}(h:σ.noM.m k=some v):σ.m k=some v∧v≠cI:=by
 simp only[Im.noM] at h;split at h
 ·cases h
 ·rename_i aE;exact⟨h,fun e=>aE (by rw[h,e])⟩
structure SegL (L:Nat) (σ:Im) (own:Nat→Option Nat) (w:World) (σ':Im) (own':Nat→Option Nat) (w':World):Prop where
 le:σ.le σ'
 below:Below 0 w w'
 same:∀k,k<w.heap.size→own k=none→k≠L→w'.heap[k]?=w.heap[k]?
 ow:∀k j,own' k=some j→(∃i,own k=some i)∨w.heap.size≤k
 imm:∀k,((∃o x,σ'.c k o=some x)∨∃x,σ'.m k=some x)→(∃o x,σ.c k o=some x)∨(∃x,σ.m k=some x)∨(∃i,own k=some i)∨w.heap.size≤k
theorem aeU (w:World)(L:Nat)(o:Obj):Below 0 w (w.putObj L o):=⟨rfl,rfl,rfl,by simp,fun k hk=>by omega⟩
theorem Seg.round {L:Nat}{σ' σ'':Im}{own' aeH:Nat→Option Nat}{w' lT:World}{o o':Obj}(h:Seg σ own w σ' own' w')(k:Seg σ' own' (w'.putObj L o) σ'' aeH lT):SegL L σ own w σ'' aeH (lT.putObj L o'):=by
 have aK:=h.below.size;have HP:=k.below.size;simp only[World.putObj_size] at HP;refine⟨h.le.trans k.le,h.below.trans ((aeU _ _ _).trans (k.below.trans (aeU _ _ _))),fun q hq ho hL=>?_,fun q j e=>?_,fun q e=>?_⟩
 ·have h1:own' q=none:=by
   cases e:own' q with
   |none=>rfl
   |some j=>
    rcases h.ow q j e with⟨i,e⟩|e
    ·rw[ho] at e;cases e
    ·omega
  rw[World.putObj_heap_other hL,k.same q (by simp;omega) h1,World.putObj_heap_other hL,h.same q hq ho]
 ·rcases k.ow q j e with⟨i,e⟩|e
  ·exact h.ow q i e
  ·simp only[World.putObj_size] at e;exact .inr (by omega)
 ·rcases k.imm q e with e|e|⟨i,e⟩|e
  ·exact h.imm q (.inl e)
  ·exact h.imm q (.inr e)
  ·rcases h.ow q i e with e|e
   ·exact .inr (.inr (.inl e))
   ·exact .inr (.inr (.inr e))
  ·simp only[World.putObj_size] at e;exact .inr (.inr (.inr (by omega)))
theorem Env.put_self (ρ:Env)(lo:List Nat):ρ.put [] [] lo (lo.map ρ.o)=ρ:=by
 have h2:∀u,putL ρ.o lo (lo.map ρ.o) u=ρ.o u:=fun u=>by rw[rO];split<;>rfl
 show Env.mk ρ.r (putL ρ.o lo (lo.map ρ.o))=ρ;rw[funext h2]
theorem ayz {N:Nat}(fe:fJ C Φ){g:Operand}{ps:Array Tmp}{ca cb:Code}(br:uF C Φ fn s n ids R N ca)(dO:uF C Φ fn s n ids R N cb):uF C Φ fn s n ids R N (.rangeFunc g ps ca cb):=by
 intro rm S r hr rd w0 σ0 wr ρ x a w fQ hC hY gB hn hg he;simp only[comp] at hr;split at hr
 case h_2=>cases hr;exact absurd he (lO _ _ _ _)
 rename_i as rr e jO hu;split at hr
 case h_2=>cases hr;exact absurd he (lO _ _ _ _)
 rename_i ys vF;split at hr
 case h_2=>cases hr;exact absurd he (lO _ _ _ _)
 rename_i q hq;rw[Bool.cond_eq_ite] at hr;split at hr
 case isFalse=>cases hr;exact absurd he (lO _ _ _ _)
 rename_i vb;cases hr;simp only[Bool.and_eq_true] at vb;obtain⟨⟨⟨hl,bu⟩,af⟩,vz⟩:=vb;have hl:=Nat.eq_of_beq_eq_true hl;have vz:=Nat.le_of_ble_eq_true vz;obtain⟨hrd,my⟩:=fQ rfl;subst hrd;obtain⟨hs,xK,_⟩:=CG (C:=C) (w0:=w0) (σ0:=σ0) (ids:=ids) 8 hq;simp only[Option.bind_eq_some_iff] at hs;obtain⟨ra,PO,hs⟩:=hs;split at hs
 case h_2=>cases hs
 rename_i S1 hao Yj;simp only[Option.map_eq_some_iff] at hs;obtain⟨rb,Zm,eE⟩:=hs;have YU:=sn ca PO;have YV:=sn cb Zm;obtain⟨q1,q2⟩:=q;simp only at PO eE vz xK he ⊢;generalize lq:aar ids (q1::q2.ex.map (·.2)) q2.mo=lo at he;generalize oH:((nB cC q2.ex none).bind fun M=>wN C fn s (M.st ids))=rt at he;have Cl:∃f caps d,e.ev ρ=.clo f caps∧Φ f caps=some d∧gO (q2.pc.ev Φ N) (ρ.setR n d) ps.toList lo rt d.l (lo.map ρ.o)=some x:=by
  simp only[PC.ev,PI.runs,PI.run,holds,List.all_nil,cond_true] at he;cases bE:e.ev ρ with
  |clo f caps=>
   rw[bE] at he;simp only[PE.evs,List.nil_append] at he;cases hΦ:Φ f caps with
   |none=>rw[hΦ] at he;simp at he
   |some d=>
    rw[hΦ] at he;simp only[Option.map_some,Option.bind_some,PE.ev,Env.setR,aQ] at he;exact⟨f,caps,d,rfl,hΦ,he⟩
  |_=>rw[bE] at he;simp at he
 obtain⟨f,caps,d,bE,hΦ,he⟩:=Cl;obtain⟨σ,own,hv,i⟩:=hg;have hx:=cd (gs:=[]) i hC rfl hu;rw[bE] at hx;generalize hgv:a.eval g=gv at hx;generalize aX:Ty.fn as rr=ty at hx;cases hx with
 |fn f cs vs ds j3 h1 h2 aR=>
 cases aX;obtain⟨hfn,ats⟩:=fe f cs ys j3 vF;obtain⟨xs,rfl,aH3,Pd⟩:=ats caps d hΦ;simp only[D.l_list] at he;obtain⟨m,lS,hm,jm,HB,ka⟩:=Xt he;have iq0:=ZT 8 hq i
 have iq:Inv C (q1.st ids) (ρ.setR n (.list xs)) σ own hv w0 σ0 (fun _=>False) a w:=by
  refine iq0.env (Snap.noOpt _ _) (fun t ht=>?_) (fun _ _=>rfl);have af:t<q1.rs.length:=by
   refine Nat.lt_of_not_le fun hle=>?_;simp only[Snap.st,List.getD_eq_getElem?_getD,List.getElem?_eq_none hle,Option.getD_none,cr,isNone] at ht;cases ht
  simp[Env.setR,bk _ _ (show t≠n by omega)]
 obtain⟨ρ1,hρ1⟩:∃ρ1,ρ.setR n (.list xs)=ρ1:=⟨_,rfl⟩
 rw[hρ1] at he iq HB ka;have jh:ρ.o=ρ1.o:=by rw[←hρ1];rfl
 rw[jh] at jm;refine wpIn_rangeFunc ?_;intro Oz aHC;obtain⟨L,Ya⟩:∃L,w.heap.size+1=L:=⟨_,rfl⟩
 obtain⟨rec,gT⟩:∃rec:LoopState→Option Code→Loop,rec=fun st pe=>{state:=st,pending:=pe,fn:=Oz,tmps:=a.tmps,params:=ps,assign:=ca,body:=cb,defers:=w.heap.size}:=⟨_,rfl⟩
 have i1:=iq.enter (rec .ready none);obtain⟨t,fx0,cx0,Yy,ht0⟩:=iq.frame;have as4:=σ0.lt _ _ _ _ Yy.F;have O7:=FrOK.enter iq Yy (rec .ready none);have aH1:=iq.below.size;have xE:Free L (σ.mark w.heap.size) own:=by
  refine⟨?_,fun o=>?_,?_⟩
  ·cases e:own L with
   |none=>rfl
   |some j=>have:=(iq.owns L j e).2.1;omega
  ·cases e:σ.c L o with
   |none=>exact e
   |some x=>have:=iq.lt e;omega
  ·simp only[Im.mark,show L≠w.heap.size by omega,if_false];cases e:σ.m L with
   |none=>rfl
   |some x=>have:=iq.ltm e;omega
 have ll:σ.le (σ.mark w.heap.size):=by
  refine⟨fun _ _ _ e=>e,fun k x e=>?_⟩;have:k≠w.heap.size:=by have:=iq.ltm e;omega
  simp[Im.mark,this,e]
 have X7:((w.alloc (.deferred (some []))).alloc (.loop (rec .ready none))).heap[L]?=some (.loop (rec .ready none)):=by
  have:=World.alloc_heap_new (w.alloc (.deferred (some []))) (.loop (rec .ready none));rw[World.size_alloc,Ya] at this;exact this
 obtain⟨W1,ON⟩:∃W1,(w.alloc (.deferred (some []))).alloc (.loop (rec .ready none))=W1:=⟨_,rfl⟩
 have aHs:W1.heap.size=w.heap.size+2:=by rw[←ON];simp
 rw[ON] at i1 O7 X7;have O5:(Instr.enterLoop Oz a.tmps ps ca cb none).run C.P w=.ok (L,[{target:=.collected w.heap.size,args:=#[]}]) W1:=by
  rw[←ON,gT,←Ya];exact run_enterLoop_outer _ _ _ _ _
 obtain⟨σ1,hσ1⟩:∃σ1,σ.mark w.heap.size=σ1:=⟨_,rfl⟩
 rw[hσ1] at i1 O7 xE ll;obtain⟨aM,OO⟩:∃aM:Act,{a with defers:={target:=.collected w.heap.size,args:=#[]}::a.defers}=aM:=⟨_,rfl⟩
 have BM:aM.tmps=a.tmps:=by rw[←OO]
 rw[OO] at i1;have iR:=i1.toRnd (t:=t) (X:=fun k=>k=L) ht0;obtain⟨σR,hσR⟩:∃σR,σ0.rnd σ1 own W1 t (fun k=>k=L)=σR:=⟨_,rfl⟩
 have sJ:∀t' f c w',σR.F t' f c w'→(∀k,f k→k<W1.heap.size∧k≠L)∧∀k,c k→f k∧(∀o,σ1.c k o=none)∧σ1.m k=none:=by
  rw[←hσR];rintro t' f c w' ⟨_,h2,h3,_⟩;exact⟨fun k hk=>⟨((h2 k).1 hk).1,((h2 k).1 hk).2.2.2⟩,fun k hk=>(h3 k).1 hk⟩
 have Ye:CtxOK C σR:=by rw[←hσR];exact hC.mono i1.le
 rw[hσR] at iR
 obtain⟨P,hP⟩:∃P:Nat→List D→Snap→LoopState→Option Code→Prop,P=fun i vo Sx st pe=>(i≤m∧vo=lS i∧Sx=q1∧st=.ready∧pe=none)∨
  (i=m+1∧m<xs.length∧st=.done∧∃y id ρ',xs[m]?=some y∧q2.pc.ev Φ N (ρ1.put ps.toList (partsOf ps.toList y) lo (lS m))=some (.exit id ρ')∧vo=lo.map ρ'.o∧(id,Sx)∈q2.ex∧((id≠cC∧pe=some (.exit id))∨(id=cC∧pe=some .ret))):=⟨_,rfl⟩
 obtain⟨c1,c2⟩:=ayy (C:=C) (w:=W1) (L:=L) hfn hgv;refine⟨L,[{target:=.collected w.heap.size,args:=#[]}],W1,_,W1,f,_,W1,O5,c1,fun _ _=>trivial,c2,(fun e=>by cases e),?_⟩
 refine WQ ((Pd σ1 W1 (.func (.yield L) #[] #[]) vs (RSt C w0 σR ids ρ1 lo aM L W1 σ1 rec xs P) (fun k=>k<W1.heap.size) (fun k=>(∃j,own k=some j)∨k=L) m i1.ok (hC.mono i1.le) ⟨h1,h2,fun j t e=>(aR j t e).mono ll⟩ hm
  (fun t f c w h=>h.lt) (fun t f c w h=>h.sub) (fun t f c w w' h hb hs=>h.keep (by omega) (by omega) (fun t f c w hF k hk=>((sJ t f c w hF).1 k hk).1) hb hs) ?_ ?_ ?_ ?_).mono ?_)
 ·refine⟨fun k hk=>hk,fun k hk=>?_,fun k hk=>hk,0,lS 0,q1,.ready,none,σ1,own,hv,by simp,by rw[hP];exact .inl ⟨Nat.zero_le _,rfl,rfl,rfl,rfl⟩,?_,.refl σ1,xE,X7,fun k j e=>(iR.owns k j e).2.1,fun k o x e=>iR.lt e,fun k x e=>iR.ltm e,fun k=>.rfl⟩
  ·rcases hk with⟨j,e⟩|e
   ·exact(iR.owns k j e).2.1
   ·show k<W1.heap.size;omega
  ·rw[jm,Env.put_self];exact iR
 ·rintro k o x e (⟨j,hj⟩|rfl)
  ·have:=(iR.owns k j hj).2.2.1 o;rw[e] at this;cases this
  ·rw[xE.c] at e;cases e
 ·rintro k x e (⟨j,hj⟩|rfl)
  ·have:=(iR.owns k j hj).2.2.2;rw[e] at this;cases this
  ·rw[xE.m] at e;cases e
 ·intro i fx cx w1 σx args ds' hi dx hF hσx jd gQ mu dg cW rd' o a' x' as ts K Q bF bW Yh hK;have aHE:i<xs.length:=(List.getElem?_eq_some_iff.1 dx).1;obtain⟨i',vo,Sx,st,pe,σa,wh,hva,e1,e2,iA,Hx,BK,G9,Pv,Yo,B8,xI⟩:=hF.ex;have hii:i'=i:=by
   have h9:=congrArg List.length (congrArg D.l e1);simp only[D.l_list,List.length_take] at h9;omega
  subst hii;rw[hP] at e2;rcases e2 with⟨_,rfl,BL,rfl,rfl⟩|⟨e2,_⟩
  case inr=>omega
  rw[BL] at iA;have Yb:L<w1.heap.size:=hF.lt L (hF.old L (by omega));have Hi:cx L:=(xI L).2 (.inr rfl)
  have atT:∀k o v,σx.c k o=some v→wh k=none:=fun k o v e=>by
   cases e2:wh k with
   |none=>rfl
   |some j=>exact absurd ((xI k).2 (.inl ⟨j,e2⟩)) (gQ k o v e)
  have Cc:∀k v,σx.m k=some v→wh k=none:=fun k v e=>by
   cases e2:wh k with
   |none=>rfl
   |some j=>exact absurd ((xI k).2 (.inl ⟨j,e2⟩)) (mu k v e)
  have hτok:σx.noM.ok w1:=⟨hσx.c,fun k v e=>hσx.m k v (Im.noM_m e).1⟩
  have iB:=iA.joinIm (τ:=σx.noM) hτok (fun k e=>(Im.noM_m e).2 rfl) atT (fun k v e=>Cc k v (Im.noM_m e).1)
   (fun k o v e=>(dg k o v e).imp (fun e=>Hx.c k o v e) fun e=>by omega) (fun k v e=>(cW k v (Im.noM_m e).1).imp (fun e=>Hx.m k v e) fun e=>by omega)
   (fun t' f c hf=>⟨fun k o v e hc=>by
        obtain⟨g1,g2,g3⟩:=(sJ _ _ _ _ hf.F).2 k hc;rcases dg k o v e with e|e
        ·rw[g2 o] at e;cases e
        ·have:=((sJ _ _ _ _ hf.F).1 k g1).1;omega,fun k v e hc=>by
        obtain⟨g1,g2,g3⟩:=(sJ _ _ _ _ hf.F).2 k hc;rcases cW k v (Im.noM_m e).1 with e|e
        ·rw[g3] at e;cases e
        ·have:=((sJ _ _ _ _ hf.F).1 k g1).1;omega⟩)
  have X5:Free L (σa.plus σx.noM) wh:=by
   refine⟨BK.own,fun o=>?_,?_⟩
   ·cases e:(σa.plus σx.noM).c L o with
    |none=>rfl
    |some v=>
     rcases Im.plus_c e with e|e
     ·rw[BK.c] at e;cases e
     ·exact absurd Hi (gQ L o v e)
   ·cases e:(σa.plus σx.noM).m L with
    |none=>rfl
    |some v=>
     rcases Im.plus_m e with e|e
     ·rw[BK.m] at e;cases e
     ·exact absurd Hi (mu L v (Im.noM_m e).1)
  have p5:ps.toList.length=ys.length:=by rw[Array.length_toList];exact hl.symm
  have asw:pw C (σa.plus σx.noM) ys args ds':=⟨jd.1,jd.2.1,fun j t e=>((jd.2.2 j t e).noM).mono (Im.plus_le2 iA.ok hτok)⟩
  have iC:=iB.startR (ρ':=ρ1) p5 bu (fun p hp=>by
   have:=List.all_eq_true.1 af p hp;rw[BM,hn];simpa [Nat.blt_eq] using this) asw rfl
  have hpu:∃xi,q2.pc.ev Φ N (ρ1.put ps.toList (partsOf ps.toList (.tup ds')) lo (lS i'))=some xi∧((i'<m∧∃ρ',xi=.next ρ'∧lo.map ρ'.o=lS (i'+1))∨(i'=m∧m<xs.length∧∃id ρ',xi=.exit id ρ')):=by
   by_cases j9:i'<m
   ·obtain⟨y,ρ',g1,g2,g3⟩:=HB i' j9;rw[dx] at g1;cases g1;exact⟨_,g2,.inl ⟨j9,ρ',rfl,g3⟩⟩
   ·obtain rfl:i'=m:=by omega
    rcases ka with⟨g1,_⟩|⟨g1,y,id,ρ',g2,g3,_⟩
    ·omega
    ·rw[dx] at g2;cases g2;exact⟨_,g3,.inr ⟨rfl,g1,id,ρ',rfl⟩⟩
  obtain⟨xi,rB,Qe⟩:=hpu;have av:q2.pc=.seq ra.pc rb.pc:=by rw[←eE];rfl
  rw[av] at rB;have aK:(lM ps.toList args aM.tmps).size=n:=by rw[agq,BM,hn]
  refine⟨fun _ _=>trivial,?_⟩;rw[Oper.semAt_eq _ _ _ (fun c e=>by rw[bF] at e;cases e)];have asy:as.size=ps.size:=by
   have:=jd.1;rw[←Yh,List.length_map,Array.length_toList] at this;omega
  have ak:=aCB (C:=C) bF bW G9 (by rw[gT];exact asy);have aun:(rec .ready none).fn=Oz∧(rec .ready none).tmps=a.tmps∧(rec .ready none).params=ps∧(rec .ready none).assign=ca∧(rec .ready none).body=cb:=by rw[gT];exact⟨rfl,rfl,rfl,rfl,rfl⟩
  obtain⟨r1,r2,r3,r4,r5⟩:=aun;rw[r1,r2,r3,r4,r5] at ak
  have oI:(ps.zip (as.map a'.eval)).foldl (fun tmps (t,v)=>tmps.setIfInBounds t v) a.tmps=lM ps.toList args aM.tmps:=by
   rw[BM,←Yh,←Array.toList_map];exact azl ps (as.map a'.eval) a.tmps
  rw[oI] at ak;rw[ak];refine⟨(fun e=>by cases e),?_⟩;refine roundIn_of_wpIn (F:=FR rd') trivial ?_;show ca.wpIn (FR (some L)) 0 C.P _ _ _;cases lu:ra.pc.ev Φ N (ρ1.put ps.toList (partsOf ps.toList (.tup ds')) lo (lS i')) with
  |none=>simp only[PC.ev,lu] at rB;cases rB
  |some xa=>
  refine wpIn_mono (agk br PO jO Ye iC (wr:=fun t=>t∈cq ca) (fun _ h=>h) aK lu L) fun e2 a1 VY auv=>?_;obtain⟨ρ2,S2,σ2,gV,gh,iD,kJ,iu,jL⟩:=auv;cases e2 with
  |normal=>
   obtain⟨rfl,xF⟩:=jL;rw[hao] at xF;cases xF;simp only[PC.ev,lu] at rB;have X8:VY.heap[L]?=some (.loop (rec .ready none)):=(kJ.same L Yb X5.own).trans G9;have OI:=X5.seg Yb kJ;have OJ:L<VY.heap.size:=(Array.getElem?_eq_some_iff.1 X8).1;have G8:w0.heap.size≤L:=by omega
   refine⟨_,run_beginRound X8 (by rw[gT]),?_⟩;have iE:=iD.putL G8 OI (fun t' f c hf BX=>((sJ _ _ _ _ hf.F).1 L BX).2 rfl) (.loop {rec .ready none with state:=.busy});have hL3:(VY.putObj L (.loop {rec .ready none with state:=.busy})).heap[L]?=some (.loop {rec .ready none with state:=.busy}):=World.putObj_heap_same OJ;show cb.wpIn (FR (some L)) 0 C.P _ _ _;refine wpIn_mono (agk dO Zm jO Ye iE (wr:=fun t=>t∈cq cb) (fun _ h=>h) (iu.size.trans aK) rB L) fun e3 a3 w3 auw=>?_;obtain⟨ρ3,S3,σ3,wg,Cu,iF,HO,aut,nu⟩:=auw;have X9:w3.heap[L]?=some (.loop {rec .ready none with state:=.busy}):=(HO.same L (by simpa using OJ) OI.own).trans hL3;have X4:=OI.seg (by simpa using OJ) HO;have asc:L<w3.heap.size:=(Array.getElem?_eq_some_iff.1 X9).1;obtain⟨mk,xQ⟩:∃mk,Nat.lor (vU (ps.toList++cq ca++cq cb)) (Nat.lor ra.mr rb.mr)=mk:=⟨_,rfl⟩
   have atK:∀t,ar mk t=false→t∉ps.toList∧t∉cq ca∧t∉cq cb∧ar ra.mr t=false∧ar rb.mr t=false:=by
        intro t ht;rw[←xQ,eK,eK,Bool.or_eq_false_iff,Bool.or_eq_false_iff] at ht;obtain⟨t1,t2,t3⟩:=ht;have:t∉ps.toList++cq ca++cq cb:=fun hm=>by rw[WD hm] at t1;cases t1
        simp only[List.mem_append,not_or] at this;exact⟨this.1.1,this.1.2,this.2,t2,t3⟩
   have PR:∀t,ar mk t=false→aM.tmps.getD t undef=a3.tmps.getD t undef∧(ρ1.put [] [] lo (lo.map ρ3.o)).r t=ρ3.r t:=by
        intro t ht;obtain⟨t1,t2,t3,t4,t5⟩:=atK t ht;refine⟨?_,?_⟩
        ·rw[aut.get t t3,iu.get t t2];exact(Mg _ _ _ _ t1).symm
        ·have hb3:∀ρ',xi=.next ρ'∨(∃id,xi=.exit id ρ')→ρ'.r t=ρ2.r t:=fun ρ' h=>by
          have ve:xi.env?=some ρ':=by rcases h with h|⟨id,h⟩<;>rw[h]<;>rfl
          exact(PC.ev_but rb.pc _ _ ρ' rB ve).r t fun hm=>by rw[YV.1 t hm] at t5;cases t5
         have dX:ρ2.r t=putL ρ1.r ps.toList (partsOf ps.toList (.tup ds')) t:=(PC.ev_but ra.pc _ _ ρ2 lu rfl).r t fun hm=>by rw[YU.1 t hm] at t4;cases t4
         rw[yX _ _ _ _ t1] at dX;show ρ1.r t=ρ3.r t;rw[hb3 ρ3 (by
          cases e3 with
          |normal=>exact .inl nu.1
          |exit id=>exact .inr ⟨id,nu.1⟩
          |ret=>exact .inr ⟨_,nu.1⟩
          |_=>exact nu.elim),dX]
   have Pn:q2.mo=iP ra.mo rb.mo:=by rw[←eE];rfl
   have Py:∀j,j∉q2.mo→ρ3.o j=ρ1.o j:=by
        intro j hj;rw[Pn,oM,not_or] at hj;have ve:xi.env?=some ρ3:=by
         cases e3 with
         |normal=>rw[nu.1];rfl
         |exit id=>rw[nu.1];rfl
         |ret=>rw[nu.1];rfl
         |_=>exact nu.elim
        rw[(PC.ev_but rb.pc _ _ ρ3 rB ve).o j fun hm=>hj.2 (YV.2 j hm),(PC.ev_but ra.pc _ _ ρ2 lu rfl).o j fun hm=>hj.1 (YU.2 j hm)]
        exact yX _ _ _ _ fun hm=>by
         rw[←lq] at hm;have:=(List.mem_filter.1 hm).1;rw[Pn,oM] at this;exact this.elim hj.1 hj.2
   have Px:∀(S:Snap),S∈(q1::q2.ex.map (·.2))→∀j,nw ((S.st ids).o j)=false→(ρ1.put [] [] lo (lo.map ρ3.o)).o j=ρ3.o j:=by
        intro S hS j hj;show putL ρ1.o lo (lo.map ρ3.o) j=ρ3.o j;rw[rO];split
        ·rfl
        ·rename_i eD;refine(Py j fun sT=>eD ?_).symm;rw[←lq];exact List.mem_filter.2 ⟨sT,List.any_eq_true.2 ⟨S,hS,by simpa [Snap.st] using hj⟩⟩
   have fin:∀(jump:Option Code) (Sx:Snap),Inv C (Sx.st ids) (ρ1.put [] [] lo (lo.map ρ3.o)) σ3 wg Cu w0 σR (fun _=>False) aM w3→P (i'+1) (lo.map ρ3.o) Sx (if jump.isNone then .ready else .done) jump→jump.isNone=decide (i'<m)→
        ∃v w',(Instr.endRound L jump).run C.P w3=.ok v w'∧K (a'.put o.dst v) w':=by
        intro jump Sx iG hPn sT;refine⟨_,_,run_endRound jump X9,?_⟩;have aum:({{rec .ready none with state:=.busy} with state:=if jump.isNone then .ready else .done,pending:=jump}:Loop)=rec (if jump.isNone then .ready else .done) jump:=by rw[gT]
        rw[aum];have aR:=kJ.round (L:=L) (o':=.loop (rec (if jump.isNone then .ready else .done) jump)) HO;have iH:=iG.putL G8 X4 (fun t' f c hf BX=>((sJ _ _ _ _ hf.F).1 L BX).2 rfl) (.loop (rec (if jump.isNone then .ready else .done) jump));obtain⟨w4,Qa⟩:∃w4,w3.putObj L (.loop (rec (if jump.isNone then .ready else .done) jump))=w4:=⟨_,rfl⟩
        have hL5:w4.heap[L]?=some (.loop (rec (if jump.isNone then .ready else .done) jump)):=by rw[←Qa];exact World.putObj_heap_same asc
        have aH6:w4.heap.size=w3.heap.size:=by rw[←Qa];simp
        rw[Qa] at aR iH ⊢;have aHr:W1.heap.size≤w1.heap.size:=by
         have:=hF.lt (W1.heap.size-1) (hF.old _ (by omega));omega
        have aH2:=aR.below.size
        refine hK _ _ ⟨by rw[sT],aR.below,fun k hk hc=>aR.same k hk (by
         cases e:wh k with
         |none=>rfl
         |some j=>exact absurd ((xI k).2 (.inl ⟨j,e⟩)) hc) (fun e=>hc (by rw[e];exact Hi)),(fun k=>k<w4.heap.size∧(k<W1.heap.size∨(∃j,wg k=some j)∨(∃o x,σ3.c k o=some x)∨∃x,σ3.m k=some x)),(fun k=>(∃j,wg k=some j)∨k=L),?_,?_,?_⟩
        ·refine⟨fun k hk=>hk.1,fun k hk=>?_,fun k hk=>⟨by omega,.inl hk⟩,i'+1,lo.map ρ3.o,Sx,_,jump,σ3,wg,Cu,rfl,hPn,iH,Hx.trans ((Im.plus_le1 _ _).trans aR.le),X4,hL5,fun k j e=>⟨(iH.owns k j e).2.1,.inr (.inl ⟨j,e⟩)⟩,fun k o x e=>⟨iH.lt e,.inr (.inr (.inl ⟨o,x,e⟩))⟩,fun k x e=>⟨iH.ltm e,.inr (.inr (.inr ⟨x,e⟩))⟩,fun k=>.rfl⟩;rcases hk with⟨j,e⟩|e
         ·exact⟨(iH.owns k j e).2.1,.inr (.inl ⟨j,e⟩)⟩
         ·exact⟨by omega,.inl (by omega)⟩
        ·rintro k ⟨_,hk⟩ cD
         have B2:((∃o x,σ3.c k o=some x)∨∃x,σ3.m k=some x)→fx k∨(∃o x,σx.c k o=some x)∨(∃x,σx.m k=some x∧x≠cI):=fun h=>by
          rcases aR.imm k h with⟨o,x,e⟩|⟨x,e⟩|⟨j,e⟩|e
          ·rcases Im.plus_c e with e|e
           ·exact .inl (Yo k o x e)
           ·exact .inr (.inl ⟨o,x,e⟩)
          ·rcases Im.plus_m e with e|e
           ·exact .inl (B8 k x e)
           ·exact .inr (.inr ⟨x,(Im.noM_m e).1,(Im.noM_m e).2⟩)
          ·exact .inl (Pv k j e)
          ·omega
         rcases hk with hk|⟨j,e⟩|e|e
         ·exact .inl (hF.old k hk)
         ·rcases aR.ow k j e with⟨j',e⟩|e
          ·exact .inl (Pv k j' e)
          ·omega
         ·exact B2 (.inl e)
         ·exact B2 (.inr e)
        ·rintro k (⟨j,e⟩|e) cD
         ·rcases aR.ow k j e with⟨j',e⟩|e
          ·exact(xI k).2 (.inl ⟨j',e⟩)
          ·omega
         ·rw[e];exact Hi
   have nl:jX σ3 w0.heap.size aM.defers:=iA.defers.mono ((Im.plus_le1 _ _).trans (kJ.le.trans HO.le));have PL:q2.out=rb.out.map (Snap.mask mk)∧q2.ex=rb.ex.map (fun x=>(x.1,x.2.mask mk)):=by rw[←eE,←xQ];exact⟨rfl,rfl⟩
   cases e3 with
   |normal=>
    obtain⟨e4,e5⟩:=nu;have hT:q2.out=some (S3.mask mk):=by rw[PL.1,e5];rfl
    have Yz:=xK _ hT
    have iG:Inv C (q1.st ids) ρ3 σ3 wg Cu w0 σR (fun _=>False) a3 w3:=by
        have:=Snap.meet_ok2 (x:=q1) (iF.maskR mk)
        rwa [Yz] at this
    have iH:=iG.restore (ρ':=ρ1.put [] [] lo (lo.map ρ3.o)) (a':=aM) (Snap.noOpt _ _) nl (fun t ht=>PR t (by
        cases e:ar mk t with
        |false=>rfl
        |true=>
         have h9:=awL (x:=q1) (S:=S3) (ids:=ids) e;rw[Yz] at h9;rw[h9] at ht;cases ht)) (fun j hj=>Px q1 (List.mem_cons_self ..) j hj)
    rcases Qe with⟨j9,ρ',e6,e7⟩|⟨_,_,id,ρ',e6⟩
    ·rw[e4] at e6;cases e6;exact fin none q1 iH (by rw[hP];exact .inl ⟨by omega,e7,rfl,rfl,rfl⟩) (by simp[j9])
    ·rw[e4] at e6;cases e6
   |exit id=>
    obtain⟨e4,e5,e6⟩:=nu;have cS:(id,S3.mask mk)∈q2.ex:=by rw[PL.2];exact List.mem_map.2 ⟨_,e6,rfl⟩
    have iH:=(iF.maskR mk).restore (ρ':=ρ1.put [] [] lo (lo.map ρ3.o)) (a':=aM) (Snap.noOpt _ _) nl (fun t ht=>PR t (by
        cases e:ar mk t with
        |false=>rfl
        |true=>rw[CO,if_pos e] at ht;cases ht)) (fun j hj=>Px (S3.mask mk) (List.mem_cons_of_mem _ (List.mem_map.2 ⟨_,cS,rfl⟩)) j hj)
    rcases Qe with⟨j9,ρ',e7,_⟩|⟨j9,rv,bG,ρ',e7⟩
    ·rw[e4] at e7;cases e7
    ·subst j9;refine fin (some (.exit id)) (S3.mask mk) iH ?_ (by simp);rw[hP];refine .inr ⟨rfl,rv,rfl,_,id,ρ3,dx,?_,rfl,cS,.inl ⟨e5,rfl⟩⟩;rw[av];simp only[PC.ev,lu];rw[rB,e4]
   |ret=>
    obtain⟨e4,e6⟩:=nu;have cS:(cC,S3.mask mk)∈q2.ex:=by rw[PL.2];exact List.mem_map.2 ⟨_,e6,rfl⟩
    have iH:=(iF.maskR mk).restore (ρ':=ρ1.put [] [] lo (lo.map ρ3.o)) (a':=aM) (Snap.noOpt _ _) nl (fun t ht=>PR t (by
        cases e:ar mk t with
        |false=>rfl
        |true=>rw[CO,if_pos e] at ht;cases ht)) (fun j hj=>Px (S3.mask mk) (List.mem_cons_of_mem _ (List.mem_map.2 ⟨_,cS,rfl⟩)) j hj)
    rcases Qe with⟨j9,ρ',e7,_⟩|⟨j9,rv,bG,ρ',e7⟩
    ·rw[e4] at e7;cases e7
    ·subst j9;refine fin (some .ret) (S3.mask mk) iH ?_ (by simp);rw[hP];refine .inr ⟨rfl,rv,rfl,_,cC,ρ3,dx,?_,rfl,cS,.inr ⟨rfl,rfl⟩⟩;rw[av];simp only[PC.ev,lu];rw[rB,e4]
   |_=>exact nu.elim
  |exit id=>obtain⟨_,_,e6⟩:=jL;rw[Yj] at e6;cases e6
  |ret=>obtain⟨_,e6⟩:=jL;rw[Yj] at e6;cases e6
  |_=>exact jL.elim
 ·rintro e' w' ⟨⟨v,rfl⟩,fx,cx,hF⟩;rw[show({tmps:=a.tmps,defers:=[{target:=Target.collected w.heap.size,args:=#[]}]++a.defers}:Act)=aM from OO];obtain⟨i',vo,Sx,st,pe,σa,wh,hva,e1,e2,iA,Hx,BK,G9,Pv,Yo,B8,xI⟩:=hF.ex;have h9:=congrArg List.length (congrArg D.l e1);simp only[D.l_list,List.length_take] at h9;have cA:(rec st pe).state≠.busy:=by
   rw[hP] at e2;rw[gT];rcases e2 with⟨_,_,_,e3,_⟩|⟨_,_,e3,_⟩<;>(rw[e3];intro e;cases e)
  have sY:(rec st pe).pending=pe:=by rw[gT]
  have O6:(Instr.endLoop L).run C.P w'=.ok pe (w'.putObj L (.loop {rec st pe with state:=.exhausted})):=(run_endLoop (P:=C.P) G9 cA).trans (congrArg (fun z=>Result.ok z _) sY);have iF:=iA.putL (by omega:w0.heap.size≤L) BK (fun t' f c hf BX=>((sJ _ _ _ _ hf.F).1 L BX).2 rfl) (.loop {rec st pe with state:=.exhausted});rw[←hσR] at iF;have iG:=i1.ofRnd O7 (fun k hk e=>by have:=as4 k hk;omega) iF;have jN:SameBut wr a aM:=⟨by rw[BM],fun t _=>by rw[BM]⟩
  refine⟨pe,_,O6,?_⟩;rw[hP] at e2;rcases e2 with⟨e3,rfl,BL,_,rfl⟩|⟨rfl,rv,_,y,id,ρ',g1,g2,rfl,g4,g5⟩
  ·rcases ka with⟨g1,g2⟩|⟨g1,_⟩
   ·obtain rfl:i'=m:=by omega
    rw[BL] at iG;exact⟨_,q1,g2,rfl,jN,_,_,_,iG⟩
   ·omega
  ·rcases ka with⟨g6,_⟩|⟨_,y',bG,ρ'',k1,k2,k3⟩
   ·omega
   ·rw[g1] at k1;cases k1;rw[g2] at k2;cases k2;rcases k3 with⟨k3,k4⟩|⟨k3,pe',k4,k5⟩
    ·rcases g5 with⟨_,rfl⟩|⟨g5,_⟩
     ·exact wpIn_exit ⟨_,Sx,k4,k3,List.mem_filter.2 ⟨g4,by simp[ez k3]⟩,jN,_,_,_,iG⟩
     ·exact absurd g5 k3
    ·rcases g5 with⟨g5,_⟩|⟨_,rfl⟩
     ·exact absurd k3 g5
     ·subst k3;rw[←oH,Option.bind_eq_some_iff] at k4;obtain⟨M,hM,PQ⟩:=k4;obtain⟨M',Yc,rn⟩:=QD (⟨_,_,_,iG⟩:Good C w0 σ0 (Sx.st ids) _ (fun _=>False) aM _) q2.ex none g4;rw[hM] at Yc;cases Yc;obtain⟨σm,aI2,Zy,im⟩:=rn;exact wpIn_ret ⟨_,k5,Inv.retD hC (fun _=>rfl) my PQ _ im rfl,jN⟩
theorem aav {arr:Array MapEntry}{clock:Nat}(hb:lV arr clock){idx:List Nat}(hi:∀i,i∈idx→i<arr.size){i:Nat}{e:MapEntry}(he:arr[i]?=some e):(fH arr idx).contains e.born=true↔i∈idx:=by
 simp only[fH,List.contains_toArray,List.contains_iff_mem,List.mem_map];constructor
 ·rintro⟨j,hj,h⟩;have af:=hi j hj;rw[Array.getElem?_eq_getElem af] at h;simp only at h;have:=hb.2 j i arr[j] e (Array.getElem?_eq_getElem af) he h;rw[←this];exact hj
 ·intro h;exact⟨i,h,by rw[he]⟩
theorem azh (arr:Array MapEntry)(idx:List Nat){i:Nat}{e:MapEntry}(he:arr[i]?=some e):(fH arr idx).push e.born=fH arr (idx++[i]):=by
 simp[fH,he]
theorem aw1 {P:Program}{w:World}{k m:Nat}{arr:Array MapEntry}{clock:Nat}{idx:List Nat}(hk:w.heap[k]?=some (.mapIter (some m) clock (fH arr idx) clock))(hm:w.heap[m]?=some (.map arr clock))(hb:lV arr clock)(hi:∀i,i∈idx→i<arr.size)(T:TypeId):
 ∃w1:World,(w1=w∨w1=w.drew)∧(((∀i,i<arr.size→i∈idx)∧(Instr.next (.pointer (some ⟨k,0,none⟩)) false T).run P w=.ok (.tuple #[.bool false]) w1)∨
  ∃i e,arr[i]?=some e∧i∉idx∧(Instr.next (.pointer (some ⟨k,0,none⟩)) false T).run P w=.ok (.tuple #[.bool true,e.key,e.val]) {w1 with heap:=w1.heap.setIfInBounds k (.mapIter (some m) clock (fH arr (idx++[i])) clock)}):=by
 have cS:∀{e:MapEntry},e∈arr→∃i:Nat,arr[i]?=some e:=fun he=>by
  obtain⟨i,hi,rfl⟩:=Array.mem_iff_getElem.1 he;exact⟨i,Array.getElem?_eq_getElem hi⟩
 have hold:∀(l:Array MapEntry),(∀e,e∈l→e.born<clock)→l.filter (fun x=>decide (x.born<clock))=l:=fun l h=>by
  rw[Array.filter_eq_self];intro e he;simpa using h e he
 have kH:∀(l:Array MapEntry),(∀e,e∈l→e.born<clock)→l.filter (fun x=>decide (x.born≥clock))=#[]:=fun l h=>by
  rw[Array.filter_eq_empty_iff];intro e he;have:=h e he;simp;omega
 have Yk:∀e,e∈arr→e.born<clock:=fun e he=>by obtain⟨i,hi⟩:=cS he;exact hb.1 i e hi
 have ff:(!(fH arr idx).isEmpty&& !arr.isEmpty&&arr.all (fun x=>decide (x.born≥clock)))=false:=by
  cases ha:arr.isEmpty
  ·have aE:arr.size≠0:=by simpa using ha
   have:arr.all (fun x=>decide (x.born≥clock))=false:=by
        rw[Bool.eq_false_iff];intro h;rw[Array.all_eq_true] at h;have h0:=h 0 (by omega);have h1:=Yk arr[0] (Array.getElem_mem _);simp at h0;omega
   rw[this,Bool.and_false]
  ·simp
 let left:=arr.filter fun e=> !(fH arr idx).contains e.born
 have hl:∀e,e∈left→e.born<clock:=fun e he=>Yk e (Array.mem_filter.1 he).1;by_cases hz:left.size=0
 ·refine⟨w,.inl rfl,.inl ⟨fun i af=>?_,?_⟩⟩
  ·by_cases bC:i∈idx
   ·exact bC
   ·exfalso;have Hy:arr[i]∈left:=Array.mem_filter.2 ⟨Array.getElem_mem _,by
     have:=aav hb hi (Array.getElem?_eq_getElem af);cases hc:(fH arr idx).contains arr[i].born with
     |false=>rfl
     |true=>exact absurd (this.1 hc) bC⟩
    have:left=#[]:=Array.eq_empty_of_size_eq_zero hz;rw[this] at Hy;simp at Hy
  ·have he:left=#[]:=Array.eq_empty_of_size_eq_zero hz;have kF:arr.filter (fun e=> !(fH arr idx).contains e.born)=#[]:=he;simp only[Instr.next,getObj,Sem.run_bind,Sem.run,hk,hm,Result.andThen_ok,ff,kF];simp[Question.forced,Sem.run]
 ·have gw:left.filter (fun x=>decide (x.born<clock))=left:=hold left hl;have j6:left.filter (fun x=>decide (x.born≥clock))=#[]:=kH left hl;have hem:left.isEmpty=false:=by simpa using hz
  have key:∀c,c<left.size→∃i e,arr[i]?=some e∧i∉idx∧left[c]?=some e:=fun c hc=>by
   have Hy:left[c]∈left:=Array.getElem_mem _;obtain⟨h1,h2⟩:=Array.mem_filter.1 Hy;obtain⟨i,du⟩:=cS h1;refine⟨i,left[c],du,fun bC=>?_,Array.getElem?_eq_getElem hc⟩;rw[(aav hb hi du).2 bC] at h2;cases h2
  obtain⟨w1,c,gA,hc,pV⟩:∃w1 c,(w1=w∨w1=w.drew)∧c<left.size∧(choose (.mapNext left.size)).run P w=.ok c w1:=by
   by_cases h1:left.size≤1
   ·exact⟨w,0,.inl rfl,by omega,by simp[Question.forced,h1]⟩
   ·exact⟨w.drew,_,.inr rfl,Nat.mod_lt _ (by omega),by simp[Question.forced,h1,Question.cut];rfl⟩
  obtain⟨i,e,h1,h2,h3⟩:=key c hc;refine⟨w1,gA,.inr ⟨i,e,h1,h2,?_⟩⟩;have vk:arr.filter (fun e=> !(fH arr idx).contains e.born)=left:=rfl;have gR:(getObj k).run P w=.ok (.mapIter (some m) clock (fH arr idx) clock) w:=by simp[getObj,Sem.run,hk]
  have fy:(getObj m).run P w=.ok (.map arr clock) w:=by simp[getObj,Sem.run,hm]
  have cD:w1.heap[k]?=some (.mapIter (some m) clock (fH arr idx) clock):=by rcases gA with rfl|rfl<;>exact hk
  have YA:(setObj k (.mapIter (some m) clock ((fH arr idx).push e.born) clock)).run P w1=.ok () {w1 with heap:=w1.heap.setIfInBounds k (.mapIter (some m) clock ((fH arr idx).push e.born) clock)}:=by simp[setObj,Sem.run,cD]
  have asD:((if false=true then #[none] else #[])++Array.map some (left++#[]):Array (Option MapEntry))=left.map some:=by simp
  have gQ:(left.map some)[c]?=some (some e):=by simp[h3]
  have YC:∀(Ag:Array (Option MapEntry)) (cc:Nat),(choose (.mapNext Ag.size)).run P w=.ok cc w1→Ag[cc]?=some (some e)→(do
        match Ag[←choose (.mapNext Ag.size)]? with
        |some (some e)=>
         setObj k (.mapIter (some m) clock ((fH arr idx).push e.born) clock)
         pure (.tuple #[.bool true,e.key,e.val])
        |some none=>(pure (.tuple #[.bool false]):Sem Value)
        |none=>stuck "Next: no such candidate" :Sem Value).run P w=.ok (.tuple #[.bool true,e.key,e.val]) {w1 with heap:=w1.heap.setIfInBounds k (.mapIter (some m) clock ((fH arr idx).push e.born) clock)}:=by
   intro Ag cc h4 h5;rw[Sem.run_bind,h4];simp only[Result.andThen_ok,h5];rw[Sem.run_bind,YA];rfl
  rw[azh arr idx h1] at YC YA;have:=YC (left.map some) c (by rw[Array.size_map];exact pV) gQ;simp only[Instr.next];rw[Sem.run_bind,gR];simp only[Result.andThen_ok];rw[Sem.run_bind,fy];simp only[Result.andThen_ok,ff,vk,gw,j6,hem];rw[asD,if_neg (by decide)];exact this
theorem aoO {P:Program}{w:World}{k m:Nat}{arr:Array MapEntry}{clock:Nat}{idx:List Nat}{i:Nat}{e:MapEntry}(hk:w.heap[k]?=some (.mapIter (some m) clock (fH arr (idx++[i])) clock))(hm:w.heap[m]?=some (.map arr clock))(hb:lV arr clock)(he:arr[i]?=some e):
 (Instr.entry (.pointer (some ⟨k,0,none⟩))).run P w=.ok (.tuple #[e.key,e.val]) w:=by
 have asB:(fH arr (idx++[i])).back?=some e.born:=by simp[fH,he]
 have BY:arr.find? (fun x=>x.born==e.born)=some e:=by
  have af:i<arr.size:=(Array.getElem?_eq_some_iff.1 he).1;have hei:arr[i]=e:=(Array.getElem?_eq_some_iff.1 he).2;rw[Array.find?_eq_some_iff_getElem];refine⟨by simp,i,af,hei,fun j hj=>?_⟩;have eD:j<arr.size:=by omega
  cases hc:(arr[j].born==e.born) with
  |false=>rfl
  |true=>
   have:=hb.2 j i arr[j] e (Array.getElem?_eq_getElem eD) he (by simpa using hc);omega
 simp[Instr.entry,getObj,Sem.run_bind,Sem.run,hk,hm,asB,BY]
theorem awF {x y z:Code}{k:Nat}{p:MP}(h:yt x y k z=some p):∃i1 i2 o1 o2 o3 l,x=.region i1 p.ops1 false∧y=.cond (.tmp p.mo) .skip (.exit p.out)∧z=.region i2 p.ops2 false∧p.next=k∧p.ops1.toList=[o1,o2]∧p.ops2.toList=o3::l∧
 o1.dst=some p.nx∧o1.guard=none∧o1.op=.next (.tmp p.it) false∧o2.dst=some p.mo∧o2.guard=none∧o2.op=.extract (.tmp p.nx) 0∧o3.dst=some p.pr∧o3.guard=none∧o3.op=.entry (.tmp p.it)∧kj p.pr l []=some p.as∧
 p.it≠p.nx∧p.it≠p.mo∧p.it≠p.pr∧p.nx≠p.mo∧p.out≠cC∧k≠cC:=by
 unfold yt at h;split at h
 case h_2=>cases h
 rename_i i1 ops1 mo out i2 ops2;split at h
 case h_2=>cases h
 rename_i o1 o2 o3 l e1 e2;split at h
 case h_2=>cases h
 rename_i nx it mo' nx' pr ZS d1 g1 q1 d2 g2 q2 d3 g3 q3;rw[Bool.cond_eq_ite] at h;split at h
 case isFalse=>cases h
 rename_i hc;simp only[Option.map_eq_some_iff] at h;obtain⟨as,h4,rfl⟩:=h;simp only[Bool.and_eq_true,Bool.not_eq_true'] at hc;obtain⟨⟨⟨⟨⟨⟨⟨⟨c1,c2⟩,c3⟩,c4⟩,c5⟩,c6⟩,c7⟩,c8⟩,c9⟩:=hc;have ne:∀{a b:Nat},Nat.beq a b=false→a≠b:=fun h e=>by subst e;simp at h
 obtain rfl:=Nat.eq_of_beq_eq_true c1;obtain rfl:=Nat.eq_of_beq_eq_true c2;obtain rfl:=Nat.eq_of_beq_eq_true c3;exact⟨i1,i2,o1,o2,o3,l,rfl,rfl,rfl,rfl,e1,e2,d1,g1,q1,d2,g2,q2,d3,g3,q3,h4,ne c4,ne c5,ne c6,ne c7,ne c8,ne c9⟩
theorem II {pr:Nat}:∀(l:List Oper) {acc as:List (Nat×Nat)},kj pr l acc=some as→∀x,x∈acc→x∈as
 |[],acc,as,h,x,hx=>by simp only[kj,Option.some.injEq] at h;subst h;exact hx
 |o::l,acc,as,h,x,hx=>by
  simp only[kj] at h;split at h
  case h_2=>cases h
  rw[Bool.cond_eq_ite] at h;split at h
  ·cases h
  split at h
  ·rw[Bool.cond_eq_ite] at h;split at h
   ·exact II l h x (List.mem_append_left _ hx)
   ·cases h
  ·simp only[Option.bind_eq_some_iff] at h;obtain⟨i,_,h⟩:=h;exact II l h x (List.mem_append_left _ hx)
  ·simp only[Option.bind_eq_some_iff] at h;obtain⟨i,_,h⟩:=h;exact II l h x (List.mem_append_left _ hx)
  ·cases h
theorem CL:∀{l:List (Nat×Nat)} {t i:Nat},tE l t=some i→(t,i)∈l
 |x::l,t,i,h=>by
  simp only[tE] at h;cases hb:Nat.beq x.1 t<;>simp only[hb,cond_true,cond_false] at h
  ·exact List.mem_cons_of_mem _ (CL h)
  ·cases h;have:=Nat.eq_of_beq_eq_true hb;subst this;exact List.mem_cons_self ..
theorem aan:∀{l:List (Nat×Nat)} {t:Nat},(tE l t).isSome=false→∀x,x∈l→x.1≠t
 |y::l,t,h,x,hx=>by
  simp only[tE] at h;cases hb:Nat.beq y.1 t<;>simp only[hb,cond_true,cond_false] at h
  ·rcases List.mem_cons.1 hx with e|hx
   ·subst e;intro e;subst e;simp at hb
   ·exact aan h x hx
  ·cases h
theorem RD {pr:Nat}:∀(l:List Oper) {acc as:List (Nat×Nat)},kj pr l acc=some as→(∀x,x∈acc→x.2≤1)→∀x,x∈as→x∈acc∨(x.2≤1∧∃o,o∈l∧o.dst=some x.1)
 |[],acc,as,h,_,x,hx=>by simp only[kj,Option.some.injEq] at h;subst h;exact .inl hx
 |o::l,acc,as,h,ha,x,hx=>by
  simp only[kj] at h;split at h
  case h_2=>cases h
  rename_i d hd jJ;rw[Bool.cond_eq_ite] at h;split at h
  ·cases h
  have go:∀(pt:Nat),pt≤1→kj pr l (acc++[(d,pt)])=some as→x∈acc∨(x.2≤1∧∃o',o'∈o::l∧o'.dst=some x.1):=by
   intro pt sZ hp
   rcases RD l hp (fun y hy=>by
        rcases List.mem_append.1 hy with h|h
        ·exact ha y h
        ·simp at h;subst h;exact sZ) x hx with h|⟨h1,o',h2,h3⟩
   ·rcases List.mem_append.1 h with h|h
    ·exact .inl h
    ·simp at h;subst h;exact .inr ⟨sZ,o,List.mem_cons_self ..,hd⟩
   ·exact .inr ⟨h1,o',List.mem_cons_of_mem _ h2,h3⟩
  split at h
  ·rw[Bool.cond_eq_ite] at h;split at h
   case isFalse=>cases h
   rename_i gQ;simp only[Bool.and_eq_true] at gQ;exact go _ (Nat.le_of_ble_eq_true gQ.2) h
  ·simp only[Option.bind_eq_some_iff] at h;obtain⟨i,hi,h⟩:=h;exact go i (ha _ (CL hi)) h
  ·simp only[Option.bind_eq_some_iff] at h;obtain⟨i,hi,h⟩:=h;exact go i (ha _ (CL hi)) h
  ·cases h
theorem yS {P:Program}{ops:Array Oper}{i:Nat}{rest:List Nat}{o:Oper}{rd:Option Nat}{a:Act}{w w':World}{Q:Exit→Act→World→Prop}{v:Value}(ho:ops[i]?=some o)(hg:o.guard=none)(bu:rK o.op=true)(hx:(execOp a.eval o).run P w=.ok (.value v) w')
 (k:wpOpsIn (FR rd) 0 P ops Q rest (a.put o.dst v) w'):wpOpsIn (FR rd) 0 P ops Q (i::rest) a w:=by
 simp only[wpOpsIn,ho];rw[if_pos (by simp[Region.wanted,hg])];exact aeF bu (by unfold Oper.wp;rw[hx];exact k)
theorem azc {ops:Array Oper}{o:Oper}(ho:o∈ops.toList)(a:Act)(v:Value):SameBut (pG ops) a (a.put o.dst v):=by
 have:=SameBut.put a o.dst v a.defers;exact this.mono fun t e=>⟨o,ho,e⟩
theorem yY {a:Act}{d:Nat}{v:Value}(h:d<a.tmps.size):(a.put (some d) v).tmps.getD d undef=v:=by rw[Ep];simp[h]
theorem La {a:Act}{d t:Nat}{v:Value}(h:t≠d):(a.put (some d) v).tmps.getD t undef=a.tmps.getD t undef:=by rw[Ep];simp[h]
theorem put_defers (a:Act)(d:Option Nat)(v:Value):(a.put d v).defers=a.defers:=by cases d<;>rfl
def C5 (kv vv:Value)(i:Nat):Value:=if i=0 then kv else vv
theorem aeO {P:Program}{ops:Array Oper}{rd:Option Nat}{Q:Exit→Act→World→Prop}{pr:Nat}{kv vv:Value}{w:World}:∀(l:List Oper) (acc as:List (Nat×Nat)) (i:Nat) (a:Act),kj pr l acc=some as→ops.toList.drop i=l→(∀x,x∈as→x.1<a.tmps.size)→a.tmps.getD pr undef=.tuple #[kv,vv]→
 (∀x,x∈acc→a.tmps.getD x.1 undef=C5 kv vv x.2)→(∀a',SameBut (pG ops) a a'→a'.defers=a.defers→(∀x,x∈as→a'.tmps.getD x.1 undef=C5 kv vv x.2)→Q .normal a' w)→wpOpsIn (FR rd) 0 P ops Q (List.range' i (ops.size-i)) a w
 |[],acc,as,i,a,h,hl,af,oF,BN,hQ=>by
  simp only[kj,Option.some.injEq] at h;subst h;have:ops.size-i=0:=by
    have:=List.drop_eq_nil_iff.1 hl;simp at this;omega
  rw[this];exact hQ a (.refl _ _) rfl BN
 |o::l,acc,as,i,a,h,hl,af,oF,BN,hQ=>by
  have hi:i<ops.toList.length:=by
   refine Nat.lt_of_not_le fun hle=>?_;rw[List.drop_eq_nil_iff.2 hle] at hl;cases hl
  rw[List.drop_eq_getElem_cons hi] at hl;have ho:ops[i]?=some o:=by
   have:ops.toList[i]=o:=by injection hl
   rw[←this];simp at hi ⊢
  have xP:ops.toList.drop (i+1)=l:=by injection hl
  have aK:ops.size-i=(ops.size-(i+1))+1:=by simp at hi;omega
  rw[aK,List.range'_succ];have cS:o∈ops.toList:=by simpa using Array.mem_of_getElem? ho
  simp only[kj] at h;split at h
  case h_2=>cases h
  rename_i d hd jJ;rw[Bool.cond_eq_ite] at h;split at h
  ·cases h
  rename_i hc;simp only[Bool.or_eq_true,not_or,Bool.not_eq_true] at hc;have hdp:pr≠d:=fun e=>by subst e;simp at hc
  have hda:∀x,x∈acc→x.1≠d:=aan hc.2;have go:∀(pt:Nat) (v:Value),kj pr l (acc++[(d,pt)])=some as→rK o.op=true→v=C5 kv vv pt→(execOp a.eval o).run P w=.ok (.value v) w→wpOpsIn (FR rd) 0 P ops Q (i::List.range' (i+1) (ops.size-(i+1))) a w:=by
   intro pt v hp bu hv hx;have O1:d<a.tmps.size:=af _ (II l hp (d,pt) (by simp));refine yS ho jJ bu hx ?_;have jN:=azc cS a v;rw[hd] at jN ⊢;refine aeO l _ as (i+1) _ hp xP (fun x hx=>by rw[jN.size];exact af x hx) (by rw[La hdp];exact oF) (fun x hx=>?_) (fun a' h1 h2 h3=>hQ a' (jN.trans h1) (h2.trans (put_defers _ _ _)) h3);rcases List.mem_append.1 hx with hx|hx
   ·rw[La (hda x hx)];exact BN x hx
   ·simp at hx;subst hx;rw[yY O1];exact hv
  split at h
  ·rename_i t pt e;rw[Bool.cond_eq_ite] at h;split at h
   case isFalse=>cases h
   rename_i gQ;simp only[Bool.and_eq_true] at gQ;have ht:=Nat.eq_of_beq_eq_true gQ.1;have sZ:=Nat.le_of_ble_eq_true gQ.2;subst ht;have bE:a.eval (.tmp t)=.tuple #[kv,vv]:=by simpa [Act.eval] using oF
   refine go pt (C5 kv vv pt) h (by rw[e];rfl) rfl ?_;rcases(by omega:pt=0∨pt=1) with rfl|rfl<;>simp[execOp,e,bE,Instr.extract,C5]
  ·rename_i t e;simp only[Option.bind_eq_some_iff] at h;obtain⟨pt,vk,h⟩:=h;have:=BN _ (CL vk);exact go pt (a.eval (.tmp t)) h (by rw[e];rfl) (by simpa [Act.eval] using this) (by simp[execOp,e])
  ·rename_i t e;simp only[Option.bind_eq_some_iff] at h;obtain⟨pt,vk,h⟩:=h;have:=BN _ (CL vk);exact go pt (a.eval (.tmp t)) h (by rw[e];rfl) (by simpa [Act.eval] using this) (by simp[execOp,e])
  ·cases h
theorem Qn (ids:List Nat)(J j:Nat)(S:Snap):((S.kill ids J).st ids).o j=if j=J then .dead else(S.st ids).o j:=by
 show db ids (vM ids J S.os) j=_;have:∀(is:List Nat) (os:List Ob),db is (vM is J os) j=if j=J then .dead else db is os j:=by
  intro is
  induction is with
  |nil=>intro os;simp[vM,db]
  |cons i is ih=>
   intro os;cases os with
   |nil=>simp[vM,db]
   |cons o os=>
    simp only[vM,db];cases hb:Nat.beq i j
    ·simp only[cond_false];exact ih os
    ·have:=Nat.eq_of_beq_eq_true hb;subst this;simp only[cond_true];by_cases cw:i=J
     ·subst cw;simp
     ·simp[ez cw,cw]
 exact this ids S.os
theorem WI {N:Nat}{id:Nat}(Hq:id≠cC){rm:Bool}{wr:Nat→Prop}{a:Act}{q:Res2}{x xi:Out}(pX:(∀t,t∈q.pc.modR→ar q.mr t=true)∧∀j,j∈q.pc.modO→j∈q.mo)(dx:q.pc.ev Φ N ρ=some xi)(bE:(fK ids id q).pc.ev Φ N ρ=some x){e:Exit}{a':Act}{w':World}
 (fP:fZ C w0 σ0 ids fn s rm wr a q.out q.ex xi e a' w'):Exit.inBlock id (fZ C w0 σ0 ids fn s rm wr a (fK ids id q).out (fK ids id q).ex x) e a' w':=by
 have Yw:∀bG S1,(bG,S1)∈q.ex→bG≠id→(bG,S1)∈q.ex.filter fun x=> !Nat.beq x.1 id:=fun bG S1 hm aE=>List.mem_filter.2 ⟨hm,by simp[ez aE]⟩;have main:∀(o:Option Snap) (lr lo:List Nat),nB id q.ex q.out=o→(∀M,o=some M→lr=jS M q.mr∧lo=ix ids M q.mo)→(PC.block id lr lo q.pc).ev Φ N ρ=some x→
        Exit.inBlock id (fZ C w0 σ0 ids fn s rm wr a o (q.ex.filter fun x=> !Nat.beq x.1 id) x) e a' w':=by
  intro o lr lo ho hl bE;simp only[PC.ev] at bE;rw[dx] at bE
  have fin:∀{ρ1:Env} {a':Act} {w':World},(∃M,o=some M∧Good C w0 σ0 (M.st ids) ρ1 (fun _=>False) a' w')→xi.env?=some ρ1→x=.next (ρ.join lr lo ρ1)→SameBut wr a a'→
   fZ C w0 σ0 ids fn s rm wr a o (q.ex.filter fun x=> !Nat.beq x.1 id) x .normal a' w':=by
        intro ρ1 a' w' hM ve hx dj;obtain⟨M,hM,rn⟩:=hM;obtain⟨l1,l2⟩:=hl M hM;subst l1 l2;exact⟨_,M,hx,hM,dj,rn.joined (PC.ev_but q.pc ρ _ ρ1 dx ve) pX.1 pX.2⟩
  cases e with
  |normal=>
   obtain⟨ρ1,S2,e1,e2,dj,fy⟩:=fP;subst e1;simp only[Option.some.injEq] at bE;refine fin ?_ rfl bE.symm dj;rw[e2] at ho;obtain⟨M,h1,h2⟩:=Ie (id:=id) q.ex fy;rw[ho] at h1;exact⟨M,h1,h2⟩
  |exit bG=>
   obtain⟨ρ1,S2,e1,e0,e2,dj,fy⟩:=fP;subst e1;simp only at bE;show if bG=id then _ else _;by_cases bL:bG=id
   ·subst bL;simp only[Nat.beq_refl,cond_true,Option.some.injEq] at bE;simp only[if_true];refine fin ?_ rfl bE.symm dj;rw[←ho];exact QD fy q.ex q.out e2
   ·simp only[ez bL,cond_false,Option.some.injEq] at bE;subst bE;simp only[bL,if_false];exact⟨ρ1,S2,rfl,e0,Yw _ _ e2 bL,dj,fy⟩
  |ret=>
   cases rm with
   |false=>
    have hy:=fP;obtain⟨d,e1,_⟩:=hy;subst e1;simp only[Option.some.injEq] at bE;subst bE;exact fP
   |true=>
    obtain⟨ρ1,S2,e1,e2,dj,fy⟩:=fP;subst e1;simp only[ez (fun e=>Hq e.symm:cC≠id),cond_false,Option.some.injEq] at bE;subst bE;exact⟨ρ1,S2,rfl,Yw _ _ e2 (fun e=>Hq e.symm),dj,fy⟩
  |_=>exact fP.elim
 unfold fK at bE ⊢;cases hm:nB id q.ex q.out with
 |none=>
  simp only[hm] at bE ⊢;exact main none [] [] hm (fun M e=>by cases e) bE
 |some M=>
  simp only[hm] at bE ⊢;exact main (some M) _ _ hm (fun M' e=>by cases e;exact⟨rfl,rfl⟩) bE
theorem WG {N id:Nat}{q:Res2}{x:Out}(bE:(fK ids id q).pc.ev Φ N ρ=some x):∃xi,q.pc.ev Φ N ρ=some xi:=by
 unfold fK at bE;cases hm:nB id q.ex q.out<;>simp only[hm,PC.ev] at bE<;>cases dx:q.pc.ev Φ N ρ<;>first|exact⟨_,rfl⟩|(rw[dx] at bE;cases bE)
theorem agi {es:List (D×D)}{idx:List Nat}(hn:idx.Nodup)(af:∀i,i∈idx→i<es.length)(aR:∀i,i<es.length→i∈idx):(fU es idx).Perm (gE (.map es)):=by
 have h1:idx.Perm (List.range es.length):=by
  rw[List.perm_ext_iff_of_nodup hn List.nodup_range];intro i;rw[List.mem_range];exact⟨af i,aR i⟩
 have h2:fU es (List.range es.length)=gE (.map es):=by
  refine List.ext_getElem (by simp[fU,gE,D.m]) fun i g1 g2=>?_;have hi:i<es.length:=by simpa [fU] using g1
  simp[fU,gE,D.m,List.getElem?_eq_getElem hi]
 rw[←h2];exact h1.map _
theorem azi {es:List (D×D)}{idx:List Nat}(hn:idx.Nodup)(af:∀i,i∈idx→i<es.length):∃rest,(fU es idx++rest).Perm (gE (.map es)):=by
 refine⟨fU es ((List.range es.length).filter fun i=> !idx.contains i),?_⟩;have e:fU es idx++fU es ((List.range es.length).filter fun i=> !idx.contains i)=fU es (idx++(List.range es.length).filter fun i=> !idx.contains i):=by simp[fU]
 rw[e];refine agi ?_ (fun i hi=>?_) (fun i hi=>?_)
 ·rw[List.nodup_append];refine⟨hn,List.nodup_range.filter _,fun a ha b hb e=>?_⟩;subst e;have:=(List.mem_filter.1 hb).2;simp[ha] at this
 ·rcases List.mem_append.1 hi with h|h
  ·exact af i h
  ·exact List.mem_range.1 (List.mem_filter.1 h).1
 ·by_cases h:i∈idx
  ·exact List.mem_append_left _ h
  ·exact List.mem_append_right _ (List.mem_filter.2 ⟨List.mem_range.2 hi,by simp[h]⟩)
theorem agj (es:List (D×D))(idx:List Nat){i:Nat}{p:D×D}(h:es[i]?=some p):fU es (idx++[i])=fU es idx++[.tup [p.1,p.2]]:=by simp[fU,h]
theorem awH {N:Nat}{x y z code:Code}{k:Nat}{p:MP}(hp:yt x y k z=some p)(ihc:uF C Φ fn s n ids R N code){rm:Bool}{S:Snap}{r:Res2}
 (hr:yu ids n p (cq x++(cq y++(cq z++cq code))) (fun S=>comp C fn s n ids R rm code S) S=some r) {rd:Option Nat} {wr:Nat→Prop} {x0:Out} (fQ:rm=false→rd=none∧σ0.fin) (hC:CtxOK C σ0) (hY:nX C Φ w0 σ0)
 (gB:∀t,t∈cq (.loop (.seq x (.seq y (.block k (.seq z code)))))→wr t) (hn:a.tmps.size=n) (hg:Good C w0 σ0 (S.st ids) ρ (fun _=>False) a w) (he:r.pc.ev Φ N ρ=some x0):
 (Code.loop (.seq x (.seq y (.block k (.seq z code))))).wpIn (FR rd) 0 C.P (fZ C w0 σ0 ids fn s rm wr a r.out r.ex x0) a w:=by
 obtain⟨i1,i2,o1,o2,o3,l,rfl,rfl,rfl,hk,e1,e2,d1,g1,q1,d2,g2,q2,d3,g3,q3,mG,n1,n2,n3,n4,n5,n6⟩:=awF hp;subst hk;unfold yu at hr;split at hr
 case h_2=>cases hr;exact absurd he (lO _ _ _ _)
 rename_i J hJ;split at hr
 case h_2=>cases hr;exact absurd he (lO _ _ _ _)
 rename_i kt et Hv;simp only at hr;split at hr
 case h_2=>cases hr;exact absurd he (lO _ _ _ _)
 rename_i q hq;rw[Bool.cond_eq_ite] at hr;split at hr
 case isFalse=>cases hr;exact absurd he (lO _ _ _ _)
 rename_i vb;cases hr;generalize HU:cq (.region i1 p.ops1 false)++(cq (.cond (.tmp p.mo) .skip (.exit p.out))++(cq (.region i2 p.ops2 false)++cq code))=ws at*;simp only[Bool.and_eq_true,Bool.not_eq_true'] at vb;obtain⟨⟨⟨⟨⟨⟨⟨⟨c1,c2⟩,c3⟩,c4⟩,c5⟩,c6⟩,c7⟩,c8⟩,c9⟩:=vb;have hex:q.2.ex=[]:=List.isEmpty_iff.1 c1;have X6:J∉q.2.mo:=fun h=>by rw[(oL _ _).2 h] at c2;cases c2
 simp only[ZP,Bool.and_eq_true,Bool.not_eq_true'] at c3;obtain⟨⟨c3a,c3b⟩,c3c⟩:=c3;have aup:q.1.rs.getD p.it .none=.obj J 0:=Sh.beq_eq _ _ c3a;have HE:db ids q.1.os J=.it kt et:=Ob.beq_eq _ _ c3b;have aug:∀t,t∈p.as.map (·.1)→t<n:=fun t ht=>by have:=List.all_eq_true.1 c5 t ht;rwa [Nat.blt_eq] at this
 have Pu:p.nx<n:=by rwa [Nat.blt_eq] at c6
 have Pn:p.mo<n:=by rwa [Nat.blt_eq] at c7
 have oF:p.pr<n:=by rwa [Nat.blt_eq] at c8
 have xR:=Nat.eq_of_beq_eq_true c9;obtain⟨hs,xK,bC⟩:=CG (C:=C) (w0:=w0) (σ0:=σ0) (ids:=ids) 8 hq;simp only[Option.map_eq_some_iff] at hs;obtain⟨q0,oG,eE⟩:=hs;obtain⟨qS,qR⟩:=q;simp only at*;subst eE;generalize hm:vU ws=m at*;generalize lq:ix ids qS (fK ids p.next q0).mo=lo at*;have Pp:=WH (ids:=ids) (id:=p.next) (sn code oG);have atA:∀j,j∈lo→j∈(fK ids p.next q0).mo:=fun j hj=>by rw[←lq] at hj;exact yw hj
 have aHm:J∉lo:=fun h=>X6 (atA J h);have Cl:∃zA,K4 ((fK ids p.next q0).pc.ev Φ N) ρ J (p.as.map (·.1)) (p.as.map (·.2)) lo zA∧x0=.exit p.out (ρ.put [] [] lo zA):=by
  simp only[PC.ev] at he;cases oF:K5 ((fK ids p.next q0).pc.ev Φ N) ρ J (p.as.map (·.1)) (p.as.map (·.2)) lo with
  |none=>rw[oF] at he;cases he
  |some y=>
   obtain⟨zA,h1,rfl⟩:=yV.1 oF;rw[oF] at he;simp only[Option.some.injEq] at he;exact⟨zA,h1,he.symm⟩
 obtain⟨zA,⟨Ch,asr⟩,yg⟩:=Cl;generalize ib:(ρ.o J).tget 1=es at*
 have gA:∀o,o∈p.ops1.toList→∀d,o.dst=some d→d∈ws:=fun o ho d hd=>by
  rw[←HU];exact List.mem_append_left _ (List.mem_filterMap.2 ⟨o,ho,hd⟩)
 have fl:∀o,o∈p.ops2.toList→∀d,o.dst=some d→d∈ws:=fun o ho d hd=>by
  rw[←HU];exact List.mem_append_right _ (List.mem_append_right _ (List.mem_append_left _ (List.mem_filterMap.2 ⟨o,ho,hd⟩)))
 have hwc:∀d,d∈cq code→d∈ws:=fun d hd=>by
  rw[←HU];exact List.mem_append_right _ (List.mem_append_right _ (List.mem_append_right _ hd))
 have Qc:∀t,t∈ws→wr t:=fun t ht=>gB t (by rw[←HU] at ht;exact ht);have rA:∀t,t∈ws→ar m t=true:=fun t ht=>by rw[←hm];exact WD ht
 have Pm:∀t,ar m t=true→((qS.mask m).st ids).r t=.none:=fun t ht=>by rw[CO,if_pos ht]
 have atI:∀t,isNone (((qS.mask m).st ids).r t)=false→ar m t=false:=fun t ht=>by
  cases hb:ar m t with
  |false=>rfl
  |true=>rw[Pm t hb] at ht;cases ht
 have kc:((qS.mask m).st ids).r p.it=.obj J 0:=by
  rw[CO,c3c];show cr (qS.rs.getD p.it .none)=_;rw[aup];rfl
 have cE:((qS.mask m).st ids).o J=.it kt et:=HE;have jh:p.ops1[0]?=some o1:=by rw[←Array.getElem?_toList,e1];rfl
 have jK:p.ops1[1]?=some o2:=by rw[←Array.getElem?_toList,e1];rfl
 have ho3:p.ops2[0]?=some o3:=by rw[←Array.getElem?_toList,e2];rfl
 have auH:List.range p.ops1.size=[0,1]:=by
  have:p.ops1.size=2:=by rw[←Array.length_toList,e1];rfl
  rw[this];rfl
 have HP:List.range p.ops2.size=0::List.range' 1 (p.ops2.size-1):=by
  have:p.ops2.size=l.length+1:=by rw[←Array.length_toList,e2];rfl
  rw[this,List.range_eq_range',List.range'_succ];rfl
 have key:∀(kk:Nat) (done vo:List D) (a':Act) (w':World),SameBut wr a a'→Good C w0 σ0 ((qS.mask m).st ids) ((ρ.put [] [] lo vo).setO J (.tup [.list done,es])) (fun _=>False) a' w'→
  (∀ys,(done++ys).Perm (gE es)→nG ((fK ids p.next q0).pc.ev Φ N) ρ J es (p.as.map (·.1)) (p.as.map (·.2)) lo ys done vo=some zA)→done.length+kk=(gE es).length+1→
  Code.roundsIn (FR rd) 0 C.P (.seq (.region i1 p.ops1 false) (.seq (.cond (.tmp p.mo) .skip (.exit p.out)) (.block p.next (.seq (.region i2 p.ops2 false) code)))) (fZ C w0 σ0 ids fn s rm wr a none [(p.out,(qS.mask m).kill ids J)] x0) kk a' w':=by
  intro kk
  induction kk with
  |zero=>
   intro done vo a' w' _ fg _ hlen;exfalso;obtain⟨σ,own,hv,h⟩:=fg;have be:=h.objs J;rw[cE] at be;obtain⟨kb,mb,arr,clock,fM,idx,h1,h2,h3,aE,h4,h5,h6,h7,h8,h9,gP,rj⟩:=be;simp only[Env.setO,aQ] at h6;injection h6 with h6;injection h6 with uX uY;injection uY with uY _;injection uX with uX;subst uX;subst uY;have hle:idx.length≤arr.size:=by
        have:=List.Nodup.length_le_of_subset h7 (l₂:=List.range arr.size) (fun i hi=>List.mem_range.2 (h8 i hi));simpa using this
   simp[fU,gE,D.m] at hlen;omega
  |succ kk ih=>
   intro done vo a' w' jN fg aR hlen;rw[roundsIn_succ];obtain⟨σ,own,hv,h⟩:=fg;have be:=h.objs J;rw[cE] at be;obtain⟨kb,mb,arr,clock,fM,idx,h1,h2,h3,aE,h4,h5,h6,h7,h8,h9,gP,rj⟩:=be;simp only[Env.setO,aQ] at h6;injection h6 with h6;injection h6 with uX uY;injection uY with uY _;injection uX with uX;subst uX;subst uY;have jk:=h.regs p.it;rw[kc] at jk;have Hs:a'.eval (.tmp p.it)=.pointer (some ⟨kb,0,none⟩):=by
        have:=jk.2 rfl;simp only[Act.eval];rw[this];exact h1
   have p9:a'.tmps.size=n:=jN.size.trans hn;obtain⟨w1,ZA,HB⟩:=aw1 (P:=C.P) h5 h4 gP h8 o1.type;have Cw:Below w'.heap.size w' w1:=by rcases ZA with rfl|rfl;exact .refl _ _;exact⟨rfl,rfl,rfl,Nat.le_refl _,fun _ _=>rfl⟩
   have yc:w1.heap=w'.heap:=by rcases ZA with rfl|rfl<;>rfl
   have YN:kb<w'.heap.size:=(h.owns kb J h2).2.1;have rv:mb<w'.heap.size:=(h.owns mb J h3).2.1;refine wpIn_seq (wpIn_region ?_);rw[auH];rcases HB with⟨O8,ak⟩|⟨i,e,mz,vh,ak⟩
   ·
        refine yS jh g1 (by rw[q1];rfl) (v:=.tuple #[.bool false]) (w':=w1) (by simp only[execOp,q1,Hs];simp[ak]) ?_;rw[d1]
        refine yS jK g2 (by rw[q2];rfl) (v:=.bool false) (w':=w1) (by
         have:(a'.put (some p.nx) (.tuple #[.bool false])).eval (.tmp p.nx)=.tuple #[.bool false]:=by simp only[Act.eval];exact yY (by omega)
         simp only[execOp,q2,this];simp[Instr.extract]) ?_
        rw[d2];simp only[wpOpsIn]
        have vA:SameBut (fun t=>t∈ws) a' ((a'.put (some p.nx) (.tuple #[.bool false])).put (some p.mo) (.bool false)):=by
         have s1:=SameBut.put a' (some p.nx) (.tuple #[.bool false]) a'.defers;have s2:=SameBut.put (a'.put (some p.nx) (.tuple #[.bool false])) (some p.mo) (.bool false) (a'.put (some p.nx) (.tuple #[.bool false])).defers;exact(s1.mono fun t e=>by cases e;exact gA o1 (by rw[e1];simp) _ d1).trans (s2.mono fun t e=>by cases e;exact gA o2 (by rw[e1];simp) _ d2)
        generalize u7:(a'.put (some p.nx) (.tuple #[.bool false])).put (some p.mo) (.bool false)=a1 at vA;have Po:a1.eval (.tmp p.mo)=.bool false:=by
         rw[←u7];simp only[Act.eval];exact yY (by rw[size_put];omega)
        have nl:a1.defers=a'.defers:=by rw[←u7,put_defers,put_defers]
        refine wpIn_seq (wpIn_cond_false Po (wpIn_exit ?_));have auc:(fU fM idx++[]).Perm (gE (.map fM)):=by
         rw[List.append_nil];exact agi h7 (fun i hi=>by rw[h9];exact h8 i hi) (fun i hi=>O8 i (by omega))
        have Zz:=aR [] auc;simp only[nG,Option.some.injEq] at Zz;subst Zz;refine⟨_,_,yg,n5,List.mem_singleton.2 rfl,jN.trans (vA.mono Qc),?_⟩;refine⟨σ,own,hv,?_⟩
        refine h.step (S':=((qS.mask m).kill ids J).st ids) (ρ':=ρ.put [] [] lo vo) (A':=fun _=>False) (fun j=>j=J) nl (.refl σ) (h.ok.below Cw) (fun _ _ _ hx=>.inl hx) (fun _ _ hx=>.inl hx) (Cw.mono h.below.size) ⟨fun _=>Nat.le_refl _,fun _ _=>rfl⟩
         (fun j hj=>⟨by rw[Qn,if_neg hj],by simp[Env.setO,bk _ _ hj],rfl,fun b hb=>⟨hb,by rw[yc]⟩⟩) (fun j hj=>?_) (fun b j hb=>?_) (fun _=>id) (fun t=>?_) (fun _ hf=>hf.elim) (fun b hb _=>by rw[yc]) (fun b j hb=>.inl ⟨j,hb⟩) (fun j hj=>?_)
        ·rw[Qn,if_pos hj];trivial
        ·obtain⟨b1,b2,b3,b4⟩:=h.owns b j hb;exact⟨b1,by rw[yc];exact b2,b3,b4⟩
        ·by_cases ht:t∈ws
         ·refine .inr ⟨?_,fun gs s' e=>absurd e (Snap.noOpt _ _ t gs s')⟩;have:(((qS.mask m).kill ids J).st ids).r t=.none:=Pm t (rA t ht);rw[this];trivial
         ·exact .inl ⟨rfl,vA.get t ht,rfl⟩
        ·rw[Qn,if_pos hj];intro e;cases e
   ·
        obtain⟨pd,PH⟩:∃pd,fM[i]?=some pd:=⟨_,List.getElem?_eq_getElem (by rw[h9];exact(Array.getElem?_eq_some_iff.1 mz).1)⟩
        obtain⟨cD,ct⟩:=rj i e pd mz PH;generalize yd:({w1 with heap:=w1.heap.setIfInBounds kb (.mapIter (some mb) clock (fH arr (idx++[i])) clock)}:World)=w2 at ak;have ZB:w2.heap[kb]?=some (.mapIter (some mb) clock (fH arr (idx++[i])) clock):=by rw[←yd];simp[yc,YN]
        have ye:∀b,b≠kb→w2.heap[b]?=w'.heap[b]?:=fun b hb=>by rw[←yd];simp only[yc];rw[Array.getElem?_setIfInBounds_ne (Ne.symm hb)]
        have aH5:w2.heap.size=w'.heap.size:=by rw[←yd];simp[yc]
        have ZC:w2.heap[mb]?=some (.map arr clock):=by rw[ye mb (Ne.symm aE)];exact h4
        refine yS jh g1 (by rw[q1];rfl) (v:=.tuple #[.bool true,e.key,e.val]) (w':=w2) (by simp only[execOp,q1,Hs];simp[ak]) ?_;rw[d1]
        refine yS jK g2 (by rw[q2];rfl) (v:=.bool true) (w':=w2) (by
         have:(a'.put (some p.nx) (.tuple #[.bool true,e.key,e.val])).eval (.tmp p.nx)=.tuple #[.bool true,e.key,e.val]:=by simp only[Act.eval];exact yY (by omega)
         simp only[execOp,q2,this];simp[Instr.extract]) ?_
        rw[d2];simp only[wpOpsIn]
        have vA:SameBut (fun t=>t∈ws) a' ((a'.put (some p.nx) (.tuple #[.bool true,e.key,e.val])).put (some p.mo) (.bool true)):=by
         have s1:=SameBut.put a' (some p.nx) (.tuple #[.bool true,e.key,e.val]) a'.defers;have s2:=SameBut.put (a'.put (some p.nx) (.tuple #[.bool true,e.key,e.val])) (some p.mo) (.bool true) (a'.put (some p.nx) (.tuple #[.bool true,e.key,e.val])).defers;exact(s1.mono fun t e=>by cases e;exact gA o1 (by rw[e1];simp) _ d1).trans (s2.mono fun t e=>by cases e;exact gA o2 (by rw[e1];simp) _ d2)
        have YL:(((a'.put (some p.nx) (.tuple #[.bool true,e.key,e.val])).put (some p.mo) (.bool true))).eval (.tmp p.it)=.pointer (some ⟨kb,0,none⟩):=by
         simp only[Act.eval] at Hs ⊢;rw[La n2,La n1];exact Hs
        generalize u7:(a'.put (some p.nx) (.tuple #[.bool true,e.key,e.val])).put (some p.mo) (.bool true)=a1 at vA YL;have Po:a1.eval (.tmp p.mo)=.bool true:=by
         rw[←u7];simp only[Act.eval];exact yY (by rw[size_put];omega)
        have nl:a1.defers=a'.defers:=by rw[←u7,put_defers,put_defers]
        refine wpIn_seq (wpIn_cond_true Po (wpIn_skip ?_));refine wpIn_block (wpIn_seq (wpIn_region ?_));rw[HP];refine yS ho3 g3 (by rw[q3];rfl) (v:=.tuple #[e.key,e.val]) (w':=w2) (by simp only[execOp,q3,YL];simp[aoO ZB ZC gP mz]) ?_;rw[d3]
        have HM:SameBut (fun t=>t∈ws) a1 (a1.put (some p.pr) (.tuple #[e.key,e.val])):=
         (SameBut.put a1 (some p.pr) (.tuple #[e.key,e.val]) a1.defers).mono fun t e=>by cases e;exact fl o3 (by rw[e2];simp) _ d3
        have Zq:a1.tmps.size=n:=vA.size.trans p9;refine aeO (kv:=e.key) (vv:=e.val) l [] p.as 1 _ mG (by rw[e2];rfl) (fun x hx=>by rw[HM.size,Zq];exact aug _ (List.mem_map.2 ⟨x,hx,rfl⟩)) (yY (by rw[Zq];exact oF)) (fun x hx=>by cases hx) (fun a2 dj dt aua=>?_);have PU:SameBut (fun t=>t∈ws) a' a2:=(vA.trans HM).trans (dj.mono fun t ⟨o,ho,hd⟩=>fl o ho t hd);have asT:a2.defers=a'.defers:=by rw[dt,put_defers,nl]
        have auD:Good C w0 σ0 (((qS.mask m).start (p.as.map (·.1)) (p.as.map fun x=>bif Nat.beq x.2 0 then kt else et)).st ids) ((ρ.put (p.as.map (·.1)) ((p.as.map (·.2)).map (D.tup [pd.1,pd.2]).tget) lo vo).setO J (.tup [.list (fU fM idx++[.tup [pd.1,pd.2]]),.map fM])) (fun _=>False) a2 w2:=by
         have BQ:Below w0.heap.size w' w2:=⟨by rw[←yd];exact Cw.os,by rw[←yd];exact Cw.tape,by rw[←yd];exact Cw.output,by omega,fun b hb=>ye b (fun e=>by subst e;have:=(h.owns b J h2).1;omega)⟩
         have ji:σ.ok w2:=by
          refine⟨fun b o v hc=>?_,fun b es hc=>?_⟩
          ·have OV:b≠kb:=fun e=>by subst e;rw[(h.owns b J h2).2.2.1 o] at hc;cases hc
           have:=h.ok.c b o v hc;simp only[World.cell?] at this ⊢;rw[ye b OV];exact this
          ·have OV:b≠kb:=fun e=>by subst e;rw[(h.owns b J h2).2.2.2] at hc;cases hc
           exact(h.ok.m b es hc).keep (ye b OV)
         have fP:∀j,((ρ.put (p.as.map (·.1)) ((p.as.map (·.2)).map (D.tup [pd.1,pd.2]).tget) lo vo).setO J (.tup [.list (fU fM idx++[.tup [pd.1,pd.2]]),.map fM])).o j=if j=J then .tup [.list (fU fM idx++[.tup [pd.1,pd.2]]),.map fM] else putL ρ.o lo vo j:=fun j=>by
          simp only[Env.setO,fI];rfl
         refine⟨σ,own,hv,h.step (fun j=>j=J) asT (.refl σ) ji (fun _ _ _ hx=>.inl hx) (fun _ _ hx=>.inl hx) BQ ⟨fun _=>Nat.le_refl _,fun _ _=>rfl⟩
          (fun j hj=>⟨rfl,by rw[fP,if_neg hj];simp[Env.setO,bk _ _ hj,Env.put],rfl,fun b hb=>⟨hb,ye b (fun e=>by subst e;rw[h2] at hb;cases hb;exact hj rfl)⟩⟩) (fun j hj=>?_) (fun b j hb=>?_) (fun _=>id) (fun t=>?_) (fun _ hf=>hf.elim)
          (fun b hb ho=>ye b (fun e=>by subst e;rw[h2] at ho;cases ho)) (fun b j hb=>.inl ⟨j,hb⟩) (fun j hj=>?_)⟩
         ·subst hj;have:(((qS.mask m).start (p.as.map (·.1)) (p.as.map fun x=>bif Nat.beq x.2 0 then kt else et)).st ids).o j=.it kt et:=HE;rw[this];refine⟨kb,mb,arr,clock,fM,idx++[i],h1,h2,h3,aE,ZC,ZB,by rw[fP,if_pos rfl,agj fM idx PH],?_,?_,h9,gP,rj⟩
          ·rw[List.nodup_append];exact⟨h7,by simp,fun a ha b hb e=>by simp at hb;subst hb;subst e;exact vh ha⟩
          ·intro i' du;rcases List.mem_append.1 du with h|h
           ·exact h8 i' h
           ·simp at h;subst h;exact(Array.getElem?_eq_some_iff.1 mz).1
         ·obtain⟨b1,b2,b3,b4⟩:=h.owns b j hb;exact⟨b1,by omega,b3,b4⟩
         ·have hc:Compat ((qS.mask m).st ids) hv (((qS.mask m).start (p.as.map (·.1)) (p.as.map fun x=>bif Nat.beq x.2 0 then kt else et)).st ids) hv:=⟨fun _=>Nat.le_refl _,fun _ _=>rfl⟩
          refine .inr ⟨?_,fun gs s' e=>absurd e (Snap.noOpt _ _ t gs s')⟩;show aJ C _ _ σ hv (cr ((qD (p.as.map (·.1)) (p.as.map fun x=>bif Nat.beq x.2 0 then kt else et) ((qS.mask m).rs.map rp)).getD t .none)) (a2.tmps.getD t undef) (putL ρ.r (p.as.map (·.1)) ((p.as.map (·.2)).map (D.tup [pd.1,pd.2]).tget) t);rcases Tl (p.as.map (·.1)) (p.as.map fun x=>bif Nat.beq x.2 0 then kt else et) ((qS.mask m).rs.map rp) (by simp) c4 t with e|⟨xq,su⟩|⟨i',y,xq,su,Oa⟩
          ·rw[e];trivial
          ·rw[su,yX _ _ _ _ xq];have e3:((qS.mask m).rs.map rp).getD t .none=rp ((qS.mask m).rs.getD t .none):=by
            simp only[List.getD_eq_getElem?_getD,List.getElem?_map];cases(qS.mask m).rs[t]?<;>rfl
           rw[e3];by_cases Zt:t∈ws
           ·have xT:=Pm t (rA t Zt);change cr ((qS.mask m).rs.getD t .none)=.none at xT;generalize (qS.mask m).rs.getD t .none=s' at xT;cases s'<;>simp[cr] at xT<;>trivial
           ·have hr:=h.regs t;change aJ C _ _ σ hv (cr ((qS.mask m).rs.getD t .none)) _ (ρ.r t) at hr;rw[PU.get t Zt];generalize (qS.mask m).rs.getD t .none=s' at hr;cases s' with
            |yv=>trivial
            |opt gs s=>trivial
            |none=>trivial
            |fclo f c=>exact aJ.mono' (.refl σ) hc (fun _ _ e=>by cases e) hr
            |dat t=>exact hr
            |obj j v=>exact aJ.mono' (.refl σ) hc (fun _ _ e=>by cases e) hr
            |ptr j v o=>exact aJ.mono' (.refl σ) hc (fun _ _ e=>by cases e) hr
            |eptr j v o q=>exact aJ.mono' (.refl σ) hc (fun _ _ e=>by cases e) hr
          ·rw[Oa];have ati:i'<p.as.length:=by have:=(List.getElem?_eq_some_iff.1 xq).1;simpa using this
           rw[RM _ (p.as.map (·.1)) _ i' t (mQ c4) (by simp) xq];obtain⟨xa,lu⟩:∃xa,p.as[i']?=some xa:=⟨_,List.getElem?_eq_getElem ati⟩
           simp only[List.getElem?_map,lu,Option.map_some,Option.some.injEq] at xq su;subst xq;subst su;rw[aua xa (List.mem_of_getElem? lu)];have hd:((p.as.map (·.2)).map (D.tup [pd.1,pd.2]).tget).getD i' .none=(D.tup [pd.1,pd.2]).tget xa.2:=by simp[List.getD_eq_getElem?_getD,lu]
           rw[hd];have h2x:xa.2≤1:=by
            rcases RD l mG (fun x hx=>by cases hx) xa (List.mem_of_getElem? lu) with h|h
            ·cases h
            ·exact h.1
           rcases(by omega:xa.2=0∨xa.2=1) with e0|e0<;>rw[e0]
           ·exact cD
           ·exact ct
         ·have:(((qS.mask m).start (p.as.map (·.1)) (p.as.map fun x=>bif Nat.beq x.2 0 then kt else et)).st ids).o j=.it kt et:=by rw[hj];exact HE
          rw[this];intro e;cases e
        have aub:=agj fM idx PH;obtain⟨rest,s9⟩:∃rest,(fU fM idx++(D.tup [pd.1,pd.2])::rest).Perm (gE (.map fM)):=by
         obtain⟨rest,hr⟩:=azi (es:=fM) (idx:=idx++[i]) (by rw[List.nodup_append];exact⟨h7,by simp,fun a ha b hb e=>by simp at hb;subst hb;subst e;exact vh ha⟩) (fun i' du=>by
          rcases List.mem_append.1 du with h|h
          ·rw[h9];exact h8 i' h
          ·simp at h;subst h;rw[h9];exact(Array.getElem?_eq_some_iff.1 mz).1)
         rw[aub] at hr;exact⟨rest,by simpa using hr⟩
        have je:=aR _ s9;simp only[nG] at je;split at je
        case h_2=>cases je
        rename_i ρ2 Hg;obtain⟨xi,dx⟩:=WG Hg;refine wpIn_mono (ihc rm _ q0 oG rd w0 σ0 wr _ xi a2 w2 fQ hC hY (fun t ht=>Qc t (hwc t ht)) (PU.size.trans p9) auD dx) fun ee a3 w3 fP=>?_;have jM:=WI n6 (sn code oG) dx Hg fP;have conv:∀ee a3 w3,fZ C w0 σ0 ids fn s rm wr a2 (fK ids p.next q0).out (fK ids p.next q0).ex (.next ρ2) ee a3 w3→Exit.then (Code.roundsIn (FR rd) 0 C.P (.seq (.region i1 p.ops1 false) (.seq (.cond (.tmp p.mo) .skip (.exit p.out)) (.block p.next (.seq (.region i2 p.ops2 false) code)))) (fZ C w0 σ0 ids fn s rm wr a none [(p.out,(qS.mask m).kill ids J)] x0) kk) (fZ C w0 σ0 ids fn s rm wr a none [(p.out,(qS.mask m).kill ids J)] x0) ee a3 w3:=by
         intro ee a3 w3 ho;cases ee with
         |normal=>
          obtain⟨ρ3,T,f1,f2,f3,f4⟩:=ho;cases f1;refine ih (fU fM idx++[.tup [pd.1,pd.2]]) (lo.map ρ2.o) a3 w3 (jN.trans ((PU.mono Qc).trans f3)) ?_ (fun ys vF=>?_) (by simp at hlen ⊢;omega)
          ·have rn:Good C w0 σ0 (qS.st ids) ρ2 (fun _=>False) a3 w3:=by
            have:=f4.meet2 (x:=qS)
            rwa [xK T f2] at this
           obtain⟨σ3,wg,Cu,kE⟩:=rn;have OX:=PC.ev_but _ _ _ ρ2 Hg rfl;refine⟨σ3,wg,Cu,(kE.maskR m).env (Snap.noOpt _ _) (fun t ht=>?_) (fun j hj=>?_)⟩
           ·have xT:=atI t ht
            have cW:t∉(fK ids p.next q0).pc.modR:=fun eQ=>by
                 have:=Pp.1 t eQ;have h2:ar (Nat.lor m (fK ids p.next q0).mr) t=true:=by rw[eK,this,Bool.or_true]
                 rw[xR,xT] at h2;cases h2
            rw[OX.r t cW]
            have pY:t∉p.as.map (·.1):=fun aU=>by
                 have:ar m t=true:=by
                  refine rA t ?_;obtain⟨xa,lu,rfl⟩:=List.mem_map.1 aU;rcases RD l mG (fun x hx=>by cases hx) xa lu with h|⟨_,o,ho,hd⟩
                  ·cases h
                  ·exact fl o (by rw[e2];exact List.mem_cons_of_mem _ ho) _ hd
                 rw[xT] at this;cases this
            show ρ.r t=putL ρ.r (p.as.map (·.1)) _ t;rw[yX _ _ _ _ pY]
           ·have hjd:nw (db ids qS.os j)=false:=hj;show bZ (putL ρ.o lo (lo.map ρ2.o)) J _ j=ρ2.o j;by_cases xM:j=J
            ·subst xM;rw[aQ,OX.o j (fun eQ=>X6 (Pp.2 j eQ))];simp[Env.setO,aQ]
            ·rw[bk _ _ xM,rO];split
             ·rfl
             ·rename_i eD;have cW:j∉(fK ids p.next q0).pc.modO:=fun eQ=>eD (by rw[←lq];exact List.mem_filter.2 ⟨Pp.2 j eQ,by rw[hjd];rfl⟩);rw[OX.o j cW];simp only[Env.setO,bk _ _ xM];exact(RN _ _ _ _ eD).symm
          ·have:=aR ((D.tup [pd.1,pd.2])::ys) (by simpa using vF);simp only[nG,Hg] at this;exact this
         |exit id=>obtain⟨ρ3,T,f1,_⟩:=ho;cases f1
         |ret=>
          cases rm with
          |false=>obtain⟨d,f1,_⟩:=ho;cases f1
          |true=>obtain⟨ρ3,T,f1,_⟩:=ho;cases f1
         |_=>exact ho.elim
        cases ee with
        |exit id=>
         simp only[Exit.inBlock] at jM;show if id=p.next then _ else _;split
         ·rename_i bL;rw[if_pos bL] at jM;exact conv .normal a3 w3 jM
         ·rename_i bL;rw[if_neg bL] at jM;exact conv (.exit id) a3 w3 jM
        |normal=>exact conv .normal a3 w3 jM
        |ret=>exact conv .ret a3 w3 jM
        |panic c=>exact fP.elim
        |goto l=>exact fP.elim
        |_=>exact fP.elim
 have hgq:Good C w0 σ0 (qS.st ids) ρ (fun _=>False) a w:=bC hg;obtain⟨σ,own,hv,h⟩:=hgq;have be:=h.objs J;have:(qS.st ids).o J=.it kt et:=HE;rw[this] at be;obtain⟨kb,mb,arr,clock,fM,idx,h1,h2,h3,aE,h4,h5,h6,h7,h8,h9,gP,rj⟩:=be;have hρJ:ρ.o J=.tup [.list [],es]:=by
  rw[h6] at Ch ib;simp[D.tget] at Ch ib;rw[h6,Ch,←ib]
 have ve:(ρ.put [] [] lo (lo.map ρ.o)).setO J (.tup [.list [],es])=ρ:=by
  rw[Env.put_self];show Env.mk _ _=_;have:bZ ρ.o J (.tup [.list [],es])=ρ.o:=by
   funext j;rw[fI];split
   ·rename_i e;rw[e];exact hρJ.symm
   ·rfl
  rw[this]
 exact wpIn_loop_rounds _ (key ((gE es).length+1) [] (lo.map ρ.o) a w (.refl _ _) (by rw[ve];exact⟨σ,own,hv,h.maskR m⟩) (fun ys vF=>asr ys vF) (by simp))
theorem anA {N:Nat}(fe:fJ C Φ)(hR:MZ C n ids Φ R):∀(k:Nat) (c:Code),sizeOf c<k→uF C Φ fn s n ids R N c:=by
 intro k;refine Nat.rec (fun c h=>absurd h (Nat.not_lt_zero _)) (fun k IH=>?_) k;intro c hc;cases c with
 |skip=>
  intro rm S r h rd w0 σ0 wr ρ x a w fQ hC hY gB hn hg he;simp only[comp,Option.some.injEq] at h;subst h;simp only[PC.ev,Option.some.injEq] at he;subst he;exact wpIn_skip ⟨ρ,S,rfl,rfl,.refl _ _,hg⟩
 |region id ops draw=>
  intro rm S r h rd w0 σ0 wr ρ x a w fQ hC hY gB hn hg he;simp only[comp,Option.map_eq_some_iff] at h;obtain⟨q,hq,rfl⟩:=h;simp only[PC.ev,Option.map_eq_some_iff] at he;obtain⟨ρ',hr,rfl⟩:=he;exact hR id ops draw S q hq rd w0 σ0 ρ ρ' a w _ hC hY hn hg hr (fun a' w' il fg=>⟨ρ',q.1,rfl,rfl,il.mono (fun t ⟨o,h1,h2⟩=>gB t (List.mem_filterMap.2 ⟨o,h1,h2⟩)),fg⟩)
 |seq c1 c2=>
  have tl:=IH c1 (by simp at hc;omega);have ly:=IH c2 (by simp at hc;omega);intro rm S r h rd w0 σ0 wr ρ x a w fQ hC hY gB hn hg he;have gA:∀t,t∈cq c1→wr t:=fun t ht=>gB t (List.mem_append_left _ ht);have fl:∀t,t∈cq c2→wr t:=fun t ht=>gB t (List.mem_append_right _ ht);simp only[comp,Option.bind_eq_some_iff] at h;obtain⟨q,hq,h⟩:=h;split at h
  ·rename_i jL;cases h;refine wpIn_seq (wpIn_mono (tl rm S _ hq rd w0 σ0 wr ρ x a w fQ hC hY gA hn hg he) fun e a' w' ho=>?_);cases e with
   |normal=>obtain⟨_,_,_,h2,_⟩:=ho;rw[jL] at h2;cases h2
   |_=>exact ho
  ·rename_i S1 jL;simp only[Option.map_eq_some_iff] at h;obtain⟨p,hp,rfl⟩:=h;simp only[PC.ev] at he
   have key:∀x1,q.pc.ev Φ N ρ=some x1→(match some x1 with|some (.next ρ')=>p.pc.ev Φ N ρ'|y=>y)=some x→(Code.seq c1 c2).wpIn (FR rd) 0 C.P (fZ C w0 σ0 ids fn s rm wr a p.out (q.ex++p.ex) x) a w:=by
      intro x1 h1 h2;refine wpIn_seq (wpIn_mono (tl rm S _ hq rd w0 σ0 wr ρ x1 a w fQ hC hY gA hn hg h1) fun e a' w' ho=>?_);have other:∀{e:Exit},e≠.normal→fZ C w0 σ0 ids fn s rm wr a q.out q.ex x1 e a' w'→x1=x→fZ C w0 σ0 ids fn s rm wr a p.out (q.ex++p.ex) x e a' w':=by
       intro e aE ho hx;subst hx;exact ho.mono (fun y hy=>List.mem_append_left _ hy) (.refl _ _) (fun e=>absurd e aE)
      cases e with
      |normal=>
       obtain⟨ρ1,S2,e1,e2,dj,fy⟩:=ho;subst e1;rw[jL] at e2;cases e2;simp only at h2;refine wpIn_mono (ly rm S1 _ hp rd w0 σ0 wr ρ1 x a' w' fQ hC hY fl (dj.size.trans hn) fy h2) fun e a2 w2 jK=>?_;exact jK.mono (fun y hy=>List.mem_append_right _ hy) dj (fun _=>rfl)
      |exit id=>
       refine other (by simp) ho ?_;obtain⟨ρ1,S2,e1,_⟩:=ho;subst e1;simpa using h2
      |ret=>
       refine other (by simp) ho ?_;cases rm with
       |false=>obtain⟨d,e1,_⟩:=ho;subst e1;simpa using h2
       |true=>obtain⟨ρ1,S2,e1,_⟩:=ho;subst e1;simpa using h2
      |_=>exact ho.elim
   cases h1:q.pc.ev Φ N ρ with
   |none=>rw[h1] at he;simp at he
   |some x1=>rw[h1] at he;exact key x1 h1 he
 |cond c c1 c2=>
  have tl:=IH c1 (by simp at hc;omega);have ly:=IH c2 (by simp at hc;omega);intro rm S r h rd w0 σ0 wr ρ x a w fQ hC hY gB hn hg he;have gA:∀t,t∈cq c1→wr t:=fun t ht=>gB t (List.mem_append_left _ ht);have fl:∀t,t∈cq c2→wr t:=fun t ht=>gB t (List.mem_append_right _ ht);simp only[comp] at h;split at h
  case h_2=>cases h;exact absurd he (lO _ _ _ _)
  rename_i e hu;simp only[Option.bind_eq_some_iff,Option.map_eq_some_iff] at h;obtain⟨q,hq,p,hp,rfl⟩:=h;have hb:∃b,a.eval c=.bool b∧e.ev ρ=.v (.bool b):=by
   obtain⟨σ,own,hv,hi⟩:=hg;have:=cd (gs:=[]) hi hC rfl hu;generalize a.eval c=v at this;generalize e.ev ρ=d at this;cases this with|bool b=>exact⟨b,rfl,rfl⟩
  obtain⟨b,je,dX⟩:=hb;have pX:=sn c1 hq;have B9:=sn c2 hp;have main:∀(o:Option Snap) (lr lo:List Nat) (rx:Res2),rx=⟨.ite e lr lo q.pc p.pc,o,q.ex++p.ex,Nat.lor q.mr p.mr,iP q.mo p.mo⟩→
        (∀M,o=some M→lr=jS M (Nat.lor q.mr p.mr)∧lo=ix ids M (iP q.mo p.mo))→
        (∀S1 ρ1 a w,q.out=some S1→Good C w0 σ0 (S1.st ids) ρ1 (fun _=>False) a w→∃M,o=some M∧Good C w0 σ0 (M.st ids) ρ1 (fun _=>False) a w)→
        (∀S1 ρ1 a w,p.out=some S1→Good C w0 σ0 (S1.st ids) ρ1 (fun _=>False) a w→∃M,o=some M∧Good C w0 σ0 (M.st ids) ρ1 (fun _=>False) a w)→
        rx.pc.ev Φ N ρ=some x→(Code.cond c c1 c2).wpIn (FR rd) 0 C.P (fZ C w0 σ0 ids fn s rm wr a rx.out rx.ex x) a w:=by
   intro o lr lo rx hrx hl p6 mG bE;subst hrx;simp only[PC.ev,dX,D.b_bool] at bE;have fin:∀(ci:Code) (qi:Res2) (xi:Out),(∀y,y∈qi.ex→y∈q.ex++p.ex)→(∀t,t∈qi.pc.modR→ar (Nat.lor q.mr p.mr) t=true)→(∀j,j∈qi.pc.modO→j∈iP q.mo p.mo)→
    (∀S1 ρ1 a w,qi.out=some S1→Good C w0 σ0 (S1.st ids) ρ1 (fun _=>False) a w→∃M,o=some M∧Good C w0 σ0 (M.st ids) ρ1 (fun _=>False) a w)→
    qi.pc.ev Φ N ρ=some xi→(match some xi with|some (.next ρ')=>some (Out.next (ρ.join lr lo ρ'))|y=>y)=some x→
    ci.wpIn (FR rd) 0 C.P (fZ C w0 σ0 ids fn s rm wr a qi.out qi.ex xi) a w→ci.wpIn (FR rd) 0 C.P (fZ C w0 σ0 ids fn s rm wr a o (q.ex++p.ex) x) a w:=by
        intro ci qi xi hex gS p7 jL dx hx hwp;refine wpIn_mono hwp fun ee a' w' ho=>?_;have other:ee≠.normal→xi=x→fZ C w0 σ0 ids fn s rm wr a o (q.ex++p.ex) x ee a' w':=by
         intro aE eT;subst eT;exact ho.mono hex (.refl _ _) (fun e=>absurd e aE)
        cases ee with
        |normal=>
         obtain⟨ρ1,S2,e1,e2,dj,fy⟩:=ho;subst e1;simp only[Option.some.injEq] at hx;subst hx;obtain⟨M,hM,rn⟩:=jL S2 ρ1 a' w' e2 fy;obtain⟨l1,l2⟩:=hl M hM;subst l1 l2;exact⟨_,M,rfl,hM,dj,rn.joined (PC.ev_but qi.pc ρ _ ρ1 dx rfl) gS p7⟩
        |exit id=>
         refine other (by simp) ?_;obtain⟨ρ1,S2,e1,_⟩:=ho;subst e1;simpa using hx
        |ret=>
         refine other (by simp) ?_;cases rm with
         |false=>obtain⟨d,e1,_⟩:=ho;subst e1;simpa using hx
         |true=>obtain⟨ρ1,S2,e1,_⟩:=ho;subst e1;simpa using hx
        |_=>exact ho.elim
   refine wpIn_cond je ?_;cases b with
   |true=>
    simp only[cond_true] at bE;cases dx:q.pc.ev Φ N ρ with
    |none=>rw[dx] at bE;simp at bE
    |some xi=>
     rw[dx] at bE;refine fin c1 q xi (fun y hy=>List.mem_append_left _ hy) (fun t ht=>?_) (fun j hj=>oM.2 (.inl (pX.2 j hj))) p6 dx bE (tl rm S _ hq rd w0 σ0 wr ρ xi a w fQ hC hY gA hn hg dx);rw[eK,pX.1 t ht];rfl
   |false=>
    simp only[cond_false] at bE;cases dx:p.pc.ev Φ N ρ with
    |none=>rw[dx] at bE;simp at bE
    |some xi=>
     rw[dx] at bE;refine fin c2 p xi (fun y hy=>List.mem_append_right _ hy) (fun t ht=>?_) (fun j hj=>oM.2 (.inr (B9.2 j hj))) mG dx bE (ly rm S _ hp rd w0 σ0 wr ρ xi a w fQ hC hY fl hn hg dx);rw[eK,B9.1 t ht,Bool.or_true]
  have p6:∀S1 ρ1 a w,q.out=some S1→Good C w0 σ0 (S1.st ids) ρ1 (fun _=>False) a w→∃M,lC q.out p.out=some M∧Good C w0 σ0 (M.st ids) ρ1 (fun _=>False) a w:=by
   intro S1 ρ1 a w e1 g1;rw[e1];obtain⟨M,hM⟩:=@aaJ S1 p.out;exact⟨M,hM,aaH g1 hM⟩
  have mG:∀S1 ρ1 a w,p.out=some S1→Good C w0 σ0 (S1.st ids) ρ1 (fun _=>False) a w→∃M,lC q.out p.out=some M∧Good C w0 σ0 (M.st ids) ρ1 (fun _=>False) a w:=by
   intro S1 ρ1 a w e1 g1;rw[e1];obtain⟨M,hM⟩:=@aaK q.out S1;exact⟨M,hM,aaI g1 hM⟩
  cases hm:lC q.out p.out with
  |none=>
   rw[hm] at p6 mG;simp only[hm] at he ⊢;exact main none [] [] _ rfl (fun M e=>by cases e) p6 mG he
  |some M=>
   rw[hm] at p6 mG;simp only[hm] at he ⊢;exact main (some M) _ _ _ rfl (fun M' e=>by cases e;exact⟨rfl,rfl⟩) p6 mG he
 |block id c1=>
  have tl:=IH c1 (by simp at hc;omega);intro rm S r h rd w0 σ0 wr ρ x a w fQ hC hY gB hn hg he;simp only[comp] at h;cases bL:Nat.beq id cC<;>simp only[bL,cond_true,cond_false] at h
  case true=>cases h;exact absurd he (lO _ _ _ _)
  have Hq:id≠cC:=fun e=>by subst e;simp at bL
  simp only[Option.map_eq_some_iff] at h;obtain⟨q,hq,rfl⟩:=h;obtain⟨xi,dx⟩:=WG he;exact wpIn_block (wpIn_mono (tl rm S _ hq rd w0 σ0 wr ρ xi a w fQ hC hY gB hn hg dx) fun e a' w' fP=>WI Hq (sn c1 hq) dx he fP)
 |loop c1=>
  have tl:=IH c1 (by simp at hc;omega);intro rm S r h rd w0 σ0 wr ρ x a w fQ hC hY gB hn hg he;rw[Xa] at h;split at h
  ·rename_i qb Cm;obtain⟨p,code,ws⟩:=qb;unfold vS at Cm;split at Cm
   case h_2=>cases Cm
   rename_i cx cy ck cz cc;simp only[Option.map_eq_some_iff] at Cm;obtain⟨p',aU,ep⟩:=Cm;cases ep;exact awH aU (IH _ (by simp at hc;omega)) h fQ hC hY gB hn hg he
  split at h
  case h_2=>cases h;exact absurd he (lO _ _ _ _)
  rename_i q hq;cases h;obtain⟨hs,xK,bC⟩:=CG (C:=C) (w0:=w0) (σ0:=σ0) (ids:=ids) 8 hq;have pX:=sn c1 hs;simp only[PC.ev] at he
  have oB:Good C w0 σ0 (q.1.st ids) (ρ.put (jS q.1 q.2.mr) ((jS q.1 q.2.mr).map ρ.r) (ix ids q.1 q.2.mo) ((ix ids q.1 q.2.mo).map ρ.o)) (fun _=>False) a w:=by
   exact Good.joined (bC hg) (.refl ρ q.2.pc.modR q.2.pc.modO) pX.1 pX.2
  have key:∀(k:Nat) (ρ1:Env) (a':Act) (w:World),SameBut wr a a'→gC (q.2.pc.ev Φ N) ρ (jS q.1 q.2.mr) (ix ids q.1 q.2.mo) k ((jS q.1 q.2.mr).map ρ1.r) ((ix ids q.1 q.2.mo).map ρ1.o)=some x→
        Good C w0 σ0 (q.1.st ids) (ρ.join (jS q.1 q.2.mr) (ix ids q.1 q.2.mo) ρ1) (fun _=>False) a' w→Code.roundsIn (FR rd) 0 C.P c1 (fZ C w0 σ0 ids fn s rm wr a none q.2.ex x) k a' w:=by
   intro k
   induction k with
   |zero=>intro ρ1 a' w hn hl hg;simp[gC] at hl
   |succ k ih=>
    intro ρ1 a' w jN hl hg;rw[roundsIn_succ];simp only[gC] at hl;change (match q.2.pc.ev Φ N (ρ.join (jS q.1 q.2.mr) (ix ids q.1 q.2.mo) ρ1) with|some (.next ρ')=>_|y=>y)=some x at hl;cases dx:q.2.pc.ev Φ N (ρ.join (jS q.1 q.2.mr) (ix ids q.1 q.2.mo) ρ1) with
    |none=>rw[dx] at hl;simp at hl
    |some xi=>
     rw[dx] at hl;refine wpIn_mono (tl rm _ _ hs rd w0 σ0 wr _ xi a' w fQ hC hY gB (jN.size.trans hn) hg dx) fun e a2 w' fP=>?_;have other:e≠.normal→xi=x→fZ C w0 σ0 ids fn s rm wr a none q.2.ex x e a2 w':=by
         intro aE eT;subst eT;exact fP.mono (fun y hy=>hy) jN (fun e=>absurd e aE)
     cases e with
     |normal=>
      obtain⟨ρ2,S2,e1,e2,dj,fy⟩:=fP;subst e1;simp only at hl;refine ih ρ2 a2 w' (jN.trans dj) hl ?_
      have rn:Good C w0 σ0 (q.1.st ids) ρ2 (fun _=>False) a2 w':=by
       have:=fy.meet2 (x:=q.1)
       rwa [xK S2 e2] at this
      refine rn.joined (mr':=jS q.1 q.2.mr++q.2.pc.modR) (mo':=ix ids q.1 q.2.mo++q.2.pc.modO) ?_ (fun t ht=>?_) (fun j hj=>?_)
      ·exact((Env.but.join ρ ρ1 _ _).mono (fun t ht=>List.mem_append_left _ ht) (fun t ht=>List.mem_append_left _ ht)).trans
        ((PC.ev_but q.2.pc _ _ ρ2 dx rfl).mono (fun t ht=>List.mem_append_right _ ht) (fun t ht=>List.mem_append_right _ ht))
      ·exact(List.mem_append.1 ht).elim If (pX.1 t)
      ·exact(List.mem_append.1 hj).elim yw (pX.2 j)
     |exit id=>
      refine other (by simp) ?_;obtain⟨ρ1,S2,e1,_⟩:=fP;subst e1;simpa using hl
     |ret=>
      refine other (by simp) ?_;cases rm with
      |false=>obtain⟨d,e1,_⟩:=fP;subst e1;simpa using hl
      |true=>obtain⟨ρ1,S2,e1,_⟩:=fP;subst e1;simpa using hl
     |_=>exact fP.elim
  exact wpIn_loop_rounds N (key N ρ a w (.refl _ _) he oB)
 |exit id=>
  intro rm S r h rd w0 σ0 wr ρ x a w fQ hC hY gB hn hg he;simp only[comp] at h;cases bL:Nat.beq id cC<;>simp only[bL,cond_true,cond_false] at h
  case true=>cases h;exact absurd he (lO _ _ _ _)
  cases h;simp only[PC.ev,Option.some.injEq] at he;subst he;exact wpIn_exit ⟨ρ,S,rfl,fun e=>by subst e;simp at bL,by simp,.refl _ _,hg⟩
 |ret=>
  intro rm S r h rd w0 σ0 wr ρ x a w fQ hC hY gB hn hg he;simp only[comp] at h;cases rm<;>simp only[cond_true,cond_false] at h
  case true=>
   cases h;simp only[PC.ev,Option.some.injEq] at he;subst he;exact wpIn_ret ⟨ρ,S,rfl,by simp,.refl _ _,hg⟩
  split at h
  ·rename_i e PQ;cases h;simp only[PC.ev,Option.some.injEq] at he;subst he;obtain⟨σ,own,hv,hi⟩:=hg;exact wpIn_ret ⟨_,rfl,Inv.retD hC (fun _=>rfl) (fQ rfl).2 PQ _ hi rfl,.refl _ _⟩
  ·cases h;exact absurd he (lO _ _ _ _)
 |rangeFunc g ps ca cb=>exact ayz fe (IH ca (by simp at hc;omega)) (IH cb (by simp at hc;omega))
 |_=>intro rm S r h rd w0 σ0 wr ρ x a w fQ hC hY gB hn hg he;simp only[comp,Option.some.injEq] at h;subst h;exact absurd he (lO _ _ _ _)
theorem anz {N:Nat}(fe:fJ C Φ)(hR:MZ C n ids Φ R)(c:Code):uF C Φ fn s n ids R N c:=anA fe hR _ c (Nat.lt_succ_self _)
end
end Cx
