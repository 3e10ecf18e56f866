/-
  Code: aN6, choices, blocks, loops.
-/
import Derived.LoopNIn
import Derived.Test.YtepfoekldooaeaaGreatDoorKAE
import Derived.LoopN
set_option linter.unusedSimpArgs false
set_option linter.unusedVariables false
namespace Cx
open Go Go.RowKit
def az (m t:Nat):Bool:= !Nat.beq (Nat.land 1 (Nat.shiftRight m t)) 0
theorem qI (m t:Nat):az m t=m.testBit t:=by
 unfold az Nat.testBit;show(!Nat.beq (1&&& (m>>>t)) 0)=((1&&& (m>>>t))!=0)
 generalize 1&&& (m>>>t)=x;cases x<;>rfl
def dw (t:Nat):Nat:=Nat.shiftLeft 1 t
theorem px (t:Nat):az (dw t) t=true:=by
 rw[qI];show(1<<<t).testBit t=true;simp[Nat.testBit_shiftLeft]
theorem eK (m k t:Nat):az (Nat.lor m k) t=(az m t||az k t):=by
 simp only[qI];exact Nat.testBit_or m k t
def PI.mask:PI→Nat
 |.setR t _=>dw t|.call _ t _ _=>dw t|.callc _ t _ _=>dw t|_=>0
def Ih:List PI→Nat
 |[]=>0
 |p::l=>Nat.lor p.mask (Ih l)
def PI.objs:PI→List Nat
 |.setO j _=>[j]|.mcall j _ _=>[j]|_=>[]
def eT (l:List Nat)(x:Nat):Bool:=l.any (Nat.beq x)
def iN (a b:List Nat):List Nat:=a.foldl (fun acc x=>bif eT acc x then acc else x::acc) b
def adL (l:List PI):List Nat:=l.foldl (fun acc p=>iN p.objs acc) []
theorem oH (l:List Nat)(x:Nat):eT l x=true↔x∈l:=by
 unfold eT;rw[List.any_eq_true];constructor
 ·rintro⟨y,hy,h⟩;rw[Nat.eq_of_beq_eq_true h];exact hy
 ·intro h;exact⟨x,h,Nat.beq_refl x⟩
theorem oI {x:Nat}:∀{a b:List Nat},x∈iN a b↔x∈a∨x∈b
 |[],b=>by simp[iN]
 |y::a,b=>by
  have ih:=@oI x a (bif eT b y then b else y::b);have e:iN (y::a) b=iN a (bif eT b y then b else y::b):=rfl;rw[e,ih];cases hb:eT b y
  ·simp[or_assoc,or_left_comm]
  ·have:=(oH b y).1 hb;simp only[cond_true,List.mem_cons];constructor
   ·rintro(h|h)
    ·exact .inl (.inr h)
    ·exact .inr h
   ·rintro((h|h)|h)
    ·subst h;exact .inr this
    ·exact .inl h
    ·exact .inr h
theorem azr {x:Nat}(l:List PI)(h:x∈l.flatMap PI.modO):x∈adL l:=by
 have key:∀(l:List PI) (acc:List Nat),(x∈l.flatMap PI.modO∨x∈acc)→x∈l.foldl (fun acc p=>iN p.objs acc) acc:=by
  intro l
  induction l with
  |nil=>intro acc h;simpa using h
  |cons p l ih=>
   intro acc h;refine ih _ ?_;rw[List.flatMap_cons,List.mem_append] at h;rcases h with(h|h)|h
   ·refine .inr (oI.2 (.inl ?_));cases p<;>simp_all [PI.modO,PI.objs]
   ·exact .inl h
   ·exact .inr (oI.2 (.inr h))
 exact key l [] (.inl h)
theorem abl {t:Nat}:∀(l:List PI),t∈l.flatMap PI.modR→az (Ih l) t=true
 |[],h=>by simp at h
 |p::l,h=>by
  rw[List.flatMap_cons,List.mem_append] at h;simp only[Ih,eK,Bool.or_eq_true];rcases h with h|h
  ·left;cases p<;>simp[PI.modR] at h<;>subst h<;>exact px _
  ·exact .inr (abl l h)
structure Res2 where
 pc:PC
 out:Option Snap
 ex:List (Nat×Snap)
 mr:Nat
 mo:List Nat
 deriving Inhabited
def lH:Option Snap→Option Snap→Option Snap
 |none,x=>x
 |x,none=>x
 |some a,some b=>some (a.meet b)
def nk (id:Nat):List (Nat×Snap)→Option Snap→Option Snap
 |[],acc=>acc
 |x::l,acc=>nk id l (bif Nat.beq x.1 id then lH acc (some x.2) else acc)
def iter (step:Snap→Option Res2):Nat→Snap→Option (Snap×Res2)
 |0,_=>none
 |k+1,S=>(step S).bind fun r=>
  match r.out with
  |none=>some (S,r)
  |some T=>bif (S.meet T).beq S then some (S,r) else iter step k (S.meet T)
def jN (S:Snap)(m:Nat):List Nat:=(List.range S.rs.length).filter fun t=>az m t&& !isNone (cl (S.rs.getD t .none))
def iz (ids:List Nat)(S:Snap)(l:List Nat):List Nat:=l.filter fun j=> !ni (cZ ids S.os j)
def gg:Res2:=⟨.is [D3],none,[],0,[]⟩
theorem lT (Φ:aU)(N:Nat)(ρ:Env)(x:Out):gg.pc.ev Φ N ρ≠some x:=by
 intro h;simp[gg,PC.ev,PI.runs,PI.run,D3,PE.ev,D.b_bool] at h
theorem lU:(∀t,t∈gg.pc.modR→az gg.mr t=true)∧∀j,j∈gg.pc.modO→j∈gg.mo:=by
 constructor<;>intro t h<;>simp[gg,PC.modR,PC.modO,PI.modR,PI.modO,D3] at h
def cg:Code→List Nat
 |.region _ ops _=>ops.toList.filterMap (·.dst)
 |.seq a b=>cg a++cg b
 |.cond _ a b=>cg a++cg b
 |.block _ a=>cg a
 |.loop a=>cg a
 |_=>[]
def vi (l:List Nat):Nat:=l.foldr (fun t m=>Nat.lor (dw t) m) 0
def rk (m:Nat):Nat→List Sh→List Sh
 |_,[]=>[]
 |t,s::l=>(bif az m t then .none else s)::rk m (t+1) l
def Snap.mask (m:Nat)(S:Snap):Snap:=⟨rk m 0 S.rs,S.os⟩
def qY:Sh→Sh
 |.yv=>.none
 |s=>s
def qt:List Nat→List Ty→List Sh→List Sh
 |p::ps,y::ys,l=>qt ps ys (l.set p (.dat y))
 |_,_,l=>l
def Snap.start (ps:List Nat)(ys:List Ty)(S:Snap):Snap:=⟨qt ps ys (S.rs.map qY),S.os⟩
def abe (ids:List Nat)(l:List Snap)(mo:List Nat):List Nat:=mo.filter fun j=>l.any fun S=> !ni (cZ ids S.os j)
def aCC (wm:Nat)(ra rb:Res2):Res2:=
 let m:=Nat.lor wm (Nat.lor ra.mr rb.mr)
 ⟨.seq ra.pc rb.pc,rb.out.map (Snap.mask m),rb.ex.map (fun x=>(x.1,x.2.mask m)),m,iN ra.mo rb.mo⟩
def fN (ids:List Nat)(id:Nat)(r:Res2):Res2:=
    match nk id r.ex r.out with
    |some M=>⟨.block id (jN M r.mr) (iz ids M r.mo) r.pc,some M,r.ex.filter fun x=> !Nat.beq x.1 id,r.mr,r.mo⟩
    |none=>⟨.block id [] [] r.pc,none,r.ex.filter fun x=> !Nat.beq x.1 id,r.mr,r.mo⟩
def sT:List (Nat×Nat)→Nat→Option Nat
 |[],_=>none
 |x::l,t=>bif Nat.beq x.1 t then some x.2 else sT l t
def kg (pr:Nat):List Oper→List (Nat×Nat)→Option (List (Nat×Nat))
 |[],acc=>some acc
 |o::l,acc=>
  match o.dst,o.guard with
  |some d,none=>
   bif Nat.beq d pr||(sT acc d).isSome then none else
   match o.op with
   |.extract (.tmp t) i=>bif Nat.beq t pr&&Nat.ble i 1 then kg pr l (acc++[(d,i)]) else none
   |.assign (.tmp t)=>(sT acc t).bind fun i=>kg pr l (acc++[(d,i)])
   |.move (.tmp t)=>(sT acc t).bind fun i=>kg pr l (acc++[(d,i)])
   |_=>none
  |_,_=>none
structure MP where
 it:Nat
 nx:Nat
 mo:Nat
 out:Nat
 next:Nat
 pr:Nat
 ops1:Array Oper
 ops2:Array Oper
 as:List (Nat×Nat)
 deriving Inhabited
def xH (x y:Code)(k:Nat)(z:Code):Option MP:=
 match x,y,z with
 |.region _ ops1 false,.cond (.tmp mo) .skip (.exit out),.region _ ops2 false=>
  match ops1.toList,ops2.toList with
  |[o1,o2],o3::l=>
   match o1.dst,o1.guard,o1.op,o2.dst,o2.guard,o2.op,o3.dst,o3.guard,o3.op with
   |some nx,none,.next (.tmp it) false,some mo',none,.extract (.tmp nx') 0,some pr,none,.entry (.tmp it')=>
    bif Nat.beq mo mo'&&Nat.beq nx nx'&&Nat.beq it it'&& !Nat.beq it nx&& !Nat.beq it mo&& !Nat.beq it pr&& !Nat.beq nx mo&& !Nat.beq out cB&& !Nat.beq k cB then
     (kg pr l []).map fun as=>⟨it,nx,mo,out,k,pr,ops1,ops2,as⟩
    else none
   |_,_,_,_,_,_,_,_,_=>none
  |_,_=>none
 |_,_,_=>none
def va:List Nat→Nat→List Ob→List Ob
 |i::is,J,o::os=>(bif Nat.beq i J then .dead else o)::va is J os
 |_,_,os=>os
def Snap.kill (ids:List Nat)(J:Nat)(S:Snap):Snap:=⟨S.rs,va ids J S.os⟩
def aaG (J:Nat)(kt et:Ty)(ids:List Nat)(p:MP)(m:Nat)(S:Snap):Bool:=
 Sh.beq (S.rs.getD p.it .none) (.obj J 0)&&Ob.beq (cZ ids S.os J) (.it kt et)&& !az m p.it
def xI (ids:List Nat)(n:Nat)(p:MP)(ws:List Nat)(f:Snap→Option Res2)(S:Snap):Option Res2:=
 match cl (S.rs.getD p.it .none) with
 |.obj J 0=>
  match cZ ids S.os J with
  |.it kt et=>
   let ps:=p.as.map (·.1)
   let ys:=p.as.map fun x=>bif Nat.beq x.2 0 then kt else et
   let m:=vi ws
   match iter (fun S=>(f ((S.mask m).start ps ys)).map (fN ids p.next)) 8 S with
   |some r=>
    bif r.2.ex.isEmpty&& !eT r.2.mo J&&aaG J kt et ids p m r.1&&ji ps&&ps.all (fun t=>Nat.blt t n)&&Nat.blt p.nx n&&Nat.blt p.mo n&&Nat.blt p.pr n&&Nat.beq (Nat.lor m r.2.mr) m then
       some ⟨.seq (.meach J ps (p.as.map (·.2)) (iz ids r.1 r.2.mo) r.2.pc) (.exit p.out),none,[(p.out,(r.1.mask m).kill ids J)],0,r.2.mo⟩
    else some gg
   |none=>some gg
  |_=>some gg
 |_=>some gg
def comp (C:Ctx)(fn:Func)(s:Sig)(n:Nat)(ids:List Nat)(R:Array Oper→Bool→Snap→Option (Snap×List PI)):Bool→Code→Snap→Option Res2
 |_,.skip,S=>some ⟨.skip,some S,[],0,[]⟩
 |_,.region _ ops draw,S=>(R ops draw S).map fun r=>⟨.is r.2,some r.1,[],Ih r.2,adL r.2⟩
 |rm,.seq a b,S=>(comp C fn s n ids R rm a S).bind fun r=>
  match r.out with
  |none=>some r
  |some S1=>(comp C fn s n ids R rm b S1).map fun q=>⟨.seq r.pc q.pc,q.out,r.ex++q.ex,Nat.lor r.mr q.mr,iN r.mo q.mo⟩
 |rm,.cond c a b,S=>
  match use C (S.st ids) [] c with
  |some (.bool,e)=>
   (comp C fn s n ids R rm a S).bind fun r=>(comp C fn s n ids R rm b S).map fun q=>
     match lH r.out q.out with
     |some M=>⟨.ite e (jN M (Nat.lor r.mr q.mr)) (iz ids M (iN r.mo q.mo)) r.pc q.pc,some M,r.ex++q.ex,Nat.lor r.mr q.mr,iN r.mo q.mo⟩
     |none=>⟨.ite e [] [] r.pc q.pc,none,r.ex++q.ex,Nat.lor r.mr q.mr,iN r.mo q.mo⟩
  |_=>some gg
 |rm,.block id a,S=>bif Nat.beq id cB then some gg else(comp C fn s n ids R rm a S).map (fN ids id)
 |rm,.loop (.seq x (.seq y (.block k (.seq z code)))),S=>
  (match xH x y k z with
  |some p=>xI ids n p (cg x++(cg y++(cg z++cg code))) (fun S=>comp C fn s n ids R rm code S) S
  |none=>
  match iter (fun S=>comp C fn s n ids R rm (.seq x (.seq y (.block k (.seq z code)))) S) 8 S with
  |some r=>some ⟨.loop (jN r.1 r.2.mr) (iz ids r.1 r.2.mo) r.2.pc,none,r.2.ex,r.2.mr,r.2.mo⟩
  |none=>some gg)
 |rm,.loop a,S=>
  match iter (fun S=>comp C fn s n ids R rm a S) 8 S with
  |some r=>some ⟨.loop (jN r.1 r.2.mr) (iz ids r.1 r.2.mo) r.2.pc,none,r.2.ex,r.2.mr,r.2.mo⟩
  |none=>some gg
 |_,.exit id,S=>bif Nat.beq id cB then some gg else some ⟨.exit id,none,[(id,S)],0,[]⟩
 |rm,.ret,S=>
  bif rm then some ⟨.exit cB,none,[(cB,S)],0,[]⟩ else
  match vX C fn s (S.st ids) with
  |some e=>some ⟨.ret e,none,[],0,[]⟩
  |none=>some gg
 |rm,.rangeFunc g ps a b,S=>
  match rm,C.yl,use C (S.st ids) [] g with
  |false,none,some (.fn as r,e)=>
   match lF as r with
   |some ys=>
    match iter (fun S=>(comp C fn s n ids R true a (S.start ps.toList ys)).bind fun ra=>
          match ra.out,ra.ex with
          |some S1,[]=>(comp C fn s n ids R true b S1).map (aCC (vi (ps.toList++cg a++cg b)) ra)
          |_,_=>none) 8 S with
    |some r=>
     bif Nat.beq ys.length ps.size&&ji ps.toList&&ps.toList.all (fun p=>Nat.blt p n)&&Nat.ble r.1.rs.length n then
           some ⟨.seq (.is [.callc [] n e []]) (.each (.r n) ps.toList (abe ids (r.1::r.2.ex.map (·.2)) r.2.mo) ((nk cB r.2.ex none).bind fun M=>vX C fn s (M.st ids)) r.2.pc),
            some r.1,r.2.ex.filter (fun x=> !Nat.beq x.1 cB),dw n,r.2.mo⟩
     else some gg
    |none=>some gg
   |none=>some gg
  |_,_,_=>some gg
 |_,_,_=>some gg
termination_by structural _ c=>c
def vg:Code→Option (MP×Code×List Nat)
 |.seq x (.seq y (.block k (.seq z code)))=>(xH x y k z).map fun p=>(p,code,cg x++(cg y++(cg z++cg code)))
 |_=>none
theorem X2 (C:Ctx)(fn:Func)(s:Sig)(n:Nat)(ids:List Nat)(R:Array Oper→Bool→Snap→Option (Snap×List PI))(rm:Bool)(a:Code)(S:Snap):comp C fn s n ids R rm (.loop a) S=
 match vg a with
 |some q=>xI ids n q.1 q.2.2 (fun S=>comp C fn s n ids R rm q.2.1 S) S
 |none=>
  match iter (fun S=>comp C fn s n ids R rm a S) 8 S with
  |some r=>some ⟨.loop (jN r.1 r.2.mr) (iz ids r.1 r.2.mo) r.2.pc,none,r.2.ex,r.2.mr,r.2.mo⟩
  |none=>some gg:=by
 by_cases h:∃x y k z code,a=.seq x (.seq y (.block k (.seq z code)))
 ·obtain⟨x,y,k,z,code,rfl⟩:=h
  conv=>lhs;unfold comp
  simp only[vg];cases xH x y k z<;>rfl
 ·have e:vg a=none:=by
   unfold vg;split
   ·rename_i x y k z code;exact absurd ⟨x,y,k,z,code,rfl⟩ h
   ·rfl
  rw[e];rw[comp];intro x y k z code e;exact h ⟨x,y,k,z,code,e⟩
def subs:Code→List Code
 |.seq a b=>.seq a b::(subs a++subs b)
 |.cond c a b=>.cond c a b::(subs a++subs b)
 |.block i a=>.block i a::subs a
 |.loop a=>.loop a::subs a
 |.rangeFunc g ps a b=>.rangeFunc g ps a b::(subs a++subs b)
 |c=>[c]
theorem aDd (c:Code):c∈subs c:=by cases c<;>simp[subs]
theorem aMU {a code:Code}{p:MP}{ws:List Nat}(h:vg a=some (p,code,ws)):code∈subs a:=by
 unfold vg at h;split at h
 ·simp only[Option.map_eq_some_iff] at h;obtain⟨q,_,e⟩:=h;cases e;simp[subs,aDd]
 ·cases h
def Nc (C:Ctx)(n:Nat)(ids:List Nat)(Φ:aU)(R:Array Oper→Bool→Snap→Option (Snap×List PI)):Prop:=
 ∀(id:Nat) (ops:Array Oper) (draw:Bool) (S:Snap) (r:Snap×List PI),R ops draw S=some r→
  ∀(rd:Option Nat) (w0:World) (σ0:Base) (ρ ρ':Env) (a:Act) (w:World) (Q:Exit→Act→World→Prop),CtxOK C σ0→nP C Φ w0 σ0→a.tmps.size=n→Good C w0 σ0 (S.st ids) ρ (fun _=>False) a w→PI.runs Φ r.2 ρ=some ρ'→
   (∀a' w',SameBut (pz ops) a a'→Good C w0 σ0 (r.1.st ids) ρ' (fun _=>False) a' w'→Q .normal a' w')→(Code.region id ops draw).wpIn (FR rd) 0 C.P Q a w
section
variable {C:Ctx} {ρ ρ':Env} {σ:Im} {own:Nat→Option Nat} {hv:Nat→Value} {w0:World} {σ0:Base} {A:Nat→Prop} {a:Act} {w:World} {Φ:aU} {n:Nat} {ids:List Nat} {fn:Func} {s:Sig}
 {R:Array Oper→Bool→Snap→Option (Snap×List PI)}
def gh (C:Ctx)(w0:World)(σ0:Base)(ids:List Nat)(fn:Func)(s:Sig)(rm:Bool)(wr:Nat→Prop)(a0:Act)(out:Option Snap)(ex:List (Nat×Snap))(x:Out):Exit→Act→World→Prop
 |.normal,a,w=>∃ρ S,x=.next ρ∧out=some S∧SameBut wr a0 a∧Good C w0 σ0 (S.st ids) ρ (fun _=>False) a w
 |.exit id,a,w=>∃ρ S,x=.exit id ρ∧id≠cB∧(id,S)∈ex∧SameBut wr a0 a∧Good C w0 σ0 (S.st ids) ρ (fun _=>False) a w
 |.ret,a,w=>match rm with
  |false=>∃d,x=.ret d∧pq C w0 σ0 fn s d a.tmps a.defers w∧SameBut wr a0 a
  |true=>∃ρ S,x=.exit cB ρ∧(cB,S)∈ex∧SameBut wr a0 a∧Good C w0 σ0 (S.st ids) ρ (fun _=>False) a w
 |_,_,_=>False
theorem Good.meet1 {x y:Snap}(h:Good C w0 σ0 (x.st ids) ρ A a w):Good C w0 σ0 ((x.meet y).st ids) ρ (fun _=>False) a w:=by
 obtain⟨σ,own,hv,h⟩:=h;exact⟨σ,own,hv,Snap.meet_ok1 h⟩
theorem Good.meet2 {x y:Snap}(h:Good C w0 σ0 (y.st ids) ρ A a w):Good C w0 σ0 ((x.meet y).st ids) ρ (fun _=>False) a w:=by
 obtain⟨σ,own,hv,h⟩:=h;exact⟨σ,own,hv,Snap.meet_ok2 h⟩
theorem abt {x:Snap}{y:Option Snap}{M:Snap}(h:Good C w0 σ0 (x.st ids) ρ (fun _=>False) a w)(hm:lH (some x) y=some M):Good C w0 σ0 (M.st ids) ρ (fun _=>False) a w:=by
 cases y<;>simp[lH] at hm<;>subst hm
 ·exact h
 ·exact h.meet1
theorem abu {x:Option Snap}{y:Snap}{M:Snap}(h:Good C w0 σ0 (y.st ids) ρ (fun _=>False) a w)(hm:lH x (some y)=some M):Good C w0 σ0 (M.st ids) ρ (fun _=>False) a w:=by
 cases x<;>simp[lH] at hm<;>subst hm
 ·exact h
 ·exact h.meet2
theorem abv {x:Snap}{y:Option Snap}:∃M,lH (some x) y=some M:=by cases y<;>simp[lH]
theorem abw {x:Option Snap}{y:Snap}:∃M,lH x (some y)=some M:=by cases x<;>simp[lH]
theorem Ii {id:Nat}:∀(l:List (Nat×Snap)) {x:Snap},Good C w0 σ0 (x.st ids) ρ (fun _=>False) a w→∃M,nk id l (some x)=some M∧Good C w0 σ0 (M.st ids) ρ (fun _=>False) a w
 |[],x,h=>⟨x,rfl,h⟩
 |y::l,x,h=>by
  simp only[nk];cases Nat.beq y.1 id
  ·exact Ii l h
  ·obtain⟨M,hM⟩:=@abv x (some y.2);simp only[cond_true,hM];exact Ii l (abt h hM)
theorem QR {id:Nat}{S:Snap}(h:Good C w0 σ0 (S.st ids) ρ (fun _=>False) a w):∀(l:List (Nat×Snap)) (x:Option Snap),(id,S)∈l→∃M,nk id l x=some M∧Good C w0 σ0 (M.st ids) ρ (fun _=>False) a w
 |y::l,x,hm=>by
  simp only[nk];rcases List.mem_cons.1 hm with e|hm
  ·subst e;simp only[Nat.beq_refl,cond_true];obtain⟨M,hM⟩:=@abw x S;rw[hM];exact Ii l (abu h hM)
  ·exact QR h l _ hm
theorem Cl {step:Snap→Option Res2}:∀(k:Nat) {S:Snap} {r:Snap×Res2},iter step k S=some r→
 step r.1=some r.2∧(∀T,r.2.out=some T→r.1.meet T=r.1)∧∀{ρ:Env} {a:Act} {w:World},Good C w0 σ0 (S.st ids) ρ (fun _=>False) a w→Good C w0 σ0 (r.1.st ids) ρ (fun _=>False) a w
 |0,S,r,h=>by simp[iter] at h
 |k+1,S,r,h=>by
  simp only[iter,Option.bind_eq_some_iff] at h;obtain⟨q,hq,h⟩:=h;split at h
  ·rename_i ho;cases h;exact⟨hq,fun T hT=>by simp[ho] at hT,fun g=>g⟩
  ·rename_i T ho;cases hb:(S.meet T).beq S<;>simp only[hb,cond_true,cond_false] at h
   ·obtain⟨h1,h2,h3⟩:=Cl k h;exact⟨h1,h2,fun g=>h3 g.meet1⟩
   ·cases h;refine⟨hq,fun T' hT=>?_,fun g=>g⟩;simp only[ho,Option.some.injEq] at hT;subst hT;exact Snap.beq_eq _ _ hb
theorem aaK {step:Snap→Option Res2}{hv:Nat→Value}:∀(k:Nat) {S:Snap} {r:Snap×Res2},iter step k S=some r→Inv C (S.st ids) ρ σ own hv w0 σ0 (fun _=>False) a w→Inv C (r.1.st ids) ρ σ own hv w0 σ0 (fun _=>False) a w
 |0,S,r,h,_=>by simp[iter] at h
 |k+1,S,r,h,i=>by
  simp only[iter,Option.bind_eq_some_iff] at h;obtain⟨q,hq,h⟩:=h;split at h
  ·cases h;exact i
  ·rename_i T ho;cases hb:(S.meet T).beq S<;>simp only[hb,cond_true,cond_false] at h
   ·exact aaK k h (Snap.meet_ok1 i)
   ·cases h;exact i
theorem Good.joined {M:Snap}{m:Nat}{mo mr' mo':List Nat}(h:Good C w0 σ0 (M.st ids) ρ' (fun _=>False) a w)(hb:ρ.but ρ' mr' mo')(h1:∀t,t∈mr'→az m t=true)(h2:∀j,j∈mo'→j∈mo):
 Good C w0 σ0 (M.st ids) (ρ.join (jN M m) (iz ids M mo) ρ') (fun _=>False) a w:=by
 obtain⟨σ,own,hv,h⟩:=h;refine⟨σ,own,hv,h.env (Snap.noOpt _ _) (fun t ht=>?_) (fun j hj=>?_)⟩
 ·simp only[Env.join,Env.put,rA];split
  ·rfl
  ·rename_i hm;refine(hb.r t fun BR=>hm ?_).symm;have ak:t<M.rs.length:=by
        refine Nat.lt_of_not_le fun hle=>?_;simp only[Snap.st,List.getD_eq_getElem?_getD,List.getElem?_eq_none hle,Option.getD_none,cl,isNone] at ht;cases ht
   exact List.mem_filter.2 ⟨List.mem_range.2 ak,by rw[h1 t BR];simpa [Snap.st] using ht⟩
 ·simp only[Env.join,Env.put,rA];split
  ·rfl
  ·rename_i hm;refine(hb.o j fun BR=>hm ?_).symm;exact List.mem_filter.2 ⟨h2 j BR,by simpa [Snap.st] using hj⟩
theorem Ij {S:Snap}{m t:Nat}(h:t∈jN S m):az m t=true:=by
 have:=(List.mem_filter.1 h).2;simp only[Bool.and_eq_true] at this;exact this.1
theorem xJ {S:Snap}{l:List Nat}{j:Nat}(h:j∈iz ids S l):j∈l:=(List.mem_filter.1 h).1
theorem XB {id:Nat}{q:Res2}(h:(∀t,t∈q.pc.modR→az q.mr t=true)∧∀j,j∈q.pc.modO→j∈q.mo):(∀t,t∈(fN ids id q).pc.modR→az (fN ids id q).mr t=true)∧∀j,j∈(fN ids id q).pc.modO→j∈(fN ids id q).mo:=by
 unfold fN;cases hm:nk id q.ex q.out<;>simp only
 ·simpa [PC.modR,PC.modO] using h
 ·refine⟨fun t ht=>?_,fun j hj=>?_⟩
  ·simp only[PC.modR,List.mem_append] at ht;exact ht.elim Ij (h.1 t)
  ·simp only[PC.modO,List.mem_append] at hj;exact hj.elim xJ (h.2 j)
theorem azl {p:MP}{ws:List Nat}{f:Snap→Option Res2}{S:Snap}{r:Res2}(h:xI ids n p ws f S=some r):(∀t,t∈r.pc.modR→az r.mr t=true)∧∀j,j∈r.pc.modO→j∈r.mo:=by
 unfold xI at h;split at h
 case h_2=>cases h;exact lU
 split at h
 case h_2=>cases h;exact lU
 simp only at h;split at h
 case h_2=>cases h;exact lU
 rw[Bool.cond_eq_ite] at h;split at h
 ·cases h;refine⟨fun t ht=>by simp[PC.modR] at ht,fun j hj=>?_⟩;simp only[PC.modO,List.append_nil] at hj;exact xJ hj
 ·cases h;exact lU
theorem rX:∀(c:Code) {rm:Bool} {S:Snap} {r:Res2},comp C fn s n ids R rm c S=some r→(∀t,t∈r.pc.modR→az r.mr t=true)∧∀j,j∈r.pc.modO→j∈r.mo:=by
 intro c
 induction c with
 |skip=>intro rm S r h;simp only[comp,Option.some.injEq] at h;subst h;simp[PC.modR,PC.modO]
 |region id ops draw=>
  intro rm S r h;simp only[comp,Option.map_eq_some_iff] at h;obtain⟨q,_,rfl⟩:=h;exact⟨fun t ht=>abl _ ht,fun j hj=>azr _ hj⟩
 |seq x y iw u7=>
  intro rm S r h;simp only[comp,Option.bind_eq_some_iff] at h;obtain⟨q,hq,h⟩:=h;split at h
  ·cases h;exact iw hq
  ·simp only[Option.map_eq_some_iff] at h;obtain⟨p,hp,rfl⟩:=h;refine⟨fun t ht=>?_,fun j hj=>?_⟩
   ·simp only[PC.modR,List.mem_append] at ht;rw[eK,Bool.or_eq_true];exact ht.imp ((iw hq).1 t) ((u7 hp).1 t)
   ·simp only[PC.modO,List.mem_append] at hj;rw[oI];exact hj.imp ((iw hq).2 j) ((u7 hp).2 j)
 |cond c x y iw u7=>
  intro rm S r h;simp only[comp] at h;split at h
  case h_2=>cases h;exact lU
  rename_i e _;simp only[Option.bind_eq_some_iff,Option.map_eq_some_iff] at h;obtain⟨q,hq,p,hp,rfl⟩:=h;cases hm:lH q.out p.out<;>simp only[hm]
  ·refine⟨fun t ht=>?_,fun j hj=>?_⟩
   ·simp only[PC.modR,List.mem_append,List.nil_append] at ht;rw[eK,Bool.or_eq_true];exact ht.imp ((iw hq).1 t) ((u7 hp).1 t)
   ·simp only[PC.modO,List.mem_append,List.nil_append] at hj;rw[oI];exact hj.imp ((iw hq).2 j) ((u7 hp).2 j)
  ·refine⟨fun t ht=>?_,fun j hj=>?_⟩
   ·simp only[PC.modR,List.mem_append] at ht;rw[eK,Bool.or_eq_true];rcases ht with(ht|ht)|ht
    ·have:=Ij ht;rw[eK,Bool.or_eq_true] at this;exact this
    ·exact .inl ((iw hq).1 t ht)
    ·exact .inr ((u7 hp).1 t ht)
   ·simp only[PC.modO,List.mem_append] at hj;rcases hj with(hj|hj)|hj
    ·exact xJ hj
    ·exact oI.2 (.inl ((iw hq).2 j hj))
    ·exact oI.2 (.inr ((u7 hp).2 j hj))
 |block id x iw=>
  intro rm S r h;simp only[comp] at h;cases cv:Nat.beq id cB<;>simp only[cv,cond_true,cond_false] at h
  case true=>cases h;exact lU
  simp only[Option.map_eq_some_iff] at h;obtain⟨q,hq,rfl⟩:=h;exact XB (iw hq)
 |loop x iw=>
  intro rm S r h;rw[X2] at h;split at h
  ·exact azl h
  split at h
  case h_2=>cases h;exact lU
  rename_i q hq;cases h;have hs:=(Cl (C:=C) (w0:=default) (σ0:=Base.mk0 ⟨fun _ _=>none,fun _=>none⟩ 0) (ids:=ids) 8 hq).1;refine⟨fun t ht=>?_,fun j hj=>?_⟩
  ·simp only[PC.modR,List.mem_append] at ht;exact ht.elim Ij ((iw hs).1 t)
  ·simp only[PC.modO,List.mem_append] at hj;exact hj.elim xJ ((iw hs).2 j)
 |exit id=>
  intro rm S r h;simp only[comp] at h;cases cv:Nat.beq id cB<;>simp only[cv,cond_true,cond_false] at h<;>cases h
  ·simp[PC.modR,PC.modO]
  ·exact lU
 |ret=>
  intro rm S r h;simp only[comp] at h;cases rm<;>simp only[cond_true,cond_false] at h
  case true=>cases h;simp[PC.modR,PC.modO]
  split at h
  ·cases h;simp[PC.modR,PC.modO]
  ·cases h;exact lU
 |rangeFunc g ps x y _ _=>
  intro rm S r h;simp only[comp] at h;split at h
  case h_2=>cases h;exact lU
  split at h
  case h_2=>cases h;exact lU
  split at h
  case h_2=>cases h;exact lU
  rename_i q hq;rw[Bool.cond_eq_ite] at h;split at h
  ·cases h;refine⟨fun t ht=>?_,fun j hj=>?_⟩
   ·simp[PC.modR,PI.modR] at ht;subst ht;exact px _
   ·simp only[PC.modO,PI.modO,List.flatMap_cons,List.flatMap_nil,List.append_nil,List.nil_append] at hj;exact(List.mem_filter.1 hj).1
  ·cases h;exact lU
 |_=>intro rm S r h;simp only[comp,Option.some.injEq] at h;subst h;exact lU
theorem gh.mono {rm:Bool}{wr:Nat→Prop}{a0 a1:Act}{out afm:Option Snap}{ex Ys:List (Nat×Snap)}{x:Out}{e:Exit}(h:gh C w0 σ0 ids fn s rm wr a0 out ex x e a w)(he:∀y,y∈ex→y∈Ys)(hs:SameBut wr a1 a0)
 (ho:e=.normal→afm=out):gh C w0 σ0 ids fn s rm wr a1 afm Ys x e a w:=by
 cases e with
 |normal=>obtain⟨ρ,S,h1,h2,h3,h4⟩:=h;exact⟨ρ,S,h1,by rw[ho rfl];exact h2,hs.trans h3,h4⟩
 |exit id=>obtain⟨ρ,S,h1,h2,h3,h4,h5⟩:=h;exact⟨ρ,S,h1,h2,he _ h3,hs.trans h4,h5⟩
 |ret=>
  cases rm with
  |false=>obtain⟨d,h1,h2,h3⟩:=h;exact⟨d,h1,h2,hs.trans h3⟩
  |true=>obtain⟨ρ,S,h1,h3,h4,h5⟩:=h;exact⟨ρ,S,h1,he _ h3,hs.trans h4,h5⟩
 |_=>exact h.elim
theorem Yl {body:Env→Option Out}{ρ:Env}{ps lo:List Nat}{rt:Option PE}{x:Out}:∀{xs vo:List D},gM body ρ ps lo rt xs vo=some x→
 ∃(m:Nat) (lX:Nat→List D),m≤xs.length∧lX 0=vo∧
  (∀i,i<m→∃y ρ',xs[i]?=some y∧body (ρ.put ps (partsOf ps y) lo (lX i))=some (.next ρ')∧lo.map ρ'.o=lX (i+1))∧
  ((m=xs.length∧x=.next (ρ.put [] [] lo (lX m)))∨
   (m<xs.length∧∃y id ρ',xs[m]?=some y∧body (ρ.put ps (partsOf ps y) lo (lX m))=some (.exit id ρ')∧
    ((id≠cB∧x=.exit id (ρ.put [] [] lo (lo.map ρ'.o)))∨(id=cB∧∃e,rt=some e∧x=.ret (e.ev (ρ.put [] [] lo (lo.map ρ'.o)))))))
 |[],vo,h=>by
  simp only[gM,Option.some.injEq] at h;exact⟨0,fun _=>vo,Nat.le_refl _,rfl,fun i hi=>by omega,.inl ⟨rfl,h.symm⟩⟩
 |y::xs,vo,h=>by
  simp only[gM] at h;split at h
  ·rename_i ρ' hb;obtain⟨m,lX,h1,h2,h3,h4⟩:=Yl h;refine⟨m+1,fun i=>match i with|0=>vo|i+1=>lX i,by simp;omega,rfl,fun i hi=>?_,?_⟩
   ·cases i with
    |zero=>exact⟨y,ρ',rfl,hb,h2.symm⟩
    |succ i=>simpa using h3 i (by omega)
   ·rcases h4 with⟨e1,e2⟩|⟨e1,z,id,ρ2,e2,e3,e4⟩
    ·exact .inl ⟨by simp[e1],e2⟩
    ·exact .inr ⟨by simp;omega,z,id,ρ2,by simpa using e2,e3,e4⟩
  ·rename_i id ρ' hb;refine⟨0,fun _=>vo,Nat.zero_le _,rfl,fun i hi=>by omega,.inr ⟨by simp,y,id,ρ',rfl,hb,?_⟩⟩;cases cv:Nat.beq id cB<;>simp only[cv,cond_true,cond_false] at h
   ·refine .inl ⟨fun e=>?_,(Option.some.inj h).symm⟩;subst e;simp at cv
   ·simp only[Option.map_eq_some_iff] at h;obtain⟨e,he,e2⟩:=h;exact .inr ⟨Nat.eq_of_beq_eq_true cv,e,he,e2.symm⟩
  ·cases h
theorem Xz {l:List Nat}{t:Nat}(h:t∈l):az (vi l) t=true:=by
 induction l with
 |nil=>cases h
 |cons x l ih=>
  have e:vi (x::l)=Nat.lor (dw x) (vi l):=rfl;rw[e,eK];rcases List.mem_cons.1 h with e|e
  ·subst e;rw[px];rfl
  ·rw[ih e];simp
theorem QO (m:Nat):∀(l:List Sh) (k t:Nat),(rk m k l).getD t .none=if az m (k+t)=true then .none else l.getD t .none
 |[],k,t=>by simp[rk]
 |s::l,k,0=>by
  simp only[rk,List.getD_cons_zero,Nat.add_zero];cases az m k<;>rfl
 |s::l,k,t+1=>by
  simp only[rk,List.getD_cons_succ];rw[QO m l (k+1) t,show k+1+t=k+(t+1) by omega]
theorem Cs (m:Nat)(S:Snap)(t:Nat):((S.mask m).st ids).r t=if az m t=true then .none else(S.st ids).r t:=by
 show cl ((rk m 0 S.rs).getD t .none)=if az m t=true then .none else cl (S.rs.getD t .none);rw[QO,Nat.zero_add];split<;>rfl
theorem azq {m:Nat}{x S:Snap}{t:Nat}(h:az m t=true):((x.meet (S.mask m)).st ids).r t=.none:=by
 show cl ((List.zipWith iI x.rs (rk m 0 S.rs)).getD t .none)=.none;rcases M7 (f:=iI) x.rs (rk m 0 S.rs) t with h0|⟨s,u,h1,h2,h3⟩
 ·rw[h0];rfl
 ·rw[QO,Nat.zero_add,if_pos h] at h2;subst h2;rw[h3];cases s<;>rfl
theorem Inv.maskR {S:Snap}{hv:Nat→Value}(h:Inv C (S.st ids) ρ σ own hv w0 σ0 A a w)(m:Nat):Inv C ((S.mask m).st ids) ρ σ own hv w0 σ0 (fun _=>False) a w:=by
 have hc:Compat (S.st ids) hv ((S.mask m).st ids) hv:=⟨fun _=>Nat.le_refl _,fun _ _=>rfl⟩
 refine h.weaken (fun t=>?_) (fun j=>?_) (Snap.noOpt _ _) (fun j hj=>⟨hj,rfl⟩)
 ·refine aJ.mono' (ρ:=ρ) (.refl σ) hc (Snap.noOpt _ _ t) ?_;rw[Cs];split
  ·trivial
  ·exact h.regs t
 ·exact(h.objs j).mono (.refl σ) hc rfl rfl (fun k hk=>⟨hk,rfl⟩)
theorem Uc:∀(ps:List Nat) (ys:List Ty) (l:List Sh),ps.length=ys.length→ji ps=true→∀t,(qt ps ys l).getD t .none=.none∨(t∉ps∧(qt ps ys l).getD t .none=l.getD t .none)∨∃(i:Nat) (y:Ty),ps[i]?=some t∧ys[i]?=some y∧(qt ps ys l).getD t .none=.dat y
 |[],ys,l,_,_,t=>.inr (.inl ⟨by simp,by cases ys<;>rfl⟩)
 |p::ps,[],l,h,_,t=>by simp at h
 |p::ps,y::ys,l,h,hn,t=>by
  have ic:=mG hn;rw[List.nodup_cons] at ic;have de:ji ps=true:=by
   simp only[ji,Bool.and_eq_true] at hn;exact hn.2
  show(qt ps ys (l.set p (.dat y))).getD t .none=_∨_∨_;rcases Uc ps ys (l.set p (.dat y)) (by simpa using h) de t with e|⟨e1,e2⟩|⟨i,z,e1,e2,e3⟩
  ·exact .inl e
  ·by_cases hp:t=p
   ·subst hp;by_cases ak:t<l.length
    ·exact .inr (.inr ⟨0,y,rfl,rfl,by show(qt ps ys (l.set t (.dat y))).getD t .none=_;rw[e2];simp[List.getD_eq_getElem?_getD,ak]⟩)
    ·left;rw[e2];simp[List.getD_eq_getElem?_getD,ak]
   ·refine .inr (.inl ⟨by simp[hp,e1],?_⟩);show(qt ps ys (l.set p (.dat y))).getD t .none=_;rw[e2];simp only[List.getD_eq_getElem?_getD,List.getElem?_set];rw[if_neg (fun e=>hp e.symm)]
  ·exact .inr (.inr ⟨i+1,z,by simpa using e1,by simpa using e2,e3⟩)
def lR:List Nat→List Value→Array Value→Array Value
 |p::ps,v::vs,T=>lR ps vs (T.setIfInBounds p v)
 |_,_,T=>T
theorem aCU (ps:Array Nat)(vs:Array Value)(T:Array Value):(ps.zip vs).foldl (fun T x=>T.setIfInBounds x.1 x.2) T=lR ps.toList vs.toList T:=by
 rw[←Array.foldl_toList,Array.toList_zip];generalize ps.toList=l;generalize vs.toList=k
 induction l generalizing k T with
 |nil=>rfl
 |cons p l ih=>
  cases k with
  |nil=>rfl
  |cons v k=>simpa [lR] using ih (T.setIfInBounds p v) k
theorem ahw:∀(ps:List Nat) (vs:List Value) (T:Array Value),(lR ps vs T).size=T.size
 |[],vs,T=>by cases vs<;>rfl
 |p::ps,[],T=>rfl
 |p::ps,v::vs,T=>by simp[lR,ahw ps vs]
theorem MC:∀(ps:List Nat) (vs:List Value) (T:Array Value) (t:Nat),t∉ps→(lR ps vs T).getD t undef=T.getD t undef
 |[],vs,T,t,_=>by cases vs<;>rfl
 |p::ps,[],T,t,_=>rfl
 |p::ps,v::vs,T,t,h=>by
  simp only[List.mem_cons,not_or] at h;simp only[lR];rw[MC ps vs _ t h.2];simp only[Array.getD_eq_getD_getElem?,Array.getElem?_setIfInBounds];rw[if_neg (fun e=>h.1 e.symm)]
theorem ahv:∀(ps:List Nat) (vs:List Value) (T:Array Value) (i t:Nat),ps.Nodup→ps.length=vs.length→(∀p,p∈ps→p<T.size)→ps[i]?=some t→(lR ps vs T).getD t undef=vs.getD i undef
 |p::ps,v::vs,T,0,t,hn,hl,ak,h=>by
  simp at h;subst h;rw[List.nodup_cons] at hn;simp only[lR];rw[MC ps vs _ p hn.1];simp[Array.getElem?_setIfInBounds,ak p (List.mem_cons_self ..)]
 |p::ps,v::vs,T,i+1,t,hn,hl,ak,h=>by
  rw[List.nodup_cons] at hn;simp only[lR];have:=ahv ps vs (T.setIfInBounds p v) i t hn.2 (by simpa using hl) (fun q hq=>by simpa using ak q (List.mem_cons_of_mem _ hq)) (by simpa using h);simpa using this
 |p::ps,[],T,i,t,hn,hl,ak,h=>by simp at hl
 |[],vs,T,i,t,hn,hl,ak,h=>by simp at h
theorem yk (f:Nat→D):∀(ps:List Nat) (vs:List D) (t:Nat),t∉ps→putL f ps vs t=f t
 |[],vs,t,_=>by cases vs<;>rfl
 |p::ps,[],t,_=>rfl
 |p::ps,v::vs,t,h=>by
  simp only[List.mem_cons,not_or] at h;simp only[putL,bq _ _ h.1];exact yk f ps vs t h.2
theorem Sc (f:Nat→D):∀(ps:List Nat) (vs:List D) (i t:Nat),ps.Nodup→ps.length=vs.length→ps[i]?=some t→putL f ps vs t=vs.getD i .none
 |p::ps,v::vs,0,t,hn,hl,h=>by
  simp at h;subst h;simp[putL,aQ]
 |p::ps,v::vs,i+1,t,hn,hl,h=>by
  rw[List.nodup_cons] at hn;have ht:t∈ps:=List.mem_of_getElem? (by simpa using h);have aG:t≠p:=fun e=>hn.1 (e▸ht);simp only[putL,bq _ _ aG];have:=Sc f ps vs i t hn.2 (by simpa using hl) (by simpa using h);simpa using this
 |p::ps,[],i,t,hn,hl,h=>by simp at hl
 |[],vs,i,t,hn,hl,h=>by simp at h
theorem aBi (ps:List Nat)(ds:List D)(i:Nat)(h:i<ps.length):(partsOf ps (.tup ds)).getD i .none=ds.getD i .none:=by
 simp[partsOf,List.getD_eq_getElem?_getD,h,D.tget]
theorem aBh (ps:List Nat)(x:D):(partsOf ps x).length=ps.length:=by simp[partsOf]
theorem Inv.startR {S:Snap}{hv:Nat→Value}(h:Inv C (S.st ids) ρ σ own hv w0 σ0 A a w){ps:List Nat}{ys:List Ty}{args:List Value}{ds:List D}{lo:List Nat}{vo:List D}(hl:ps.length=ys.length)(bC:ji ps=true)(ak:∀p,p∈ps→p<a.tmps.size)(ha:pj C σ ys args ds)
 (hρ:ρ=ρ'.put [] [] lo vo):Inv C ((S.start ps ys).st ids) (ρ'.put ps (partsOf ps (.tup ds)) lo vo) σ own hv w0 σ0 (fun _=>False) {tmps:=lR ps args a.tmps,defers:=[]} w:=by
 obtain⟨a1,a2,a3⟩:=ha;have hn:=mG bC;have hc:Compat (S.st ids) hv ((S.start ps ys).st ids) hv:=⟨fun _=>Nat.le_refl _,fun _ _=>rfl⟩
 have ho:∀j,(ρ'.put ps (partsOf ps (.tup ds)) lo vo).o j=ρ.o j:=fun j=>by rw[hρ];rfl
 refine⟨trivial,h.ok,h.le,h.old,h.newc,h.newm,h.below,h.bw,h.owns,fun t=>?_,fun j=>(h.objs j).mono (.refl σ) hc rfl (ho j) (fun k hk=>⟨hk,rfl⟩),fun t gs s e=>absurd e (Snap.noOpt _ _ t gs s),?_⟩
 ·show aJ C _ _ σ hv (cl ((qt ps ys (S.rs.map qY)).getD t .none)) ((lR ps args a.tmps).getD t undef) (putL ρ'.r ps (partsOf ps (.tup ds)) t);rcases Uc ps ys (S.rs.map qY) hl bC t with e|⟨e1,e2⟩|⟨i,y,e1,e2,e3⟩
  ·rw[e];trivial
  ·rw[e2,MC _ _ _ _ e1,yk _ _ _ _ e1];have hr:=h.regs t;change aJ C _ ρ σ hv (cl (S.rs.getD t .none)) _ _ at hr;have hρr:ρ.r t=ρ'.r t:=by rw[hρ];show putL ρ'.r [] [] t=_;rfl
   rw[hρr] at hr;have e3:(S.rs.map qY).getD t .none=qY (S.rs.getD t .none):=by
        simp only[List.getD_eq_getElem?_getD,List.getElem?_map];cases S.rs[t]?<;>rfl
   rw[e3];generalize S.rs.getD t .none=s at hr;cases s with
   |yv=>trivial
   |opt gs s=>trivial
   |none=>trivial
   |fclo f c=>exact aJ.mono' (.refl σ) hc (fun _ _ e=>by cases e) hr
   |dat t=>exact hr
   |obj j v=>exact aJ.mono' (.refl σ) hc (fun _ _ e=>by cases e) hr
   |ptr j v o=>exact aJ.mono' (.refl σ) hc (fun _ _ e=>by cases e) hr
   |eptr j v o q=>exact aJ.mono' (.refl σ) hc (fun _ _ e=>by cases e) hr
  ·rw[e3];have hi:i<ps.length:=(List.getElem?_eq_some_iff.1 e1).1;rw[ahv ps args a.tmps i t hn (by omega) ak e1,Sc _ ps _ i t hn (by rw[aBh]) e1,aBi _ _ _ hi];exact a3 i y e2
 ·obtain⟨t,fx,cx,h1,h2⟩:=h.frame;exact⟨t,fx,cx,h1,fun j hj=>⟨(h2 j hj).1,by rw[ho j];exact(h2 j hj).2⟩⟩
def tS (C:Ctx)(Φ:aU)(fn:Func)(s:Sig)(n:Nat)(ids:List Nat)(R:Array Oper→Bool→Snap→Option (Snap×List PI))(N:Nat)(c:Code):Prop:=
 ∀(rm:Bool) (S:Snap) (r:Res2),comp C fn s n ids R rm c S=some r→∀(rd:Option Nat) (w0:World) (σ0:Base) (wr:Nat→Prop) (ρ:Env) (x:Out) (a:Act) (w:World),(rm=false→rd=none∧σ0.fin)→CtxOK C σ0→nP C Φ w0 σ0→(∀t,t∈cg c→wr t)→a.tmps.size=n→
  Good C w0 σ0 (S.st ids) ρ (fun _=>False) a w→r.pc.ev Φ N ρ=some x→c.wpIn (FR rd) 0 C.P (gh C w0 σ0 ids fn s rm wr a r.out r.ex x) a w
structure Seg (σ:Im) (own:Nat→Option Nat) (w:World) (σ':Im) (own':Nat→Option Nat) (w':World):Prop where
 le:σ.le σ'
 below:Below 0 w w'
 same:∀k,k<w.heap.size→own k=none→w'.heap[k]?=w.heap[k]?
 ow:∀k j,own' k=some j→(∃i,own k=some i)∨w.heap.size≤k
 imm:∀k,((∃o x,σ'.c k o=some x)∨∃x,σ'.m k=some x)→(∃o x,σ.c k o=some x)∨(∃x,σ.m k=some x)∨(∃i,own k=some i)∨w.heap.size≤k
structure Free (L:Nat) (σ:Im) (own:Nat→Option Nat):Prop where
 own:own L=none
 c:∀o,σ.c L o=none
 m:σ.m L=none
theorem Free.seg {L:Nat}{σ':Im}{own':Nat→Option Nat}{w':World}(h:Free L σ own)(hL:L<w.heap.size)(k:Seg σ own w σ' own' w'):Free L σ' own':=by
 have BH:¬((∃o x,σ'.c L o=some x)∨∃x,σ'.m L=some x):=fun e=>by
  rcases k.imm L e with⟨o,x,e⟩|⟨x,e⟩|⟨i,e⟩|e
  ·rw[h.c o] at e;cases e
  ·rw[h.m] at e;cases e
  ·rw[h.own] at e;cases e
  ·omega
 refine⟨?_,fun o=>?_,?_⟩
 ·cases e:own' L with
  |none=>rfl
  |some j=>
   rcases k.ow L j e with⟨i,e⟩|e
   ·rw[h.own] at e;cases e
   ·omega
 ·cases e:σ'.c L o with
  |none=>rfl
  |some x=>exact absurd (.inl ⟨o,x,e⟩) BH
 ·cases e:σ'.m L with
  |none=>rfl
  |some x=>exact absurd (.inr ⟨x,e⟩) BH
def aiF (C:Ctx)(w0:World)(σ0:Base)(ids:List Nat)(wr:Nat→Prop)(a0:Act)(σ:Im)(own:Nat→Option Nat)(w:World)(out:Option Snap)(ex:List (Nat×Snap))(x:Out)(e:Exit)(a':Act)(w':World):Prop:=
 ∃ρ' S' σ' own' hv',Inv C (S'.st ids) ρ' σ' own' hv' w0 σ0 (fun _=>False) a' w'∧Seg σ own w σ' own' w'∧SameBut wr a0 a'∧
  match e with
  |.normal=>x=.next ρ'∧out=some S'
  |.exit id=>x=.exit id ρ'∧id≠cB∧(id,S')∈ex
  |.ret=>x=.exit cB ρ'∧(cB,S')∈ex
  |_=>False
theorem ahq {N:Nat}{c:Code}(hc:tS C Φ fn s n ids R N c){S:Snap}{r:Res2}(hr:comp C fn s n ids R true c S=some r)(jJ:C.yl=none)(hC:CtxOK C σ0){wr:Nat→Prop}{ρ:Env}{x:Out}{hv:Nat→Value}(h:Inv C (S.st ids) ρ σ own hv w0 σ0 (fun _=>False) a w)
 (gF:∀t,t∈cg c→wr t) (hn:a.tmps.size=n) (he:r.pc.ev Φ N ρ=some x) (L:Nat):c.wpIn (FR (some L)) 0 C.P (aiF C w0 σ0 ids wr a σ own w r.out r.ex x) a w:=by
 obtain⟨t,fx,cx,cS,ht⟩:=h.frame;have h1:=h.toRnd (X:=fun _=>False) ht;refine wpIn_mono (hc true S r hr (some L) w0 (σ0.rnd σ own w t fun _=>False) wr ρ x a w (fun e=>by cases e) (hC.mono h.le) (fun J ys e=>by rw[jJ] at e;cases e) gF hn ⟨_,_,_,h1⟩ he) fun e a' w' ho=>?_
 have main:∀{S':Snap} {ρ':Env},SameBut wr a a'→Good C w0 (σ0.rnd σ own w t fun _=>False) (S'.st ids) ρ' (fun _=>False) a' w'→∃σ' own' hv',Inv C (S'.st ids) ρ' σ' own' hv' w0 σ0 (fun _=>False) a' w'∧Seg σ own w σ' own' w'∧SameBut wr a a':=by
  intro S' ρ' hs hg;obtain⟨σ',own',hv',h2⟩:=hg;exact⟨σ',own',hv',h.ofRnd cS (fun _ _=>id) h2,⟨h2.le,h.rndBelow h2,fun k hk ho=>Inv.rndSame h.ok h2 hk ho id,fun k j e=>Inv.rndOwn h2 e id,fun k e=>Inv.rndC h2 e id⟩,hs⟩
 cases e with
 |normal=>
  obtain⟨ρ',S',e1,e2,e3,e4⟩:=ho;obtain⟨σ',own',hv',g1,g2,g3⟩:=main e3 e4;exact⟨ρ',S',σ',own',hv',g1,g2,g3,e1,e2⟩
 |exit id=>
  obtain⟨ρ',S',e1,e0,e2,e3,e4⟩:=ho;obtain⟨σ',own',hv',g1,g2,g3⟩:=main e3 e4;exact⟨ρ',S',σ',own',hv',g1,g2,g3,e1,e0,e2⟩
 |ret=>
  obtain⟨ρ',S',e1,e2,e3,e4⟩:=ho;obtain⟨σ',own',hv',g1,g2,g3⟩:=main e3 e4;exact⟨ρ',S',σ',own',hv',g1,g2,g3,e1,e2⟩
 |_=>exact ho.elim
theorem Inv.putL {L:Nat}{hv:Nat→Value}{S:St}{ρ:Env}(h:Inv C S ρ σ own hv w0 σ0 A a w)(hL:w0.heap.size≤L)(hf:Free L σ own)(hx:∀t fx cx,FrOK σ own w0.heap.size σ0 w t fx cx→¬fx L)(o:Obj):Inv C S ρ σ own hv w0 σ0 A a (w.putObj L o):=
 h.keep (X:=fun k=>k≠L) ⟨rfl,rfl,rfl,by simp,fun k hk=>by omega⟩ (fun k hk=>World.putObj_heap_other hk) (fun k hk=>by omega) (fun k j e1 e2=>by subst e2;rw[hf.own] at e1;cases e1) (fun k o v e1 e2=>by subst e2;rw[hf.c] at e1;cases e1)
  (fun k v e1 e2=>by subst e2;rw[hf.m] at e1;cases e1) (fun t fx cx cS k hk e=>by subst e;exact hx t fx cx cS hk)
theorem aGU {o:Oper}{L:Nat}{x:Operand}{as:Array Operand}{ts:Array TypeId}{r:Loop}(bK:o.op=.call {callee:=.value x,args:=as,argTypes:=ts})(hx:a.eval x=.func (.yield L) #[] #[])(hL:w.heap[L]?=some (.loop r))(hs:as.size=r.params.size):
 (execOp a.eval o).run C.P w=.ok (.round L r.fn ((r.params.zip (as.map a.eval)).foldl (fun tmps (t,v)=>tmps.setIfInBounds t v) r.tmps) r.assign r.body) w:=by
 have hy:=run_yield (P:=C.P) (args:=as.map a.eval) hL (by simpa using hs);simp[execOp,bK,resolve,hx,Deferred.ofValue,invoke,hy]
theorem aB0 {g:Operand}{f:Nat}{vs:List Value}{L:Nat}(hf:∃fn,C.P.funcs[f]?=some fn∧fn.body.isSome=true∧(fn.name== "runtime.NumGoroutine")=false)(hg:a.eval g=.func (.func f) #[] vs.toArray):
 (resolve a.eval (rangeCall g L) 0).run C.P w=.ok {target:=.fn (.func f) vs.toArray,args:=#[.func (.yield L) #[] #[]]} w∧
 (invoke (.fn (.func f) vs.toArray) #[.func (.yield L) #[] #[]]).run C.P w=.ok (.enter f (#[.func (.yield L) #[] #[]]++vs.toArray)) w:=by
 obtain⟨fn,h1,h2,h3⟩:=hf;obtain⟨bd,kJ⟩:=Option.isSome_iff_exists.1 h2;have h4:¬fn.name= "runtime.NumGoroutine" :=by simpa using h3
 constructor
 ·simp only[resolve,hg];simp[go_sem]
 ·simp[invoke,callFunc,h1,kJ,h4]
theorem FrOK.enter {hv:Nat→Value}{S:St}{ρ:Env}(h:Inv C S ρ σ own hv w0 σ0 A a w){t:D}{fx cx:Nat→Prop}(hf:FrOK σ own w0.heap.size σ0 w t fx cx)(r:Loop):FrOK (σ.mark w.heap.size) own w0.heap.size σ0 ((w.alloc (.deferred (some []))).alloc (.loop r)) t fx cx:=by
 have hb:=Yn w (.deferred (some [])) (.loop r);have ak:=σ0.lt _ _ _ _ hf.F;have cq:=σ0.sub _ _ _ _ hf.F;have uL:∀k x,(σ.mark w.heap.size).m k=some x→σ.m k=some x∨k=w.heap.size:=by
  intro k x e;simp only[Im.mark] at e;split at e
  ·rename_i e2;exact .inr e2
  ·exact .inl e
 refine⟨σ0.keep _ _ _ _ _ hf.F (hb.mono (Nat.zero_le _)) fun k hk=>hb.block k (ak k hk),hf.own,hf.c,fun k x e hc=>?_,fun k e hB hk=>?_⟩
 ·rcases uL k x e with e|e
  ·exact hf.m k x e hc
  ·have:=ak k (cq k hc);omega
 ·rcases uL k _ e with e|e
  ·exact hf.d k e hB hk
  ·have:=ak k hk;omega
structure RSt (C:Ctx) (w0:World) (σR:Base) (ids:List Nat) (ρ1:Env) (lo:List Nat) (aM:Act) (L:Nat) (W1:World) (σ1:Im) (rec:LoopState→Option Code→Loop) (xs:List D) (P:Nat→List D→Snap→LoopState→Option Code→Prop) (t:D) (fx cx:Nat→Prop) (w:World):Prop where
 lt:∀k,fx k→k<w.heap.size
 sub:∀k,cx k→fx k
 old:∀k,k<W1.heap.size→fx k
 ex:∃(i:Nat) (vo:List D) (Sx:Snap) (st:LoopState) (pe:Option Code) (σ:Im) (own:Nat→Option Nat) (hv:Nat→Value),t=.list (xs.take i)∧P i vo Sx st pe∧Inv C (Sx.st ids) (ρ1.put [] [] lo vo) σ own hv w0 σR (fun _=>False) aM w∧
  σ1.le σ∧Free L σ own∧w.heap[L]?=some (.loop (rec st pe))∧(∀k j,own k=some j→fx k)∧(∀k o x,σ.c k o=some x→fx k)∧(∀k x,σ.m k=some x→fx k)∧∀k,cx k↔((∃j,own k=some j)∨k=L)
theorem RSt.keep {σR:Base}{ρ1:Env}{lo:List Nat}{aM:Act}{L:Nat}{W1:World}{σ1:Im}{rec:LoopState→Option Code→Loop}{xs:List D}{P:Nat→List D→Snap→LoopState→Option Code→Prop}{t:D}{fx cx:Nat→Prop}{w w':World}
 (h0:w0.heap.size≤W1.heap.size) (hL:L<W1.heap.size) (hR:∀t f c w,σR.F t f c w→∀k,f k→k<W1.heap.size) (h:RSt C w0 σR ids ρ1 lo aM L W1 σ1 rec xs P t fx cx w) (hb:Below 0 w w') (hs:∀k,fx k→w'.heap[k]?=w.heap[k]?):
 RSt C w0 σR ids ρ1 lo aM L W1 σ1 rec xs P t fx cx w':=by
 obtain⟨i,vo,Sx,st,pe,σ,own,hv,e1,e2,e3,e4,e5,e6,e7,e8,e9,e10⟩:=h.ex;refine⟨fun k hk=>Nat.lt_of_lt_of_le (h.lt k hk) hb.size,h.sub,h.old,i,vo,Sx,st,pe,σ,own,hv,e1,e2,?_,e4,e5,(hs L (h.old L hL)).trans e6,e7,e8,e9,e10⟩;exact e3.keep (X:=fx) hb hs (fun k hk=>h.old k (by omega)) e7 e8 e9 (fun t f c hf k hk=>h.old k (hR _ _ _ _ hf.F k hk))
theorem Im.noM_m {σ:Im}{k:Nat}{v:List (Value×Value)}(h:σ.noM.m k=some v):σ.m k=some v∧v≠cK:=by
 simp only[Im.noM] at h;split at h
 ·cases h
 ·rename_i aG;exact⟨h,fun e=>aG (by rw[h,e])⟩
structure SegL (L:Nat) (σ:Im) (own:Nat→Option Nat) (w:World) (σ':Im) (own':Nat→Option Nat) (w':World):Prop where
 le:σ.le σ'
 below:Below 0 w w'
 same:∀k,k<w.heap.size→own k=none→k≠L→w'.heap[k]?=w.heap[k]?
 ow:∀k j,own' k=some j→(∃i,own k=some i)∨w.heap.size≤k
 imm:∀k,((∃o x,σ'.c k o=some x)∨∃x,σ'.m k=some x)→(∃o x,σ.c k o=some x)∨(∃x,σ.m k=some x)∨(∃i,own k=some i)∨w.heap.size≤k
theorem af7 (w:World)(L:Nat)(o:Obj):Below 0 w (w.putObj L o):=⟨rfl,rfl,rfl,by simp,fun k hk=>by omega⟩
theorem Seg.round {L:Nat}{σ' σ'':Im}{own' afn:Nat→Option Nat}{w' lY:World}{o o':Obj}(h:Seg σ own w σ' own' w')(k:Seg σ' own' (w'.putObj L o) σ'' afn lY):SegL L σ own w σ'' afn (lY.putObj L o'):=by
 have aN:=h.below.size;have HW:=k.below.size;simp only[World.putObj_size] at HW;refine⟨h.le.trans k.le,h.below.trans ((af7 _ _ _).trans (k.below.trans (af7 _ _ _))),fun q hq ho hL=>?_,fun q j e=>?_,fun q e=>?_⟩
 ·have h1:own' q=none:=by
   cases e:own' q with
   |none=>rfl
   |some j=>
    rcases h.ow q j e with⟨i,e⟩|e
    ·rw[ho] at e;cases e
    ·omega
  rw[World.putObj_heap_other hL,k.same q (by simp;omega) h1,World.putObj_heap_other hL,h.same q hq ho]
 ·rcases k.ow q j e with⟨i,e⟩|e
  ·exact h.ow q i e
  ·simp only[World.putObj_size] at e;exact .inr (by omega)
 ·rcases k.imm q e with e|e|⟨i,e⟩|e
  ·exact h.imm q (.inl e)
  ·exact h.imm q (.inr e)
  ·rcases h.ow q i e with e|e
   ·exact .inr (.inr (.inl e))
   ·exact .inr (.inr (.inr e))
  ·simp only[World.putObj_size] at e;exact .inr (.inr (.inr (by omega)))
theorem Env.put_self (ρ:Env)(lo:List Nat):ρ.put [] [] lo (lo.map ρ.o)=ρ:=by
 have h2:∀u,putL ρ.o lo (lo.map ρ.o) u=ρ.o u:=fun u=>by rw[rA];split<;>rfl
 show Env.mk ρ.r (putL ρ.o lo (lo.map ρ.o))=ρ;rw[funext h2]
theorem aB1 {N:Nat}(fg:fM C Φ){g:Operand}{ps:Array Tmp}{ca cb:Code}(bA:tS C Φ fn s n ids R N ca)(dM:tS C Φ fn s n ids R N cb):tS C Φ fn s n ids R N (.rangeFunc g ps ca cb):=by
 intro rm S r hr rd w0 σ0 wr ρ x a w fS hC hY gF hn hg he;simp only[comp] at hr;split at hr
 case h_2=>cases hr;exact absurd he (lT _ _ _ _)
 rename_i as rr e jJ hu;split at hr
 case h_2=>cases hr;exact absurd he (lT _ _ _ _)
 rename_i ys uY;split at hr
 case h_2=>cases hr;exact absurd he (lT _ _ _ _)
 rename_i q hq;rw[Bool.cond_eq_ite] at hr;split at hr
 case isFalse=>cases hr;exact absurd he (lT _ _ _ _)
 rename_i uB;cases hr;simp only[Bool.and_eq_true] at uB;obtain⟨⟨⟨hl,bC⟩,ak⟩,uO⟩:=uB;have hl:=Nat.eq_of_beq_eq_true hl;have uO:=Nat.le_of_ble_eq_true uO;obtain⟨hrd,mf⟩:=fS rfl;subst hrd;obtain⟨hs,xg,_⟩:=Cl (C:=C) (w0:=w0) (σ0:=σ0) (ids:=ids) 8 hq;simp only[Option.bind_eq_some_iff] at hs;obtain⟨ra,P3,hs⟩:=hs;split at hs
 case h_2=>cases hs
 rename_i S1 hao Zo;simp only[Option.map_eq_some_iff] at hs;obtain⟨rb,hrb,fD⟩:=hs;have ZW:=rX ca P3;have ZY:=rX cb hrb;obtain⟨q1,q2⟩:=q;simp only at P3 fD uO xg he ⊢;generalize uI:abe ids (q1::q2.ex.map (·.2)) q2.mo=lo at he;generalize sI:((nk cB q2.ex none).bind fun M=>vX C fn s (M.st ids))=rt at he;have B2:∃f caps d,e.ev ρ=.clo f caps∧Φ f caps=some d∧gM (q2.pc.ev Φ N) (ρ.setR n d) ps.toList lo rt d.l (lo.map ρ.o)=some x:=by
  simp only[PC.ev,PI.runs,PI.run,holds,List.all_nil,cond_true] at he;cases bJ:e.ev ρ with
  |clo f caps=>
   rw[bJ] at he;simp only[PE.evs,List.nil_append] at he;cases hΦ:Φ f caps with
   |none=>rw[hΦ] at he;simp at he
   |some d=>
    rw[hΦ] at he;simp only[Option.map_some,Option.bind_some,PE.ev,Env.setR,aQ] at he;exact⟨f,caps,d,rfl,hΦ,he⟩
  |_=>rw[bJ] at he;simp at he
 obtain⟨f,caps,d,bJ,hΦ,he⟩:=B2;obtain⟨σ,own,hv,i⟩:=hg;have hx:=bW (gs:=[]) i hC rfl hu;rw[bJ] at hx;generalize hgv:a.eval g=gv at hx;generalize aY:Ty.fn as rr=ty at hx;cases hx with
 |fn f cs vs ds j2 h1 h2 aR=>
 cases aY;obtain⟨hfn,av0⟩:=fg f cs ys j2 uY;obtain⟨xs,rfl,aMw,Pp⟩:=av0 caps d hΦ;simp only[D.l_list] at he;obtain⟨m,lX,hm,uU,HJ,j9⟩:=Yl he;have iq0:=aaK 8 hq i
 have iq:Inv C (q1.st ids) (ρ.setR n (.list xs)) σ own hv w0 σ0 (fun _=>False) a w:=by
  refine iq0.env (Snap.noOpt _ _) (fun t ht=>?_) (fun _ _=>rfl);have ak:t<q1.rs.length:=by
   refine Nat.lt_of_not_le fun hle=>?_;simp only[Snap.st,List.getD_eq_getElem?_getD,List.getElem?_eq_none hle,Option.getD_none,cl,isNone] at ht;cases ht
  simp[Env.setR,bq _ _ (show t≠n by omega)]
 obtain⟨ρ1,hρ1⟩:∃ρ1,ρ.setR n (.list xs)=ρ1:=⟨_,rfl⟩
 rw[hρ1] at he iq HJ j9;have je:ρ.o=ρ1.o:=by rw[←hρ1];rfl
 rw[je] at uU;refine wpIn_rangeFunc ?_;intro OP aL9;obtain⟨L,Ze⟩:∃L,w.heap.size+1=L:=⟨_,rfl⟩
 obtain⟨rec,gR⟩:∃rec:LoopState→Option Code→Loop,rec=fun st pe=>{state:=st,pending:=pe,fn:=OP,tmps:=a.tmps,params:=ps,assign:=ca,body:=cb,defers:=w.heap.size}:=⟨_,rfl⟩
 have i1:=iq.enter (rec .ready none);obtain⟨t,fx0,cx0,ZC,ht0⟩:=iq.frame;have avI:=σ0.lt _ _ _ _ ZC.F;have Pj:=FrOK.enter iq ZC (rec .ready none);have aMu:=iq.below.size;have w7:Free L (σ.mark w.heap.size) own:=by
  refine⟨?_,fun o=>?_,?_⟩
  ·cases e:own L with
   |none=>rfl
   |some j=>have:=(iq.owns L j e).2.1;omega
  ·cases e:σ.c L o with
   |none=>exact e
   |some x=>have:=iq.lt e;omega
  ·simp only[Im.mark,show L≠w.heap.size by omega,if_false];cases e:σ.m L with
   |none=>rfl
   |some x=>have:=iq.ltm e;omega
 have lu:σ.le (σ.mark w.heap.size):=by
  refine⟨fun _ _ _ e=>e,fun k x e=>?_⟩;have:k≠w.heap.size:=by have:=iq.ltm e;omega
  simp[Im.mark,this,e]
 have Zb:((w.alloc (.deferred (some []))).alloc (.loop (rec .ready none))).heap[L]?=some (.loop (rec .ready none)):=by
  have:=World.alloc_heap_new (w.alloc (.deferred (some []))) (.loop (rec .ready none));rw[World.size_alloc,Ze] at this;exact this
 obtain⟨W1,O0⟩:∃W1,(w.alloc (.deferred (some []))).alloc (.loop (rec .ready none))=W1:=⟨_,rfl⟩
 have aL1:W1.heap.size=w.heap.size+2:=by rw[←O0];simp
 rw[O0] at i1 Pj Zb;have Pg:(Instr.enterLoop OP a.tmps ps ca cb none).run C.P w=.ok (L,[{target:=.collected w.heap.size,args:=#[]}]) W1:=by
  rw[←O0,gR,←Ze];exact run_enterLoop_outer _ _ _ _ _
 obtain⟨σ1,hσ1⟩:∃σ1,σ.mark w.heap.size=σ1:=⟨_,rfl⟩
 rw[hσ1] at i1 Pj w7 lu;obtain⟨aM,O1⟩:∃aM:Act,{a with defers:={target:=.collected w.heap.size,args:=#[]}::a.defers}=aM:=⟨_,rfl⟩
 have Br:aM.tmps=a.tmps:=by rw[←O1]
 rw[O1] at i1;have iR:=i1.toRnd (t:=t) (X:=fun k=>k=L) ht0;obtain⟨σR,hσR⟩:∃σR,σ0.rnd σ1 own W1 t (fun k=>k=L)=σR:=⟨_,rfl⟩
 have sn:∀t' f c w',σR.F t' f c w'→(∀k,f k→k<W1.heap.size∧k≠L)∧∀k,c k→f k∧(∀o,σ1.c k o=none)∧σ1.m k=none:=by
  rw[←hσR];rintro t' f c w' ⟨_,h2,h3,_⟩;exact⟨fun k hk=>⟨((h2 k).1 hk).1,((h2 k).1 hk).2.2.2⟩,fun k hk=>(h3 k).1 hk⟩
 have Zh:CtxOK C σR:=by rw[←hσR];exact hC.mono i1.le
 rw[hσR] at iR
 obtain⟨P,hP⟩:∃P:Nat→List D→Snap→LoopState→Option Code→Prop,P=fun i vo Sx st pe=>(i≤m∧vo=lX i∧Sx=q1∧st=.ready∧pe=none)∨
  (i=m+1∧m<xs.length∧st=.done∧∃y id ρ',xs[m]?=some y∧q2.pc.ev Φ N (ρ1.put ps.toList (partsOf ps.toList y) lo (lX m))=some (.exit id ρ')∧vo=lo.map ρ'.o∧(id,Sx)∈q2.ex∧((id≠cB∧pe=some (.exit id))∨(id=cB∧pe=some .ret))):=⟨_,rfl⟩
 obtain⟨c1,c2⟩:=aB0 (C:=C) (w:=W1) (L:=L) hfn hgv;refine⟨L,[{target:=.collected w.heap.size,args:=#[]}],W1,_,W1,f,_,W1,Pg,c1,fun _ _=>trivial,c2,(fun e=>by cases e),?_⟩
 refine XJ ((Pp σ1 W1 (.func (.yield L) #[] #[]) vs (RSt C w0 σR ids ρ1 lo aM L W1 σ1 rec xs P) (fun k=>k<W1.heap.size) (fun k=>(∃j,own k=some j)∨k=L) m i1.ok (hC.mono i1.le) ⟨h1,h2,fun j t e=>(aR j t e).mono lu⟩ hm
  (fun t f c w h=>h.lt) (fun t f c w h=>h.sub) (fun t f c w w' h hb hs=>h.keep (by omega) (by omega) (fun t f c w hF k hk=>((sn t f c w hF).1 k hk).1) hb hs) ?_ ?_ ?_ ?_).mono ?_)
 ·refine⟨fun k hk=>hk,fun k hk=>?_,fun k hk=>hk,0,lX 0,q1,.ready,none,σ1,own,hv,by simp,by rw[hP];exact .inl ⟨Nat.zero_le _,rfl,rfl,rfl,rfl⟩,?_,.refl σ1,w7,Zb,fun k j e=>(iR.owns k j e).2.1,fun k o x e=>iR.lt e,fun k x e=>iR.ltm e,fun k=>.rfl⟩
  ·rcases hk with⟨j,e⟩|e
   ·exact(iR.owns k j e).2.1
   ·show k<W1.heap.size;omega
  ·rw[uU,Env.put_self];exact iR
 ·rintro k o x e (⟨j,hj⟩|rfl)
  ·have:=(iR.owns k j hj).2.2.1 o;rw[e] at this;cases this
  ·rw[w7.c] at e;cases e
 ·rintro k x e (⟨j,hj⟩|rfl)
  ·have:=(iR.owns k j hj).2.2.2;rw[e] at this;cases this
  ·rw[w7.m] at e;cases e
 ·intro i fx cx w1 σx args ds' hi dk hF hσx jb gO mc df cT rd' o a' x' as ts K Q bK cr Zl hK;have aMb:i<xs.length:=(List.getElem?_eq_some_iff.1 dk).1;obtain⟨i',vo,Sx,st,pe,σa,vx,Cb,e1,e2,iA,HB,Bp,Hf,PK,Zt,BP,xe⟩:=hF.ex;have hii:i'=i:=by
   have h9:=congrArg List.length (congrArg D.l e1);simp only[D.l_list,List.length_take] at h9;omega
  subst hii;rw[hP] at e2;rcases e2 with⟨_,rfl,Bq,rfl,rfl⟩|⟨e2,_⟩
  case inr=>omega
  rw[Bq] at iA;have Zf:L<w1.heap.size:=hF.lt L (hF.old L (by omega));have Hn:cx L:=(xe L).2 (.inr rfl)
  have awl:∀k o v,σx.c k o=some v→vx k=none:=fun k o v e=>by
   cases e2:vx k with
   |none=>rfl
   |some j=>exact absurd ((xe k).2 (.inl ⟨j,e2⟩)) (gO k o v e)
  have BT:∀k v,σx.m k=some v→vx k=none:=fun k v e=>by
   cases e2:vx k with
   |none=>rfl
   |some j=>exact absurd ((xe k).2 (.inl ⟨j,e2⟩)) (mc k v e)
  have hτok:σx.noM.ok w1:=⟨hσx.c,fun k v e=>hσx.m k v (Im.noM_m e).1⟩
  have iB:=iA.joinIm (τ:=σx.noM) hτok (fun k e=>(Im.noM_m e).2 rfl) awl (fun k v e=>BT k v (Im.noM_m e).1)
   (fun k o v e=>(df k o v e).imp (fun e=>HB.c k o v e) fun e=>by omega) (fun k v e=>(cT k v (Im.noM_m e).1).imp (fun e=>HB.m k v e) fun e=>by omega)
   (fun t' f c hf=>⟨fun k o v e hc=>by
        obtain⟨g1,g2,g3⟩:=(sn _ _ _ _ hf.F).2 k hc;rcases df k o v e with e|e
        ·rw[g2 o] at e;cases e
        ·have:=((sn _ _ _ _ hf.F).1 k g1).1;omega,fun k v e hc=>by
        obtain⟨g1,g2,g3⟩:=(sn _ _ _ _ hf.F).2 k hc;rcases cT k v (Im.noM_m e).1 with e|e
        ·rw[g3] at e;cases e
        ·have:=((sn _ _ _ _ hf.F).1 k g1).1;omega⟩)
  have YY:Free L (σa.plus σx.noM) vx:=by
   refine⟨Bp.own,fun o=>?_,?_⟩
   ·cases e:(σa.plus σx.noM).c L o with
    |none=>rfl
    |some v=>
     rcases Im.plus_c e with e|e
     ·rw[Bp.c] at e;cases e
     ·exact absurd Hn (gO L o v e)
   ·cases e:(σa.plus σx.noM).m L with
    |none=>rfl
    |some v=>
     rcases Im.plus_m e with e|e
     ·rw[Bp.m] at e;cases e
     ·exact absurd Hn (mc L v (Im.noM_m e).1)
  have q6:ps.toList.length=ys.length:=by rw[Array.length_toList];exact hl.symm
  have au9:pj C (σa.plus σx.noM) ys args ds':=⟨jb.1,jb.2.1,fun j t e=>((jb.2.2 j t e).noM).mono (Im.plus_le2 iA.ok hτok)⟩
  have iC:=iB.startR (ρ':=ρ1) q6 bC (fun p hp=>by
   have:=List.all_eq_true.1 ak p hp;rw[Br,hn];simpa [Nat.blt_eq] using this) au9 rfl
  have hpu:∃xi,q2.pc.ev Φ N (ρ1.put ps.toList (partsOf ps.toList (.tup ds')) lo (lX i'))=some xi∧((i'<m∧∃ρ',xi=.next ρ'∧lo.map ρ'.o=lX (i'+1))∨(i'=m∧m<xs.length∧∃id ρ',xi=.exit id ρ')):=by
   by_cases jE:i'<m
   ·obtain⟨y,ρ',g1,g2,g3⟩:=HJ i' jE;rw[dk] at g1;cases g1;exact⟨_,g2,.inl ⟨jE,ρ',rfl,g3⟩⟩
   ·obtain rfl:i'=m:=by omega
    rcases j9 with⟨g1,_⟩|⟨g1,y,id,ρ',g2,g3,_⟩
    ·omega
    ·rw[dk] at g2;cases g2;exact⟨_,g3,.inr ⟨rfl,g1,id,ρ',rfl⟩⟩
  obtain⟨xi,re,Qs⟩:=hpu;have au:q2.pc=.seq ra.pc rb.pc:=by rw[←fD];rfl
  rw[au] at re;have aN:(lR ps.toList args aM.tmps).size=n:=by rw[ahw,Br,hn]
  refine⟨fun _ _=>trivial,?_⟩;rw[Oper.semAt_eq _ _ _ (fun c e=>by rw[bK] at e;cases e)];have ava:as.size=ps.size:=by
   have:=jb.1;rw[←Zl,List.length_map,Array.length_toList] at this;omega
  have aq:=aGU (C:=C) bK cr Hf (by rw[gR];exact ava);have awL:(rec .ready none).fn=OP∧(rec .ready none).tmps=a.tmps∧(rec .ready none).params=ps∧(rec .ready none).assign=ca∧(rec .ready none).body=cb:=by rw[gR];exact⟨rfl,rfl,rfl,rfl,rfl⟩
  obtain⟨r1,r2,r3,r4,r5⟩:=awL;rw[r1,r2,r3,r4,r5] at aq
  have oC:(ps.zip (as.map a'.eval)).foldl (fun tmps (t,v)=>tmps.setIfInBounds t v) a.tmps=lR ps.toList args aM.tmps:=by
   rw[Br,←Zl,←Array.toList_map];exact aCU ps (as.map a'.eval) a.tmps
  rw[oC] at aq;rw[aq];refine⟨(fun e=>by cases e),?_⟩;refine roundIn_of_wpIn (F:=FR rd') trivial ?_;show ca.wpIn (FR (some L)) 0 C.P _ _ _;cases lz:ra.pc.ev Φ N (ρ1.put ps.toList (partsOf ps.toList (.tup ds')) lo (lX i')) with
  |none=>simp only[PC.ev,lz] at re;cases re
  |some xa=>
  refine wpIn_mono (ahq bA P3 jJ Zh iC (wr:=fun t=>t∈cg ca) (fun _ h=>h) aN lz L) fun e2 a1 WS awU=>?_;obtain⟨ρ2,S2,σ2,gT,gD,iD,pY,il,jF⟩:=awU;cases e2 with
  |normal=>
   obtain⟨rfl,w8⟩:=jF;rw[hao] at w8;cases w8;simp only[PC.ev,lz] at re;have Zc:WS.heap[L]?=some (.loop (rec .ready none)):=(pY.same L Zf YY.own).trans Hf;have OX:=YY.seg Zf pY;have OY:L<WS.heap.size:=(Array.getElem?_eq_some_iff.1 Zc).1;have Za:w0.heap.size≤L:=by omega
   refine⟨_,run_beginRound Zc (by rw[gR]),?_⟩;have iE:=iD.putL Za OX (fun t' f c hf BC=>((sn _ _ _ _ hf.F).1 L BC).2 rfl) (.loop {rec .ready none with state:=.busy});have hL3:(WS.putObj L (.loop {rec .ready none with state:=.busy})).heap[L]?=some (.loop {rec .ready none with state:=.busy}):=World.putObj_heap_same OY;show cb.wpIn (FR (some L)) 0 C.P _ _ _;refine wpIn_mono (ahq dM hrb jJ Zh iE (wr:=fun t=>t∈cg cb) (fun _ h=>h) (il.size.trans aN) re L) fun e3 a3 w3 awV=>?_;obtain⟨ρ3,S3,σ3,vw,Ca,iF,HV,awS,na⟩:=awV;have Zd:w3.heap[L]?=some (.loop {rec .ready none with state:=.busy}):=(HV.same L (by simpa using OY) OX.own).trans hL3;have YX:=OX.seg (by simpa using OY) HV;have auT:L<w3.heap.size:=(Array.getElem?_eq_some_iff.1 Zd).1;obtain⟨mk,HG⟩:∃mk,Nat.lor (vi (ps.toList++cg ca++cg cb)) (Nat.lor ra.mr rb.mr)=mk:=⟨_,rfl⟩
   have awf:∀t,az mk t=false→t∉ps.toList∧t∉cg ca∧t∉cg cb∧az ra.mr t=false∧az rb.mr t=false:=by
        intro t ht;rw[←HG,eK,eK,Bool.or_eq_false_iff,Bool.or_eq_false_iff] at ht;obtain⟨t1,t2,t3⟩:=ht;have:t∉ps.toList++cg ca++cg cb:=fun hm=>by rw[Xz hm] at t1;cases t1
        simp only[List.mem_append,not_or] at this;exact⟨this.1.1,this.1.2,this.2,t2,t3⟩
   have P4:∀t,az mk t=false→aM.tmps.getD t undef=a3.tmps.getD t undef∧(ρ1.put [] [] lo (lo.map ρ3.o)).r t=ρ3.r t:=by
        intro t ht;obtain⟨t1,t2,t3,t4,t5⟩:=awf t ht;refine⟨?_,?_⟩
        ·rw[awS.get t t3,il.get t t2];exact(MC _ _ _ _ t1).symm
        ·have hb3:∀ρ',xi=.next ρ'∨(∃id,xi=.exit id ρ')→ρ'.r t=ρ2.r t:=fun ρ' h=>by
          have uE:xi.env?=some ρ':=by rcases h with h|⟨id,h⟩<;>rw[h]<;>rfl
          exact(PC.ev_but rb.pc _ _ ρ' re uE).r t fun hm=>by rw[ZY.1 t hm] at t5;cases t5
         have dh:ρ2.r t=putL ρ1.r ps.toList (partsOf ps.toList (.tup ds')) t:=(PC.ev_but ra.pc _ _ ρ2 lz rfl).r t fun hm=>by rw[ZW.1 t hm] at t4;cases t4
         rw[yk _ _ _ _ t1] at dh;show ρ1.r t=ρ3.r t;rw[hb3 ρ3 (by
          cases e3 with
          |normal=>exact .inl na.1
          |exit id=>exact .inr ⟨id,na.1⟩
          |ret=>exact .inr ⟨_,na.1⟩
          |_=>exact na.elim),dh]
   have Py:q2.mo=iN ra.mo rb.mo:=by rw[←fD];rfl
   have PN:∀j,j∉q2.mo→ρ3.o j=ρ1.o j:=by
        intro j hj;rw[Py,oI,not_or] at hj;have uE:xi.env?=some ρ3:=by
         cases e3 with
         |normal=>rw[na.1];rfl
         |exit id=>rw[na.1];rfl
         |ret=>rw[na.1];rfl
         |_=>exact na.elim
        rw[(PC.ev_but rb.pc _ _ ρ3 re uE).o j fun hm=>hj.2 (ZY.2 j hm),(PC.ev_but ra.pc _ _ ρ2 lz rfl).o j fun hm=>hj.1 (ZW.2 j hm)]
        exact yk _ _ _ _ fun hm=>by
         rw[←uI] at hm;have:=(List.mem_filter.1 hm).1;rw[Py,oI] at this;exact this.elim hj.1 hj.2
   have PM:∀(S:Snap),S∈(q1::q2.ex.map (·.2))→∀j,ni ((S.st ids).o j)=false→(ρ1.put [] [] lo (lo.map ρ3.o)).o j=ρ3.o j:=by
        intro S hS j hj;show putL ρ1.o lo (lo.map ρ3.o) j=ρ3.o j;rw[rA];split
        ·rfl
        ·rename_i fC;refine(PN j fun sB=>fC ?_).symm;rw[←uI];exact List.mem_filter.2 ⟨sB,List.any_eq_true.2 ⟨S,hS,by simpa [Snap.st] using hj⟩⟩
   have fin:∀(jump:Option Code) (Sx:Snap),Inv C (Sx.st ids) (ρ1.put [] [] lo (lo.map ρ3.o)) σ3 vw Ca w0 σR (fun _=>False) aM w3→P (i'+1) (lo.map ρ3.o) Sx (if jump.isNone then .ready else .done) jump→jump.isNone=decide (i'<m)→
        ∃v w',(Instr.endRound L jump).run C.P w3=.ok v w'∧K (a'.put o.dst v) w':=by
        intro jump Sx iG hPn sB;refine⟨_,_,run_endRound jump Zd,?_⟩;have awK:({{rec .ready none with state:=.busy} with state:=if jump.isNone then .ready else .done,pending:=jump}:Loop)=rec (if jump.isNone then .ready else .done) jump:=by rw[gR]
        rw[awK];have aR:=pY.round (L:=L) (o':=.loop (rec (if jump.isNone then .ready else .done) jump)) HV;have iH:=iG.putL Za YX (fun t' f c hf BC=>((sn _ _ _ _ hf.F).1 L BC).2 rfl) (.loop (rec (if jump.isNone then .ready else .done) jump));obtain⟨w4,Qo⟩:∃w4,w3.putObj L (.loop (rec (if jump.isNone then .ready else .done) jump))=w4:=⟨_,rfl⟩
        have hL5:w4.heap[L]?=some (.loop (rec (if jump.isNone then .ready else .done) jump)):=by rw[←Qo];exact World.putObj_heap_same auT
        have aMz:w4.heap.size=w3.heap.size:=by rw[←Qo];simp
        rw[Qo] at aR iH ⊢;have aL0:W1.heap.size≤w1.heap.size:=by
         have:=hF.lt (W1.heap.size-1) (hF.old _ (by omega));omega
        have aMv:=aR.below.size
        refine hK _ _ ⟨by rw[sB],aR.below,fun k hk hc=>aR.same k hk (by
         cases e:vx k with
         |none=>rfl
         |some j=>exact absurd ((xe k).2 (.inl ⟨j,e⟩)) hc) (fun e=>hc (by rw[e];exact Hn)),(fun k=>k<w4.heap.size∧(k<W1.heap.size∨(∃j,vw k=some j)∨(∃o x,σ3.c k o=some x)∨∃x,σ3.m k=some x)),(fun k=>(∃j,vw k=some j)∨k=L),?_,?_,?_⟩
        ·refine⟨fun k hk=>hk.1,fun k hk=>?_,fun k hk=>⟨by omega,.inl hk⟩,i'+1,lo.map ρ3.o,Sx,_,jump,σ3,vw,Ca,rfl,hPn,iH,HB.trans ((Im.plus_le1 _ _).trans aR.le),YX,hL5,fun k j e=>⟨(iH.owns k j e).2.1,.inr (.inl ⟨j,e⟩)⟩,fun k o x e=>⟨iH.lt e,.inr (.inr (.inl ⟨o,x,e⟩))⟩,fun k x e=>⟨iH.ltm e,.inr (.inr (.inr ⟨x,e⟩))⟩,fun k=>.rfl⟩;rcases hk with⟨j,e⟩|e
         ·exact⟨(iH.owns k j e).2.1,.inr (.inl ⟨j,e⟩)⟩
         ·exact⟨by omega,.inl (by omega)⟩
        ·rintro k ⟨_,hk⟩ bx
         have BH:((∃o x,σ3.c k o=some x)∨∃x,σ3.m k=some x)→fx k∨(∃o x,σx.c k o=some x)∨(∃x,σx.m k=some x∧x≠cK):=fun h=>by
          rcases aR.imm k h with⟨o,x,e⟩|⟨x,e⟩|⟨j,e⟩|e
          ·rcases Im.plus_c e with e|e
           ·exact .inl (Zt k o x e)
           ·exact .inr (.inl ⟨o,x,e⟩)
          ·rcases Im.plus_m e with e|e
           ·exact .inl (BP k x e)
           ·exact .inr (.inr ⟨x,(Im.noM_m e).1,(Im.noM_m e).2⟩)
          ·exact .inl (PK k j e)
          ·omega
         rcases hk with hk|⟨j,e⟩|e|e
         ·exact .inl (hF.old k hk)
         ·rcases aR.ow k j e with⟨j',e⟩|e
          ·exact .inl (PK k j' e)
          ·omega
         ·exact BH (.inl e)
         ·exact BH (.inr e)
        ·rintro k (⟨j,e⟩|e) bx
         ·rcases aR.ow k j e with⟨j',e⟩|e
          ·exact(xe k).2 (.inl ⟨j',e⟩)
          ·omega
         ·rw[e];exact Hn
   have j5:jU σ3 w0.heap.size aM.defers:=iA.defers.mono ((Im.plus_le1 _ _).trans (pY.le.trans HV.le));have PZ:q2.out=rb.out.map (Snap.mask mk)∧q2.ex=rb.ex.map (fun x=>(x.1,x.2.mask mk)):=by rw[←fD,←HG];exact⟨rfl,rfl⟩
   cases e3 with
   |normal=>
    obtain⟨e4,e5⟩:=na;have hT:q2.out=some (S3.mask mk):=by rw[PZ.1,e5];rfl
    have ZD:=xg _ hT
    have iG:Inv C (q1.st ids) ρ3 σ3 vw Ca w0 σR (fun _=>False) a3 w3:=by
        have:=Snap.meet_ok2 (x:=q1) (iF.maskR mk)
        rwa [ZD] at this
    have iH:=iG.restore (ρ':=ρ1.put [] [] lo (lo.map ρ3.o)) (a':=aM) (Snap.noOpt _ _) j5 (fun t ht=>P4 t (by
        cases e:az mk t with
        |false=>rfl
        |true=>
         have h9:=azq (x:=q1) (S:=S3) (ids:=ids) e;rw[ZD] at h9;rw[h9] at ht;cases ht)) (fun j hj=>PM q1 (List.mem_cons_self ..) j hj)
    rcases Qs with⟨jE,ρ',e6,e7⟩|⟨_,_,id,ρ',e6⟩
    ·rw[e4] at e6;cases e6;exact fin none q1 iH (by rw[hP];exact .inl ⟨by omega,e7,rfl,rfl,rfl⟩) (by simp[jE])
    ·rw[e4] at e6;cases e6
   |exit id=>
    obtain⟨e4,e5,e6⟩:=na;have cP:(id,S3.mask mk)∈q2.ex:=by rw[PZ.2];exact List.mem_map.2 ⟨_,e6,rfl⟩
    have iH:=(iF.maskR mk).restore (ρ':=ρ1.put [] [] lo (lo.map ρ3.o)) (a':=aM) (Snap.noOpt _ _) j5 (fun t ht=>P4 t (by
        cases e:az mk t with
        |false=>rfl
        |true=>rw[Cs,if_pos e] at ht;cases ht)) (fun j hj=>PM (S3.mask mk) (List.mem_cons_of_mem _ (List.mem_map.2 ⟨_,cP,rfl⟩)) j hj)
    rcases Qs with⟨jE,ρ',e7,_⟩|⟨jE,q5,bL,ρ',e7⟩
    ·rw[e4] at e7;cases e7
    ·subst jE;refine fin (some (.exit id)) (S3.mask mk) iH ?_ (by simp);rw[hP];refine .inr ⟨rfl,q5,rfl,_,id,ρ3,dk,?_,rfl,cP,.inl ⟨e5,rfl⟩⟩;rw[au];simp only[PC.ev,lz];rw[re,e4]
   |ret=>
    obtain⟨e4,e6⟩:=na;have cP:(cB,S3.mask mk)∈q2.ex:=by rw[PZ.2];exact List.mem_map.2 ⟨_,e6,rfl⟩
    have iH:=(iF.maskR mk).restore (ρ':=ρ1.put [] [] lo (lo.map ρ3.o)) (a':=aM) (Snap.noOpt _ _) j5 (fun t ht=>P4 t (by
        cases e:az mk t with
        |false=>rfl
        |true=>rw[Cs,if_pos e] at ht;cases ht)) (fun j hj=>PM (S3.mask mk) (List.mem_cons_of_mem _ (List.mem_map.2 ⟨_,cP,rfl⟩)) j hj)
    rcases Qs with⟨jE,ρ',e7,_⟩|⟨jE,q5,bL,ρ',e7⟩
    ·rw[e4] at e7;cases e7
    ·subst jE;refine fin (some .ret) (S3.mask mk) iH ?_ (by simp);rw[hP];refine .inr ⟨rfl,q5,rfl,_,cB,ρ3,dk,?_,rfl,cP,.inr ⟨rfl,rfl⟩⟩;rw[au];simp only[PC.ev,lz];rw[re,e4]
   |_=>exact na.elim
  |exit id=>obtain⟨_,_,e6⟩:=jF;rw[Zo] at e6;cases e6
  |ret=>obtain⟨_,e6⟩:=jF;rw[Zo] at e6;cases e6
  |_=>exact jF.elim
 ·rintro e' w' ⟨⟨v,rfl⟩,fx,cx,hF⟩;rw[show({tmps:=a.tmps,defers:=[{target:=Target.collected w.heap.size,args:=#[]}]++a.defers}:Act)=aM from O1];obtain⟨i',vo,Sx,st,pe,σa,vx,Cb,e1,e2,iA,HB,Bp,Hf,PK,Zt,BP,xe⟩:=hF.ex;have h9:=congrArg List.length (congrArg D.l e1);simp only[D.l_list,List.length_take] at h9;have cH:(rec st pe).state≠.busy:=by
   rw[hP] at e2;rw[gR];rcases e2 with⟨_,_,_,e3,_⟩|⟨_,_,e3,_⟩<;>(rw[e3];intro e;cases e)
  have sE:(rec st pe).pending=pe:=by rw[gR]
  have Ph:(Instr.endLoop L).run C.P w'=.ok pe (w'.putObj L (.loop {rec st pe with state:=.exhausted})):=(run_endLoop (P:=C.P) Hf cH).trans (congrArg (fun z=>Result.ok z _) sE);have iF:=iA.putL (by omega:w0.heap.size≤L) Bp (fun t' f c hf BC=>((sn _ _ _ _ hf.F).1 L BC).2 rfl) (.loop {rec st pe with state:=.exhausted});rw[←hσR] at iF;have iG:=i1.ofRnd Pj (fun k hk e=>by have:=avI k hk;omega) iF;have jH:SameBut wr a aM:=⟨by rw[Br],fun t _=>by rw[Br]⟩
  refine⟨pe,_,Ph,?_⟩;rw[hP] at e2;rcases e2 with⟨e3,rfl,Bq,_,rfl⟩|⟨rfl,q5,_,y,id,ρ',g1,g2,rfl,g4,g5⟩
  ·rcases j9 with⟨g1,g2⟩|⟨g1,_⟩
   ·obtain rfl:i'=m:=by omega
    rw[Bq] at iG;exact⟨_,q1,g2,rfl,jH,_,_,_,iG⟩
   ·omega
  ·rcases j9 with⟨g6,_⟩|⟨_,y',bL,ρ'',k1,k2,k3⟩
   ·omega
   ·rw[g1] at k1;cases k1;rw[g2] at k2;cases k2;rcases k3 with⟨k3,k4⟩|⟨k3,pe',k4,k5⟩
    ·rcases g5 with⟨_,rfl⟩|⟨g5,_⟩
     ·exact wpIn_exit ⟨_,Sx,k4,k3,List.mem_filter.2 ⟨g4,by simp[ez k3]⟩,jH,_,_,_,iG⟩
     ·exact absurd g5 k3
    ·rcases g5 with⟨g5,_⟩|⟨_,rfl⟩
     ·exact absurd k3 g5
     ·subst k3;rw[←sI,Option.bind_eq_some_iff] at k4;obtain⟨M,hM,B5⟩:=k4;obtain⟨M',Zg,qX⟩:=QR (⟨_,_,_,iG⟩:Good C w0 σ0 (Sx.st ids) _ (fun _=>False) aM _) q2.ex none g4;rw[hM] at Zg;cases Zg;obtain⟨σm,aND,hvm,im⟩:=qX;exact wpIn_ret ⟨_,k5,Inv.retD hC (fun _=>rfl) mf B5 _ im rfl,jH⟩
theorem abi {arr:Array MapEntry}{clock:Nat}(hb:l0 arr clock){idx:List Nat}(hi:∀i,i∈idx→i<arr.size){i:Nat}{e:MapEntry}(he:arr[i]?=some e):(fK arr idx).contains e.born=true↔i∈idx:=by
 simp only[fK,List.contains_toArray,List.contains_iff_mem,List.mem_map];constructor
 ·rintro⟨j,hj,h⟩;have ak:=hi j hj;rw[Array.getElem?_eq_getElem ak] at h;simp only at h;have:=hb.2 j i arr[j] e (Array.getElem?_eq_getElem ak) he h;rw[←this];exact hj
 ·intro h;exact⟨i,h,by rw[he]⟩
theorem aCP (arr:Array MapEntry)(idx:List Nat){i:Nat}{e:MapEntry}(he:arr[i]?=some e):(fK arr idx).push e.born=fK arr (idx++[i]):=by
 simp[fK,he]
theorem azG {P:Program}{w:World}{k m:Nat}{arr:Array MapEntry}{clock:Nat}{idx:List Nat}(hk:w.heap[k]?=some (.mapIter (some m) clock (fK arr idx) clock))(hm:w.heap[m]?=some (.map arr clock))(hb:l0 arr clock)(hi:∀i,i∈idx→i<arr.size)(T:TypeId):
 ∃w1:World,(w1=w∨w1=w.drew)∧(((∀i,i<arr.size→i∈idx)∧(Instr.next (.pointer (some ⟨k,0,none⟩)) false T).run P w=.ok (.tuple #[.bool false]) w1)∨
  ∃i e,arr[i]?=some e∧i∉idx∧(Instr.next (.pointer (some ⟨k,0,none⟩)) false T).run P w=.ok (.tuple #[.bool true,e.key,e.val]) {w1 with heap:=w1.heap.setIfInBounds k (.mapIter (some m) clock (fK arr (idx++[i])) clock)}):=by
 have cP:∀{e:MapEntry},e∈arr→∃i:Nat,arr[i]?=some e:=fun he=>by
  obtain⟨i,hi,rfl⟩:=Array.mem_iff_getElem.1 he;exact⟨i,Array.getElem?_eq_getElem hi⟩
 have hold:∀(l:Array MapEntry),(∀e,e∈l→e.born<clock)→l.filter (fun x=>decide (x.born<clock))=l:=fun l h=>by
  rw[Array.filter_eq_self];intro e he;simpa using h e he
 have kM:∀(l:Array MapEntry),(∀e,e∈l→e.born<clock)→l.filter (fun x=>decide (x.born≥clock))=#[]:=fun l h=>by
  rw[Array.filter_eq_empty_iff];intro e he;have:=h e he;simp;omega
 have Zp:∀e,e∈arr→e.born<clock:=fun e he=>by obtain⟨i,hi⟩:=cP he;exact hb.1 i e hi
 have lq:(!(fK arr idx).isEmpty&& !arr.isEmpty&&arr.all (fun x=>decide (x.born≥clock)))=false:=by
  cases ha:arr.isEmpty
  ·have aG:arr.size≠0:=by simpa using ha
   have:arr.all (fun x=>decide (x.born≥clock))=false:=by
        rw[Bool.eq_false_iff];intro h;rw[Array.all_eq_true] at h;have h0:=h 0 (by omega);have h1:=Zp arr[0] (Array.getElem_mem _);simp at h0;omega
   rw[this,Bool.and_false]
  ·simp
 let left:=arr.filter fun e=> !(fK arr idx).contains e.born
 have hl:∀e,e∈left→e.born<clock:=fun e he=>Zp e (Array.mem_filter.1 he).1;by_cases hz:left.size=0
 ·refine⟨w,.inl rfl,.inl ⟨fun i ak=>?_,?_⟩⟩
  ·by_cases bE:i∈idx
   ·exact bE
   ·exfalso;have HE:arr[i]∈left:=Array.mem_filter.2 ⟨Array.getElem_mem _,by
     have:=abi hb hi (Array.getElem?_eq_getElem ak);cases hc:(fK arr idx).contains arr[i].born with
     |false=>rfl
     |true=>exact absurd (this.1 hc) bE⟩
    have:left=#[]:=Array.eq_empty_of_size_eq_zero hz;rw[this] at HE;simp at HE
  ·have he:left=#[]:=Array.eq_empty_of_size_eq_zero hz;have kK:arr.filter (fun e=> !(fK arr idx).contains e.born)=#[]:=he;simp only[Instr.next,getObj,Sem.run_bind,Sem.run,hk,hm,Result.andThen_ok,lq,kK];simp[Question.forced,Sem.run]
 ·have gP:left.filter (fun x=>decide (x.born<clock))=left:=hold left hl;have j6:left.filter (fun x=>decide (x.born≥clock))=#[]:=kM left hl;have hem:left.isEmpty=false:=by simpa using hz
  have key:∀c,c<left.size→∃i e,arr[i]?=some e∧i∉idx∧left[c]?=some e:=fun c hc=>by
   have HE:left[c]∈left:=Array.getElem_mem _;obtain⟨h1,h2⟩:=Array.mem_filter.1 HE;obtain⟨i,di⟩:=cP h1;refine⟨i,left[c],di,fun bE=>?_,Array.getElem?_eq_getElem hc⟩;rw[(abi hb hi di).2 bE] at h2;cases h2
  obtain⟨w1,c,iv,hc,pM⟩:∃w1 c,(w1=w∨w1=w.drew)∧c<left.size∧(choose (.mapNext left.size)).run P w=.ok c w1:=by
   by_cases h1:left.size≤1
   ·exact⟨w,0,.inl rfl,by omega,by simp[Question.forced,h1]⟩
   ·exact⟨w.drew,_,.inr rfl,Nat.mod_lt _ (by omega),by simp[Question.forced,h1,Question.cut];rfl⟩
  obtain⟨i,e,h1,h2,h3⟩:=key c hc;refine⟨w1,iv,.inr ⟨i,e,h1,h2,?_⟩⟩;have uH:arr.filter (fun e=> !(fK arr idx).contains e.born)=left:=rfl;have m0:(getObj k).run P w=.ok (.mapIter (some m) clock (fK arr idx) clock) w:=by simp[getObj,Sem.run,hk]
  have gm:(getObj m).run P w=.ok (.map arr clock) w:=by simp[getObj,Sem.run,hm]
  have bx:w1.heap[k]?=some (.mapIter (some m) clock (fK arr idx) clock):=by rcases iv with rfl|rfl<;>exact hk
  have ZE:(setObj k (.mapIter (some m) clock ((fK arr idx).push e.born) clock)).run P w1=.ok () {w1 with heap:=w1.heap.setIfInBounds k (.mapIter (some m) clock ((fK arr idx).push e.born) clock)}:=by simp[setObj,Sem.run,bx]
  have avg:((if false=true then #[none] else #[])++Array.map some (left++#[]):Array (Option MapEntry))=left.map some:=by simp
  have gO:(left.map some)[c]?=some (some e):=by simp[h3]
  have ZG:∀(zG:Array (Option MapEntry)) (cc:Nat),(choose (.mapNext zG.size)).run P w=.ok cc w1→zG[cc]?=some (some e)→(do
        match zG[←choose (.mapNext zG.size)]? with
        |some (some e)=>
         setObj k (.mapIter (some m) clock ((fK arr idx).push e.born) clock)
         pure (.tuple #[.bool true,e.key,e.val])
        |some none=>(pure (.tuple #[.bool false]):Sem Value)
        |none=>stuck "Next: no such candidate" :Sem Value).run P w=.ok (.tuple #[.bool true,e.key,e.val]) {w1 with heap:=w1.heap.setIfInBounds k (.mapIter (some m) clock ((fK arr idx).push e.born) clock)}:=by
   intro zG cc h4 h5;rw[Sem.run_bind,h4];simp only[Result.andThen_ok,h5];rw[Sem.run_bind,ZE];rfl
  rw[aCP arr idx h1] at ZG ZE;have:=ZG (left.map some) c (by rw[Array.size_map];exact pM) gO;simp only[Instr.next];rw[Sem.run_bind,m0];simp only[Result.andThen_ok];rw[Sem.run_bind,gm];simp only[Result.andThen_ok,lq,uH,gP,j6,hem];rw[avg,if_neg (by decide)];exact this
theorem aqJ {P:Program}{w:World}{k m:Nat}{arr:Array MapEntry}{clock:Nat}{idx:List Nat}{i:Nat}{e:MapEntry}(hk:w.heap[k]?=some (.mapIter (some m) clock (fK arr (idx++[i])) clock))(hm:w.heap[m]?=some (.map arr clock))(hb:l0 arr clock)(he:arr[i]?=some e):
 (Instr.entry (.pointer (some ⟨k,0,none⟩))).run P w=.ok (.tuple #[e.key,e.val]) w:=by
 have avd:(fK arr (idx++[i])).back?=some e.born:=by simp[fK,he]
 have BD:arr.find? (fun x=>x.born==e.born)=some e:=by
  have ak:i<arr.size:=(Array.getElem?_eq_some_iff.1 he).1;have hei:arr[i]=e:=(Array.getElem?_eq_some_iff.1 he).2;rw[Array.find?_eq_some_iff_getElem];refine⟨by simp,i,ak,hei,fun j hj=>?_⟩;have fC:j<arr.size:=by omega
  cases hc:(arr[j].born==e.born) with
  |false=>rfl
  |true=>
   have:=hb.2 j i arr[j] e (Array.getElem?_eq_getElem fC) he (by simpa using hc);omega
 simp[Instr.entry,getObj,Sem.run_bind,Sem.run,hk,hm,avd,BD]
theorem azk {x y z:Code}{k:Nat}{p:MP}(h:xH x y k z=some p):∃i1 i2 o1 o2 o3 l,x=.region i1 p.ops1 false∧y=.cond (.tmp p.mo) .skip (.exit p.out)∧z=.region i2 p.ops2 false∧p.next=k∧p.ops1.toList=[o1,o2]∧p.ops2.toList=o3::l∧
 o1.dst=some p.nx∧o1.guard=none∧o1.op=.next (.tmp p.it) false∧o2.dst=some p.mo∧o2.guard=none∧o2.op=.extract (.tmp p.nx) 0∧o3.dst=some p.pr∧o3.guard=none∧o3.op=.entry (.tmp p.it)∧kg p.pr l []=some p.as∧
 p.it≠p.nx∧p.it≠p.mo∧p.it≠p.pr∧p.nx≠p.mo∧p.out≠cB∧k≠cB:=by
 unfold xH at h;split at h
 case h_2=>cases h
 rename_i i1 ops1 mo out i2 ops2;split at h
 case h_2=>cases h
 rename_i o1 o2 o3 l e1 e2;split at h
 case h_2=>cases h
 rename_i nx it mo' nx' pr it' d1 g1 q1 d2 g2 q2 d3 g3 q3;rw[Bool.cond_eq_ite] at h;split at h
 case isFalse=>cases h
 rename_i hc;simp only[Option.map_eq_some_iff] at h;obtain⟨as,h4,rfl⟩:=h;simp only[Bool.and_eq_true,Bool.not_eq_true'] at hc;obtain⟨⟨⟨⟨⟨⟨⟨⟨c1,c2⟩,c3⟩,c4⟩,c5⟩,c6⟩,c7⟩,c8⟩,c9⟩:=hc;have ne:∀{a b:Nat},Nat.beq a b=false→a≠b:=fun h e=>by subst e;simp at h
 obtain rfl:=Nat.eq_of_beq_eq_true c1;obtain rfl:=Nat.eq_of_beq_eq_true c2;obtain rfl:=Nat.eq_of_beq_eq_true c3;exact⟨i1,i2,o1,o2,o3,l,rfl,rfl,rfl,rfl,e1,e2,d1,g1,q1,d2,g2,q2,d3,g3,q3,h4,ne c4,ne c5,ne c6,ne c7,ne c8,ne c9⟩
theorem IX {pr:Nat}:∀(l:List Oper) {acc as:List (Nat×Nat)},kg pr l acc=some as→∀x,x∈acc→x∈as
 |[],acc,as,h,x,hx=>by simp only[kg,Option.some.injEq] at h;subst h;exact hx
 |o::l,acc,as,h,x,hx=>by
  simp only[kg] at h;split at h
  case h_2=>cases h
  rw[Bool.cond_eq_ite] at h;split at h
  ·cases h
  split at h
  ·rw[Bool.cond_eq_ite] at h;split at h
   ·exact IX l h x (List.mem_append_left _ hx)
   ·cases h
  ·simp only[Option.bind_eq_some_iff] at h;obtain⟨i,_,h⟩:=h;exact IX l h x (List.mem_append_left _ hx)
  ·simp only[Option.bind_eq_some_iff] at h;obtain⟨i,_,h⟩:=h;exact IX l h x (List.mem_append_left _ hx)
  ·cases h
theorem Cr:∀{l:List (Nat×Nat)} {t i:Nat},sT l t=some i→(t,i)∈l
 |x::l,t,i,h=>by
  simp only[sT] at h;cases hb:Nat.beq x.1 t<;>simp only[hb,cond_true,cond_false] at h
  ·exact List.mem_cons_of_mem _ (Cr h)
  ·cases h;have:=Nat.eq_of_beq_eq_true hb;subst this;exact List.mem_cons_self ..
theorem aa9:∀{l:List (Nat×Nat)} {t:Nat},(sT l t).isSome=false→∀x,x∈l→x.1≠t
 |y::l,t,h,x,hx=>by
  simp only[sT] at h;cases hb:Nat.beq y.1 t<;>simp only[hb,cond_true,cond_false] at h
  ·rcases List.mem_cons.1 hx with e|hx
   ·subst e;intro e;subst e;simp at hb
   ·exact aa9 h x hx
  ·cases h
theorem R2 {pr:Nat}:∀(l:List Oper) {acc as:List (Nat×Nat)},kg pr l acc=some as→(∀x,x∈acc→x.2≤1)→∀x,x∈as→x∈acc∨(x.2≤1∧∃o,o∈l∧o.dst=some x.1)
 |[],acc,as,h,_,x,hx=>by simp only[kg,Option.some.injEq] at h;subst h;exact .inl hx
 |o::l,acc,as,h,ha,x,hx=>by
  simp only[kg] at h;split at h
  case h_2=>cases h
  rename_i d hd jD;rw[Bool.cond_eq_ite] at h;split at h
  ·cases h
  have go:∀(pt:Nat),pt≤1→kg pr l (acc++[(d,pt)])=some as→x∈acc∨(x.2≤1∧∃o',o'∈o::l∧o'.dst=some x.1):=by
   intro pt sF hp
   rcases R2 l hp (fun y hy=>by
        rcases List.mem_append.1 hy with h|h
        ·exact ha y h
        ·simp at h;subst h;exact sF) x hx with h|⟨h1,o',h2,h3⟩
   ·rcases List.mem_append.1 h with h|h
    ·exact .inl h
    ·simp at h;subst h;exact .inr ⟨sF,o,List.mem_cons_self ..,hd⟩
   ·exact .inr ⟨h1,o',List.mem_cons_of_mem _ h2,h3⟩
  split at h
  ·rw[Bool.cond_eq_ite] at h;split at h
   case isFalse=>cases h
   rename_i gO;simp only[Bool.and_eq_true] at gO;exact go _ (Nat.le_of_ble_eq_true gO.2) h
  ·simp only[Option.bind_eq_some_iff] at h;obtain⟨i,hi,h⟩:=h;exact go i (ha _ (Cr hi)) h
  ·simp only[Option.bind_eq_some_iff] at h;obtain⟨i,hi,h⟩:=h;exact go i (ha _ (Cr hi)) h
  ·cases h
theorem yd {P:Program}{ops:Array Oper}{i:Nat}{rest:List Nat}{o:Oper}{rd:Option Nat}{a:Act}{w w':World}{Q:Exit→Act→World→Prop}{v:Value}(ho:ops[i]?=some o)(hg:o.guard=none)(bC:rp o.op=true)(hx:(execOp a.eval o).run P w=.ok (.value v) w')
 (k:wpOpsIn (FR rd) 0 P ops Q rest (a.put o.dst v) w'):wpOpsIn (FR rd) 0 P ops Q (i::rest) a w:=by
 simp only[wpOpsIn,ho];rw[if_pos (by simp[Region.wanted,hg])];exact afl bC (by unfold Oper.wp;rw[hx];exact k)
theorem aCM {ops:Array Oper}{o:Oper}(ho:o∈ops.toList)(a:Act)(v:Value):SameBut (pz ops) a (a.put o.dst v):=by
 have:=SameBut.put a o.dst v a.defers;exact this.mono fun t e=>⟨o,ho,e⟩
theorem ym {a:Act}{d:Nat}{v:Value}(h:d<a.tmps.size):(a.put (some d) v).tmps.getD d undef=v:=by rw[D5];simp[h]
theorem Lx {a:Act}{d t:Nat}{v:Value}(h:t≠d):(a.put (some d) v).tmps.getD t undef=a.tmps.getD t undef:=by rw[D5];simp[h]
theorem put_defers (a:Act)(d:Option Nat)(v:Value):(a.put d v).defers=a.defers:=by cases d<;>rfl
def CD (kv vv:Value)(i:Nat):Value:=if i=0 then kv else vv
theorem afr {P:Program}{ops:Array Oper}{rd:Option Nat}{Q:Exit→Act→World→Prop}{pr:Nat}{kv vv:Value}{w:World}:∀(l:List Oper) (acc as:List (Nat×Nat)) (i:Nat) (a:Act),kg pr l acc=some as→ops.toList.drop i=l→(∀x,x∈as→x.1<a.tmps.size)→a.tmps.getD pr undef=.tuple #[kv,vv]→
 (∀x,x∈acc→a.tmps.getD x.1 undef=CD kv vv x.2)→(∀a',SameBut (pz ops) a a'→a'.defers=a.defers→(∀x,x∈as→a'.tmps.getD x.1 undef=CD kv vv x.2)→Q .normal a' w)→wpOpsIn (FR rd) 0 P ops Q (List.range' i (ops.size-i)) a w
 |[],acc,as,i,a,h,hl,ak,mu,Bs,hQ=>by
  simp only[kg,Option.some.injEq] at h;subst h;have:ops.size-i=0:=by
    have:=List.drop_eq_nil_iff.1 hl;simp at this;omega
  rw[this];exact hQ a (.refl _ _) rfl Bs
 |o::l,acc,as,i,a,h,hl,ak,mu,Bs,hQ=>by
  have hi:i<ops.toList.length:=by
   refine Nat.lt_of_not_le fun hle=>?_;rw[List.drop_eq_nil_iff.2 hle] at hl;cases hl
  rw[List.drop_eq_getElem_cons hi] at hl;have ho:ops[i]?=some o:=by
   have:ops.toList[i]=o:=by injection hl
   rw[←this];simp at hi ⊢
  have ox:ops.toList.drop (i+1)=l:=by injection hl
  have aN:ops.size-i=(ops.size-(i+1))+1:=by simp at hi;omega
  rw[aN,List.range'_succ];have cP:o∈ops.toList:=by simpa using Array.mem_of_getElem? ho
  simp only[kg] at h;split at h
  case h_2=>cases h
  rename_i d hd jD;rw[Bool.cond_eq_ite] at h;split at h
  ·cases h
  rename_i hc;simp only[Bool.or_eq_true,not_or,Bool.not_eq_true] at hc;have hdp:pr≠d:=fun e=>by subst e;simp at hc
  have hda:∀x,x∈acc→x.1≠d:=aa9 hc.2;have go:∀(pt:Nat) (v:Value),kg pr l (acc++[(d,pt)])=some as→rp o.op=true→v=CD kv vv pt→(execOp a.eval o).run P w=.ok (.value v) w→wpOpsIn (FR rd) 0 P ops Q (i::List.range' (i+1) (ops.size-(i+1))) a w:=by
   intro pt v hp bC hv hx;have Pc:d<a.tmps.size:=ak _ (IX l hp (d,pt) (by simp));refine yd ho jD bC hx ?_;have jH:=aCM cP a v;rw[hd] at jH ⊢;refine afr l _ as (i+1) _ hp ox (fun x hx=>by rw[jH.size];exact ak x hx) (by rw[Lx hdp];exact mu) (fun x hx=>?_) (fun a' h1 h2 h3=>hQ a' (jH.trans h1) (h2.trans (put_defers _ _ _)) h3);rcases List.mem_append.1 hx with hx|hx
   ·rw[Lx (hda x hx)];exact Bs x hx
   ·simp at hx;subst hx;rw[ym Pc];exact hv
  split at h
  ·rename_i t pt e;rw[Bool.cond_eq_ite] at h;split at h
   case isFalse=>cases h
   rename_i gO;simp only[Bool.and_eq_true] at gO;have ht:=Nat.eq_of_beq_eq_true gO.1;have sF:=Nat.le_of_ble_eq_true gO.2;subst ht;have bJ:a.eval (.tmp t)=.tuple #[kv,vv]:=by simpa [Act.eval] using mu
   refine go pt (CD kv vv pt) h (by rw[e];rfl) rfl ?_;rcases(by omega:pt=0∨pt=1) with rfl|rfl<;>simp[execOp,e,bJ,Instr.extract,CD]
  ·rename_i t e;simp only[Option.bind_eq_some_iff] at h;obtain⟨pt,uH,h⟩:=h;have:=Bs _ (Cr uH);exact go pt (a.eval (.tmp t)) h (by rw[e];rfl) (by simpa [Act.eval] using this) (by simp[execOp,e])
  ·rename_i t e;simp only[Option.bind_eq_some_iff] at h;obtain⟨pt,uH,h⟩:=h;have:=Bs _ (Cr uH);exact go pt (a.eval (.tmp t)) h (by rw[e];rfl) (by simpa [Act.eval] using this) (by simp[execOp,e])
  ·cases h
theorem QB (ids:List Nat)(J j:Nat)(S:Snap):((S.kill ids J).st ids).o j=if j=J then .dead else(S.st ids).o j:=by
 show cZ ids (va ids J S.os) j=_;have:∀(is:List Nat) (os:List Ob),cZ is (va is J os) j=if j=J then .dead else cZ is os j:=by
  intro is
  induction is with
  |nil=>intro os;simp[va,cZ]
  |cons i is ih=>
   intro os;cases os with
   |nil=>simp[va,cZ]
   |cons o os=>
    simp only[va,cZ];cases hb:Nat.beq i j
    ·simp only[cond_false];exact ih os
    ·have:=Nat.eq_of_beq_eq_true hb;subst this;simp only[cond_true];by_cases cN:i=J
     ·subst cN;simp
     ·simp[ez cN,cN]
 exact this ids S.os
theorem XC {N:Nat}{id:Nat}(Hv:id≠cB){rm:Bool}{wr:Nat→Prop}{a:Act}{q:Res2}{x xi:Out}(pR:(∀t,t∈q.pc.modR→az q.mr t=true)∧∀j,j∈q.pc.modO→j∈q.mo)(dk:q.pc.ev Φ N ρ=some xi)(bJ:(fN ids id q).pc.ev Φ N ρ=some x){e:Exit}{a':Act}{w':World}
 (fR:gh C w0 σ0 ids fn s rm wr a q.out q.ex xi e a' w'):Exit.inBlock id (gh C w0 σ0 ids fn s rm wr a (fN ids id q).out (fN ids id q).ex x) e a' w':=by
 have ZB:∀bL S1,(bL,S1)∈q.ex→bL≠id→(bL,S1)∈q.ex.filter fun x=> !Nat.beq x.1 id:=fun bL S1 hm aG=>List.mem_filter.2 ⟨hm,by simp[ez aG]⟩;have main:∀(o:Option Snap) (lr lo:List Nat),nk id q.ex q.out=o→(∀M,o=some M→lr=jN M q.mr∧lo=iz ids M q.mo)→(PC.block id lr lo q.pc).ev Φ N ρ=some x→
        Exit.inBlock id (gh C w0 σ0 ids fn s rm wr a o (q.ex.filter fun x=> !Nat.beq x.1 id) x) e a' w':=by
  intro o lr lo ho hl bJ;simp only[PC.ev] at bJ;rw[dk] at bJ
  have fin:∀{ρ1:Env} {a':Act} {w':World},(∃M,o=some M∧Good C w0 σ0 (M.st ids) ρ1 (fun _=>False) a' w')→xi.env?=some ρ1→x=.next (ρ.join lr lo ρ1)→SameBut wr a a'→
   gh C w0 σ0 ids fn s rm wr a o (q.ex.filter fun x=> !Nat.beq x.1 id) x .normal a' w':=by
        intro ρ1 a' w' hM uE hx dZ;obtain⟨M,hM,qX⟩:=hM;obtain⟨l1,l2⟩:=hl M hM;subst l1 l2;exact⟨_,M,hx,hM,dZ,qX.joined (PC.ev_but q.pc ρ _ ρ1 dk uE) pR.1 pR.2⟩
  cases e with
  |normal=>
   obtain⟨ρ1,S2,e1,e2,dZ,gm⟩:=fR;subst e1;simp only[Option.some.injEq] at bJ;refine fin ?_ rfl bJ.symm dZ;rw[e2] at ho;obtain⟨M,h1,h2⟩:=Ii (id:=id) q.ex gm;rw[ho] at h1;exact⟨M,h1,h2⟩
  |exit bL=>
   obtain⟨ρ1,S2,e1,e0,e2,dZ,gm⟩:=fR;subst e1;simp only at bJ;show if bL=id then _ else _;by_cases cv:bL=id
   ·subst cv;simp only[Nat.beq_refl,cond_true,Option.some.injEq] at bJ;simp only[if_true];refine fin ?_ rfl bJ.symm dZ;rw[←ho];exact QR gm q.ex q.out e2
   ·simp only[ez cv,cond_false,Option.some.injEq] at bJ;subst bJ;simp only[cv,if_false];exact⟨ρ1,S2,rfl,e0,ZB _ _ e2 cv,dZ,gm⟩
  |ret=>
   cases rm with
   |false=>
    have hy:=fR;obtain⟨d,e1,_⟩:=hy;subst e1;simp only[Option.some.injEq] at bJ;subst bJ;exact fR
   |true=>
    obtain⟨ρ1,S2,e1,e2,dZ,gm⟩:=fR;subst e1;simp only[ez (fun e=>Hv e.symm:cB≠id),cond_false,Option.some.injEq] at bJ;subst bJ;exact⟨ρ1,S2,rfl,ZB _ _ e2 (fun e=>Hv e.symm),dZ,gm⟩
  |_=>exact fR.elim
 unfold fN at bJ ⊢;cases hm:nk id q.ex q.out with
 |none=>
  simp only[hm] at bJ ⊢;exact main none [] [] hm (fun M e=>by cases e) bJ
 |some M=>
  simp only[hm] at bJ ⊢;exact main (some M) _ _ hm (fun M' e=>by cases e;exact⟨rfl,rfl⟩) bJ
theorem XA {N id:Nat}{q:Res2}{x:Out}(bJ:(fN ids id q).pc.ev Φ N ρ=some x):∃xi,q.pc.ev Φ N ρ=some xi:=by
 unfold fN at bJ;cases hm:nk id q.ex q.out<;>simp only[hm,PC.ev] at bJ<;>cases dk:q.pc.ev Φ N ρ<;>first|exact⟨_,rfl⟩|(rw[dk] at bJ;cases bJ)
theorem aho {es:List (D×D)}{idx:List Nat}(hn:idx.Nodup)(ak:∀i,i∈idx→i<es.length)(aR:∀i,i<es.length→i∈idx):(gd es idx).Perm (gI (.map es)):=by
 have h1:idx.Perm (List.range es.length):=by
  rw[List.perm_ext_iff_of_nodup hn List.nodup_range];intro i;rw[List.mem_range];exact⟨ak i,aR i⟩
 have h2:gd es (List.range es.length)=gI (.map es):=by
  refine List.ext_getElem (by simp[gd,gI,D.m]) fun i g1 g2=>?_;have hi:i<es.length:=by simpa [gd] using g1
  simp[gd,gI,D.m,List.getElem?_eq_getElem hi]
 rw[←h2];exact h1.map _
theorem aCQ {es:List (D×D)}{idx:List Nat}(hn:idx.Nodup)(ak:∀i,i∈idx→i<es.length):∃rest,(gd es idx++rest).Perm (gI (.map es)):=by
 refine⟨gd es ((List.range es.length).filter fun i=> !idx.contains i),?_⟩;have e:gd es idx++gd es ((List.range es.length).filter fun i=> !idx.contains i)=gd es (idx++(List.range es.length).filter fun i=> !idx.contains i):=by simp[gd]
 rw[e];refine aho ?_ (fun i hi=>?_) (fun i hi=>?_)
 ·rw[List.nodup_append];refine⟨hn,List.nodup_range.filter _,fun a ha b hb e=>?_⟩;subst e;have:=(List.mem_filter.1 hb).2;simp[ha] at this
 ·rcases List.mem_append.1 hi with h|h
  ·exact ak i h
  ·exact List.mem_range.1 (List.mem_filter.1 h).1
 ·by_cases h:i∈idx
  ·exact List.mem_append_left _ h
  ·exact List.mem_append_right _ (List.mem_filter.2 ⟨List.mem_range.2 hi,by simp[h]⟩)
theorem ahp (es:List (D×D))(idx:List Nat){i:Nat}{p:D×D}(h:es[i]?=some p):gd es (idx++[i])=gd es idx++[.tup [p.1,p.2]]:=by simp[gd,h]
theorem azm {N:Nat}{x y z code:Code}{k:Nat}{p:MP}(hp:xH x y k z=some p)(ihc:tS C Φ fn s n ids R N code){rm:Bool}{S:Snap}{r:Res2}
 (hr:xI ids n p (cg x++(cg y++(cg z++cg code))) (fun S=>comp C fn s n ids R rm code S) S=some r) {rd:Option Nat} {wr:Nat→Prop} {x0:Out} (fS:rm=false→rd=none∧σ0.fin) (hC:CtxOK C σ0) (hY:nP C Φ w0 σ0)
 (gF:∀t,t∈cg (.loop (.seq x (.seq y (.block k (.seq z code)))))→wr t) (hn:a.tmps.size=n) (hg:Good C w0 σ0 (S.st ids) ρ (fun _=>False) a w) (he:r.pc.ev Φ N ρ=some x0):
 (Code.loop (.seq x (.seq y (.block k (.seq z code))))).wpIn (FR rd) 0 C.P (gh C w0 σ0 ids fn s rm wr a r.out r.ex x0) a w:=by
 obtain⟨i1,i2,o1,o2,o3,l,rfl,rfl,rfl,hk,e1,e2,d1,g1,q1,d2,g2,q2,d3,g3,q3,mq,n1,n2,n3,n4,n5,n6⟩:=azk hp;subst hk;unfold xI at hr;split at hr
 case h_2=>cases hr;exact absurd he (lT _ _ _ _)
 rename_i J hJ;split at hr
 case h_2=>cases hr;exact absurd he (lT _ _ _ _)
 rename_i kt et Hz;simp only at hr;split at hr
 case h_2=>cases hr;exact absurd he (lT _ _ _ _)
 rename_i q hq;rw[Bool.cond_eq_ite] at hr;split at hr
 case isFalse=>cases hr;exact absurd he (lT _ _ _ _)
 rename_i uB;cases hr;generalize H0:cg (.region i1 p.ops1 false)++(cg (.cond (.tmp p.mo) .skip (.exit p.out))++(cg (.region i2 p.ops2 false)++cg code))=ws at*;simp only[Bool.and_eq_true,Bool.not_eq_true'] at uB;obtain⟨⟨⟨⟨⟨⟨⟨⟨c1,c2⟩,c3⟩,c4⟩,c5⟩,c6⟩,c7⟩,c8⟩,c9⟩:=uB;have hex:q.2.ex=[]:=List.isEmpty_iff.1 c1;have YZ:J∉q.2.mo:=fun h=>by rw[(oH _ _).2 h] at c2;cases c2
 simp only[aaG,Bool.and_eq_true,Bool.not_eq_true'] at c3;obtain⟨⟨c3a,c3b⟩,c3c⟩:=c3;have awO:q.1.rs.getD p.it .none=.obj J 0:=Sh.beq_eq _ _ c3a;have HL:cZ ids q.1.os J=.it kt et:=Ob.beq_eq _ _ c3b;have awF:∀t,t∈p.as.map (·.1)→t<n:=fun t ht=>by have:=List.all_eq_true.1 c5 t ht;rwa [Nat.blt_eq] at this
 have PJ:p.nx<n:=by rwa [Nat.blt_eq] at c6
 have Py:p.mo<n:=by rwa [Nat.blt_eq] at c7
 have mu:p.pr<n:=by rwa [Nat.blt_eq] at c8
 have BR:=Nat.eq_of_beq_eq_true c9;obtain⟨hs,xg,bE⟩:=Cl (C:=C) (w0:=w0) (σ0:=σ0) (ids:=ids) 8 hq;simp only[Option.map_eq_some_iff] at hs;obtain⟨q0,uM,fD⟩:=hs;obtain⟨qS,qR⟩:=q;simp only at*;subst fD;generalize hm:vi ws=m at*;generalize uI:iz ids qS (fN ids p.next q0).mo=lo at*;have PA:=XB (ids:=ids) (id:=p.next) (rX code uM);have av7:∀j,j∈lo→j∈(fN ids p.next q0).mo:=fun j hj=>by rw[←uI] at hj;exact xJ hj
 have aLY:J∉lo:=fun h=>YZ (av7 J h);have B2:∃yZ,Lq ((fN ids p.next q0).pc.ev Φ N) ρ J (p.as.map (·.1)) (p.as.map (·.2)) lo yZ∧x0=.exit p.out (ρ.put [] [] lo yZ):=by
  simp only[PC.ev] at he;cases mu:Lr ((fN ids p.next q0).pc.ev Φ N) ρ J (p.as.map (·.1)) (p.as.map (·.2)) lo with
  |none=>rw[mu] at he;cases he
  |some y=>
   obtain⟨yZ,h1,rfl⟩:=yg.1 mu;rw[mu] at he;simp only[Option.some.injEq] at he;exact⟨yZ,h1,he.symm⟩
 obtain⟨yZ,⟨BY,au2⟩,hx0⟩:=B2;generalize ib:(ρ.o J).tget 1=es at*
 have iv:∀o,o∈p.ops1.toList→∀d,o.dst=some d→d∈ws:=fun o ho d hd=>by
  rw[←H0];exact List.mem_append_left _ (List.mem_filterMap.2 ⟨o,ho,hd⟩)
 have cX:∀o,o∈p.ops2.toList→∀d,o.dst=some d→d∈ws:=fun o ho d hd=>by
  rw[←H0];exact List.mem_append_right _ (List.mem_append_right _ (List.mem_append_left _ (List.mem_filterMap.2 ⟨o,ho,hd⟩)))
 have hwc:∀d,d∈cg code→d∈ws:=fun d hd=>by
  rw[←H0];exact List.mem_append_right _ (List.mem_append_right _ (List.mem_append_right _ hd))
 have Qp:∀t,t∈ws→wr t:=fun t ht=>gF t (by rw[←H0] at ht;exact ht);have q9:∀t,t∈ws→az m t=true:=fun t ht=>by rw[←hm];exact Xz ht
 have Px:∀t,az m t=true→((qS.mask m).st ids).r t=.none:=fun t ht=>by rw[Cs,if_pos ht]
 have awd:∀t,isNone (((qS.mask m).st ids).r t)=false→az m t=false:=fun t ht=>by
  cases hb:az m t with
  |false=>rfl
  |true=>rw[Px t hb] at ht;cases ht
 have iu:((qS.mask m).st ids).r p.it=.obj J 0:=by
  rw[Cs,c3c];show cl (qS.rs.getD p.it .none)=_;rw[awO];rfl
 have cE:((qS.mask m).st ids).o J=.it kt et:=HL;have je:p.ops1[0]?=some o1:=by rw[←Array.getElem?_toList,e1];rfl
 have dW:p.ops1[1]?=some o2:=by rw[←Array.getElem?_toList,e1];rfl
 have ho3:p.ops2[0]?=some o3:=by rw[←Array.getElem?_toList,e2];rfl
 have aw6:List.range p.ops1.size=[0,1]:=by
  have:p.ops1.size=2:=by rw[←Array.length_toList,e1];rfl
  rw[this];rfl
 have HW:List.range p.ops2.size=0::List.range' 1 (p.ops2.size-1):=by
  have:p.ops2.size=l.length+1:=by rw[←Array.length_toList,e2];rfl
  rw[this,List.range_eq_range',List.range'_succ];rfl
 have key:∀(kk:Nat) (done vo:List D) (a':Act) (w':World),SameBut wr a a'→Good C w0 σ0 ((qS.mask m).st ids) ((ρ.put [] [] lo vo).setO J (.tup [.list done,es])) (fun _=>False) a' w'→
  (∀ys,(done++ys).Perm (gI es)→nq ((fN ids p.next q0).pc.ev Φ N) ρ J es (p.as.map (·.1)) (p.as.map (·.2)) lo ys done vo=some yZ)→done.length+kk=(gI es).length+1→
  Code.roundsIn (FR rd) 0 C.P (.seq (.region i1 p.ops1 false) (.seq (.cond (.tmp p.mo) .skip (.exit p.out)) (.block p.next (.seq (.region i2 p.ops2 false) code)))) (gh C w0 σ0 ids fn s rm wr a none [(p.out,(qS.mask m).kill ids J)] x0) kk a' w':=by
  intro kk
  induction kk with
  |zero=>
   intro done vo a' w' _ fh _ hlen;exfalso;obtain⟨σ,own,hv,h⟩:=fh;have bh:=h.objs J;rw[cE] at bh;obtain⟨kb,mb,arr,clock,fP,idx,h1,h2,h3,aG,h4,h5,h6,h7,h8,h9,mY,qV⟩:=bh;simp only[Env.setO,aQ] at h6;injection h6 with h6;injection h6 with uv uw;injection uw with uw _;injection uv with uv;subst uv;subst uw;have hle:idx.length≤arr.size:=by
        have:=List.Nodup.length_le_of_subset h7 (l₂:=List.range arr.size) (fun i hi=>List.mem_range.2 (h8 i hi));simpa using this
   simp[gd,gI,D.m] at hlen;omega
  |succ kk ih=>
   intro done vo a' w' jH fh aR hlen;rw[roundsIn_succ];obtain⟨σ,own,hv,h⟩:=fh;have bh:=h.objs J;rw[cE] at bh;obtain⟨kb,mb,arr,clock,fP,idx,h1,h2,h3,aG,h4,h5,h6,h7,h8,h9,mY,qV⟩:=bh;simp only[Env.setO,aQ] at h6;injection h6 with h6;injection h6 with uv uw;injection uw with uw _;injection uv with uv;subst uv;subst uw;have jh:=h.regs p.it;rw[iu] at jh;have Hx:a'.eval (.tmp p.it)=.pointer (some ⟨kb,0,none⟩):=by
        have:=jh.2 rfl;simp only[Act.eval];rw[this];exact h1
   have pZ:a'.tmps.size=n:=jH.size.trans hn;obtain⟨w1,aau,HJ⟩:=azG (P:=C.P) h5 h4 mY h8 o1.type;have Cd:Below w'.heap.size w' w1:=by rcases aau with rfl|rfl;exact .refl _ _;exact⟨rfl,rfl,rfl,Nat.le_refl _,fun _ _=>rfl⟩
   have xx:w1.heap=w'.heap:=by rcases aau with rfl|rfl<;>rfl
   have ZQ:kb<w'.heap.size:=(h.owns kb J h2).2.1;have q5:mb<w'.heap.size:=(h.owns mb J h3).2.1;refine wpIn_seq (wpIn_region ?_);rw[aw6];rcases HJ with⟨Pk,aq⟩|⟨i,e,m5,uF,aq⟩
   ·
        refine yd je g1 (by rw[q1];rfl) (v:=.tuple #[.bool false]) (w':=w1) (by simp only[execOp,q1,Hx];simp[aq]) ?_;rw[d1]
        refine yd dW g2 (by rw[q2];rfl) (v:=.bool false) (w':=w1) (by
         have:(a'.put (some p.nx) (.tuple #[.bool false])).eval (.tmp p.nx)=.tuple #[.bool false]:=by simp only[Act.eval];exact ym (by omega)
         simp only[execOp,q2,this];simp[Instr.extract]) ?_
        rw[d2];simp only[wpOpsIn]
        have uP:SameBut (fun t=>t∈ws) a' ((a'.put (some p.nx) (.tuple #[.bool false])).put (some p.mo) (.bool false)):=by
         have s1:=SameBut.put a' (some p.nx) (.tuple #[.bool false]) a'.defers;have s2:=SameBut.put (a'.put (some p.nx) (.tuple #[.bool false])) (some p.mo) (.bool false) (a'.put (some p.nx) (.tuple #[.bool false])).defers;exact(s1.mono fun t e=>by cases e;exact iv o1 (by rw[e1];simp) _ d1).trans (s2.mono fun t e=>by cases e;exact iv o2 (by rw[e1];simp) _ d2)
        generalize uy:(a'.put (some p.nx) (.tuple #[.bool false])).put (some p.mo) (.bool false)=a1 at uP;have Pz:a1.eval (.tmp p.mo)=.bool false:=by
         rw[←uy];simp only[Act.eval];exact ym (by rw[size_put];omega)
        have j5:a1.defers=a'.defers:=by rw[←uy,put_defers,put_defers]
        refine wpIn_seq (wpIn_cond_false Pz (wpIn_exit ?_));have awA:(gd fP idx++[]).Perm (gI (.map fP)):=by
         rw[List.append_nil];exact aho h7 (fun i hi=>by rw[h9];exact h8 i hi) (fun i hi=>Pk i (by omega))
        have aat:=aR [] awA;simp only[nq,Option.some.injEq] at aat;subst aat;refine⟨_,_,hx0,n5,List.mem_singleton.2 rfl,jH.trans (uP.mono Qp),?_⟩;refine⟨σ,own,hv,?_⟩
        refine h.step (S':=((qS.mask m).kill ids J).st ids) (ρ':=ρ.put [] [] lo vo) (A':=fun _=>False) (fun j=>j=J) j5 (.refl σ) (h.ok.below Cd) (fun _ _ _ hx=>.inl hx) (fun _ _ hx=>.inl hx) (Cd.mono h.below.size) ⟨fun _=>Nat.le_refl _,fun _ _=>rfl⟩
         (fun j hj=>⟨by rw[QB,if_neg hj],by simp[Env.setO,bq _ _ hj],rfl,fun b hb=>⟨hb,by rw[xx]⟩⟩) (fun j hj=>?_) (fun b j hb=>?_) (fun _=>id) (fun t=>?_) (fun _ hf=>hf.elim) (fun b hb _=>by rw[xx]) (fun b j hb=>.inl ⟨j,hb⟩) (fun j hj=>?_)
        ·rw[QB,if_pos hj];trivial
        ·obtain⟨b1,b2,b3,b4⟩:=h.owns b j hb;exact⟨b1,by rw[xx];exact b2,b3,b4⟩
        ·by_cases ht:t∈ws
         ·refine .inr ⟨?_,fun gs s' e=>absurd e (Snap.noOpt _ _ t gs s')⟩;have:(((qS.mask m).kill ids J).st ids).r t=.none:=Px t (q9 t ht);rw[this];trivial
         ·exact .inl ⟨rfl,uP.get t ht,rfl⟩
        ·rw[QB,if_pos hj];intro e;cases e
   ·
        obtain⟨pd,PX⟩:∃pd,fP[i]?=some pd:=⟨_,List.getElem?_eq_getElem (by rw[h9];exact(Array.getElem?_eq_some_iff.1 m5).1)⟩
        obtain⟨bx,cn⟩:=qV i e pd m5 PX;generalize xy:({w1 with heap:=w1.heap.setIfInBounds kb (.mapIter (some mb) clock (fK arr (idx++[i])) clock)}:World)=w2 at aq;have aav:w2.heap[kb]?=some (.mapIter (some mb) clock (fK arr (idx++[i])) clock):=by rw[←xy];simp[xx,ZQ]
        have xz:∀b,b≠kb→w2.heap[b]?=w'.heap[b]?:=fun b hb=>by rw[←xy];simp only[xx];rw[Array.getElem?_setIfInBounds_ne (Ne.symm hb)]
        have aMy:w2.heap.size=w'.heap.size:=by rw[←xy];simp[xx]
        have aaw:w2.heap[mb]?=some (.map arr clock):=by rw[xz mb (Ne.symm aG)];exact h4
        refine yd je g1 (by rw[q1];rfl) (v:=.tuple #[.bool true,e.key,e.val]) (w':=w2) (by simp only[execOp,q1,Hx];simp[aq]) ?_;rw[d1]
        refine yd dW g2 (by rw[q2];rfl) (v:=.bool true) (w':=w2) (by
         have:(a'.put (some p.nx) (.tuple #[.bool true,e.key,e.val])).eval (.tmp p.nx)=.tuple #[.bool true,e.key,e.val]:=by simp only[Act.eval];exact ym (by omega)
         simp only[execOp,q2,this];simp[Instr.extract]) ?_
        rw[d2];simp only[wpOpsIn]
        have uP:SameBut (fun t=>t∈ws) a' ((a'.put (some p.nx) (.tuple #[.bool true,e.key,e.val])).put (some p.mo) (.bool true)):=by
         have s1:=SameBut.put a' (some p.nx) (.tuple #[.bool true,e.key,e.val]) a'.defers;have s2:=SameBut.put (a'.put (some p.nx) (.tuple #[.bool true,e.key,e.val])) (some p.mo) (.bool true) (a'.put (some p.nx) (.tuple #[.bool true,e.key,e.val])).defers;exact(s1.mono fun t e=>by cases e;exact iv o1 (by rw[e1];simp) _ d1).trans (s2.mono fun t e=>by cases e;exact iv o2 (by rw[e1];simp) _ d2)
        have ZO:(((a'.put (some p.nx) (.tuple #[.bool true,e.key,e.val])).put (some p.mo) (.bool true))).eval (.tmp p.it)=.pointer (some ⟨kb,0,none⟩):=by
         simp only[Act.eval] at Hx ⊢;rw[Lx n2,Lx n1];exact Hx
        generalize uy:(a'.put (some p.nx) (.tuple #[.bool true,e.key,e.val])).put (some p.mo) (.bool true)=a1 at uP ZO;have Pz:a1.eval (.tmp p.mo)=.bool true:=by
         rw[←uy];simp only[Act.eval];exact ym (by rw[size_put];omega)
        have j5:a1.defers=a'.defers:=by rw[←uy,put_defers,put_defers]
        refine wpIn_seq (wpIn_cond_true Pz (wpIn_skip ?_));refine wpIn_block (wpIn_seq (wpIn_region ?_));rw[HW];refine yd ho3 g3 (by rw[q3];rfl) (v:=.tuple #[e.key,e.val]) (w':=w2) (by simp only[execOp,q3,ZO];simp[aqJ aav aaw mY m5]) ?_;rw[d3]
        have HR:SameBut (fun t=>t∈ws) a1 (a1.put (some p.pr) (.tuple #[e.key,e.val])):=
         (SameBut.put a1 (some p.pr) (.tuple #[e.key,e.val]) a1.defers).mono fun t e=>by cases e;exact cX o3 (by rw[e2];simp) _ d3
        have aal:a1.tmps.size=n:=uP.size.trans pZ;refine afr (kv:=e.key) (vv:=e.val) l [] p.as 1 _ mq (by rw[e2];rfl) (fun x hx=>by rw[HR.size,aal];exact awF _ (List.mem_map.2 ⟨x,hx,rfl⟩)) (ym (by rw[aal];exact mu)) (fun x hx=>by cases hx) (fun a2 dZ dC awy=>?_);have P6:SameBut (fun t=>t∈ws) a' a2:=(uP.trans HR).trans (dZ.mono fun t ⟨o,ho,hd⟩=>cX o ho t hd);have avw:a2.defers=a'.defers:=by rw[dC,put_defers,j5]
        have aw3:Good C w0 σ0 (((qS.mask m).start (p.as.map (·.1)) (p.as.map fun x=>bif Nat.beq x.2 0 then kt else et)).st ids) ((ρ.put (p.as.map (·.1)) ((p.as.map (·.2)).map (D.tup [pd.1,pd.2]).tget) lo vo).setO J (.tup [.list (gd fP idx++[.tup [pd.1,pd.2]]),.map fP])) (fun _=>False) a2 w2:=by
         have Bv:Below w0.heap.size w' w2:=⟨by rw[←xy];exact Cd.os,by rw[←xy];exact Cd.tape,by rw[←xy];exact Cd.output,by omega,fun b hb=>xz b (fun e=>by subst e;have:=(h.owns b J h2).1;omega)⟩
         have jf:σ.ok w2:=by
          refine⟨fun b o v hc=>?_,fun b es hc=>?_⟩
          ·have O6:b≠kb:=fun e=>by subst e;rw[(h.owns b J h2).2.2.1 o] at hc;cases hc
           have:=h.ok.c b o v hc;simp only[World.cell?] at this ⊢;rw[xz b O6];exact this
          ·have O6:b≠kb:=fun e=>by subst e;rw[(h.owns b J h2).2.2.2] at hc;cases hc
           exact(h.ok.m b es hc).keep (xz b O6)
         have fR:∀j,((ρ.put (p.as.map (·.1)) ((p.as.map (·.2)).map (D.tup [pd.1,pd.2]).tget) lo vo).setO J (.tup [.list (gd fP idx++[.tup [pd.1,pd.2]]),.map fP])).o j=if j=J then .tup [.list (gd fP idx++[.tup [pd.1,pd.2]]),.map fP] else putL ρ.o lo vo j:=fun j=>by
          simp only[Env.setO,fL];rfl
         refine⟨σ,own,hv,h.step (fun j=>j=J) avw (.refl σ) jf (fun _ _ _ hx=>.inl hx) (fun _ _ hx=>.inl hx) Bv ⟨fun _=>Nat.le_refl _,fun _ _=>rfl⟩
          (fun j hj=>⟨rfl,by rw[fR,if_neg hj];simp[Env.setO,bq _ _ hj,Env.put],rfl,fun b hb=>⟨hb,xz b (fun e=>by subst e;rw[h2] at hb;cases hb;exact hj rfl)⟩⟩) (fun j hj=>?_) (fun b j hb=>?_) (fun _=>id) (fun t=>?_) (fun _ hf=>hf.elim)
          (fun b hb ho=>xz b (fun e=>by subst e;rw[h2] at ho;cases ho)) (fun b j hb=>.inl ⟨j,hb⟩) (fun j hj=>?_)⟩
         ·subst hj;have:(((qS.mask m).start (p.as.map (·.1)) (p.as.map fun x=>bif Nat.beq x.2 0 then kt else et)).st ids).o j=.it kt et:=HL;rw[this];refine⟨kb,mb,arr,clock,fP,idx++[i],h1,h2,h3,aG,aaw,aav,by rw[fR,if_pos rfl,ahp fP idx PX],?_,?_,h9,mY,qV⟩
          ·rw[List.nodup_append];exact⟨h7,by simp,fun a ha b hb e=>by simp at hb;subst hb;subst e;exact uF ha⟩
          ·intro i' di;rcases List.mem_append.1 di with h|h
           ·exact h8 i' h
           ·simp at h;subst h;exact(Array.getElem?_eq_some_iff.1 m5).1
         ·obtain⟨b1,b2,b3,b4⟩:=h.owns b j hb;exact⟨b1,by omega,b3,b4⟩
         ·have hc:Compat ((qS.mask m).st ids) hv (((qS.mask m).start (p.as.map (·.1)) (p.as.map fun x=>bif Nat.beq x.2 0 then kt else et)).st ids) hv:=⟨fun _=>Nat.le_refl _,fun _ _=>rfl⟩
          refine .inr ⟨?_,fun gs s' e=>absurd e (Snap.noOpt _ _ t gs s')⟩;show aJ C _ _ σ hv (cl ((qt (p.as.map (·.1)) (p.as.map fun x=>bif Nat.beq x.2 0 then kt else et) ((qS.mask m).rs.map qY)).getD t .none)) (a2.tmps.getD t undef) (putL ρ.r (p.as.map (·.1)) ((p.as.map (·.2)).map (D.tup [pd.1,pd.2]).tget) t);rcases Uc (p.as.map (·.1)) (p.as.map fun x=>bif Nat.beq x.2 0 then kt else et) ((qS.mask m).rs.map qY) (by simp) c4 t with e|⟨wO,rZ⟩|⟨i',y,wO,rZ,Oo⟩
          ·rw[e];trivial
          ·rw[rZ,yk _ _ _ _ wO];have e3:((qS.mask m).rs.map qY).getD t .none=qY ((qS.mask m).rs.getD t .none):=by
            simp only[List.getD_eq_getElem?_getD,List.getElem?_map];cases(qS.mask m).rs[t]?<;>rfl
           rw[e3];by_cases htw:t∈ws
           ·have xn:=Px t (q9 t htw);change cl ((qS.mask m).rs.getD t .none)=.none at xn;generalize (qS.mask m).rs.getD t .none=s' at xn;cases s'<;>simp[cl] at xn<;>trivial
           ·have hr:=h.regs t;change aJ C _ _ σ hv (cl ((qS.mask m).rs.getD t .none)) _ (ρ.r t) at hr;rw[P6.get t htw];generalize (qS.mask m).rs.getD t .none=s' at hr;cases s' with
            |yv=>trivial
            |opt gs s=>trivial
            |none=>trivial
            |fclo f c=>exact aJ.mono' (.refl σ) hc (fun _ _ e=>by cases e) hr
            |dat t=>exact hr
            |obj j v=>exact aJ.mono' (.refl σ) hc (fun _ _ e=>by cases e) hr
            |ptr j v o=>exact aJ.mono' (.refl σ) hc (fun _ _ e=>by cases e) hr
            |eptr j v o q=>exact aJ.mono' (.refl σ) hc (fun _ _ e=>by cases e) hr
          ·rw[Oo];have avT:i'<p.as.length:=by have:=(List.getElem?_eq_some_iff.1 wO).1;simpa using this
           rw[Sc _ (p.as.map (·.1)) _ i' t (mG c4) (by simp) wO];obtain⟨xa,lz⟩:∃xa,p.as[i']?=some xa:=⟨_,List.getElem?_eq_getElem avT⟩
           simp only[List.getElem?_map,lz,Option.map_some,Option.some.injEq] at wO rZ;subst wO;subst rZ;rw[awy xa (List.mem_of_getElem? lz)];have hd:((p.as.map (·.2)).map (D.tup [pd.1,pd.2]).tget).getD i' .none=(D.tup [pd.1,pd.2]).tget xa.2:=by simp[List.getD_eq_getElem?_getD,lz]
           rw[hd];have h2x:xa.2≤1:=by
            rcases R2 l mq (fun x hx=>by cases hx) xa (List.mem_of_getElem? lz) with h|h
            ·cases h
            ·exact h.1
           rcases(by omega:xa.2=0∨xa.2=1) with e0|e0<;>rw[e0]
           ·exact bx
           ·exact cn
         ·have:(((qS.mask m).start (p.as.map (·.1)) (p.as.map fun x=>bif Nat.beq x.2 0 then kt else et)).st ids).o j=.it kt et:=by rw[hj];exact HL
          rw[this];intro e;cases e
        have awz:=ahp fP idx PX;obtain⟨rest,sG⟩:∃rest,(gd fP idx++(D.tup [pd.1,pd.2])::rest).Perm (gI (.map fP)):=by
         obtain⟨rest,hr⟩:=aCQ (es:=fP) (idx:=idx++[i]) (by rw[List.nodup_append];exact⟨h7,by simp,fun a ha b hb e=>by simp at hb;subst hb;subst e;exact uF ha⟩) (fun i' di=>by
          rcases List.mem_append.1 di with h|h
          ·rw[h9];exact h8 i' h
          ·simp at h;subst h;rw[h9];exact(Array.getElem?_eq_some_iff.1 m5).1)
         rw[awz] at hr;exact⟨rest,by simpa using hr⟩
        have jc:=aR _ sG;simp only[nq] at jc;split at jc
        case h_2=>cases jc
        rename_i ρ2 Hl;obtain⟨xi,dk⟩:=XA Hl;refine wpIn_mono (ihc rm _ q0 uM rd w0 σ0 wr _ xi a2 w2 fS hC hY (fun t ht=>Qp t (hwc t ht)) (P6.size.trans pZ) aw3 dk) fun ee a3 w3 fR=>?_;have jG:=XC n6 (rX code uM) dk Hl fR;have conv:∀ee a3 w3,gh C w0 σ0 ids fn s rm wr a2 (fN ids p.next q0).out (fN ids p.next q0).ex (.next ρ2) ee a3 w3→Exit.then (Code.roundsIn (FR rd) 0 C.P (.seq (.region i1 p.ops1 false) (.seq (.cond (.tmp p.mo) .skip (.exit p.out)) (.block p.next (.seq (.region i2 p.ops2 false) code)))) (gh C w0 σ0 ids fn s rm wr a none [(p.out,(qS.mask m).kill ids J)] x0) kk) (gh C w0 σ0 ids fn s rm wr a none [(p.out,(qS.mask m).kill ids J)] x0) ee a3 w3:=by
         intro ee a3 w3 ho;cases ee with
         |normal=>
          obtain⟨ρ3,T,f1,f2,f3,f4⟩:=ho;cases f1;refine ih (gd fP idx++[.tup [pd.1,pd.2]]) (lo.map ρ2.o) a3 w3 (jH.trans ((P6.mono Qp).trans f3)) ?_ (fun ys uY=>?_) (by simp at hlen ⊢;omega)
          ·have qX:Good C w0 σ0 (qS.st ids) ρ2 (fun _=>False) a3 w3:=by
            have:=f4.meet2 (x:=qS)
            rwa [xg T f2] at this
           obtain⟨σ3,vw,Ca,eO⟩:=qX;have O8:=PC.ev_but _ _ _ ρ2 Hl rfl;refine⟨σ3,vw,Ca,(eO.maskR m).env (Snap.noOpt _ _) (fun t ht=>?_) (fun j hj=>?_)⟩
           ·have xn:=awd t ht
            have cT:t∉(fN ids p.next q0).pc.modR:=fun eQ=>by
                 have:=PA.1 t eQ;have h2:az (Nat.lor m (fN ids p.next q0).mr) t=true:=by rw[eK,this,Bool.or_true]
                 rw[BR,xn] at h2;cases h2
            rw[O8.r t cT]
            have pU:t∉p.as.map (·.1):=fun aS=>by
                 have:az m t=true:=by
                  refine q9 t ?_;obtain⟨xa,lz,rfl⟩:=List.mem_map.1 aS;rcases R2 l mq (fun x hx=>by cases hx) xa lz with h|⟨_,o,ho,hd⟩
                  ·cases h
                  ·exact cX o (by rw[e2];exact List.mem_cons_of_mem _ ho) _ hd
                 rw[xn] at this;cases this
            show ρ.r t=putL ρ.r (p.as.map (·.1)) _ t;rw[yk _ _ _ _ pU]
           ·have hjd:ni (cZ ids qS.os j)=false:=hj;show bV (putL ρ.o lo (lo.map ρ2.o)) J _ j=ρ2.o j;by_cases xk:j=J
            ·subst xk;rw[aQ,O8.o j (fun eQ=>YZ (PA.2 j eQ))];simp[Env.setO,aQ]
            ·rw[bq _ _ xk,rA];split
             ·rfl
             ·rename_i fC;have cT:j∉(fN ids p.next q0).pc.modO:=fun eQ=>fC (by rw[←uI];exact List.mem_filter.2 ⟨PA.2 j eQ,by rw[hjd];rfl⟩);rw[O8.o j cT];simp only[Env.setO,bq _ _ xk];exact(Sd _ _ _ _ fC).symm
          ·have:=aR ((D.tup [pd.1,pd.2])::ys) (by simpa using uY);simp only[nq,Hl] at this;exact this
         |exit id=>obtain⟨ρ3,T,f1,_⟩:=ho;cases f1
         |ret=>
          cases rm with
          |false=>obtain⟨d,f1,_⟩:=ho;cases f1
          |true=>obtain⟨ρ3,T,f1,_⟩:=ho;cases f1
         |_=>exact ho.elim
        cases ee with
        |exit id=>
         simp only[Exit.inBlock] at jG;show if id=p.next then _ else _;split
         ·rename_i cv;rw[if_pos cv] at jG;exact conv .normal a3 w3 jG
         ·rename_i cv;rw[if_neg cv] at jG;exact conv (.exit id) a3 w3 jG
        |normal=>exact conv .normal a3 w3 jG
        |ret=>exact conv .ret a3 w3 jG
        |panic c=>exact fR.elim
        |goto l=>exact fR.elim
        |_=>exact fR.elim
 have hgq:Good C w0 σ0 (qS.st ids) ρ (fun _=>False) a w:=bE hg;obtain⟨σ,own,hv,h⟩:=hgq;have bh:=h.objs J;have:(qS.st ids).o J=.it kt et:=HL;rw[this] at bh;obtain⟨kb,mb,arr,clock,fP,idx,h1,h2,h3,aG,h4,h5,h6,h7,h8,h9,mY,qV⟩:=bh;have hρJ:ρ.o J=.tup [.list [],es]:=by
  rw[h6] at BY ib;simp[D.tget] at BY ib;rw[h6,BY,←ib]
 have uE:(ρ.put [] [] lo (lo.map ρ.o)).setO J (.tup [.list [],es])=ρ:=by
  rw[Env.put_self];show Env.mk _ _=_;have:bV ρ.o J (.tup [.list [],es])=ρ.o:=by
   funext j;rw[fL];split
   ·rename_i e;rw[e];exact hρJ.symm
   ·rfl
  rw[this]
 exact wpIn_loop_rounds _ (key ((gI es).length+1) [] (lo.map ρ.o) a w (.refl _ _) (by rw[uE];exact⟨σ,own,hv,h.maskR m⟩) (fun ys uY=>au2 ys uY) (by simp))
theorem apj {N:Nat}(fg:fM C Φ)(hR:Nc C n ids Φ R):∀(k:Nat) (c:Code),sizeOf c<k→tS C Φ fn s n ids R N c:=by
 intro k;refine Nat.rec (fun c h=>absurd h (Nat.not_lt_zero _)) (fun k IH=>?_) k;intro c hc;cases c with
 |skip=>
  intro rm S r h rd w0 σ0 wr ρ x a w fS hC hY gF hn hg he;simp only[comp,Option.some.injEq] at h;subst h;simp only[PC.ev,Option.some.injEq] at he;subst he;exact wpIn_skip ⟨ρ,S,rfl,rfl,.refl _ _,hg⟩
 |region id ops draw=>
  intro rm S r h rd w0 σ0 wr ρ x a w fS hC hY gF hn hg he;simp only[comp,Option.map_eq_some_iff] at h;obtain⟨q,hq,rfl⟩:=h;simp only[PC.ev,Option.map_eq_some_iff] at he;obtain⟨ρ',hr,rfl⟩:=he;exact hR id ops draw S q hq rd w0 σ0 ρ ρ' a w _ hC hY hn hg hr (fun a' w' dY fh=>⟨ρ',q.1,rfl,rfl,dY.mono (fun t ⟨o,h1,h2⟩=>gF t (List.mem_filterMap.2 ⟨o,h1,h2⟩)),fh⟩)
 |seq c1 c2=>
  have sO:=IH c1 (by simp at hc;omega);have lD:=IH c2 (by simp at hc;omega);intro rm S r h rd w0 σ0 wr ρ x a w fS hC hY gF hn hg he;have iv:∀t,t∈cg c1→wr t:=fun t ht=>gF t (List.mem_append_left _ ht);have cX:∀t,t∈cg c2→wr t:=fun t ht=>gF t (List.mem_append_right _ ht);simp only[comp,Option.bind_eq_some_iff] at h;obtain⟨q,hq,h⟩:=h;split at h
  ·rename_i jF;cases h;refine wpIn_seq (wpIn_mono (sO rm S _ hq rd w0 σ0 wr ρ x a w fS hC hY iv hn hg he) fun e a' w' ho=>?_);cases e with
   |normal=>obtain⟨_,_,_,h2,_⟩:=ho;rw[jF] at h2;cases h2
   |_=>exact ho
  ·rename_i S1 jF;simp only[Option.map_eq_some_iff] at h;obtain⟨p,hp,rfl⟩:=h;simp only[PC.ev] at he
   have key:∀x1,q.pc.ev Φ N ρ=some x1→(match some x1 with|some (.next ρ')=>p.pc.ev Φ N ρ'|y=>y)=some x→(Code.seq c1 c2).wpIn (FR rd) 0 C.P (gh C w0 σ0 ids fn s rm wr a p.out (q.ex++p.ex) x) a w:=by
      intro x1 h1 h2;refine wpIn_seq (wpIn_mono (sO rm S _ hq rd w0 σ0 wr ρ x1 a w fS hC hY iv hn hg h1) fun e a' w' ho=>?_);have other:∀{e:Exit},e≠.normal→gh C w0 σ0 ids fn s rm wr a q.out q.ex x1 e a' w'→x1=x→gh C w0 σ0 ids fn s rm wr a p.out (q.ex++p.ex) x e a' w':=by
       intro e aG ho hx;subst hx;exact ho.mono (fun y hy=>List.mem_append_left _ hy) (.refl _ _) (fun e=>absurd e aG)
      cases e with
      |normal=>
       obtain⟨ρ1,S2,e1,e2,dZ,gm⟩:=ho;subst e1;rw[jF] at e2;cases e2;simp only at h2;refine wpIn_mono (lD rm S1 _ hp rd w0 σ0 wr ρ1 x a' w' fS hC hY cX (dZ.size.trans hn) gm h2) fun e a2 w2 dW=>?_;exact dW.mono (fun y hy=>List.mem_append_right _ hy) dZ (fun _=>rfl)
      |exit id=>
       refine other (by simp) ho ?_;obtain⟨ρ1,S2,e1,_⟩:=ho;subst e1;simpa using h2
      |ret=>
       refine other (by simp) ho ?_;cases rm with
       |false=>obtain⟨d,e1,_⟩:=ho;subst e1;simpa using h2
       |true=>obtain⟨ρ1,S2,e1,_⟩:=ho;subst e1;simpa using h2
      |_=>exact ho.elim
   cases h1:q.pc.ev Φ N ρ with
   |none=>rw[h1] at he;simp at he
   |some x1=>rw[h1] at he;exact key x1 h1 he
 |cond c c1 c2=>
  have sO:=IH c1 (by simp at hc;omega);have lD:=IH c2 (by simp at hc;omega);intro rm S r h rd w0 σ0 wr ρ x a w fS hC hY gF hn hg he;have iv:∀t,t∈cg c1→wr t:=fun t ht=>gF t (List.mem_append_left _ ht);have cX:∀t,t∈cg c2→wr t:=fun t ht=>gF t (List.mem_append_right _ ht);simp only[comp] at h;split at h
  case h_2=>cases h;exact absurd he (lT _ _ _ _)
  rename_i e hu;simp only[Option.bind_eq_some_iff,Option.map_eq_some_iff] at h;obtain⟨q,hq,p,hp,rfl⟩:=h;have hb:∃b,a.eval c=.bool b∧e.ev ρ=.v (.bool b):=by
   obtain⟨σ,own,hv,hi⟩:=hg;have:=bW (gs:=[]) hi hC rfl hu;generalize a.eval c=v at this;generalize e.ev ρ=d at this;cases this with|bool b=>exact⟨b,rfl,rfl⟩
  obtain⟨b,jc,dh⟩:=hb;have pR:=rX c1 hq;have BQ:=rX c2 hp;have main:∀(o:Option Snap) (lr lo:List Nat) (rx:Res2),rx=⟨.ite e lr lo q.pc p.pc,o,q.ex++p.ex,Nat.lor q.mr p.mr,iN q.mo p.mo⟩→
        (∀M,o=some M→lr=jN M (Nat.lor q.mr p.mr)∧lo=iz ids M (iN q.mo p.mo))→
        (∀S1 ρ1 a w,q.out=some S1→Good C w0 σ0 (S1.st ids) ρ1 (fun _=>False) a w→∃M,o=some M∧Good C w0 σ0 (M.st ids) ρ1 (fun _=>False) a w)→
        (∀S1 ρ1 a w,p.out=some S1→Good C w0 σ0 (S1.st ids) ρ1 (fun _=>False) a w→∃M,o=some M∧Good C w0 σ0 (M.st ids) ρ1 (fun _=>False) a w)→
        rx.pc.ev Φ N ρ=some x→(Code.cond c c1 c2).wpIn (FR rd) 0 C.P (gh C w0 σ0 ids fn s rm wr a rx.out rx.ex x) a w:=by
   intro o lr lo rx hrx hl pW mq bJ;subst hrx;simp only[PC.ev,dh,D.b_bool] at bJ;have fin:∀(ci:Code) (qi:Res2) (xi:Out),(∀y,y∈qi.ex→y∈q.ex++p.ex)→(∀t,t∈qi.pc.modR→az (Nat.lor q.mr p.mr) t=true)→(∀j,j∈qi.pc.modO→j∈iN q.mo p.mo)→
    (∀S1 ρ1 a w,qi.out=some S1→Good C w0 σ0 (S1.st ids) ρ1 (fun _=>False) a w→∃M,o=some M∧Good C w0 σ0 (M.st ids) ρ1 (fun _=>False) a w)→
    qi.pc.ev Φ N ρ=some xi→(match some xi with|some (.next ρ')=>some (Out.next (ρ.join lr lo ρ'))|y=>y)=some x→
    ci.wpIn (FR rd) 0 C.P (gh C w0 σ0 ids fn s rm wr a qi.out qi.ex xi) a w→ci.wpIn (FR rd) 0 C.P (gh C w0 σ0 ids fn s rm wr a o (q.ex++p.ex) x) a w:=by
        intro ci qi xi hex gQ oB jF dk hx hwp;refine wpIn_mono hwp fun ee a' w' ho=>?_;have other:ee≠.normal→xi=x→gh C w0 σ0 ids fn s rm wr a o (q.ex++p.ex) x ee a' w':=by
         intro aG jI;subst jI;exact ho.mono hex (.refl _ _) (fun e=>absurd e aG)
        cases ee with
        |normal=>
         obtain⟨ρ1,S2,e1,e2,dZ,gm⟩:=ho;subst e1;simp only[Option.some.injEq] at hx;subst hx;obtain⟨M,hM,qX⟩:=jF S2 ρ1 a' w' e2 gm;obtain⟨l1,l2⟩:=hl M hM;subst l1 l2;exact⟨_,M,rfl,hM,dZ,qX.joined (PC.ev_but qi.pc ρ _ ρ1 dk rfl) gQ oB⟩
        |exit id=>
         refine other (by simp) ?_;obtain⟨ρ1,S2,e1,_⟩:=ho;subst e1;simpa using hx
        |ret=>
         refine other (by simp) ?_;cases rm with
         |false=>obtain⟨d,e1,_⟩:=ho;subst e1;simpa using hx
         |true=>obtain⟨ρ1,S2,e1,_⟩:=ho;subst e1;simpa using hx
        |_=>exact ho.elim
   refine wpIn_cond jc ?_;cases b with
   |true=>
    simp only[cond_true] at bJ;cases dk:q.pc.ev Φ N ρ with
    |none=>rw[dk] at bJ;simp at bJ
    |some xi=>
     rw[dk] at bJ;refine fin c1 q xi (fun y hy=>List.mem_append_left _ hy) (fun t ht=>?_) (fun j hj=>oI.2 (.inl (pR.2 j hj))) pW dk bJ (sO rm S _ hq rd w0 σ0 wr ρ xi a w fS hC hY iv hn hg dk);rw[eK,pR.1 t ht];rfl
   |false=>
    simp only[cond_false] at bJ;cases dk:p.pc.ev Φ N ρ with
    |none=>rw[dk] at bJ;simp at bJ
    |some xi=>
     rw[dk] at bJ;refine fin c2 p xi (fun y hy=>List.mem_append_right _ hy) (fun t ht=>?_) (fun j hj=>oI.2 (.inr (BQ.2 j hj))) mq dk bJ (lD rm S _ hp rd w0 σ0 wr ρ xi a w fS hC hY cX hn hg dk);rw[eK,BQ.1 t ht,Bool.or_true]
  have pW:∀S1 ρ1 a w,q.out=some S1→Good C w0 σ0 (S1.st ids) ρ1 (fun _=>False) a w→∃M,lH q.out p.out=some M∧Good C w0 σ0 (M.st ids) ρ1 (fun _=>False) a w:=by
   intro S1 ρ1 a w e1 g1;rw[e1];obtain⟨M,hM⟩:=@abv S1 p.out;exact⟨M,hM,abt g1 hM⟩
  have mq:∀S1 ρ1 a w,p.out=some S1→Good C w0 σ0 (S1.st ids) ρ1 (fun _=>False) a w→∃M,lH q.out p.out=some M∧Good C w0 σ0 (M.st ids) ρ1 (fun _=>False) a w:=by
   intro S1 ρ1 a w e1 g1;rw[e1];obtain⟨M,hM⟩:=@abw q.out S1;exact⟨M,hM,abu g1 hM⟩
  cases hm:lH q.out p.out with
  |none=>
   rw[hm] at pW mq;simp only[hm] at he ⊢;exact main none [] [] _ rfl (fun M e=>by cases e) pW mq he
  |some M=>
   rw[hm] at pW mq;simp only[hm] at he ⊢;exact main (some M) _ _ _ rfl (fun M' e=>by cases e;exact⟨rfl,rfl⟩) pW mq he
 |block id c1=>
  have sO:=IH c1 (by simp at hc;omega);intro rm S r h rd w0 σ0 wr ρ x a w fS hC hY gF hn hg he;simp only[comp] at h;cases cv:Nat.beq id cB<;>simp only[cv,cond_true,cond_false] at h
  case true=>cases h;exact absurd he (lT _ _ _ _)
  have Hv:id≠cB:=fun e=>by subst e;simp at cv
  simp only[Option.map_eq_some_iff] at h;obtain⟨q,hq,rfl⟩:=h;obtain⟨xi,dk⟩:=XA he;exact wpIn_block (wpIn_mono (sO rm S _ hq rd w0 σ0 wr ρ xi a w fS hC hY gF hn hg dk) fun e a' w' fR=>XC Hv (rX c1 hq) dk he fR)
 |loop c1=>
  have sO:=IH c1 (by simp at hc;omega);intro rm S r h rd w0 σ0 wr ρ x a w fS hC hY gF hn hg he;rw[X2] at h;split at h
  ·rename_i qb B3;obtain⟨p,code,ws⟩:=qb;unfold vg at B3;split at B3
   case h_2=>cases B3
   rename_i cx cy ck cz cc;simp only[Option.map_eq_some_iff] at B3;obtain⟨p',aS,ep⟩:=B3;cases ep;exact azm aS (IH _ (by simp at hc;omega)) h fS hC hY gF hn hg he
  split at h
  case h_2=>cases h;exact absurd he (lT _ _ _ _)
  rename_i q hq;cases h;obtain⟨hs,xg,bE⟩:=Cl (C:=C) (w0:=w0) (σ0:=σ0) (ids:=ids) 8 hq;have pR:=rX c1 hs;simp only[PC.ev] at he
  have xh:Good C w0 σ0 (q.1.st ids) (ρ.put (jN q.1 q.2.mr) ((jN q.1 q.2.mr).map ρ.r) (iz ids q.1 q.2.mo) ((iz ids q.1 q.2.mo).map ρ.o)) (fun _=>False) a w:=by
   exact Good.joined (bE hg) (.refl ρ q.2.pc.modR q.2.pc.modO) pR.1 pR.2
  have key:∀(k:Nat) (ρ1:Env) (a':Act) (w:World),SameBut wr a a'→gG (q.2.pc.ev Φ N) ρ (jN q.1 q.2.mr) (iz ids q.1 q.2.mo) k ((jN q.1 q.2.mr).map ρ1.r) ((iz ids q.1 q.2.mo).map ρ1.o)=some x→
        Good C w0 σ0 (q.1.st ids) (ρ.join (jN q.1 q.2.mr) (iz ids q.1 q.2.mo) ρ1) (fun _=>False) a' w→Code.roundsIn (FR rd) 0 C.P c1 (gh C w0 σ0 ids fn s rm wr a none q.2.ex x) k a' w:=by
   intro k
   induction k with
   |zero=>intro ρ1 a' w hn hl hg;simp[gG] at hl
   |succ k ih=>
    intro ρ1 a' w jH hl hg;rw[roundsIn_succ];simp only[gG] at hl;change (match q.2.pc.ev Φ N (ρ.join (jN q.1 q.2.mr) (iz ids q.1 q.2.mo) ρ1) with|some (.next ρ')=>_|y=>y)=some x at hl;cases dk:q.2.pc.ev Φ N (ρ.join (jN q.1 q.2.mr) (iz ids q.1 q.2.mo) ρ1) with
    |none=>rw[dk] at hl;simp at hl
    |some xi=>
     rw[dk] at hl;refine wpIn_mono (sO rm _ _ hs rd w0 σ0 wr _ xi a' w fS hC hY gF (jH.size.trans hn) hg dk) fun e a2 w' fR=>?_;have other:e≠.normal→xi=x→gh C w0 σ0 ids fn s rm wr a none q.2.ex x e a2 w':=by
         intro aG jI;subst jI;exact fR.mono (fun y hy=>hy) jH (fun e=>absurd e aG)
     cases e with
     |normal=>
      obtain⟨ρ2,S2,e1,e2,dZ,gm⟩:=fR;subst e1;simp only at hl;refine ih ρ2 a2 w' (jH.trans dZ) hl ?_
      have qX:Good C w0 σ0 (q.1.st ids) ρ2 (fun _=>False) a2 w':=by
       have:=gm.meet2 (x:=q.1)
       rwa [xg S2 e2] at this
      refine qX.joined (mr':=jN q.1 q.2.mr++q.2.pc.modR) (mo':=iz ids q.1 q.2.mo++q.2.pc.modO) ?_ (fun t ht=>?_) (fun j hj=>?_)
      ·exact((Env.but.join ρ ρ1 _ _).mono (fun t ht=>List.mem_append_left _ ht) (fun t ht=>List.mem_append_left _ ht)).trans
        ((PC.ev_but q.2.pc _ _ ρ2 dk rfl).mono (fun t ht=>List.mem_append_right _ ht) (fun t ht=>List.mem_append_right _ ht))
      ·exact(List.mem_append.1 ht).elim Ij (pR.1 t)
      ·exact(List.mem_append.1 hj).elim xJ (pR.2 j)
     |exit id=>
      refine other (by simp) ?_;obtain⟨ρ1,S2,e1,_⟩:=fR;subst e1;simpa using hl
     |ret=>
      refine other (by simp) ?_;cases rm with
      |false=>obtain⟨d,e1,_⟩:=fR;subst e1;simpa using hl
      |true=>obtain⟨ρ1,S2,e1,_⟩:=fR;subst e1;simpa using hl
     |_=>exact fR.elim
  exact wpIn_loop_rounds N (key N ρ a w (.refl _ _) he xh)
 |exit id=>
  intro rm S r h rd w0 σ0 wr ρ x a w fS hC hY gF hn hg he;simp only[comp] at h;cases cv:Nat.beq id cB<;>simp only[cv,cond_true,cond_false] at h
  case true=>cases h;exact absurd he (lT _ _ _ _)
  cases h;simp only[PC.ev,Option.some.injEq] at he;subst he;exact wpIn_exit ⟨ρ,S,rfl,fun e=>by subst e;simp at cv,by simp,.refl _ _,hg⟩
 |ret=>
  intro rm S r h rd w0 σ0 wr ρ x a w fS hC hY gF hn hg he;simp only[comp] at h;cases rm<;>simp only[cond_true,cond_false] at h
  case true=>
   cases h;simp only[PC.ev,Option.some.injEq] at he;subst he;exact wpIn_ret ⟨ρ,S,rfl,by simp,.refl _ _,hg⟩
  split at h
  ·rename_i e B5;cases h;simp only[PC.ev,Option.some.injEq] at he;subst he;obtain⟨σ,own,hv,hi⟩:=hg;exact wpIn_ret ⟨_,rfl,Inv.retD hC (fun _=>rfl) (fS rfl).2 B5 _ hi rfl,.refl _ _⟩
  ·cases h;exact absurd he (lT _ _ _ _)
 |rangeFunc g ps ca cb=>exact aB1 fg (IH ca (by simp at hc;omega)) (IH cb (by simp at hc;omega))
 |_=>intro rm S r h rd w0 σ0 wr ρ x a w fS hC hY gF hn hg he;simp only[comp,Option.some.injEq] at h;subst h;exact absurd he (lT _ _ _ _)
theorem api {N:Nat}(fg:fM C Φ)(hR:Nc C n ids Φ R)(c:Code):tS C Φ fn s n ids R N c:=apj fg hR _ c (Nat.lt_succ_self _)
end
end Cx
