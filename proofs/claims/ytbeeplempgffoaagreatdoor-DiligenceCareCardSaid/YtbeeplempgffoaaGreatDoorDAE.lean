/-
  Code: sequences, choices, blocks, loops.
-/
import Derived.LoopNIn
import Derived.Test.YtbeeplempgffoaaGreatDoorDAD
import Derived.LoopN
set_option linter.unusedSimpArgs false
set_option linter.unusedVariables false
namespace Cx
open Go Go.RowKit
def aV (m t:Nat):Bool:= !Nat.beq (Nat.land 1 (Nat.shiftRight m t)) 0
theorem wv (m t:Nat):aV m t=m.testBit t:=by
 unfold aV Nat.testBit;show(!Nat.beq (1&&& (m>>>t)) 0)=((1&&& (m>>>t))!=0)
 generalize 1&&& (m>>>t)=x;cases x<;>rfl
def gS (t:Nat):Nat:=Nat.shiftLeft 1 t
theorem qH (t:Nat):aV (gS t) t=true:=by
 rw[wv];show(1<<<t).testBit t=true;simp[Nat.testBit_shiftLeft]
theorem gB (m k t:Nat):aV (Nat.lor m k) t=(aV m t||aV k t):=by
 simp only[wv];exact Nat.testBit_or m k t
def PI.mask:PI→Nat
 |.setR t _=>gS t|.call _ t _ _=>gS t|.callc _ t _ _=>gS t|_=>0
def KZ:List PI→Nat
 |[]=>0
 |p::l=>Nat.lor p.mask (KZ l)
def PI.objs:PI→List Nat
 |.setO j _=>[j]|.mcall j _ _=>[j]|_=>[]
def fU (l:List Nat)(x:Nat):Bool:=l.any (Nat.beq x)
def jJ (a b:List Nat):List Nat:=a.foldl (fun acc x=>bif fU acc x then acc else x::acc) b
def adD (l:List PI):List Nat:=l.foldl (fun acc p=>jJ p.objs acc) []
theorem rj (l:List Nat)(x:Nat):fU l x=true↔x∈l:=by
 unfold fU;rw[Cl];constructor
 ·rintro⟨y,hy,h⟩;rw[aN h];exact hy
 ·intro h;exact⟨x,h,mT x⟩
theorem p9 {x:Nat}:∀{a b:List Nat},x∈jJ a b↔x∈a∨x∈b
 |[],b=>by simp[jJ]
 |y::a,b=>by
  have ih:=@p9 x a (bif fU b y then b else y::b);have e:jJ (y::a) b=jJ a (bif fU b y then b else y::b):=rfl;rw[e,ih];cases hb:fU b y
  ·simp[or_assoc,or_left_comm]
  ·have:=(rj b y).1 hb;simp only[cond_true,cW];constructor
   ·rintro(h|h)
    ·exact .inl (.inr h)
    ·exact .inr h
   ·rintro((h|h)|h)
    ·subst h;exact .inr this
    ·exact .inl h
    ·exact .inr h
theorem as8 {x:Nat}(l:List PI)(h:x∈l.flatMap PI.modO):x∈adD l:=by
 have key:∀(l:List PI) (acc:List Nat),(x∈l.flatMap PI.modO∨x∈acc)→x∈l.foldl (fun acc p=>jJ p.objs acc) acc:=by
  intro l
  induction l with
  |nil=>intro acc h;simpa using h
  |cons p l ih=>
   intro acc h;refine ih _ ?_;rw[Co,da] at h;rcases h with(h|h)|h
   ·refine .inr (p9.2 (.inl ?_));cases p<;>simp_all [PI.modO,PI.objs]
   ·exact .inl h
   ·exact .inr (p9.2 (.inr h))
 exact key l [] (.inl h)
theorem ac8 {t:Nat}:∀(l:List PI),t∈l.flatMap PI.modR→aV (KZ l) t=true
 |[],h=>by simp at h
 |p::l,h=>by
  rw[Co,da] at h;simp only[KZ,gB,lY];rcases h with h|h
  ·left;cases p<;>simp[PI.modR] at h<;>subst h<;>exact qH _
  ·exact .inr (ac8 l h)
structure Res2 where
 pc:PC
 out:Option Snap
 ex:List (Nat×Snap)
 mr:Nat
 mo:List Nat
 deriving Inhabited
def mC:Option Snap→Option Snap→Option Snap
 |none,x=>x
 |x,none=>x
 |some a,some b=>some (a.meet b)
def oA (id:Nat):List (Nat×Snap)→Option Snap→Option Snap
 |[],acc=>acc
 |x::l,acc=>oA id l (bif Nat.beq x.1 id then mC acc (some x.2) else acc)
def iter (step:Snap→Option Res2):Nat→Snap→Option (Snap×Res2)
 |0,_=>none
 |k+1,S=>(step S).bind fun r=>
  match r.out with
  |none=>some (S,r)
  |some T=>bif (S.meet T).beq S then some (S,r) else iter step k (S.meet T)
def kA (S:Snap)(m:Nat):List Nat:=(List.range S.rs.length).filter fun t=>aV m t&& !isNone (cP (S.rs.getD t .none))
def jx (ids:List Nat)(S:Snap)(l:List Nat):List Nat:=l.filter fun j=> !q9 (eD ids S.os j)
def gM:Res2:=⟨.is [GR],none,[],0,[]⟩
theorem mL (Φ:aY)(N:Nat)(ρ:Env)(x:Out):gM.pc.ev Φ N ρ≠some x:=by
 intro h;simp[gM,PC.ev,PI.runs,PI.run,GR,PE.ev,D.b_bool] at h
theorem mM:(∀t,t∈gM.pc.modR→aV gM.mr t=true)∧∀j,j∈gM.pc.modO→j∈gM.mo:=by
 constructor<;>intro t h<;>simp[gM,PC.modR,PC.modO,PI.modR,PI.modO,GR] at h
def cQ:Code→List Nat
 |.region _ ops _=>ops.toList.filterMap (·.dst)
 |.seq a b=>cQ a++cQ b
 |.cond _ a b=>cQ a++cQ b
 |.block _ a=>cQ a
 |.loop a=>cQ a
 |_=>[]
def xJ (l:List Nat):Nat:=l.foldr (fun t m=>Nat.lor (gS t) m) 0
def tg (m:Nat):Nat→List Sh→List Sh
 |_,[]=>[]
 |t,s::l=>(bif aV m t then .none else s)::tg m (t+1) l
def Snap.mask (m:Nat)(S:Snap):Snap:=⟨tg m 0 S.rs,S.os⟩
def sO:Sh→Sh
 |.yv=>.none
 |s=>s
def rD:List Nat→List Ty→List Sh→List Sh
 |p::ps,y::ys,l=>rD ps ys (l.set p (.dat y))
 |_,_,l=>l
def Snap.start (ps:List Nat)(ys:List Ty)(S:Snap):Snap:=⟨rD ps ys (S.rs.map sO),S.os⟩
def ac0 (ids:List Nat)(l:List Snap)(mo:List Nat):List Nat:=mo.filter fun j=>l.any fun S=> !q9 (eD ids S.os j)
def avW (wm:Nat)(ra rb:Res2):Res2:=
 let m:=Nat.lor wm (Nat.lor ra.mr rb.mr)
 ⟨.seq ra.pc rb.pc,rb.out.map (Snap.mask m),rb.ex.map (fun x=>(x.1,x.2.mask m)),m,jJ ra.mo rb.mo⟩
def gC (ids:List Nat)(id:Nat)(r:Res2):Res2:=
    match oA id r.ex r.out with
    |some M=>⟨.block id (kA M r.mr) (jx ids M r.mo) r.pc,some M,r.ex.filter fun x=> !Nat.beq x.1 id,r.mr,r.mo⟩
    |none=>⟨.block id [] [] r.pc,none,r.ex.filter fun x=> !Nat.beq x.1 id,r.mr,r.mo⟩
def vb:List (Nat×Nat)→Nat→Option Nat
 |[],_=>none
 |x::l,t=>bif Nat.beq x.1 t then some x.2 else vb l t
def lb (pr:Nat):List Oper→List (Nat×Nat)→Option (List (Nat×Nat))
 |[],acc=>some acc
 |o::l,acc=>
  match o.dst,o.guard with
  |some d,none=>
   bif Nat.beq d pr||(vb acc d).isSome then none else
   match o.op with
   |.extract (.tmp t) i=>bif Nat.beq t pr&&Nat.ble i 1 then lb pr l (acc++[(d,i)]) else none
   |.assign (.tmp t)=>(vb acc t).bind fun i=>lb pr l (acc++[(d,i)])
   |.move (.tmp t)=>(vb acc t).bind fun i=>lb pr l (acc++[(d,i)])
   |_=>none
  |_,_=>none
structure MP where
 it:Nat
 nx:Nat
 mo:Nat
 out:Nat
 next:Nat
 pr:Nat
 ops1:Array Oper
 ops2:Array Oper
 aa:List (Nat×Nat)
 deriving Inhabited
def Bj (x y:Code)(k:Nat)(z:Code):Option MP:=
 match x,y,z with
 |.region _ ops1 false,.cond (.tmp mo) .skip (.exit out),.region _ ops2 false=>
  match ops1.toList,ops2.toList with
  |[o1,o2],o3::l=>
   match o1.dst,o1.guard,o1.op,o2.dst,o2.guard,o2.op,o3.dst,o3.guard,o3.op with
   |some nx,none,.next (.tmp it) false,some mo',none,.extract (.tmp nx') 0,some pr,none,.entry (.tmp it')=>
    bif Nat.beq mo mo'&&Nat.beq nx nx'&&Nat.beq it it'&& !Nat.beq it nx&& !Nat.beq it mo&& !Nat.beq it pr&& !Nat.beq nx mo&& !Nat.beq out cT&& !Nat.beq k cT then
     (lb pr l []).map fun aa=>⟨it,nx,mo,out,k,pr,ops1,ops2,aa⟩
    else none
   |_,_,_,_,_,_,_,_,_=>none
  |_,_=>none
 |_,_,_=>none
def xC:List Nat→Nat→List Ob→List Ob
 |i::is,J,o::os=>(bif Nat.beq i J then .dead else o)::xC is J os
 |_,_,os=>os
def Snap.kill (ids:List Nat)(J:Nat)(S:Snap):Snap:=⟨S.rs,xC ids J S.os⟩
def acy (J:Nat)(kt et:Ty)(ids:List Nat)(p:MP)(m:Nat)(S:Snap):Bool:=
 Sh.beq (S.rs.getD p.it .none) (.obj J 0)&&Ob.beq (eD ids S.os J) (.it kt et)&& !aV m p.it
def Bk (ids:List Nat)(n:Nat)(p:MP)(ws:List Nat)(f:Snap→Option Res2)(S:Snap):Option Res2:=
 match cP (S.rs.getD p.it .none) with
 |.obj J 0=>
  match eD ids S.os J with
  |.it kt et=>
   let ps:=p.aa.map (·.1)
   let ys:=p.aa.map fun x=>bif Nat.beq x.2 0 then kt else et
   let m:=xJ ws
   match iter (fun S=>(f ((S.mask m).start ps ys)).map (gC ids p.next)) 8 S with
   |some r=>
    bif r.2.ex.isEmpty&& !fU r.2.mo J&&acy J kt et ids p m r.1&&mE ps&&ps.all (fun t=>Nat.blt t n)&&Nat.blt p.nx n&&Nat.blt p.mo n&&Nat.blt p.pr n&&Nat.beq (Nat.lor m r.2.mr) m then
       some ⟨.seq (.meach J ps (p.aa.map (·.2)) (jx ids r.1 r.2.mo) r.2.pc) (.exit p.out),none,[(p.out,(r.1.mask m).kill ids J)],0,r.2.mo⟩
    else some gM
   |none=>some gM
  |_=>some gM
 |_=>some gM
def comp (C:Ctx)(fn:Func)(s:Sig)(n:Nat)(ids:List Nat)(R:Array Oper→Bool→Snap→Option (Snap×List PI)):Bool→Code→Snap→Option Res2
 |_,.skip,S=>some ⟨.skip,some S,[],0,[]⟩
 |_,.region _ ops draw,S=>(R ops draw S).map fun r=>⟨.is r.2,some r.1,[],KZ r.2,adD r.2⟩
 |rm,.seq a b,S=>(comp C fn s n ids R rm a S).bind fun r=>
  match r.out with
  |none=>some r
  |some S1=>(comp C fn s n ids R rm b S1).map fun q=>⟨.seq r.pc q.pc,q.out,r.ex++q.ex,Nat.lor r.mr q.mr,jJ r.mo q.mo⟩
 |rm,.cond c a b,S=>
  match use C (S.st ids) [] c with
  |some (.bool,e)=>
   (comp C fn s n ids R rm a S).bind fun r=>(comp C fn s n ids R rm b S).map fun q=>
     match mC r.out q.out with
     |some M=>⟨.ite e (kA M (Nat.lor r.mr q.mr)) (jx ids M (jJ r.mo q.mo)) r.pc q.pc,some M,r.ex++q.ex,Nat.lor r.mr q.mr,jJ r.mo q.mo⟩
     |none=>⟨.ite e [] [] r.pc q.pc,none,r.ex++q.ex,Nat.lor r.mr q.mr,jJ r.mo q.mo⟩
  |_=>some gM
 |rm,.block id a,S=>bif Nat.beq id cT then some gM else(comp C fn s n ids R rm a S).map (gC ids id)
 |rm,.loop (.seq x (.seq y (.block k (.seq z code)))),S=>
  (match Bj x y k z with
  |some p=>Bk ids n p (cQ x++(cQ y++(cQ z++cQ code))) (fun S=>comp C fn s n ids R rm code S) S
  |none=>
  match iter (fun S=>comp C fn s n ids R rm (.seq x (.seq y (.block k (.seq z code)))) S) 8 S with
  |some r=>some ⟨.loop (kA r.1 r.2.mr) (jx ids r.1 r.2.mo) r.2.pc,none,r.2.ex,r.2.mr,r.2.mo⟩
  |none=>some gM)
 |rm,.loop a,S=>
  match iter (fun S=>comp C fn s n ids R rm a S) 8 S with
  |some r=>some ⟨.loop (kA r.1 r.2.mr) (jx ids r.1 r.2.mo) r.2.pc,none,r.2.ex,r.2.mr,r.2.mo⟩
  |none=>some gM
 |_,.exit id,S=>bif Nat.beq id cT then some gM else some ⟨.exit id,none,[(id,S)],0,[]⟩
 |rm,.ret,S=>
  bif rm then some ⟨.exit cT,none,[(cT,S)],0,[]⟩ else
  match yt C fn s (S.st ids) with
  |some e=>some ⟨.ret e,none,[],0,[]⟩
  |none=>some gM
 |rm,.rangeFunc g ps a b,S=>
  match rm,C.yl,use C (S.st ids) [] g with
  |false,none,some (.fn aa r,e)=>
   match nu aa r with
   |some ys=>
    match iter (fun S=>(comp C fn s n ids R true a (S.start ps.toList ys)).bind fun ra=>
          match ra.out,ra.ex with
          |some S1,[]=>(comp C fn s n ids R true b S1).map (avW (xJ (ps.toList++cQ a++cQ b)) ra)
          |_,_=>none) 8 S with
    |some r=>
     bif Nat.beq ys.length ps.size&&mE ps.toList&&ps.toList.all (fun p=>Nat.blt p n)&&Nat.ble r.1.rs.length n then
           some ⟨.seq (.is [.callc [] n e []]) (.each (.r n) ps.toList (ac0 ids (r.1::r.2.ex.map (·.2)) r.2.mo) ((oA cT r.2.ex none).bind fun M=>yt C fn s (M.st ids)) r.2.pc),
            some r.1,r.2.ex.filter (fun x=> !Nat.beq x.1 cT),gS n,r.2.mo⟩
     else some gM
    |none=>some gM
   |none=>some gM
  |_,_,_=>some gM
 |_,_,_=>some gM
termination_by structural _ c=>c
def xH:Code→Option (MP×Code×List Nat)
 |.seq x (.seq y (.block k (.seq z code)))=>(Bj x y k z).map fun p=>(p,code,cQ x++(cQ y++(cQ z++cQ code)))
 |_=>none
theorem ZP (C:Ctx)(fn:Func)(s:Sig)(n:Nat)(ids:List Nat)(R:Array Oper→Bool→Snap→Option (Snap×List PI))(rm:Bool)(a:Code)(S:Snap):comp C fn s n ids R rm (.loop a) S=
 match xH a with
 |some q=>Bk ids n q.1 q.2.2 (fun S=>comp C fn s n ids R rm q.2.1 S) S
 |none=>
  match iter (fun S=>comp C fn s n ids R rm a S) 8 S with
  |some r=>some ⟨.loop (kA r.1 r.2.mr) (jx ids r.1 r.2.mo) r.2.pc,none,r.2.ex,r.2.mr,r.2.mo⟩
  |none=>some gM:=by
 by_cases h:∃x y k z code,a=.seq x (.seq y (.block k (.seq z code)))
 ·obtain⟨x,y,k,z,code,rfl⟩:=h
  conv=>lhs;unfold comp
  simp only[xH];cases Bj x y k z<;>rfl
 ·have e:xH a=none:=by
   unfold xH;split
   ·rename_i x y k z code;exact absurd ⟨x,y,k,z,code,rfl⟩ h
   ·rfl
  rw[e];rw[comp];intro x y k z code e;exact h ⟨x,y,k,z,code,e⟩
def subs:Code→List Code
 |.seq a b=>.seq a b::(subs a++subs b)
 |.cond c a b=>.cond c a b::(subs a++subs b)
 |.block i a=>.block i a::subs a
 |.loop a=>.loop a::subs a
 |.rangeFunc g ps a b=>.rangeFunc g ps a b::(subs a++subs b)
 |c=>[c]
theorem awC (c:Code):c∈subs c:=by cases c<;>simp[subs]
theorem aF8 {a code:Code}{p:MP}{ws:List Nat}(h:xH a=some (p,code,ws)):code∈subs a:=by
 unfold xH at h;split at h
 ·simp only[aR] at h;obtain⟨q,_,e⟩:=h;cases e;simp[subs,awC]
 ·cases h
def N7 (C:Ctx)(n:Nat)(ids:List Nat)(Φ:aY)(R:Array Oper→Bool→Snap→Option (Snap×List PI)):Prop:=
 ∀(id:Nat) (ops:Array Oper) (draw:Bool) (S:Snap) (r:Snap×List PI),R ops draw S=some r→
  ∀(rd:Option Nat) (w0:World) (σ0:Base) (ρ ρ':Env) (a:Act) (w:World) (Q:Exit→Act→World→Prop),CtxOK C σ0→sl C Φ w0 σ0→a.tmps.size=n→Good C w0 σ0 (S.st ids) ρ (fun _=>False) a w→PI.runs Φ r.2 ρ=some ρ'→
   (∀a' w',SameBut (Ak ops) a a'→Good C w0 σ0 (r.1.st ids) ρ' (fun _=>False) a' w'→Q .normal a' w')→(Code.region id ops draw).wpIn (FR rd) 0 C.P Q a w
section
variable {C:Ctx} {ρ ρ':Env} {σ:Im} {own:Nat→Option Nat} {hv:Nat→Value} {w0:World} {σ0:Base} {A:Nat→Prop} {a:Act} {w:World} {Φ:aY} {n:Nat} {ids:List Nat} {fn:Func} {s:Sig}
 {R:Array Oper→Bool→Snap→Option (Snap×List PI)}
def gQ (C:Ctx)(w0:World)(σ0:Base)(ids:List Nat)(fn:Func)(s:Sig)(rm:Bool)(wr:Nat→Prop)(a0:Act)(out:Option Snap)(ex:List (Nat×Snap))(x:Out):Exit→Act→World→Prop
 |.normal,a,w=>∃ρ S,x=.next ρ∧out=some S∧SameBut wr a0 a∧Good C w0 σ0 (S.st ids) ρ (fun _=>False) a w
 |.exit id,a,w=>∃ρ S,x=.exit id ρ∧id≠cT∧(id,S)∈ex∧SameBut wr a0 a∧Good C w0 σ0 (S.st ids) ρ (fun _=>False) a w
 |.ret,a,w=>match rm with
  |false=>∃d,x=.ret d∧sf C w0 σ0 fn s d a.tmps a.defers w∧SameBut wr a0 a
  |true=>∃ρ S,x=.exit cT ρ∧(cT,S)∈ex∧SameBut wr a0 a∧Good C w0 σ0 (S.st ids) ρ (fun _=>False) a w
 |_,_,_=>False
theorem Good.meet1 {x y:Snap}(h:Good C w0 σ0 (x.st ids) ρ A a w):Good C w0 σ0 ((x.meet y).st ids) ρ (fun _=>False) a w:=by
 obtain⟨σ,own,hv,h⟩:=h;exact⟨σ,own,hv,Snap.meet_ok1 h⟩
theorem Good.meet2 {x y:Snap}(h:Good C w0 σ0 (y.st ids) ρ A a w):Good C w0 σ0 ((x.meet y).st ids) ρ (fun _=>False) a w:=by
 obtain⟨σ,own,hv,h⟩:=h;exact⟨σ,own,hv,Snap.meet_ok2 h⟩
theorem adi {x:Snap}{y:Option Snap}{M:Snap}(h:Good C w0 σ0 (x.st ids) ρ (fun _=>False) a w)(hm:mC (some x) y=some M):Good C w0 σ0 (M.st ids) ρ (fun _=>False) a w:=by
 cases y<;>simp[mC] at hm<;>subst hm
 ·exact h
 ·exact h.meet1
theorem adj {x:Option Snap}{y:Snap}{M:Snap}(h:Good C w0 σ0 (y.st ids) ρ (fun _=>False) a w)(hm:mC x (some y)=some M):Good C w0 σ0 (M.st ids) ρ (fun _=>False) a w:=by
 cases x<;>simp[mC] at hm<;>subst hm
 ·exact h
 ·exact h.meet2
theorem adk {x:Snap}{y:Option Snap}:∃M,mC (some x) y=some M:=by cases y<;>simp[mC]
theorem adl {x:Option Snap}{y:Snap}:∃M,mC x (some y)=some M:=by cases x<;>simp[mC]
theorem K0 {id:Nat}:∀(l:List (Nat×Snap)) {x:Snap},Good C w0 σ0 (x.st ids) ρ (fun _=>False) a w→∃M,oA id l (some x)=some M∧Good C w0 σ0 (M.st ids) ρ (fun _=>False) a w
 |[],x,h=>⟨x,rfl,h⟩
 |y::l,x,h=>by
  simp only[oA];cases Nat.beq y.1 id
  ·exact K0 l h
  ·obtain⟨M,hM⟩:=@adk x (some y.2);simp only[cond_true,hM];exact K0 l (adi h hM)
theorem RB {id:Nat}{S:Snap}(h:Good C w0 σ0 (S.st ids) ρ (fun _=>False) a w):∀(l:List (Nat×Snap)) (x:Option Snap),(id,S)∈l→∃M,oA id l x=some M∧Good C w0 σ0 (M.st ids) ρ (fun _=>False) a w
 |y::l,x,hm=>by
  simp only[oA];rcases cW.1 hm with e|hm
  ·subst e;simp only[mT,cond_true];obtain⟨M,hM⟩:=@adl x S;rw[hM];exact K0 l (adj h hM)
  ·exact RB h l _ hm
theorem EL {step:Snap→Option Res2}:∀(k:Nat) {S:Snap} {r:Snap×Res2},iter step k S=some r→
 step r.1=some r.2∧(∀T,r.2.out=some T→r.1.meet T=r.1)∧∀{ρ:Env} {a:Act} {w:World},Good C w0 σ0 (S.st ids) ρ (fun _=>False) a w→Good C w0 σ0 (r.1.st ids) ρ (fun _=>False) a w
 |0,S,r,h=>by simp[iter] at h
 |k+1,S,r,h=>by
  simp only[iter,aG] at h;obtain⟨q,hq,h⟩:=h;split at h
  ·rename_i ho;cases h;exact⟨hq,fun T hT=>by simp[ho] at hT,fun g=>g⟩
  ·rename_i T ho;cases hb:(S.meet T).beq S<;>simp only[hb,cond_true,cond_false] at h
   ·obtain⟨h1,h2,h3⟩:=EL k h;exact⟨h1,h2,fun g=>h3 g.meet1⟩
   ·cases h;refine⟨hq,fun T' hT=>?_,fun g=>g⟩;simp only[ho,bx] at hT;subst hT;exact Snap.beq_eq _ _ hb
theorem acC {step:Snap→Option Res2}{hv:Nat→Value}:∀(k:Nat) {S:Snap} {r:Snap×Res2},iter step k S=some r→Inv C (S.st ids) ρ σ own hv w0 σ0 (fun _=>False) a w→Inv C (r.1.st ids) ρ σ own hv w0 σ0 (fun _=>False) a w
 |0,S,r,h,_=>by simp[iter] at h
 |k+1,S,r,h,i=>by
  simp only[iter,aG] at h;obtain⟨q,hq,h⟩:=h;split at h
  ·cases h;exact i
  ·rename_i T ho;cases hb:(S.meet T).beq S<;>simp only[hb,cond_true,cond_false] at h
   ·exact acC k h (Snap.meet_ok1 i)
   ·cases h;exact i
theorem Good.joined {M:Snap}{m:Nat}{mo mr' mo':List Nat}(h:Good C w0 σ0 (M.st ids) ρ' (fun _=>False) a w)(hb:ρ.but ρ' mr' mo')(h1:∀t,t∈mr'→aV m t=true)(h2:∀j,j∈mo'→j∈mo):
 Good C w0 σ0 (M.st ids) (ρ.join (kA M m) (jx ids M mo) ρ') (fun _=>False) a w:=by
 obtain⟨σ,own,hv,h⟩:=h;refine⟨σ,own,hv,h.env (Snap.noOpt _ _) (fun t ht=>?_) (fun j hj=>?_)⟩
 ·simp only[Env.join,Env.put,tB];split
  ·rfl
  ·rename_i hm;refine(hb.r t fun Ee=>hm ?_).symm;have ar:t<M.rs.length:=by
        refine YS fun hle=>?_;simp only[Snap.st,bh,rX hle,Option.getD_none,cP,isNone] at ht;cases ht
   exact ei.2 ⟨gf.2 ar,by rw[h1 t Ee];simpa [Snap.st] using ht⟩
 ·simp only[Env.join,Env.put,tB];split
  ·rfl
  ·rename_i hm;refine(hb.o j fun Ee=>hm ?_).symm;exact ei.2 ⟨h2 j Ee,by simpa [Snap.st] using hj⟩
theorem K1 {S:Snap}{m t:Nat}(h:t∈kA S m):aV m t=true:=by
 have:=(ei.1 h).2;simp only[az] at this;exact this.1
theorem Bl {S:Snap}{l:List Nat}{j:Nat}(h:j∈jx ids S l):j∈l:=(ei.1 h).1
theorem Zu {id:Nat}{q:Res2}(h:(∀t,t∈q.pc.modR→aV q.mr t=true)∧∀j,j∈q.pc.modO→j∈q.mo):(∀t,t∈(gC ids id q).pc.modR→aV (gC ids id q).mr t=true)∧∀j,j∈(gC ids id q).pc.modO→j∈(gC ids id q).mo:=by
 unfold gC;cases hm:oA id q.ex q.out<;>simp only
 ·simpa [PC.modR,PC.modO] using h
 ·refine⟨fun t ht=>?_,fun j hj=>?_⟩
  ·simp only[PC.modR,da] at ht;exact ht.elim K1 (h.1 t)
  ·simp only[PC.modO,da] at hj;exact hj.elim Bl (h.2 j)
theorem asZ {p:MP}{ws:List Nat}{f:Snap→Option Res2}{S:Snap}{r:Res2}(h:Bk ids n p ws f S=some r):(∀t,t∈r.pc.modR→aV r.mr t=true)∧∀j,j∈r.pc.modO→j∈r.mo:=by
 unfold Bk at h;split at h
 case h_2=>cases h;exact mM
 split at h
 case h_2=>cases h;exact mM
 simp only at h;split at h
 case h_2=>cases h;exact mM
 rw[oW] at h;split at h
 ·cases h;refine⟨fun t ht=>by simp[PC.modR] at ht,fun j hj=>?_⟩;simp only[PC.modO,rW] at hj;exact Bl hj
 ·cases h;exact mM
theorem um:∀(c:Code) {rm:Bool} {S:Snap} {r:Res2},comp C fn s n ids R rm c S=some r→(∀t,t∈r.pc.modR→aV r.mr t=true)∧∀j,j∈r.pc.modO→j∈r.mo:=by
 intro c
 induction c with
 |skip=>intro rm S r h;simp only[comp,bx] at h;subst h;simp[PC.modR,PC.modO]
 |region id ops draw=>
  intro rm S r h;simp only[comp,aR] at h;obtain⟨q,_,rfl⟩:=h;exact⟨fun t ht=>ac8 _ ht,fun j hj=>as8 _ hj⟩
 |seq x y jv xy=>
  intro rm S r h;simp only[comp,aG] at h;obtain⟨q,hq,h⟩:=h;split at h
  ·cases h;exact jv hq
  ·simp only[aR] at h;obtain⟨p,hp,rfl⟩:=h;refine⟨fun t ht=>?_,fun j hj=>?_⟩
   ·simp only[PC.modR,da] at ht;rw[gB,lY];exact ht.imp ((jv hq).1 t) ((xy hp).1 t)
   ·simp only[PC.modO,da] at hj;rw[p9];exact hj.imp ((jv hq).2 j) ((xy hp).2 j)
 |cond c x y jv xy=>
  intro rm S r h;simp only[comp] at h;split at h
  case h_2=>cases h;exact mM
  rename_i e _;simp only[aG,aR] at h;obtain⟨q,hq,p,hp,rfl⟩:=h;cases hm:mC q.out p.out<;>simp only[hm]
  ·refine⟨fun t ht=>?_,fun j hj=>?_⟩
   ·simp only[PC.modR,da,rZ] at ht;rw[gB,lY];exact ht.imp ((jv hq).1 t) ((xy hp).1 t)
   ·simp only[PC.modO,da,rZ] at hj;rw[p9];exact hj.imp ((jv hq).2 j) ((xy hp).2 j)
  ·refine⟨fun t ht=>?_,fun j hj=>?_⟩
   ·simp only[PC.modR,da] at ht;rw[gB,lY];rcases ht with(ht|ht)|ht
    ·have:=K1 ht;rw[gB,lY] at this;exact this
    ·exact .inl ((jv hq).1 t ht)
    ·exact .inr ((xy hp).1 t ht)
   ·simp only[PC.modO,da] at hj;rcases hj with(hj|hj)|hj
    ·exact Bl hj
    ·exact p9.2 (.inl ((jv hq).2 j hj))
    ·exact p9.2 (.inr ((xy hp).2 j hj))
 |block id x jv=>
  intro rm S r h;simp only[comp] at h;cases cM:Nat.beq id cT<;>simp only[cM,cond_true,cond_false] at h
  case true=>cases h;exact mM
  simp only[aR] at h;obtain⟨q,hq,rfl⟩:=h;exact Zu (jv hq)
 |loop x jv=>
  intro rm S r h;rw[ZP] at h;split at h
  ·exact asZ h
  split at h
  case h_2=>cases h;exact mM
  rename_i q hq;cases h;have hs:=(EL (C:=C) (w0:=default) (σ0:=Base.mk0 ⟨fun _ _=>none,fun _=>none⟩ 0) (ids:=ids) 8 hq).1;refine⟨fun t ht=>?_,fun j hj=>?_⟩
  ·simp only[PC.modR,da] at ht;exact ht.elim K1 ((jv hs).1 t)
  ·simp only[PC.modO,da] at hj;exact hj.elim Bl ((jv hs).2 j)
 |exit id=>
  intro rm S r h;simp only[comp] at h;cases cM:Nat.beq id cT<;>simp only[cM,cond_true,cond_false] at h<;>cases h
  ·simp[PC.modR,PC.modO]
  ·exact mM
 |ret=>
  intro rm S r h;simp only[comp] at h;cases rm<;>simp only[cond_true,cond_false] at h
  case true=>cases h;simp[PC.modR,PC.modO]
  split at h
  ·cases h;simp[PC.modR,PC.modO]
  ·cases h;exact mM
 |rangeFunc g ps x y _ _=>
  intro rm S r h;simp only[comp] at h;split at h
  case h_2=>cases h;exact mM
  split at h
  case h_2=>cases h;exact mM
  split at h
  case h_2=>cases h;exact mM
  rename_i q hq;rw[oW] at h;split at h
  ·cases h;refine⟨fun t ht=>?_,fun j hj=>?_⟩
   ·simp[PC.modR,PI.modR] at ht;subst ht;exact qH _
   ·simp only[PC.modO,PI.modO,Co,List.flatMap_nil,rW,rZ] at hj;exact(ei.1 hj).1
  ·cases h;exact mM
 |_=>intro rm S r h;simp only[comp,bx] at h;subst h;exact mM
theorem gQ.mono {rm:Bool}{wr:Nat→Prop}{a0 a1:Act}{out afL:Option Snap}{ex ex':List (Nat×Snap)}{x:Out}{e:Exit}(h:gQ C w0 σ0 ids fn s rm wr a0 out ex x e a w)(he:∀y,y∈ex→y∈ex')(hs:SameBut wr a1 a0)
 (ho:e=.normal→afL=out):gQ C w0 σ0 ids fn s rm wr a1 afL ex' x e a w:=by
 cases e with
 |normal=>obtain⟨ρ,S,h1,h2,h3,h4⟩:=h;exact⟨ρ,S,h1,by rw[ho rfl];exact h2,hs.trans h3,h4⟩
 |exit id=>obtain⟨ρ,S,h1,h2,h3,h4,h5⟩:=h;exact⟨ρ,S,h1,h2,he _ h3,hs.trans h4,h5⟩
 |ret=>
  cases rm with
  |false=>obtain⟨d,h1,h2,h3⟩:=h;exact⟨d,h1,h2,hs.trans h3⟩
  |true=>obtain⟨ρ,S,h1,h3,h4,h5⟩:=h;exact⟨ρ,S,h1,he _ h3,hs.trans h4,h5⟩
 |_=>exact h.elim
theorem Z5 {body:Env→Option Out}{ρ:Env}{ps lo:List Nat}{rt:Option PE}{x:Out}:∀{xs vo:List D},iV body ρ ps lo rt xs vo=some x→
 ∃(m:Nat) (mN:Nat→List D),m≤xs.length∧mN 0=vo∧
  (∀i,i<m→∃y ρ',xs[i]?=some y∧body (ρ.put ps (partsOf ps y) lo (mN i))=some (.next ρ')∧lo.map ρ'.o=mN (i+1))∧
  ((m=xs.length∧x=.next (ρ.put [] [] lo (mN m)))∨
   (m<xs.length∧∃y id ρ',xs[m]?=some y∧body (ρ.put ps (partsOf ps y) lo (mN m))=some (.exit id ρ')∧
    ((id≠cT∧x=.exit id (ρ.put [] [] lo (lo.map ρ'.o)))∨(id=cT∧∃e,rt=some e∧x=.ret (e.ev (ρ.put [] [] lo (lo.map ρ'.o)))))))
 |[],vo,h=>by
  simp only[iV,bx] at h;exact⟨0,fun _=>vo,bK _,rfl,fun i hi=>by omega,.inl ⟨rfl,h.symm⟩⟩
 |y::xs,vo,h=>by
  simp only[iV] at h;split at h
  ·rename_i ρ' hb;obtain⟨m,mN,h1,h2,h3,h4⟩:=Z5 h;refine⟨m+1,fun i=>match i with|0=>vo|i+1=>mN i,by simp;omega,rfl,fun i hi=>?_,?_⟩
   ·cases i with
    |zero=>exact⟨y,ρ',rfl,hb,h2.symm⟩
    |succ i=>simpa using h3 i (by omega)
   ·rcases h4 with⟨e1,e2⟩|⟨e1,z,id,ρ2,e2,e3,e4⟩
    ·exact .inl ⟨by simp[e1],e2⟩
    ·exact .inr ⟨by simp;omega,z,id,ρ2,by simpa using e2,e3,e4⟩
  ·rename_i id ρ' hb;refine⟨0,fun _=>vo,yQ _,rfl,fun i hi=>by omega,.inr ⟨by simp,y,id,ρ',rfl,hb,?_⟩⟩;cases cM:Nat.beq id cT<;>simp only[cM,cond_true,cond_false] at h
   ·refine .inl ⟨fun e=>?_,(Cu h).symm⟩;subst e;simp at cM
   ·simp only[aR] at h;obtain⟨e,he,e2⟩:=h;exact .inr ⟨aN cM,e,he,e2.symm⟩
  ·cases h
theorem Zs {l:List Nat}{t:Nat}(h:t∈l):aV (xJ l) t=true:=by
 induction l with
 |nil=>cases h
 |cons x l ih=>
  have e:xJ (x::l)=Nat.lor (gS x) (xJ l):=rfl;rw[e,gB];rcases cW.1 h with e|e
  ·subst e;rw[qH];rfl
  ·rw[ih e];simp
theorem Rz (m:Nat):∀(l:List Sh) (k t:Nat),(tg m k l).getD t .none=if aV m (k+t)=true then .none else l.getD t .none
 |[],k,t=>by simp[tg]
 |s::l,k,0=>by
  simp only[tg,vW,sd];cases aV m k<;>rfl
 |s::l,k,t+1=>by
  simp only[tg,Hb];rw[Rz m l (k+1) t,show k+1+t=k+(t+1) by omega]
theorem ET (m:Nat)(S:Snap)(t:Nat):((S.mask m).st ids).r t=if aV m t=true then .none else(S.st ids).r t:=by
 show cP ((tg m 0 S.rs).getD t .none)=if aV m t=true then .none else cP (S.rs.getD t .none);rw[Rz,mU];split<;>rfl
theorem as7 {m:Nat}{x S:Snap}{t:Nat}(h:aV m t=true):((x.meet (S.mask m)).st ids).r t=.none:=by
 show cP ((List.zipWith jy x.rs (tg m 0 S.rs)).getD t .none)=.none;rcases NC (f:=jy) x.rs (tg m 0 S.rs) t with h0|⟨s,u,h1,h2,h3⟩
 ·rw[h0];rfl
 ·rw[Rz,mU,if_pos h] at h2;subst h2;rw[h3];cases s<;>rfl
theorem Inv.maskR {S:Snap}{hv:Nat→Value}(h:Inv C (S.st ids) ρ σ own hv w0 σ0 A a w)(m:Nat):Inv C ((S.mask m).st ids) ρ σ own hv w0 σ0 (fun _=>False) a w:=by
 have hc:Compat (S.st ids) hv ((S.mask m).st ids) hv:=⟨fun _=>bK _,fun _ _=>rfl⟩
 refine h.weaken (fun t=>?_) (fun j=>?_) (Snap.noOpt _ _) (fun j hj=>⟨hj,rfl⟩)
 ·refine bf.mono' (ρ:=ρ) (.refl σ) hc (Snap.noOpt _ _ t) ?_;rw[ET];split
  ·trivial
  ·exact h.regs t
 ·exact(h.objs j).mono (.refl σ) hc rfl rfl (fun k hk=>⟨hk,rfl⟩)
theorem U1:∀(ps:List Nat) (ys:List Ty) (l:List Sh),ps.length=ys.length→mE ps=true→∀t,(rD ps ys l).getD t .none=.none∨(t∉ps∧(rD ps ys l).getD t .none=l.getD t .none)∨∃(i:Nat) (y:Ty),ps[i]?=some t∧ys[i]?=some y∧(rD ps ys l).getD t .none=.dat y
 |[],ys,l,_,_,t=>.inr (.inl ⟨by simp,by cases ys<;>rfl⟩)
 |p::ps,[],l,h,_,t=>by simp at h
 |p::ps,y::ys,l,h,hn,t=>by
  have iY:=tj hn;rw[uf] at iY;have dZ:mE ps=true:=by
   simp only[mE,az] at hn;exact hn.2
  show(rD ps ys (l.set p (.dat y))).getD t .none=_∨_∨_;rcases U1 ps ys (l.set p (.dat y)) (by simpa using h) dZ t with e|⟨e1,e2⟩|⟨i,z,e1,e2,e3⟩
  ·exact .inl e
  ·by_cases hp:t=p
   ·subst hp;by_cases ar:t<l.length
    ·exact .inr (.inr ⟨0,y,rfl,rfl,by show(rD ps ys (l.set t (.dat y))).getD t .none=_;rw[e2];simp[bh,ar]⟩)
    ·left;rw[e2];simp[bh,ar]
   ·refine .inr (.inl ⟨by simp[hp,e1],?_⟩);show(rD ps ys (l.set p (.dat y))).getD t .none=_;rw[e2];simp only[bh,Cq];rw[if_neg (fun e=>hp e.symm)]
  ·exact .inr (.inr ⟨i+1,z,by simpa using e1,by simpa using e2,e3⟩)
def mK:List Nat→List Value→Array Value→Array Value
 |p::ps,v::vs,T=>mK ps vs (T.setIfInBounds p v)
 |_,_,T=>T
theorem awm (ps:Array Nat)(vs:Array Value)(T:Array Value):(ps.zip vs).foldl (fun T x=>T.setIfInBounds x.1 x.2) T=mK ps.toList vs.toList T:=by
 rw[←Array.foldl_toList,Array.toList_zip];generalize ps.toList=l;generalize vs.toList=k
 induction l generalizing k T with
 |nil=>rfl
 |cons p l ih=>
  cases k with
  |nil=>rfl
  |cons v k=>simpa [mK] using ih (T.setIfInBounds p v) k
theorem ahI:∀(ps:List Nat) (vs:List Value) (T:Array Value),(mK ps vs T).size=T.size
 |[],vs,T=>by cases vs<;>rfl
 |p::ps,[],T=>rfl
 |p::ps,v::vs,T=>by simp[mK,ahI ps vs]
theorem M2:∀(ps:List Nat) (vs:List Value) (T:Array Value) (t:Nat),t∉ps→(mK ps vs T).getD t undef=T.getD t undef
 |[],vs,T,t,_=>by cases vs<;>rfl
 |p::ps,[],T,t,_=>rfl
 |p::ps,v::vs,T,t,h=>by
  simp only[cW,not_or] at h;simp only[mK];rw[M2 ps vs _ t h.2];simp only[hZ,Cf];rw[if_neg (fun e=>h.1 e.symm)]
theorem ahH:∀(ps:List Nat) (vs:List Value) (T:Array Value) (i t:Nat),ps.Nodup→ps.length=vs.length→(∀p,p∈ps→p<T.size)→ps[i]?=some t→(mK ps vs T).getD t undef=vs.getD i undef
 |p::ps,v::vs,T,0,t,hn,hl,ar,h=>by
  simp at h;subst h;rw[uf] at hn;simp only[mK];rw[M2 ps vs _ p hn.1];simp[Cf,ar p (gd ..)]
 |p::ps,v::vs,T,i+1,t,hn,hl,ar,h=>by
  rw[uf] at hn;simp only[mK];have:=ahH ps vs (T.setIfInBounds p v) i t hn.2 (by simpa using hl) (fun q hq=>by simpa using ar q (fL _ hq)) (by simpa using h);simpa using this
 |p::ps,[],T,i,t,hn,hl,ar,h=>by simp at hl
 |[],vs,T,i,t,hn,hl,ar,h=>by simp at h
theorem By (f:Nat→D):∀(ps:List Nat) (vs:List D) (t:Nat),t∉ps→putL f ps vs t=f t
 |[],vs,t,_=>by cases vs<;>rfl
 |p::ps,[],t,_=>rfl
 |p::ps,v::vs,t,h=>by
  simp only[cW,not_or] at h;simp only[putL,bR _ _ h.1];exact By f ps vs t h.2
theorem S6 (f:Nat→D):∀(ps:List Nat) (vs:List D) (i t:Nat),ps.Nodup→ps.length=vs.length→ps[i]?=some t→putL f ps vs t=vs.getD i .none
 |p::ps,v::vs,0,t,hn,hl,h=>by
  simp at h;subst h;simp[putL,be]
 |p::ps,v::vs,i+1,t,hn,hl,h=>by
  rw[uf] at hn;have ht:t∈ps:=ud (by simpa using h);have aA:t≠p:=fun e=>hn.1 (e▸ht);simp only[putL,bR _ _ aA];have:=S6 f ps vs i t hn.2 (by simpa using hl) (by simpa using h);simpa using this
 |p::ps,[],i,t,hn,hl,h=>by simp at hl
 |[],vs,i,t,hn,hl,h=>by simp at h
theorem aum (ps:List Nat)(ds:List D)(i:Nat)(h:i<ps.length):(partsOf ps (.tup ds)).getD i .none=ds.getD i .none:=by
 simp[partsOf,bh,h,D.tget]
theorem aul (ps:List Nat)(x:D):(partsOf ps x).length=ps.length:=by simp[partsOf]
theorem Inv.startR {S:Snap}{hv:Nat→Value}(h:Inv C (S.st ids) ρ σ own hv w0 σ0 A a w){ps:List Nat}{ys:List Ty}{args:List Value}{ds:List D}{lo:List Nat}{vo:List D}(hl:ps.length=ys.length)(bX:mE ps=true)(ar:∀p,p∈ps→p<a.tmps.size)(ha:qw C σ ys args ds)
 (hρ:ρ=ρ'.put [] [] lo vo):Inv C ((S.start ps ys).st ids) (ρ'.put ps (partsOf ps (.tup ds)) lo vo) σ own hv w0 σ0 (fun _=>False) {tmps:=mK ps args a.tmps,defers:=[]} w:=by
 obtain⟨a1,a2,a3⟩:=ha;have hn:=tj bX;have hc:Compat (S.st ids) hv ((S.start ps ys).st ids) hv:=⟨fun _=>bK _,fun _ _=>rfl⟩
 have ho:∀j,(ρ'.put ps (partsOf ps (.tup ds)) lo vo).o j=ρ.o j:=fun j=>by rw[hρ];rfl
 refine⟨trivial,h.ok,h.le,h.old,h.newc,h.newm,h.below,h.bw,h.owns,fun t=>?_,fun j=>(h.objs j).mono (.refl σ) hc rfl (ho j) (fun k hk=>⟨hk,rfl⟩),fun t gs s e=>absurd e (Snap.noOpt _ _ t gs s),?_⟩
 ·show bf C _ _ σ hv (cP ((rD ps ys (S.rs.map sO)).getD t .none)) ((mK ps args a.tmps).getD t undef) (putL ρ'.r ps (partsOf ps (.tup ds)) t);rcases U1 ps ys (S.rs.map sO) hl bX t with e|⟨e1,e2⟩|⟨i,y,e1,e2,e3⟩
  ·rw[e];trivial
  ·rw[e2,M2 _ _ _ _ e1,By _ _ _ _ e1];have hr:=h.regs t;change bf C _ ρ σ hv (cP (S.rs.getD t .none)) _ _ at hr;have hρr:ρ.r t=ρ'.r t:=by rw[hρ];show putL ρ'.r [] [] t=_;rfl
   rw[hρr] at hr;have e3:(S.rs.map sO).getD t .none=sO (S.rs.getD t .none):=by
        simp only[bh,dG];cases S.rs[t]?<;>rfl
   rw[e3];generalize S.rs.getD t .none=s at hr;cases s with
   |yv=>trivial
   |opt gs s=>trivial
   |none=>trivial
   |fclo f c=>exact bf.mono' (.refl σ) hc (fun _ _ e=>by cases e) hr
   |dat t=>exact hr
   |obj j v=>exact bf.mono' (.refl σ) hc (fun _ _ e=>by cases e) hr
   |ptr j v o=>exact bf.mono' (.refl σ) hc (fun _ _ e=>by cases e) hr
   |eptr j v o q=>exact bf.mono' (.refl σ) hc (fun _ _ e=>by cases e) hr
  ·rw[e3];have hi:i<ps.length:=(jh.1 e1).1;rw[ahH ps args a.tmps i t hn (by omega) ar e1,S6 _ ps _ i t hn (by rw[aul]) e1,aum _ _ _ hi];exact a3 i y e2
 ·obtain⟨t,fx,cx,h1,h2⟩:=h.frame;exact⟨t,fx,cx,h1,fun j hj=>⟨(h2 j hj).1,by rw[ho j];exact(h2 j hj).2⟩⟩
def vZ (C:Ctx)(Φ:aY)(fn:Func)(s:Sig)(n:Nat)(ids:List Nat)(R:Array Oper→Bool→Snap→Option (Snap×List PI))(N:Nat)(c:Code):Prop:=
 ∀(rm:Bool) (S:Snap) (r:Res2),comp C fn s n ids R rm c S=some r→∀(rd:Option Nat) (w0:World) (σ0:Base) (wr:Nat→Prop) (ρ:Env) (x:Out) (a:Act) (w:World),(rm=false→rd=none∧σ0.fin)→CtxOK C σ0→sl C Φ w0 σ0→(∀t,t∈cQ c→wr t)→a.tmps.size=n→
  Good C w0 σ0 (S.st ids) ρ (fun _=>False) a w→r.pc.ev Φ N ρ=some x→c.wpIn (FR rd) 0 C.P (gQ C w0 σ0 ids fn s rm wr a r.out r.ex x) a w
structure Seg (σ:Im) (own:Nat→Option Nat) (w:World) (σ':Im) (own':Nat→Option Nat) (w':World):Prop where
 le:σ.le σ'
 below:Below 0 w w'
 same:∀k,k<w.heap.size→own k=none→w'.heap[k]?=w.heap[k]?
 ow:∀k j,own' k=some j→(∃i,own k=some i)∨w.heap.size≤k
 imm:∀k,((∃o x,σ'.c k o=some x)∨∃x,σ'.m k=some x)→(∃o x,σ.c k o=some x)∨(∃x,σ.m k=some x)∨(∃i,own k=some i)∨w.heap.size≤k
structure Free (L:Nat) (σ:Im) (own:Nat→Option Nat):Prop where
 own:own L=none
 c:∀o,σ.c L o=none
 m:σ.m L=none
theorem Free.seg {L:Nat}{σ':Im}{own':Nat→Option Nat}{w':World}(h:Free L σ own)(hL:L<w.heap.size)(k:Seg σ own w σ' own' w'):Free L σ' own':=by
 have D9:¬((∃o x,σ'.c L o=some x)∨∃x,σ'.m L=some x):=fun e=>by
  rcases k.imm L e with⟨o,x,e⟩|⟨x,e⟩|⟨i,e⟩|e
  ·rw[h.c o] at e;cases e
  ·rw[h.m] at e;cases e
  ·rw[h.own] at e;cases e
  ·omega
 refine⟨?_,fun o=>?_,?_⟩
 ·cases e:own' L with
  |none=>rfl
  |some j=>
   rcases k.ow L j e with⟨i,e⟩|e
   ·rw[h.own] at e;cases e
   ·omega
 ·cases e:σ'.c L o with
  |none=>rfl
  |some x=>exact absurd (.inl ⟨o,x,e⟩) D9
 ·cases e:σ'.m L with
  |none=>rfl
  |some x=>exact absurd (.inr ⟨x,e⟩) D9
def ajt (C:Ctx)(w0:World)(σ0:Base)(ids:List Nat)(wr:Nat→Prop)(a0:Act)(σ:Im)(own:Nat→Option Nat)(w:World)(out:Option Snap)(ex:List (Nat×Snap))(x:Out)(e:Exit)(a':Act)(w':World):Prop:=
 ∃ρ' S' σ' own' hv',Inv C (S'.st ids) ρ' σ' own' hv' w0 σ0 (fun _=>False) a' w'∧Seg σ own w σ' own' w'∧SameBut wr a0 a'∧
  match e with
  |.normal=>x=.next ρ'∧out=some S'
  |.exit id=>x=.exit id ρ'∧id≠cT∧(id,S')∈ex
  |.ret=>x=.exit cT ρ'∧(cT,S')∈ex
  |_=>False
theorem ahE {N:Nat}{c:Code}(hc:vZ C Φ fn s n ids R N c){S:Snap}{r:Res2}(hr:comp C fn s n ids R true c S=some r)(np:C.yl=none)(hC:CtxOK C σ0){wr:Nat→Prop}{ρ:Env}{x:Out}{hv:Nat→Value}(h:Inv C (S.st ids) ρ σ own hv w0 σ0 (fun _=>False) a w)
 (iJ:∀t,t∈cQ c→wr t) (hn:a.tmps.size=n) (he:r.pc.ev Φ N ρ=some x) (L:Nat):c.wpIn (FR (some L)) 0 C.P (ajt C w0 σ0 ids wr a σ own w r.out r.ex x) a w:=by
 obtain⟨t,fx,cx,gj,ht⟩:=h.frame;have h1:=h.toRnd (X:=fun _=>False) ht;refine wpIn_mono (hc true S r hr (some L) w0 (σ0.rnd σ own w t fun _=>False) wr ρ x a w (fun e=>by cases e) (hC.mono h.le) (fun J ys e=>by rw[np] at e;cases e) iJ hn ⟨_,_,_,h1⟩ he) fun e a' w' ho=>?_
 have main:∀{S':Snap} {ρ':Env},SameBut wr a a'→Good C w0 (σ0.rnd σ own w t fun _=>False) (S'.st ids) ρ' (fun _=>False) a' w'→∃σ' own' hv',Inv C (S'.st ids) ρ' σ' own' hv' w0 σ0 (fun _=>False) a' w'∧Seg σ own w σ' own' w'∧SameBut wr a a':=by
  intro S' ρ' hs hg;obtain⟨σ',own',hv',h2⟩:=hg;exact⟨σ',own',hv',h.ofRnd gj (fun _ _=>id) h2,⟨h2.le,h.rndBelow h2,fun k hk ho=>Inv.rndSame h.ok h2 hk ho id,fun k j e=>Inv.rndOwn h2 e id,fun k e=>Inv.rndC h2 e id⟩,hs⟩
 cases e with
 |normal=>
  obtain⟨ρ',S',e1,e2,e3,e4⟩:=ho;obtain⟨σ',own',hv',g1,g2,g3⟩:=main e3 e4;exact⟨ρ',S',σ',own',hv',g1,g2,g3,e1,e2⟩
 |exit id=>
  obtain⟨ρ',S',e1,e0,e2,e3,e4⟩:=ho;obtain⟨σ',own',hv',g1,g2,g3⟩:=main e3 e4;exact⟨ρ',S',σ',own',hv',g1,g2,g3,e1,e0,e2⟩
 |ret=>
  obtain⟨ρ',S',e1,e2,e3,e4⟩:=ho;obtain⟨σ',own',hv',g1,g2,g3⟩:=main e3 e4;exact⟨ρ',S',σ',own',hv',g1,g2,g3,e1,e2⟩
 |_=>exact ho.elim
theorem Inv.putL {L:Nat}{hv:Nat→Value}{S:St}{ρ:Env}(h:Inv C S ρ σ own hv w0 σ0 A a w)(hL:w0.heap.size≤L)(hf:Free L σ own)(hx:∀t fx cx,FrOK σ own w0.heap.size σ0 w t fx cx→¬fx L)(o:Obj):Inv C S ρ σ own hv w0 σ0 A a (w.putObj L o):=
 h.keep (X:=fun k=>k≠L) ⟨rfl,rfl,rfl,by simp,fun k hk=>by omega⟩ (fun k hk=>World.putObj_heap_other hk) (fun k hk=>by omega) (fun k j e1 e2=>by subst e2;rw[hf.own] at e1;cases e1) (fun k o v e1 e2=>by subst e2;rw[hf.c] at e1;cases e1)
  (fun k v e1 e2=>by subst e2;rw[hf.m] at e1;cases e1) (fun t fx cx gj k hk e=>by subst e;exact hx t fx cx gj hk)
theorem aAx {o:Oper}{L:Nat}{x:Operand}{aa:Array Operand}{ts:Array TypeId}{r:Loop}(dp:o.op=.call {callee:=.value x,args:=aa,argTypes:=ts})(hx:a.eval x=.func (.yield L) #[] #[])(hL:w.heap[L]?=some (.loop r))(hs:aa.size=r.params.size):
 (execOp a.eval o).run C.P w=.ok (.round L r.fn ((r.params.zip (aa.map a.eval)).foldl (fun tmps (t,v)=>tmps.setIfInBounds t v) r.tmps) r.assign r.body) w:=by
 have hy:=run_yield (P:=C.P) (args:=aa.map a.eval) hL (by simpa using hs);simp[execOp,dp,resolve,hx,Deferred.ofValue,invoke,hy]
theorem avs {g:Operand}{f:Nat}{vs:List Value}{L:Nat}(hf:∃fn,C.P.funcs[f]?=some fn∧fn.body.isSome=true∧(fn.name== "runtime.NumGoroutine")=false)(hg:a.eval g=.func (.func f) #[] vs.toArray):
 (resolve a.eval (rangeCall g L) 0).run C.P w=.ok {target:=.fn (.func f) vs.toArray,args:=#[.func (.yield L) #[] #[]]} w∧
 (invoke (.fn (.func f) vs.toArray) #[.func (.yield L) #[] #[]]).run C.P w=.ok (.enter f (#[.func (.yield L) #[] #[]]++vs.toArray)) w:=by
 obtain⟨fn,h1,h2,h3⟩:=hf;obtain⟨bd,jn⟩:=YU.1 h2;have h4:¬fn.name= "runtime.NumGoroutine" :=by simpa using h3
 constructor
 ·simp only[resolve,hg];simp[go_sem]
 ·simp[invoke,callFunc,h1,jn,h4]
theorem FrOK.enter {hv:Nat→Value}{S:St}{ρ:Env}(h:Inv C S ρ σ own hv w0 σ0 A a w){t:D}{fx cx:Nat→Prop}(hf:FrOK σ own w0.heap.size σ0 w t fx cx)(r:Loop):FrOK (σ.mark w.heap.size) own w0.heap.size σ0 ((w.alloc (.deferred (some []))).alloc (.loop r)) t fx cx:=by
 have hb:=Z7 w (.deferred (some [])) (.loop r);have ar:=σ0.lt _ _ _ _ hf.F;have cR:=σ0.sub _ _ _ _ hf.F;have xg:∀k x,(σ.mark w.heap.size).m k=some x→σ.m k=some x∨k=w.heap.size:=by
  intro k x e;simp only[Im.mark] at e;split at e
  ·rename_i e2;exact .inr e2
  ·exact .inl e
 refine⟨σ0.keep _ _ _ _ _ hf.F (hb.mono (yQ _)) fun k hk=>hb.block k (ar k hk),hf.own,hf.c,fun k x e hc=>?_,fun k e hB hk=>?_⟩
 ·rcases xg k x e with e|e
  ·exact hf.m k x e hc
  ·have:=ar k (cR k hc);omega
 ·rcases xg k _ e with e|e
  ·exact hf.d k e hB hk
  ·have:=ar k hk;omega
structure RSt (C:Ctx) (w0:World) (σR:Base) (ids:List Nat) (ρ1:Env) (lo:List Nat) (aM:Act) (L:Nat) (W1:World) (σ1:Im) (rec:LoopState→Option Code→Loop) (xs:List D) (P:Nat→List D→Snap→LoopState→Option Code→Prop) (t:D) (fx cx:Nat→Prop) (w:World):Prop where
 lt:∀k,fx k→k<w.heap.size
 sub:∀k,cx k→fx k
 old:∀k,k<W1.heap.size→fx k
 ex:∃(i:Nat) (vo:List D) (Sx:Snap) (st:LoopState) (pe:Option Code) (σ:Im) (own:Nat→Option Nat) (hv:Nat→Value),t=.list (xs.take i)∧P i vo Sx st pe∧Inv C (Sx.st ids) (ρ1.put [] [] lo vo) σ own hv w0 σR (fun _=>False) aM w∧
  σ1.le σ∧Free L σ own∧w.heap[L]?=some (.loop (rec st pe))∧(∀k j,own k=some j→fx k)∧(∀k o x,σ.c k o=some x→fx k)∧(∀k x,σ.m k=some x→fx k)∧∀k,cx k↔((∃j,own k=some j)∨k=L)
theorem RSt.keep {σR:Base}{ρ1:Env}{lo:List Nat}{aM:Act}{L:Nat}{W1:World}{σ1:Im}{rec:LoopState→Option Code→Loop}{xs:List D}{P:Nat→List D→Snap→LoopState→Option Code→Prop}{t:D}{fx cx:Nat→Prop}{w w':World}
 (h0:w0.heap.size≤W1.heap.size) (hL:L<W1.heap.size) (hR:∀t f c w,σR.F t f c w→∀k,f k→k<W1.heap.size) (h:RSt C w0 σR ids ρ1 lo aM L W1 σ1 rec xs P t fx cx w) (hb:Below 0 w w') (hs:∀k,fx k→w'.heap[k]?=w.heap[k]?):
 RSt C w0 σR ids ρ1 lo aM L W1 σ1 rec xs P t fx cx w':=by
 obtain⟨i,vo,Sx,st,pe,σ,own,hv,e1,e2,e3,e4,e5,e6,e7,e8,e9,e10⟩:=h.ex;refine⟨fun k hk=>Hf (h.lt k hk) hb.size,h.sub,h.old,i,vo,Sx,st,pe,σ,own,hv,e1,e2,?_,e4,e5,(hs L (h.old L hL)).trans e6,e7,e8,e9,e10⟩;exact e3.keep (X:=fx) hb hs (fun k hk=>h.old k (by omega)) e7 e8 e9 (fun t f c hf k hk=>h.old k (hR _ _ _ _ hf.F k hk))
theorem Im.noM_m {σ:Im}{k:Nat}{v:List (Value×Value)}(h:σ.noM.m k=some v):σ.m k=some v∧v≠fN:=by
 simp only[Im.noM] at h;split at h
 ·cases h
 ·rename_i aA;exact⟨h,fun e=>aA (by rw[h,e])⟩
structure SegL (L:Nat) (σ:Im) (own:Nat→Option Nat) (w:World) (σ':Im) (own':Nat→Option Nat) (w':World):Prop where
 le:σ.le σ'
 below:Below 0 w w'
 same:∀k,k<w.heap.size→own k=none→k≠L→w'.heap[k]?=w.heap[k]?
 ow:∀k j,own' k=some j→(∃i,own k=some i)∨w.heap.size≤k
 imm:∀k,((∃o x,σ'.c k o=some x)∨∃x,σ'.m k=some x)→(∃o x,σ.c k o=some x)∨(∃x,σ.m k=some x)∨(∃i,own k=some i)∨w.heap.size≤k
theorem afY (w:World)(L:Nat)(o:Obj):Below 0 w (w.putObj L o):=⟨rfl,rfl,rfl,by simp,fun k hk=>by omega⟩
theorem Seg.round {L:Nat}{σ' σ'':Im}{own' afM:Nat→Option Nat}{w' ls:World}{o o':Obj}(h:Seg σ own w σ' own' w')(k:Seg σ' own' (w'.putObj L o) σ'' afM ls):SegL L σ own w σ'' afM (ls.putObj L o'):=by
 have bp:=h.below.size;have KH:=k.below.size;simp only[World.putObj_size] at KH;refine⟨h.le.trans k.le,h.below.trans ((afY _ _ _).trans (k.below.trans (afY _ _ _))),fun q hq ho hL=>?_,fun q j e=>?_,fun q e=>?_⟩
 ·have h1:own' q=none:=by
   cases e:own' q with
   |none=>rfl
   |some j=>
    rcases h.ow q j e with⟨i,e⟩|e
    ·rw[ho] at e;cases e
    ·omega
  rw[World.putObj_heap_other hL,k.same q (by simp;omega) h1,World.putObj_heap_other hL,h.same q hq ho]
 ·rcases k.ow q j e with⟨i,e⟩|e
  ·exact h.ow q i e
  ·simp only[World.putObj_size] at e;exact .inr (by omega)
 ·rcases k.imm q e with e|e|⟨i,e⟩|e
  ·exact h.imm q (.inl e)
  ·exact h.imm q (.inr e)
  ·rcases h.ow q i e with e|e
   ·exact .inr (.inr (.inl e))
   ·exact .inr (.inr (.inr e))
  ·simp only[World.putObj_size] at e;exact .inr (.inr (.inr (by omega)))
theorem Env.put_self (ρ:Env)(lo:List Nat):ρ.put [] [] lo (lo.map ρ.o)=ρ:=by
 have h2:∀u,putL ρ.o lo (lo.map ρ.o) u=ρ.o u:=fun u=>by rw[tB];split<;>rfl
 show Env.mk ρ.r (putL ρ.o lo (lo.map ρ.o))=ρ;rw[funext h2]
theorem avt {N:Nat}(gh:gx C Φ){g:Operand}{ps:Array Tmp}{ca cb:Code}(bO:vZ C Φ fn s n ids R N ca)(eC:vZ C Φ fn s n ids R N cb):vZ C Φ fn s n ids R N (.rangeFunc g ps ca cb):=by
 intro rm S r hr rd w0 σ0 wr ρ x a w gH hC hY iJ hn hg he;simp only[comp] at hr;split at hr
 case h_2=>cases hr;exact absurd he (mL _ _ _ _)
 rename_i aa rr e np hu;split at hr
 case h_2=>cases hr;exact absurd he (mL _ _ _ _)
 rename_i ys uU;split at hr
 case h_2=>cases hr;exact absurd he (mL _ _ _ _)
 rename_i q hq;rw[oW] at hr;split at hr
 case isFalse=>cases hr;exact absurd he (mL _ _ _ _)
 rename_i w7;cases hr;simp only[az] at w7;obtain⟨⟨⟨hl,bX⟩,ar⟩,Es⟩:=w7;have hl:=aN hl;have Es:=l7 Es;obtain⟨hrd,pO⟩:=gH rfl;subst hrd;obtain⟨hs,AJ,_⟩:=EL (C:=C) (w0:=w0) (σ0:=σ0) (ids:=ids) 8 hq;simp only[aG] at hs;obtain⟨ra,QS,hs⟩:=hs;split at hs
 case h_2=>cases hs
 rename_i S1 hao hax;simp only[aR] at hs;obtain⟨rb,hrb,ju⟩:=hs;have hma:=um ca QS;have hmb:=um cb hrb;obtain⟨q1,q2⟩:=q;simp only at QS ju Es AJ he ⊢;generalize xc:ac0 ids (q1::q2.ex.map (·.2)) q2.mo=lo at he;generalize uO:((oA cT q2.ex none).bind fun M=>yt C fn s (M.st ids))=rt at he;have En:∃f caps d,e.ev ρ=.clo f caps∧Φ f caps=some d∧iV (q2.pc.ev Φ N) (ρ.setR n d) ps.toList lo rt d.l (lo.map ρ.o)=some x:=by
  simp only[PC.ev,PI.runs,PI.run,holds,List.all_nil,cond_true] at he;cases cf:e.ev ρ with
  |clo f caps=>
   rw[cf] at he;simp only[PE.evs,rZ] at he;cases hΦ:Φ f caps with
   |none=>rw[hΦ] at he;simp at he
   |some d=>
    rw[hΦ] at he;simp only[ly,vY,PE.ev,Env.setR,be] at he;exact⟨f,caps,d,rfl,hΦ,he⟩
  |_=>rw[cf] at he;simp at he
 obtain⟨f,caps,d,cf,hΦ,he⟩:=En;obtain⟨σ,own,hv,i⟩:=hg;have hx:=cG (gs:=[]) i hC rfl hu;rw[cf] at hx;generalize hgv:a.eval g=gv at hx;generalize bt:Ty.fn aa rr=ty at hx;cases hx with
 |fn f cs vs ds aa6 h1 h2 bn=>
 cases bt;obtain⟨pP,ao9⟩:=gh f cs ys aa6 uU;obtain⟨xs,rfl,aFM,AP⟩:=ao9 caps d hΦ;simp only[D.l_list] at he;obtain⟨m,mN,hm,xp,Ky,gF⟩:=Z5 he;have iq0:=acC 8 hq i
 have iq:Inv C (q1.st ids) (ρ.setR n (.list xs)) σ own hv w0 σ0 (fun _=>False) a w:=by
  refine iq0.env (Snap.noOpt _ _) (fun t ht=>?_) (fun _ _=>rfl);have ar:t<q1.rs.length:=by
   refine YS fun hle=>?_;simp only[Snap.st,bh,rX hle,Option.getD_none,cP,isNone] at ht;cases ht
  simp[Env.setR,bR _ _ (show t≠n by omega)]
 obtain⟨ρ1,hρ1⟩:∃ρ1,ρ.setR n (.list xs)=ρ1:=⟨_,rfl⟩
 rw[hρ1] at he iq Ky gF;have jY:ρ.o=ρ1.o:=by rw[←hρ1];rfl
 rw[jY] at xp;refine wpIn_rangeFunc ?_;intro PN aFs;obtain⟨L,aaI⟩:∃L,w.heap.size+1=L:=⟨_,rfl⟩
 obtain⟨rec,fp⟩:∃rec:LoopState→Option Code→Loop,rec=fun st pe=>{state:=st,pending:=pe,fn:=PN,tmps:=a.tmps,params:=ps,assign:=ca,body:=cb,defers:=w.heap.size}:=⟨_,rfl⟩
 have i1:=iq.enter (rec .ready none);obtain⟨t,fx0,cx0,abi,ht0⟩:=iq.frame;have aoW:=σ0.lt _ _ _ _ abi.F;have Qn:=FrOK.enter iq abi (rec .ready none);have aFK:=iq.below.size;have Ay:Free L (σ.mark w.heap.size) own:=by
  refine⟨?_,fun o=>?_,?_⟩
  ·cases e:own L with
   |none=>rfl
   |some j=>have:=(iq.owns L j e).2.1;omega
  ·cases e:σ.c L o with
   |none=>exact e
   |some x=>have:=iq.lt e;omega
  ·simp only[Im.mark,show L≠w.heap.size by omega,if_false];cases e:σ.m L with
   |none=>rfl
   |some x=>have:=iq.ltm e;omega
 have sQ:σ.le (σ.mark w.heap.size):=by
  refine⟨fun _ _ _ e=>e,fun k x e=>?_⟩;have:k≠w.heap.size:=by have:=iq.ltm e;omega
  simp[Im.mark,this,e]
 have hL1:((w.alloc (.deferred (some []))).alloc (.loop (rec .ready none))).heap[L]?=some (.loop (rec .ready none)):=by
  have:=World.alloc_heap_new (w.alloc (.deferred (some []))) (.loop (rec .ready none));rw[World.size_alloc,aaI] at this;exact this
 obtain⟨W1,P1⟩:∃W1,(w.alloc (.deferred (some []))).alloc (.loop (rec .ready none))=W1:=⟨_,rfl⟩
 have aFl:W1.heap.size=w.heap.size+2:=by rw[←P1];simp
 rw[P1] at i1 Qn hL1;have Qk:(Instr.enterLoop PN a.tmps ps ca cb none).run C.P w=.ok (L,[{target:=.collected w.heap.size,args:=#[]}]) W1:=by
  rw[←P1,fp,←aaI];exact run_enterLoop_outer _ _ _ _ _
 obtain⟨σ1,hσ1⟩:∃σ1,σ.mark w.heap.size=σ1:=⟨_,rfl⟩
 rw[hσ1] at i1 Qn Ay sQ;obtain⟨aM,P2⟩:∃aM:Act,{a with defers:={target:=.collected w.heap.size,args:=#[]}::a.defers}=aM:=⟨_,rfl⟩
 have DS:aM.tmps=a.tmps:=by rw[←P2]
 rw[P2] at i1;have iR:=i1.toRnd (t:=t) (X:=fun k=>k=L) ht0;obtain⟨σR,hσR⟩:∃σR,σ0.rnd σ1 own W1 t (fun k=>k=L)=σR:=⟨_,rfl⟩
 have ux:∀t' f c w',σR.F t' f c w'→(∀k,f k→k<W1.heap.size∧k≠L)∧∀k,c k→f k∧(∀o,σ1.c k o=none)∧σ1.m k=none:=by
  rw[←hσR];rintro t' f c w' ⟨_,h2,h3,_⟩;exact⟨fun k hk=>⟨((h2 k).1 hk).1,((h2 k).1 hk).2.2.2⟩,fun k hk=>(h3 k).1 hk⟩
 have hRC:CtxOK C σR:=by rw[←hσR];exact hC.mono i1.le
 rw[hσR] at iR
 obtain⟨P,hP⟩:∃P:Nat→List D→Snap→LoopState→Option Code→Prop,P=fun i vo Sx st pe=>(i≤m∧vo=mN i∧Sx=q1∧st=.ready∧pe=none)∨
  (i=m+1∧m<xs.length∧st=.done∧∃y id ρ',xs[m]?=some y∧q2.pc.ev Φ N (ρ1.put ps.toList (partsOf ps.toList y) lo (mN m))=some (.exit id ρ')∧vo=lo.map ρ'.o∧(id,Sx)∈q2.ex∧((id≠cT∧pe=some (.exit id))∨(id=cT∧pe=some .ret))):=⟨_,rfl⟩
 obtain⟨c1,c2⟩:=avs (C:=C) (w:=W1) (L:=L) pP hgv;refine⟨L,[{target:=.collected w.heap.size,args:=#[]}],W1,_,W1,f,_,W1,Qk,c1,fun _ _=>trivial,c2,(fun e=>by cases e),?_⟩
 refine Zz ((AP σ1 W1 (.func (.yield L) #[] #[]) vs (RSt C w0 σR ids ρ1 lo aM L W1 σ1 rec xs P) (fun k=>k<W1.heap.size) (fun k=>(∃j,own k=some j)∨k=L) m i1.ok (hC.mono i1.le) ⟨h1,h2,fun j t e=>(bn j t e).mono sQ⟩ hm
  (fun t f c w h=>h.lt) (fun t f c w h=>h.sub) (fun t f c w w' h hb hs=>h.keep (by omega) (by omega) (fun t f c w hF k hk=>((ux t f c w hF).1 k hk).1) hb hs) ?_ ?_ ?_ ?_).mono ?_)
 ·refine⟨fun k hk=>hk,fun k hk=>?_,fun k hk=>hk,0,mN 0,q1,.ready,none,σ1,own,hv,by simp,by rw[hP];exact .inl ⟨yQ _,rfl,rfl,rfl,rfl⟩,?_,.refl σ1,Ay,hL1,fun k j e=>(iR.owns k j e).2.1,fun k o x e=>iR.lt e,fun k x e=>iR.ltm e,fun k=>.rfl⟩
  ·rcases hk with⟨j,e⟩|e
   ·exact(iR.owns k j e).2.1
   ·show k<W1.heap.size;omega
  ·rw[xp,Env.put_self];exact iR
 ·rintro k o x e (⟨j,hj⟩|rfl)
  ·have:=(iR.owns k j hj).2.2.1 o;rw[e] at this;cases this
  ·rw[Ay.c] at e;cases e
 ·rintro k x e (⟨j,hj⟩|rfl)
  ·have:=(iR.owns k j hj).2.2.2;rw[e] at this;cases this
  ·rw[Ay.m] at e;cases e
 ·intro i fx cx w1 σx args cH hi dL hF hσx lE iX lF gm ed rd' o a' x' aa ts K Q dp cS aaX hK;have aFu:i<xs.length:=(jh.1 dL).1;obtain⟨i',vo,Sx,st,pe,σa,xQ,KK,e1,e2,iA,Kr,DQ,J1,QH,hcA,Ed,AG⟩:=hF.ex;have hii:i'=i:=by
   have h9:=congrArg List.length (congrArg D.l e1);simp only[D.l_list,eH] at h9;omega
  subst hii;rw[hP] at e2;rcases e2 with⟨_,rfl,DR,rfl,rfl⟩|⟨e2,_⟩
  case inr=>omega
  rw[DR] at iA;have aaJ:L<w1.heap.size:=hF.lt L (hF.old L (by omega));have Kc:cx L:=(AG L).2 (.inr rfl)
  have apF:∀k o v,σx.c k o=some v→xQ k=none:=fun k o v e=>by
   cases e2:xQ k with
   |none=>rfl
   |some j=>exact absurd ((AG k).2 (.inl ⟨j,e2⟩)) (iX k o v e)
  have apG:∀k v,σx.m k=some v→xQ k=none:=fun k v e=>by
   cases e2:xQ k with
   |none=>rfl
   |some j=>exact absurd ((AG k).2 (.inl ⟨j,e2⟩)) (lF k v e)
  have hτok:σx.noM.ok w1:=⟨hσx.c,fun k v e=>hσx.m k v (Im.noM_m e).1⟩
  have iB:=iA.joinIm (τ:=σx.noM) hτok (fun k e=>(Im.noM_m e).2 rfl) apF (fun k v e=>apG k v (Im.noM_m e).1)
   (fun k o v e=>(gm k o v e).imp (fun e=>Kr.c k o v e) fun e=>by omega) (fun k v e=>(ed k v (Im.noM_m e).1).imp (fun e=>Kr.m k v e) fun e=>by omega)
   (fun t' f c hf=>⟨fun k o v e hc=>by
        obtain⟨g1,g2,g3⟩:=(ux _ _ _ _ hf.F).2 k hc;rcases gm k o v e with e|e
        ·rw[g2 o] at e;cases e
        ·have:=((ux _ _ _ _ hf.F).1 k g1).1;omega,fun k v e hc=>by
        obtain⟨g1,g2,g3⟩:=(ux _ _ _ _ hf.F).2 k hc;rcases ed k v (Im.noM_m e).1 with e|e
        ·rw[g3] at e;cases e
        ·have:=((ux _ _ _ _ hf.F).1 k g1).1;omega⟩)
  have hFB:Free L (σa.plus σx.noM) xQ:=by
   refine⟨DQ.own,fun o=>?_,?_⟩
   ·cases e:(σa.plus σx.noM).c L o with
    |none=>rfl
    |some v=>
     rcases Im.plus_c e with e|e
     ·rw[DQ.c] at e;cases e
     ·exact absurd Kc (iX L o v e)
   ·cases e:(σa.plus σx.noM).m L with
    |none=>rfl
    |some v=>
     rcases Im.plus_m e with e|e
     ·rw[DQ.m] at e;cases e
     ·exact absurd Kc (lF L v (Im.noM_m e).1)
  have A0:ps.toList.length=ys.length:=by rw[Ch];exact hl.symm
  have aop:qw C (σa.plus σx.noM) ys args cH:=⟨lE.1,lE.2.1,fun j t e=>((lE.2.2 j t e).noM).mono (Im.plus_le2 iA.ok hτok)⟩
  have iC:=iB.startR (ρ':=ρ1) A0 bX (fun p hp=>by
   have:=fl.1 ar p hp;rw[DS,hn];simpa [qC] using this) aop rfl
  have QN:∃xi,q2.pc.ev Φ N (ρ1.put ps.toList (partsOf ps.toList (.tup cH)) lo (mN i'))=some xi∧((i'<m∧∃ρ',xi=.next ρ'∧lo.map ρ'.o=mN (i'+1))∨(i'=m∧m<xs.length∧∃id ρ',xi=.exit id ρ')):=by
   by_cases qW:i'<m
   ·obtain⟨y,ρ',g1,g2,g3⟩:=Ky i' qW;rw[dL] at g1;cases g1;exact⟨_,g2,.inl ⟨qW,ρ',rfl,g3⟩⟩
   ·obtain rfl:i'=m:=by omega
    rcases gF with⟨g1,_⟩|⟨g1,y,id,ρ',g2,g3,_⟩
    ·omega
    ·rw[dL] at g2;cases g2;exact⟨_,g3,.inr ⟨rfl,g1,id,ρ',rfl⟩⟩
  obtain⟨xi,sY,Rg⟩:=QN;have ab:q2.pc=.seq ra.pc rb.pc:=by rw[←ju];rfl
  rw[ab] at sY;have bp:(mK ps.toList args aM.tmps).size=n:=by rw[ahI,DS,hn]
  refine⟨fun _ _=>trivial,?_⟩;rw[Oper.semAt_eq _ _ _ (fun c e=>by rw[dp] at e;cases e)];have aoq:aa.size=ps.size:=by
   have:=lE.1;rw[←aaX,nU,Ch] at this;omega
  have ay:=aAx (C:=C) dp cS J1 (by rw[fp];exact aoq);have ap8:(rec .ready none).fn=PN∧(rec .ready none).tmps=a.tmps∧(rec .ready none).params=ps∧(rec .ready none).assign=ca∧(rec .ready none).body=cb:=by rw[fp];exact⟨rfl,rfl,rfl,rfl,rfl⟩
  obtain⟨r1,r2,r3,r4,r5⟩:=ap8;rw[r1,r2,r3,r4,r5] at ay
  have xm:(ps.zip (aa.map a'.eval)).foldl (fun tmps (t,v)=>tmps.setIfInBounds t v) a.tmps=mK ps.toList args aM.tmps:=by
   rw[DS,←aaX,←G8];exact awm ps (aa.map a'.eval) a.tmps
  rw[xm] at ay;rw[ay];refine⟨(fun e=>by cases e),?_⟩;refine roundIn_of_wpIn (F:=FR rd') trivial ?_;show ca.wpIn (FR (some L)) 0 C.P _ _ _;cases kV:ra.pc.ev Φ N (ρ1.put ps.toList (partsOf ps.toList (.tup cH)) lo (mN i')) with
  |none=>simp only[PC.ev,kV] at sY;cases sY
  |some xa=>
  refine wpIn_mono (ahE bO QS np hRC iC (wr:=fun t=>t∈cQ ca) (fun _ h=>h) bp kV L) fun e2 a1 Yp aqf=>?_;obtain⟨ρ2,S2,σ2,jB,iI,iD,gn,p5,kp⟩:=aqf;cases e2 with
  |normal=>
   obtain⟨rfl,uy⟩:=kp;rw[hao] at uy;cases uy;simp only[PC.ev,kV] at sY;have hL2:Yp.heap[L]?=some (.loop (rec .ready none)):=(gn.same L aaJ hFB.own).trans J1;have ml:=hFB.seg aaJ gn;have P0:L<Yp.heap.size:=(gO.1 hL2).1;have hL0:w0.heap.size≤L:=by omega
   refine⟨_,run_beginRound hL2 (by rw[fp]),?_⟩;have iE:=iD.putL hL0 ml (fun t' f c hf D2=>((ux _ _ _ _ hf.F).1 L D2).2 rfl) (.loop {rec .ready none with state:=.busy});have hL3:(Yp.putObj L (.loop {rec .ready none with state:=.busy})).heap[L]?=some (.loop {rec .ready none with state:=.busy}):=World.putObj_heap_same P0;show cb.wpIn (FR (some L)) 0 C.P _ _ _;refine wpIn_mono (ahE eC hrb np hRC iE (wr:=fun t=>t∈cQ cb) (fun _ h=>h) (p5.size.trans bp) sY L) fun e3 a3 w3 aqg=>?_;obtain⟨ρ3,S3,σ3,xP,EA,iF,ot,aqe,oo⟩:=aqg;have hL4:w3.heap[L]?=some (.loop {rec .ready none with state:=.busy}):=(ot.same L (by simpa using P0) ml.own).trans hL3;have hF3:=ml.seg (by simpa using P0) ot;have aob:L<w3.heap.size:=(gO.1 hL4).1;obtain⟨mk,hmk⟩:∃mk,Nat.lor (xJ (ps.toList++cQ ca++cQ cb)) (Nat.lor ra.mr rb.mr)=mk:=⟨_,rfl⟩
   have apw:∀t,aV mk t=false→t∉ps.toList∧t∉cQ ca∧t∉cQ cb∧aV ra.mr t=false∧aV rb.mr t=false:=by
        intro t ht;rw[←hmk,gB,gB,YB,YB] at ht;obtain⟨t1,t2,t3⟩:=ht;have:t∉ps.toList++cQ ca++cQ cb:=fun hm=>by rw[Zs hm] at t1;cases t1
        simp only[da,not_or] at this;exact⟨this.1.1,this.1.2,this.2,t2,t3⟩
   have QU:∀t,aV mk t=false→aM.tmps.getD t undef=a3.tmps.getD t undef∧(ρ1.put [] [] lo (lo.map ρ3.o)).r t=ρ3.r t:=by
        intro t ht;obtain⟨t1,t2,t3,t4,t5⟩:=apw t ht;refine⟨?_,?_⟩
        ·rw[aqe.get t t3,p5.get t t2];exact(M2 _ _ _ _ t1).symm
        ·have hb3:∀ρ',xi=.next ρ'∨(∃id,xi=.exit id ρ')→ρ'.r t=ρ2.r t:=fun ρ' h=>by
          have xb:xi.env?=some ρ':=by rcases h with h|⟨id,h⟩<;>rw[h]<;>rfl
          exact(PC.ev_but rb.pc _ _ ρ' sY xb).r t fun hm=>by rw[hmb.1 t hm] at t5;cases t5
         have ew:ρ2.r t=putL ρ1.r ps.toList (partsOf ps.toList (.tup cH)) t:=(PC.ev_but ra.pc _ _ ρ2 kV rfl).r t fun hm=>by rw[hma.1 t hm] at t4;cases t4
         rw[By _ _ _ _ t1] at ew;show ρ1.r t=ρ3.r t;rw[hb3 ρ3 (by
          cases e3 with
          |normal=>exact .inl oo.1
          |exit id=>exact .inr ⟨id,oo.1⟩
          |ret=>exact .inr ⟨_,oo.1⟩
          |_=>exact oo.elim),ew]
   have QA:q2.mo=jJ ra.mo rb.mo:=by rw[←ju];rfl
   have apK:∀j,j∉q2.mo→ρ3.o j=ρ1.o j:=by
        intro j hj;rw[QA,p9,not_or] at hj;have xb:xi.env?=some ρ3:=by
         cases e3 with
         |normal=>rw[oo.1];rfl
         |exit id=>rw[oo.1];rfl
         |ret=>rw[oo.1];rfl
         |_=>exact oo.elim
        rw[(PC.ev_but rb.pc _ _ ρ3 sY xb).o j fun hm=>hj.2 (hmb.2 j hm),(PC.ev_but ra.pc _ _ ρ2 kV rfl).o j fun hm=>hj.1 (hma.2 j hm)]
        exact By _ _ _ _ fun hm=>by
         rw[←xc] at hm;have:=(ei.1 hm).1;rw[QA,p9] at this;exact this.elim hj.1 hj.2
   have QI:∀(S:Snap),S∈(q1::q2.ex.map (·.2))→∀j,q9 ((S.st ids).o j)=false→(ρ1.put [] [] lo (lo.map ρ3.o)).o j=ρ3.o j:=by
        intro S hS j hj;show putL ρ1.o lo (lo.map ρ3.o) j=ρ3.o j;rw[tB];split
        ·rfl
        ·rename_i jW;refine(apK j fun uG=>jW ?_).symm;rw[←xc];exact ei.2 ⟨uG,Cl.2 ⟨S,hS,by simpa [Snap.st] using hj⟩⟩
   have fin:∀(jump:Option Code) (Sx:Snap),Inv C (Sx.st ids) (ρ1.put [] [] lo (lo.map ρ3.o)) σ3 xP EA w0 σR (fun _=>False) aM w3→P (i'+1) (lo.map ρ3.o) Sx (if jump.isNone then .ready else .done) jump→jump.isNone=decide (i'<m)→
        ∃v w',(Instr.endRound L jump).run C.P w3=.ok v w'∧K (a'.put o.dst v) w':=by
        intro jump Sx iG hPn uG;refine⟨_,_,run_endRound jump hL4,?_⟩;have ap7:({{rec .ready none with state:=.busy} with state:=if jump.isNone then .ready else .done,pending:=jump}:Loop)=rec (if jump.isNone then .ready else .done) jump:=by rw[fp]
        rw[ap7];have bn:=gn.round (L:=L) (o':=.loop (rec (if jump.isNone then .ready else .done) jump)) ot;have iH:=iG.putL hL0 hF3 (fun t' f c hf D2=>((ux _ _ _ _ hf.F).1 L D2).2 rfl) (.loop (rec (if jump.isNone then .ready else .done) jump));obtain⟨w4,Rc⟩:∃w4,w3.putObj L (.loop (rec (if jump.isNone then .ready else .done) jump))=w4:=⟨_,rfl⟩
        have hL5:w4.heap[L]?=some (.loop (rec (if jump.isNone then .ready else .done) jump)):=by rw[←Rc];exact World.putObj_heap_same aob
        have aFP:w4.heap.size=w3.heap.size:=by rw[←Rc];simp
        rw[Rc] at bn iH ⊢;have aFk:W1.heap.size≤w1.heap.size:=by
         have:=hF.lt (W1.heap.size-1) (hF.old _ (by omega));omega
        have aFL:=bn.below.size
        refine hK _ _ ⟨by rw[uG],bn.below,fun k hk hc=>bn.same k hk (by
         cases e:xQ k with
         |none=>rfl
         |some j=>exact absurd ((AG k).2 (.inl ⟨j,e⟩)) hc) (fun e=>hc (by rw[e];exact Kc)),(fun k=>k<w4.heap.size∧(k<W1.heap.size∨(∃j,xP k=some j)∨(∃o x,σ3.c k o=some x)∨∃x,σ3.m k=some x)),(fun k=>(∃j,xP k=some j)∨k=L),?_,?_,?_⟩
        ·refine⟨fun k hk=>hk.1,fun k hk=>?_,fun k hk=>⟨by omega,.inl hk⟩,i'+1,lo.map ρ3.o,Sx,_,jump,σ3,xP,EA,rfl,hPn,iH,Kr.trans ((Im.plus_le1 _ _).trans bn.le),hF3,hL5,fun k j e=>⟨(iH.owns k j e).2.1,.inr (.inl ⟨j,e⟩)⟩,fun k o x e=>⟨iH.lt e,.inr (.inr (.inl ⟨o,x,e⟩))⟩,fun k x e=>⟨iH.ltm e,.inr (.inr (.inr ⟨x,e⟩))⟩,fun k=>.rfl⟩;rcases hk with⟨j,e⟩|e
         ·exact⟨(iH.owns k j e).2.1,.inr (.inl ⟨j,e⟩)⟩
         ·exact⟨by omega,.inl (by omega)⟩
        ·rintro k ⟨_,hk⟩ bI
         have D9:((∃o x,σ3.c k o=some x)∨∃x,σ3.m k=some x)→fx k∨(∃o x,σx.c k o=some x)∨(∃x,σx.m k=some x∧x≠fN):=fun h=>by
          rcases bn.imm k h with⟨o,x,e⟩|⟨x,e⟩|⟨j,e⟩|e
          ·rcases Im.plus_c e with e|e
           ·exact .inl (hcA k o x e)
           ·exact .inr (.inl ⟨o,x,e⟩)
          ·rcases Im.plus_m e with e|e
           ·exact .inl (Ed k x e)
           ·exact .inr (.inr ⟨x,(Im.noM_m e).1,(Im.noM_m e).2⟩)
          ·exact .inl (QH k j e)
          ·omega
         rcases hk with hk|⟨j,e⟩|e|e
         ·exact .inl (hF.old k hk)
         ·rcases bn.ow k j e with⟨j',e⟩|e
          ·exact .inl (QH k j' e)
          ·omega
         ·exact D9 (.inl e)
         ·exact D9 (.inr e)
        ·rintro k (⟨j,e⟩|e) bI
         ·rcases bn.ow k j e with⟨j',e⟩|e
          ·exact(AG k).2 (.inl ⟨j',e⟩)
          ·omega
         ·rw[e];exact Kc
   have oe:kJ σ3 w0.heap.size aM.defers:=iA.defers.mono ((Im.plus_le1 _ _).trans (gn.le.trans ot.le));have QO:q2.out=rb.out.map (Snap.mask mk)∧q2.ex=rb.ex.map (fun x=>(x.1,x.2.mask mk)):=by rw[←ju,←hmk];exact⟨rfl,rfl⟩
   cases e3 with
   |normal=>
    obtain⟨e4,e5⟩:=oo;have hT:q2.out=some (S3.mask mk):=by rw[QO.1,e5];rfl
    have abk:=AJ _ hT
    have iG:Inv C (q1.st ids) ρ3 σ3 xP EA w0 σR (fun _=>False) a3 w3:=by
        have:=Snap.meet_ok2 (x:=q1) (iF.maskR mk)
        rwa [abk] at this
    have iH:=iG.restore (ρ':=ρ1.put [] [] lo (lo.map ρ3.o)) (a':=aM) (Snap.noOpt _ _) oe (fun t ht=>QU t (by
        cases e:aV mk t with
        |false=>rfl
        |true=>
         have h9:=as7 (x:=q1) (S:=S3) (ids:=ids) e;rw[abk] at h9;rw[h9] at ht;cases ht)) (fun j hj=>QI q1 (gd ..) j hj)
    rcases Rg with⟨qW,ρ',e6,e7⟩|⟨_,_,id,ρ',e6⟩
    ·rw[e4] at e6;cases e6;exact fin none q1 iH (by rw[hP];exact .inl ⟨by omega,e7,rfl,rfl,rfl⟩) (by simp[qW])
    ·rw[e4] at e6;cases e6
   |exit id=>
    obtain⟨e4,e5,e6⟩:=oo;have cJ:(id,S3.mask mk)∈q2.ex:=by rw[QO.2];exact dH.2 ⟨_,e6,rfl⟩
    have iH:=(iF.maskR mk).restore (ρ':=ρ1.put [] [] lo (lo.map ρ3.o)) (a':=aM) (Snap.noOpt _ _) oe (fun t ht=>QU t (by
        cases e:aV mk t with
        |false=>rfl
        |true=>rw[ET,if_pos e] at ht;cases ht)) (fun j hj=>QI (S3.mask mk) (fL _ (dH.2 ⟨_,cJ,rfl⟩)) j hj)
    rcases Rg with⟨qW,ρ',e7,_⟩|⟨qW,pS,cg,ρ',e7⟩
    ·rw[e4] at e7;cases e7
    ·subst qW;refine fin (some (.exit id)) (S3.mask mk) iH ?_ (by simp);rw[hP];refine .inr ⟨rfl,pS,rfl,_,id,ρ3,dL,?_,rfl,cJ,.inl ⟨e5,rfl⟩⟩;rw[ab];simp only[PC.ev,kV];rw[sY,e4]
   |ret=>
    obtain⟨e4,e6⟩:=oo;have cJ:(cT,S3.mask mk)∈q2.ex:=by rw[QO.2];exact dH.2 ⟨_,e6,rfl⟩
    have iH:=(iF.maskR mk).restore (ρ':=ρ1.put [] [] lo (lo.map ρ3.o)) (a':=aM) (Snap.noOpt _ _) oe (fun t ht=>QU t (by
        cases e:aV mk t with
        |false=>rfl
        |true=>rw[ET,if_pos e] at ht;cases ht)) (fun j hj=>QI (S3.mask mk) (fL _ (dH.2 ⟨_,cJ,rfl⟩)) j hj)
    rcases Rg with⟨qW,ρ',e7,_⟩|⟨qW,pS,cg,ρ',e7⟩
    ·rw[e4] at e7;cases e7
    ·subst qW;refine fin (some .ret) (S3.mask mk) iH ?_ (by simp);rw[hP];refine .inr ⟨rfl,pS,rfl,_,cT,ρ3,dL,?_,rfl,cJ,.inr ⟨rfl,rfl⟩⟩;rw[ab];simp only[PC.ev,kV];rw[sY,e4]
   |_=>exact oo.elim
  |exit id=>obtain⟨_,_,e6⟩:=kp;rw[hax] at e6;cases e6
  |ret=>obtain⟨_,e6⟩:=kp;rw[hax] at e6;cases e6
  |_=>exact kp.elim
 ·rintro e' w' ⟨⟨v,rfl⟩,fx,cx,hF⟩;rw[show({tmps:=a.tmps,defers:=[{target:=Target.collected w.heap.size,args:=#[]}]++a.defers}:Act)=aM from P2];obtain⟨i',vo,Sx,st,pe,σa,xQ,KK,e1,e2,iA,Kr,DQ,J1,QH,hcA,Ed,AG⟩:=hF.ex;have h9:=congrArg List.length (congrArg D.l e1);simp only[D.l_list,eH] at h9;have dt:(rec st pe).state≠.busy:=by
   rw[hP] at e2;rw[fp];rcases e2 with⟨_,_,_,e3,_⟩|⟨_,_,e3,_⟩<;>(rw[e3];intro e;cases e)
  have uM:(rec st pe).pending=pe:=by rw[fp]
  have Ql:(Instr.endLoop L).run C.P w'=.ok pe (w'.putObj L (.loop {rec st pe with state:=.exhausted})):=(run_endLoop (P:=C.P) J1 dt).trans (congrArg (fun z=>Result.ok z _) uM);have iF:=iA.putL (by omega:w0.heap.size≤L) DQ (fun t' f c hf D2=>((ux _ _ _ _ hf.F).1 L D2).2 rfl) (.loop {rec st pe with state:=.exhausted});rw[←hσR] at iF;have iG:=i1.ofRnd Qn (fun k hk e=>by have:=aoW k hk;omega) iF;have kr:SameBut wr a aM:=⟨by rw[DS],fun t _=>by rw[DS]⟩
  refine⟨pe,_,Ql,?_⟩;rw[hP] at e2;rcases e2 with⟨e3,rfl,DR,_,rfl⟩|⟨rfl,pS,_,y,id,ρ',g1,g2,rfl,g4,g5⟩
  ·rcases gF with⟨g1,g2⟩|⟨g1,_⟩
   ·obtain rfl:i'=m:=by omega
    rw[DR] at iG;exact⟨_,q1,g2,rfl,kr,_,_,_,iG⟩
   ·omega
  ·rcases gF with⟨g6,_⟩|⟨_,y',cg,ρ'',k1,k2,k3⟩
   ·omega
   ·rw[g1] at k1;cases k1;rw[g2] at k2;cases k2;rcases k3 with⟨k3,k4⟩|⟨k3,pe',k4,k5⟩
    ·rcases g5 with⟨_,rfl⟩|⟨g5,_⟩
     ·exact wpIn_exit ⟨_,Sx,k4,k3,ei.2 ⟨g4,by simp[gA k3]⟩,kr,_,_,_,iG⟩
     ·exact absurd g5 k3
    ·rcases g5 with⟨g5,_⟩|⟨_,rfl⟩
     ·exact absurd k3 g5
     ·subst k3;rw[←uO,aG] at k4;obtain⟨M,hM,QT⟩:=k4;obtain⟨M',hM',sM⟩:=RB (⟨_,_,_,iG⟩:Good C w0 σ0 (Sx.st ids) _ (fun _=>False) aM _) q2.ex none g4;rw[hM] at hM';cases hM';obtain⟨σm,aGJ,hvm,im⟩:=sM;exact wpIn_ret ⟨_,k5,Inv.retD hC (fun _=>rfl) pO QT _ im rfl,kr⟩
theorem ac5 {arr:Array MapEntry}{clock:Nat}(hb:mP arr clock){idx:List Nat}(hi:∀i,i∈idx→i<arr.size){i:Nat}{e:MapEntry}(he:arr[i]?=some e):(gw arr idx).contains e.born=true↔i∈idx:=by
 simp only[gw,List.contains_toArray,List.contains_iff_mem,dH];constructor
 ·rintro⟨j,hj,h⟩;have ar:=hi j hj;rw[j9 ar] at h;simp only at h;have:=hb.2 j i arr[j] e (j9 ar) he h;rw[←this];exact hj
 ·intro h;exact⟨i,h,by rw[he]⟩
theorem awc (arr:Array MapEntry)(idx:List Nat){i:Nat}{e:MapEntry}(he:arr[i]?=some e):(gw arr idx).push e.born=gw arr (idx++[i]):=by
 simp[gw,he]
theorem att {P:Program}{w:World}{k m:Nat}{arr:Array MapEntry}{clock:Nat}{idx:List Nat}(hk:w.heap[k]?=some (.mapIter (some m) clock (gw arr idx) clock))(hm:w.heap[m]?=some (.map arr clock))(hb:mP arr clock)(hi:∀i,i∈idx→i<arr.size)(T:TypeId):
 ∃w1:World,(w1=w∨w1=w.drew)∧(((∀i,i<arr.size→i∈idx)∧(Instr.next (.pointer (some ⟨k,0,none⟩)) false T).run P w=.ok (.tuple #[.bool false]) w1)∨
  ∃i e,arr[i]?=some e∧i∉idx∧(Instr.next (.pointer (some ⟨k,0,none⟩)) false T).run P w=.ok (.tuple #[.bool true,e.key,e.val]) {w1 with heap:=w1.heap.setIfInBounds k (.mapIter (some m) clock (gw arr (idx++[i])) clock)}):=by
 have cJ:∀{e:MapEntry},e∈arr→∃i:Nat,arr[i]?=some e:=fun he=>by
  obtain⟨i,hi,rfl⟩:=Array.mem_iff_getElem.1 he;exact⟨i,j9 hi⟩
 have hold:∀(l:Array MapEntry),(∀e,e∈l→e.born<clock)→l.filter (fun x=>decide (x.born<clock))=l:=fun l h=>by
  rw[Array.filter_eq_self];intro e he;simpa using h e he
 have lJ:∀(l:Array MapEntry),(∀e,e∈l→e.born<clock)→l.filter (fun x=>decide (x.born≥clock))=#[]:=fun l h=>by
  rw[Array.filter_eq_empty_iff];intro e he;have:=h e he;simp;omega
 have hbc:∀e,e∈arr→e.born<clock:=fun e he=>by obtain⟨i,hi⟩:=cJ he;exact hb.1 i e hi
 have gU:(!(gw arr idx).isEmpty&& !arr.isEmpty&&arr.all (fun x=>decide (x.born≥clock)))=false:=by
  cases ha:arr.isEmpty
  ·have aA:arr.size≠0:=by simpa using ha
   have:arr.all (fun x=>decide (x.born≥clock))=false:=by
        rw[YA];intro h;rw[Array.all_eq_true] at h;have h0:=h 0 (by omega);have h1:=hbc arr[0] (Yy _);simp at h0;omega
   rw[this,yI]
  ·simp
 let left:=arr.filter fun e=> !(gw arr idx).contains e.born
 have hl:∀e,e∈left→e.born<clock:=fun e he=>hbc e (Yz.1 he).1;by_cases hz:left.size=0
 ·refine⟨w,.inl rfl,.inl ⟨fun i ar=>?_,?_⟩⟩
  ·by_cases bU:i∈idx
   ·exact bU
   ·exfalso;have Ku:arr[i]∈left:=Yz.2 ⟨Yy _,by
     have:=ac5 hb hi (j9 ar);cases hc:(gw arr idx).contains arr[i].born with
     |false=>rfl
     |true=>exact absurd (this.1 hc) bU⟩
    have:left=#[]:=ND hz;rw[this] at Ku;simp at Ku
  ·have he:left=#[]:=ND hz;have sK:arr.filter (fun e=> !(gw arr idx).contains e.born)=#[]:=he;simp only[Instr.next,getObj,Sem.run_bind,Sem.run,hk,hm,Result.andThen_ok,gU,sK];simp[Question.forced,Sem.run]
 ·have pM:left.filter (fun x=>decide (x.born<clock))=left:=hold left hl;have DZ:left.filter (fun x=>decide (x.born≥clock))=#[]:=lJ left hl;have hem:left.isEmpty=false:=by simpa using hz
  have key:∀c,c<left.size→∃i e,arr[i]?=some e∧i∉idx∧left[c]?=some e:=fun c hc=>by
   have Ku:left[c]∈left:=Yy _;obtain⟨h1,h2⟩:=Yz.1 Ku;obtain⟨i,eN⟩:=cJ h1;refine⟨i,left[c],eN,fun bU=>?_,j9 hc⟩;rw[(ac5 hb hi eN).2 bU] at h2;cases h2
  obtain⟨w1,c,fT,hc,kR⟩:∃w1 c,(w1=w∨w1=w.drew)∧c<left.size∧(choose (.mapNext left.size)).run P w=.ok c w1:=by
   by_cases h1:left.size≤1
   ·exact⟨w,0,.inl rfl,by omega,by simp[Question.forced,h1]⟩
   ·exact⟨w.drew,_,.inr rfl,Nat.mod_lt _ (by omega),by simp[Question.forced,h1,Question.cut];rfl⟩
  obtain⟨i,e,h1,h2,h3⟩:=key c hc;refine⟨w1,fT,.inr ⟨i,e,h1,h2,?_⟩⟩;have sR:arr.filter (fun e=> !(gw arr idx).contains e.born)=left:=rfl;have lH:(getObj k).run P w=.ok (.mapIter (some m) clock (gw arr idx) clock) w:=by simp[getObj,Sem.run,hk]
  have fR:(getObj m).run P w=.ok (.map arr clock) w:=by simp[getObj,Sem.run,hm]
  have bI:w1.heap[k]?=some (.mapIter (some m) clock (gw arr idx) clock):=by rcases fT with rfl|rfl<;>exact hk
  have hg3:(setObj k (.mapIter (some m) clock ((gw arr idx).push e.born) clock)).run P w1=.ok () {w1 with heap:=w1.heap.setIfInBounds k (.mapIter (some m) clock ((gw arr idx).push e.born) clock)}:=by simp[setObj,Sem.run,bI]
  have aoA:((if false=true then #[none] else #[])++Array.map some (left++#[]):Array (Option MapEntry))=left.map some:=by simp
  have iX:(left.map some)[c]?=some (some e):=by simp[h3]
  have abo:∀(C5:Array (Option MapEntry)) (cc:Nat),(choose (.mapNext C5.size)).run P w=.ok cc w1→C5[cc]?=some (some e)→(do
        match C5[←choose (.mapNext C5.size)]? with
        |some (some e)=>
         setObj k (.mapIter (some m) clock ((gw arr idx).push e.born) clock)
         pure (.tuple #[.bool true,e.key,e.val])
        |some none=>(pure (.tuple #[.bool false]):Sem Value)
        |none=>stuck "Next: no such candidate" :Sem Value).run P w=.ok (.tuple #[.bool true,e.key,e.val]) {w1 with heap:=w1.heap.setIfInBounds k (.mapIter (some m) clock ((gw arr idx).push e.born) clock)}:=by
   intro C5 cc h4 h5;rw[Sem.run_bind,h4];simp only[Result.andThen_ok,h5];rw[Sem.run_bind,hg3];rfl
  rw[awc arr idx h1] at abo hg3;have:=abo (left.map some) c (by rw[Array.size_map];exact kR) iX;simp only[Instr.next];rw[Sem.run_bind,lH];simp only[Result.andThen_ok];rw[Sem.run_bind,fR];simp only[Result.andThen_ok,gU,sR,pM,DZ,hem];rw[aoA,if_neg (by decide)];exact this
theorem ama {P:Program}{w:World}{k m:Nat}{arr:Array MapEntry}{clock:Nat}{idx:List Nat}{i:Nat}{e:MapEntry}(hk:w.heap[k]?=some (.mapIter (some m) clock (gw arr (idx++[i])) clock))(hm:w.heap[m]?=some (.map arr clock))(hb:mP arr clock)(he:arr[i]?=some e):
 (Instr.entry (.pointer (some ⟨k,0,none⟩))).run P w=.ok (.tuple #[e.key,e.val]) w:=by
 have aou:(gw arr (idx++[i])).back?=some e.born:=by simp[gw,he]
 have D3:arr.find? (fun x=>x.born==e.born)=some e:=by
  have ar:i<arr.size:=(gO.1 he).1;have hei:arr[i]=e:=(gO.1 he).2;rw[Array.find?_eq_some_iff_getElem];refine⟨by simp,i,ar,hei,fun j hj=>?_⟩;have jW:j<arr.size:=by omega
  cases hc:(arr[j].born==e.born) with
  |false=>rfl
  |true=>
   have:=hb.2 j i arr[j] e (j9 jW) he (by simpa using hc);omega
 simp[Instr.entry,getObj,Sem.run_bind,Sem.run,hk,hm,aou,D3]
theorem asY {x y z:Code}{k:Nat}{p:MP}(h:Bj x y k z=some p):∃i1 i2 o1 o2 o3 l,x=.region i1 p.ops1 false∧y=.cond (.tmp p.mo) .skip (.exit p.out)∧z=.region i2 p.ops2 false∧p.next=k∧p.ops1.toList=[o1,o2]∧p.ops2.toList=o3::l∧
 o1.dst=some p.nx∧o1.guard=none∧o1.op=.next (.tmp p.it) false∧o2.dst=some p.mo∧o2.guard=none∧o2.op=.extract (.tmp p.nx) 0∧o3.dst=some p.pr∧o3.guard=none∧o3.op=.entry (.tmp p.it)∧lb p.pr l []=some p.aa∧
 p.it≠p.nx∧p.it≠p.mo∧p.it≠p.pr∧p.nx≠p.mo∧p.out≠cT∧k≠cT:=by
 unfold Bj at h;split at h
 case h_2=>cases h
 rename_i i1 ops1 mo out i2 ops2;split at h
 case h_2=>cases h
 rename_i o1 o2 o3 l e1 e2;split at h
 case h_2=>cases h
 rename_i nx it mo' nx' pr it' d1 g1 q1 d2 g2 q2 d3 g3 q3;rw[oW] at h;split at h
 case isFalse=>cases h
 rename_i hc;simp only[aR] at h;obtain⟨aa,h4,rfl⟩:=h;simp only[az,lu] at hc;obtain⟨⟨⟨⟨⟨⟨⟨⟨c1,c2⟩,c3⟩,c4⟩,c5⟩,c6⟩,c7⟩,c8⟩,c9⟩:=hc;have ne:∀{a b:Nat},Nat.beq a b=false→a≠b:=fun h e=>by subst e;simp at h
 obtain rfl:=aN c1;obtain rfl:=aN c2;obtain rfl:=aN c3;exact⟨i1,i2,o1,o2,o3,l,rfl,rfl,rfl,rfl,e1,e2,d1,g1,q1,d2,g2,q2,d3,g3,q3,h4,ne c4,ne c5,ne c6,ne c7,ne c8,ne c9⟩
theorem LI {pr:Nat}:∀(l:List Oper) {acc aa:List (Nat×Nat)},lb pr l acc=some aa→∀x,x∈acc→x∈aa
 |[],acc,aa,h,x,hx=>by simp only[lb,bx] at h;subst h;exact hx
 |o::l,acc,aa,h,x,hx=>by
  simp only[lb] at h;split at h
  case h_2=>cases h
  rw[oW] at h;split at h
  ·cases h
  split at h
  ·rw[oW] at h;split at h
   ·exact LI l h x (kc _ hx)
   ·cases h
  ·simp only[aG] at h;obtain⟨i,_,h⟩:=h;exact LI l h x (kc _ hx)
  ·simp only[aG] at h;obtain⟨i,_,h⟩:=h;exact LI l h x (kc _ hx)
  ·cases h
theorem ES:∀{l:List (Nat×Nat)} {t i:Nat},vb l t=some i→(t,i)∈l
 |x::l,t,i,h=>by
  simp only[vb] at h;cases hb:Nat.beq x.1 t<;>simp only[hb,cond_true,cond_false] at h
  ·exact fL _ (ES h)
  ·cases h;have:=aN hb;subst this;exact gd ..
theorem acS:∀{l:List (Nat×Nat)} {t:Nat},(vb l t).isSome=false→∀x,x∈l→x.1≠t
 |y::l,t,h,x,hx=>by
  simp only[vb] at h;cases hb:Nat.beq y.1 t<;>simp only[hb,cond_true,cond_false] at h
  ·rcases cW.1 hx with e|hx
   ·subst e;intro e;subst e;simp at hb
   ·exact acS h x hx
  ·cases h
theorem SS {pr:Nat}:∀(l:List Oper) {acc aa:List (Nat×Nat)},lb pr l acc=some aa→(∀x,x∈acc→x.2≤1)→∀x,x∈aa→x∈acc∨(x.2≤1∧∃o,o∈l∧o.dst=some x.1)
 |[],acc,aa,h,_,x,hx=>by simp only[lb,bx] at h;subst h;exact .inl hx
 |o::l,acc,aa,h,ha,x,hx=>by
  simp only[lb] at h;split at h
  case h_2=>cases h
  rename_i d hd m9;rw[oW] at h;split at h
  ·cases h
  have go:∀(pt:Nat),pt≤1→lb pr l (acc++[(d,pt)])=some aa→x∈acc∨(x.2≤1∧∃o',o'∈o::l∧o'.dst=some x.1):=by
   intro pt sT hp
   rcases SS l hp (fun y hy=>by
        rcases da.1 hy with h|h
        ·exact ha y h
        ·simp at h;subst h;exact sT) x hx with h|⟨h1,o',h2,h3⟩
   ·rcases da.1 h with h|h
    ·exact .inl h
    ·simp at h;subst h;exact .inr ⟨sT,o,gd ..,hd⟩
   ·exact .inr ⟨h1,o',fL _ h2,h3⟩
  split at h
  ·rw[oW] at h;split at h
   case isFalse=>cases h
   rename_i iX;simp only[az] at iX;exact go _ (l7 iX.2) h
  ·simp only[aG] at h;obtain⟨i,hi,h⟩:=h;exact go i (ha _ (ES hi)) h
  ·simp only[aG] at h;obtain⟨i,hi,h⟩:=h;exact go i (ha _ (ES hi)) h
  ·cases h
theorem Bt {P:Program}{ops:Array Oper}{i:Nat}{rest:List Nat}{o:Oper}{rd:Option Nat}{a:Act}{w w':World}{Q:Exit→Act→World→Prop}{v:Value}(ho:ops[i]?=some o)(hg:o.guard=none)(bX:rl o.op=true)(hx:(execOp a.eval o).run P w=.ok (.value v) w')
 (k:wpOpsIn (FR rd) 0 P ops Q rest (a.put o.dst v) w'):wpOpsIn (FR rd) 0 P ops Q (i::rest) a w:=by
 simp only[wpOpsIn,ho];rw[if_pos (by simp[Region.wanted,hg])];exact afK bX (by unfold Oper.wp;rw[hx];exact k)
theorem av6 {ops:Array Oper}{o:Oper}(ho:o∈ops.toList)(a:Act)(v:Value):SameBut (Ak ops) a (a.put o.dst v):=by
 have:=SameBut.put a o.dst v a.defers;exact this.mono fun t e=>⟨o,ho,e⟩
theorem Bz {a:Act}{d:Nat}{v:Value}(h:d<a.tmps.size):(a.put (some d) v).tmps.getD d undef=v:=by rw[GW];simp[h]
theorem LR {a:Act}{d t:Nat}{v:Value}(h:t≠d):(a.put (some d) v).tmps.getD t undef=a.tmps.getD t undef:=by rw[GW];simp[h]
theorem put_defers (a:Act)(d:Option Nat)(v:Value):(a.put d v).defers=a.defers:=by cases d<;>rfl
def E6 (kv vv:Value)(i:Nat):Value:=if i=0 then kv else vv
theorem afR {P:Program}{ops:Array Oper}{rd:Option Nat}{Q:Exit→Act→World→Prop}{pr:Nat}{kv vv:Value}{w:World}:∀(l:List Oper) (acc aa:List (Nat×Nat)) (i:Nat) (a:Act),lb pr l acc=some aa→ops.toList.drop i=l→(∀x,x∈aa→x.1<a.tmps.size)→a.tmps.getD pr undef=.tuple #[kv,vv]→
 (∀x,x∈acc→a.tmps.getD x.1 undef=E6 kv vv x.2)→(∀a',SameBut (Ak ops) a a'→a'.defers=a.defers→(∀x,x∈aa→a'.tmps.getD x.1 undef=E6 kv vv x.2)→Q .normal a' w)→wpOpsIn (FR rd) 0 P ops Q (List.range' i (ops.size-i)) a w
 |[],acc,aa,i,a,h,hl,ar,lL,DT,hQ=>by
  simp only[lb,bx] at h;subst h;have:ops.size-i=0:=by
    have:=YI.1 hl;simp at this;omega
  rw[this];exact hQ a (.refl _ _) rfl DT
 |o::l,acc,aa,i,a,h,hl,ar,lL,DT,hQ=>by
  have hi:i<ops.toList.length:=by
   refine YS fun hle=>?_;rw[YI.2 hle] at hl;cases hl
  rw[NR hi] at hl;have ho:ops[i]?=some o:=by
   have:ops.toList[i]=o:=by injection hl
   rw[←this];simp at hi ⊢
  have ix:ops.toList.drop (i+1)=l:=by injection hl
  have bp:ops.size-i=(ops.size-(i+1))+1:=by simp at hi;omega
  rw[bp,N1];have cJ:o∈ops.toList:=by simpa using oV ho
  simp only[lb] at h;split at h
  case h_2=>cases h
  rename_i d hd m9;rw[oW] at h;split at h
  ·cases h
  rename_i hc;simp only[lY,not_or,Bool.not_eq_true] at hc;have w9:pr≠d:=fun e=>by subst e;simp at hc
  have hda:∀x,x∈acc→x.1≠d:=acS hc.2;have go:∀(pt:Nat) (v:Value),lb pr l (acc++[(d,pt)])=some aa→rl o.op=true→v=E6 kv vv pt→(execOp a.eval o).run P w=.ok (.value v) w→wpOpsIn (FR rd) 0 P ops Q (i::List.range' (i+1) (ops.size-(i+1))) a w:=by
   intro pt v hp bX hv hx;have Qh:d<a.tmps.size:=ar _ (LI l hp (d,pt) (by simp));refine Bt ho m9 bX hx ?_;have kr:=av6 cJ a v;rw[hd] at kr ⊢;refine afR l _ aa (i+1) _ hp ix (fun x hx=>by rw[kr.size];exact ar x hx) (by rw[LR w9];exact lL) (fun x hx=>?_) (fun a' h1 h2 h3=>hQ a' (kr.trans h1) (h2.trans (put_defers _ _ _)) h3);rcases da.1 hx with hx|hx
   ·rw[LR (hda x hx)];exact DT x hx
   ·simp at hx;subst hx;rw[Bz Qh];exact hv
  split at h
  ·rename_i t pt e;rw[oW] at h;split at h
   case isFalse=>cases h
   rename_i iX;simp only[az] at iX;have ht:=aN iX.1;have sT:=l7 iX.2;subst ht;have cf:a.eval (.tmp t)=.tuple #[kv,vv]:=by simpa [Act.eval] using lL
   refine go pt (E6 kv vv pt) h (by rw[e];rfl) rfl ?_;rcases(by omega:pt=0∨pt=1) with rfl|rfl<;>simp[execOp,e,cf,Instr.extract,E6]
  ·rename_i t e;simp only[aG] at h;obtain⟨pt,sR,h⟩:=h;have:=DT _ (ES sR);exact go pt (a.eval (.tmp t)) h (by rw[e];rfl) (by simpa [Act.eval] using this) (by simp[execOp,e])
  ·rename_i t e;simp only[aG] at h;obtain⟨pt,sR,h⟩:=h;have:=DT _ (ES sR);exact go pt (a.eval (.tmp t)) h (by rw[e];rfl) (by simpa [Act.eval] using this) (by simp[execOp,e])
  ·cases h
theorem Rn (ids:List Nat)(J j:Nat)(S:Snap):((S.kill ids J).st ids).o j=if j=J then .dead else(S.st ids).o j:=by
 show eD ids (xC ids J S.os) j=_;have:∀(is:List Nat) (os:List Ob),eD is (xC is J os) j=if j=J then .dead else eD is os j:=by
  intro is
  induction is with
  |nil=>intro os;simp[xC,eD]
  |cons i is ih=>
   intro os;cases os with
   |nil=>simp[xC,eD]
   |cons o os=>
    simp only[xC,eD];cases hb:Nat.beq i j
    ·simp only[cond_false];exact ih os
    ·have:=aN hb;subst this;simp only[cond_true];by_cases pQ:i=J
     ·subst pQ;simp
     ·simp[gA pQ,pQ]
 exact this ids S.os
theorem Zv {N:Nat}{id:Nat}(Ki:id≠cT){rm:Bool}{wr:Nat→Prop}{a:Act}{q:Res2}{x xi:Out}(qZ:(∀t,t∈q.pc.modR→aV q.mr t=true)∧∀j,j∈q.pc.modO→j∈q.mo)(dL:q.pc.ev Φ N ρ=some xi)(cf:(gC ids id q).pc.ev Φ N ρ=some x){e:Exit}{a':Act}{w':World}
 (gG:gQ C w0 σ0 ids fn s rm wr a q.out q.ex xi e a' w'):Exit.inBlock id (gQ C w0 σ0 ids fn s rm wr a (gC ids id q).out (gC ids id q).ex x) e a' w':=by
 have abg:∀cg S1,(cg,S1)∈q.ex→cg≠id→(cg,S1)∈q.ex.filter fun x=> !Nat.beq x.1 id:=fun cg S1 hm aA=>ei.2 ⟨hm,by simp[gA aA]⟩;have main:∀(o:Option Snap) (lr lo:List Nat),oA id q.ex q.out=o→(∀M,o=some M→lr=kA M q.mr∧lo=jx ids M q.mo)→(PC.block id lr lo q.pc).ev Φ N ρ=some x→
        Exit.inBlock id (gQ C w0 σ0 ids fn s rm wr a o (q.ex.filter fun x=> !Nat.beq x.1 id) x) e a' w':=by
  intro o lr lo ho hl cf;simp only[PC.ev] at cf;rw[dL] at cf
  have fin:∀{ρ1:Env} {a':Act} {w':World},(∃M,o=some M∧Good C w0 σ0 (M.st ids) ρ1 (fun _=>False) a' w')→xi.env?=some ρ1→x=.next (ρ.join lr lo ρ1)→SameBut wr a a'→
   gQ C w0 σ0 ids fn s rm wr a o (q.ex.filter fun x=> !Nat.beq x.1 id) x .normal a' w':=by
        intro ρ1 a' w' hM xb hx eY;obtain⟨M,hM,sM⟩:=hM;obtain⟨l1,l2⟩:=hl M hM;subst l1 l2;exact⟨_,M,hx,hM,eY,sM.joined (PC.ev_but q.pc ρ _ ρ1 dL xb) qZ.1 qZ.2⟩
  cases e with
  |normal=>
   obtain⟨ρ1,S2,e1,e2,eY,fR⟩:=gG;subst e1;simp only[bx] at cf;refine fin ?_ rfl cf.symm eY;rw[e2] at ho;obtain⟨M,h1,h2⟩:=K0 (id:=id) q.ex fR;rw[ho] at h1;exact⟨M,h1,h2⟩
  |exit cg=>
   obtain⟨ρ1,S2,e1,e0,e2,eY,fR⟩:=gG;subst e1;simp only at cf;show if cg=id then _ else _;by_cases cM:cg=id
   ·subst cM;simp only[mT,cond_true,bx] at cf;simp only[if_true];refine fin ?_ rfl cf.symm eY;rw[←ho];exact RB fR q.ex q.out e2
   ·simp only[gA cM,cond_false,bx] at cf;subst cf;simp only[cM,if_false];exact⟨ρ1,S2,rfl,e0,abg _ _ e2 cM,eY,fR⟩
  |ret=>
   cases rm with
   |false=>
    have hy:=gG;obtain⟨d,e1,_⟩:=hy;subst e1;simp only[bx] at cf;subst cf;exact gG
   |true=>
    obtain⟨ρ1,S2,e1,e2,eY,fR⟩:=gG;subst e1;simp only[gA (fun e=>Ki e.symm:cT≠id),cond_false,bx] at cf;subst cf;exact⟨ρ1,S2,rfl,abg _ _ e2 (fun e=>Ki e.symm),eY,fR⟩
  |_=>exact gG.elim
 unfold gC at cf ⊢;cases hm:oA id q.ex q.out with
 |none=>
  simp only[hm] at cf ⊢;exact main none [] [] hm (fun M e=>by cases e) cf
 |some M=>
  simp only[hm] at cf ⊢;exact main (some M) _ _ hm (fun M' e=>by cases e;exact⟨rfl,rfl⟩) cf
theorem Zt {N id:Nat}{q:Res2}{x:Out}(cf:(gC ids id q).pc.ev Φ N ρ=some x):∃xi,q.pc.ev Φ N ρ=some xi:=by
 unfold gC at cf;cases hm:oA id q.ex q.out<;>simp only[hm,PC.ev] at cf<;>cases dL:q.pc.ev Φ N ρ<;>first|exact⟨_,rfl⟩|(rw[dL] at cf;cases cf)
theorem ahB {es:List (D×D)}{idx:List Nat}(hn:idx.Nodup)(ar:∀i,i∈idx→i<es.length)(bn:∀i,i<es.length→i∈idx):(gL es idx).Perm (iN (.map es)):=by
 have h1:idx.Perm (List.range es.length):=by
  rw[List.perm_ext_iff_of_nodup hn YP];intro i;rw[gf];exact⟨ar i,bn i⟩
 have h2:gL es (List.range es.length)=iN (.map es):=by
  refine NS (by simp[gL,iN,D.m]) fun i g1 g2=>?_;have hi:i<es.length:=by simpa [gL] using g1
  simp[gL,iN,D.m,cl hi]
 rw[←h2];exact h1.map _
theorem awd {es:List (D×D)}{idx:List Nat}(hn:idx.Nodup)(ar:∀i,i∈idx→i<es.length):∃rest,(gL es idx++rest).Perm (iN (.map es)):=by
 refine⟨gL es ((List.range es.length).filter fun i=> !idx.contains i),?_⟩;have e:gL es idx++gL es ((List.range es.length).filter fun i=> !idx.contains i)=gL es (idx++(List.range es.length).filter fun i=> !idx.contains i):=by simp[gL]
 rw[e];refine ahB ?_ (fun i hi=>?_) (fun i hi=>?_)
 ·rw[Cs];refine⟨hn,YP.filter _,fun a ha b hb e=>?_⟩;subst e;have:=(ei.1 hb).2;simp[ha] at this
 ·rcases da.1 hi with h|h
  ·exact ar i h
  ·exact gf.1 (ei.1 h).1
 ·by_cases h:i∈idx
  ·exact kc _ h
  ·exact kK _ (ei.2 ⟨gf.2 hi,by simp[h]⟩)
theorem ahC (es:List (D×D))(idx:List Nat){i:Nat}{p:D×D}(h:es[i]?=some p):gL es (idx++[i])=gL es idx++[.tup [p.1,p.2]]:=by simp[gL,h]
theorem as0 {N:Nat}{x y z code:Code}{k:Nat}{p:MP}(hp:Bj x y k z=some p)(ihc:vZ C Φ fn s n ids R N code){rm:Bool}{S:Snap}{r:Res2}
 (hr:Bk ids n p (cQ x++(cQ y++(cQ z++cQ code))) (fun S=>comp C fn s n ids R rm code S) S=some r) {rd:Option Nat} {wr:Nat→Prop} {x0:Out} (gH:rm=false→rd=none∧σ0.fin) (hC:CtxOK C σ0) (hY:sl C Φ w0 σ0)
 (iJ:∀t,t∈cQ (.loop (.seq x (.seq y (.block k (.seq z code)))))→wr t) (hn:a.tmps.size=n) (hg:Good C w0 σ0 (S.st ids) ρ (fun _=>False) a w) (he:r.pc.ev Φ N ρ=some x0):
 (Code.loop (.seq x (.seq y (.block k (.seq z code))))).wpIn (FR rd) 0 C.P (gQ C w0 σ0 ids fn s rm wr a r.out r.ex x0) a w:=by
 obtain⟨i1,i2,o1,o2,o3,l,rfl,rfl,rfl,hk,e1,e2,d1,g1,q1,d2,g2,q2,d3,g3,q3,nj,n1,n2,n3,n4,n5,n6⟩:=asY hp;subst hk;unfold Bk at hr;split at hr
 case h_2=>cases hr;exact absurd he (mL _ _ _ _)
 rename_i J hJ;split at hr
 case h_2=>cases hr;exact absurd he (mL _ _ _ _)
 rename_i kt et Ko;simp only at hr;split at hr
 case h_2=>cases hr;exact absurd he (mL _ _ _ _)
 rename_i q hq;rw[oW] at hr;split at hr
 case isFalse=>cases hr;exact absurd he (mL _ _ _ _)
 rename_i w7;cases hr;generalize KL:cQ (.region i1 p.ops1 false)++(cQ (.cond (.tmp p.mo) .skip (.exit p.out))++(cQ (.region i2 p.ops2 false)++cQ code))=ws at*;simp only[az,lu] at w7;obtain⟨⟨⟨⟨⟨⟨⟨⟨c1,c2⟩,c3⟩,c4⟩,c5⟩,c6⟩,c7⟩,c8⟩,c9⟩:=w7;have hex:q.2.ex=[]:=YN.1 c1;have aaD:J∉q.2.mo:=fun h=>by rw[(rj _ _).2 h] at c2;cases c2
 simp only[acy,az,lu] at c3;obtain⟨⟨c3a,c3b⟩,c3c⟩:=c3;have ap9:q.1.rs.getD p.it .none=.obj J 0:=Sh.beq_eq _ _ c3a;have Kz:eD ids q.1.os J=.it kt et:=Ob.beq_eq _ _ c3b;have ap2:∀t,t∈p.aa.map (·.1)→t<n:=fun t ht=>by have:=fl.1 c5 t ht;rwa [qC] at this
 have AV:p.nx<n:=by rwa [qC] at c6
 have QA:p.mo<n:=by rwa [qC] at c7
 have lL:p.pr<n:=by rwa [qC] at c8
 have Ee:=aN c9;obtain⟨hs,AJ,bU⟩:=EL (C:=C) (w0:=w0) (σ0:=σ0) (ids:=ids) 8 hq;simp only[aR] at hs;obtain⟨q0,A1,ju⟩:=hs;obtain⟨qS,qR⟩:=q;simp only at*;subst ju;generalize hm:xJ ws=m at*;generalize xc:jx ids qS (gC ids p.next q0).mo=lo at*;have QC:=Zu (ids:=ids) (id:=p.next) (um code A1);have apo:∀j,j∈lo→j∈(gC ids p.next q0).mo:=fun j hj=>by rw[←xc] at hj;exact Bl hj
 have aFi:J∉lo:=fun h=>aaD (apo J h);have En:∃Cb,LL ((gC ids p.next q0).pc.ev Φ N) ρ J (p.aa.map (·.1)) (p.aa.map (·.2)) lo Cb∧x0=.exit p.out (ρ.put [] [] lo Cb):=by
  simp only[PC.ev] at he;cases lL:LM ((gC ids p.next q0).pc.ev Φ N) ρ J (p.aa.map (·.1)) (p.aa.map (·.2)) lo with
  |none=>rw[lL] at he;cases he
  |some y=>
   obtain⟨Cb,h1,rfl⟩:=Bx.1 lL;rw[lL] at he;simp only[bx] at he;exact⟨Cb,h1,he.symm⟩
 obtain⟨Cb,⟨AX,aok⟩,hx0⟩:=En;generalize lG:(ρ.o J).tget 1=es at*
 have fT:∀o,o∈p.ops1.toList→∀d,o.dst=some d→d∈ws:=fun o ho d hd=>by
  rw[←KL];exact kc _ (yP.2 ⟨o,ho,hd⟩)
 have cd:∀o,o∈p.ops2.toList→∀d,o.dst=some d→d∈ws:=fun o ho d hd=>by
  rw[←KL];exact kK _ (kK _ (kc _ (yP.2 ⟨o,ho,hd⟩)))
 have hwc:∀d,d∈cQ code→d∈ws:=fun d hd=>by
  rw[←KL];exact kK _ (kK _ (kK _ hd))
 have Rf:∀t,t∈ws→wr t:=fun t ht=>iJ t (by rw[←KL] at ht;exact ht);have sW:∀t,t∈ws→aV m t=true:=fun t ht=>by rw[←hm];exact Zs ht
 have Qz:∀t,aV m t=true→((qS.mask m).st ids).r t=.none:=fun t ht=>by rw[ET,if_pos ht]
 have apv:∀t,isNone (((qS.mask m).st ids).r t)=false→aV m t=false:=fun t ht=>by
  cases hb:aV m t with
  |false=>rfl
  |true=>rw[Qz t hb] at ht;cases ht
 have A5:((qS.mask m).st ids).r p.it=.obj J 0:=by
  rw[ET,c3c];show cP (qS.rs.getD p.it .none)=_;rw[ap9];rfl
 have de:((qS.mask m).st ids).o J=.it kt et:=Kz;have jY:p.ops1[0]?=some o1:=by rw[←Cg,e1];rfl
 have fH:p.ops1[1]?=some o2:=by rw[←Cg,e1];rfl
 have ho3:p.ops2[0]?=some o3:=by rw[←Cg,e2];rfl
 have aqt:List.range p.ops1.size=[0,1]:=by
  have:p.ops1.size=2:=by rw[←Ch,e1];rfl
  rw[this];rfl
 have KH:List.range p.ops2.size=0::List.range' 1 (p.ops2.size-1):=by
  have:p.ops2.size=l.length+1:=by rw[←Ch,e2];rfl
  rw[this,N2,N1];rfl
 have key:∀(kk:Nat) (done vo:List D) (a':Act) (w':World),SameBut wr a a'→Good C w0 σ0 ((qS.mask m).st ids) ((ρ.put [] [] lo vo).setO J (.tup [.list done,es])) (fun _=>False) a' w'→
  (∀ys,(done++ys).Perm (iN es)→oD ((gC ids p.next q0).pc.ev Φ N) ρ J es (p.aa.map (·.1)) (p.aa.map (·.2)) lo ys done vo=some Cb)→done.length+kk=(iN es).length+1→
  Code.roundsIn (FR rd) 0 C.P (.seq (.region i1 p.ops1 false) (.seq (.cond (.tmp p.mo) .skip (.exit p.out)) (.block p.next (.seq (.region i2 p.ops2 false) code)))) (gQ C w0 σ0 ids fn s rm wr a none [(p.out,(qS.mask m).kill ids J)] x0) kk a' w':=by
  intro kk
  induction kk with
  |zero=>
   intro done vo a' w' _ fF _ hlen;exfalso;obtain⟨σ,own,hv,h⟩:=fF;have bG:=h.objs J;rw[de] at bG;obtain⟨kb,mb,arr,clock,gD,idx,h1,h2,h3,aA,h4,h5,h6,h7,h8,h9,lD,oa⟩:=bG;simp only[Env.setO,be] at h6;injection h6 with h6;injection h6 with wT wU;injection wU with wU _;injection wT with wT;subst wT;subst wU;have hle:idx.length≤arr.size:=by
        have:=List.Nodup.length_le_of_subset h7 (l₂:=List.range arr.size) (fun i hi=>gf.2 (h8 i hi));simpa using this
   simp[gL,iN,D.m] at hlen;omega
  |succ kk ih=>
   intro done vo a' w' kr fF bn hlen;rw[roundsIn_succ];obtain⟨σ,own,hv,h⟩:=fF;have bG:=h.objs J;rw[de] at bG;obtain⟨kb,mb,arr,clock,gD,idx,h1,h2,h3,aA,h4,h5,h6,h7,h8,h9,lD,oa⟩:=bG;simp only[Env.setO,be] at h6;injection h6 with h6;injection h6 with wT wU;injection wU with wU _;injection wT with wT;subst wT;subst wU;have pZ:=h.regs p.it;rw[A5] at pZ;have Kj:a'.eval (.tmp p.it)=.pointer (some ⟨kb,0,none⟩):=by
        have:=pZ.2 rfl;simp only[Act.eval];rw[this];exact h1
   have uS:a'.tmps.size=n:=kr.size.trans hn;obtain⟨w1,acj,Ky⟩:=att (P:=C.P) h5 h4 lD h8 o1.type;have EC:Below w'.heap.size w' w1:=by rcases acj with rfl|rfl;exact .refl _ _;exact⟨rfl,rfl,rfl,bK _,fun _ _=>rfl⟩
   have Bc:w1.heap=w'.heap:=by rcases acj with rfl|rfl<;>rfl
   have hkl:kb<w'.heap.size:=(h.owns kb J h2).2.1;have pS:mb<w'.heap.size:=(h.owns mb J h3).2.1;refine wpIn_seq (wpIn_region ?_);rw[aqt];rcases Ky with⟨Qo,ay⟩|⟨i,e,uF,D7,ay⟩
   ·
        refine Bt jY g1 (by rw[q1];rfl) (v:=.tuple #[.bool false]) (w':=w1) (by simp only[execOp,q1,Kj];simp[ay]) ?_;rw[d1]
        refine Bt fH g2 (by rw[q2];rfl) (v:=.bool false) (w':=w1) (by
         have:(a'.put (some p.nx) (.tuple #[.bool false])).eval (.tmp p.nx)=.tuple #[.bool false]:=by simp only[Act.eval];exact Bz (by omega)
         simp only[execOp,q2,this];simp[Instr.extract]) ?_
        rw[d2];simp only[wpOpsIn]
        have xl:SameBut (fun t=>t∈ws) a' ((a'.put (some p.nx) (.tuple #[.bool false])).put (some p.mo) (.bool false)):=by
         have s1:=SameBut.put a' (some p.nx) (.tuple #[.bool false]) a'.defers;have s2:=SameBut.put (a'.put (some p.nx) (.tuple #[.bool false])) (some p.mo) (.bool false) (a'.put (some p.nx) (.tuple #[.bool false])).defers;exact(s1.mono fun t e=>by cases e;exact fT o1 (by rw[e1];simp) _ d1).trans (s2.mono fun t e=>by cases e;exact fT o2 (by rw[e1];simp) _ d2)
        generalize wX:(a'.put (some p.nx) (.tuple #[.bool false])).put (some p.mo) (.bool false)=a1 at xl;have QB:a1.eval (.tmp p.mo)=.bool false:=by
         rw[←wX];simp only[Act.eval];exact Bz (by rw[size_put];omega)
        have oe:a1.defers=a'.defers:=by rw[←wX,put_defers,put_defers]
        refine wpIn_seq (wpIn_cond_false QB (wpIn_exit ?_));have apX:(gL gD idx++[]).Perm (iN (.map gD)):=by
         rw[rW];exact ahB h7 (fun i hi=>by rw[h9];exact h8 i hi) (fun i hi=>Qo i (by omega))
        have aci:=bn [] apX;simp only[oD,bx] at aci;subst aci;refine⟨_,_,hx0,n5,NY.2 rfl,kr.trans (xl.mono Rf),?_⟩;refine⟨σ,own,hv,?_⟩
        refine h.step (S':=((qS.mask m).kill ids J).st ids) (ρ':=ρ.put [] [] lo vo) (A':=fun _=>False) (fun j=>j=J) oe (.refl σ) (h.ok.below EC) (fun _ _ _ hx=>.inl hx) (fun _ _ hx=>.inl hx) (EC.mono h.below.size) ⟨fun _=>bK _,fun _ _=>rfl⟩
         (fun j hj=>⟨by rw[Rn,if_neg hj],by simp[Env.setO,bR _ _ hj],rfl,fun b hb=>⟨hb,by rw[Bc]⟩⟩) (fun j hj=>?_) (fun b j hb=>?_) (fun _=>id) (fun t=>?_) (fun _ hf=>hf.elim) (fun b hb _=>by rw[Bc]) (fun b j hb=>.inl ⟨j,hb⟩) (fun j hj=>?_)
        ·rw[Rn,if_pos hj];trivial
        ·obtain⟨b1,b2,b3,b4⟩:=h.owns b j hb;exact⟨b1,by rw[Bc];exact b2,b3,b4⟩
        ·by_cases ht:t∈ws
         ·refine .inr ⟨?_,fun gs s' e=>absurd e (Snap.noOpt _ _ t gs s')⟩;have:(((qS.mask m).kill ids J).st ids).r t=.none:=Qz t (sW t ht);rw[this];trivial
         ·exact .inl ⟨rfl,xl.get t ht,rfl⟩
        ·rw[Rn,if_pos hj];intro e;cases e
   ·
        obtain⟨pd,QL⟩:∃pd,gD[i]?=some pd:=⟨_,cl (by rw[h9];exact(gO.1 uF).1)⟩
        obtain⟨bI,cY⟩:=oa i e pd uF QL;generalize Bd:({w1 with heap:=w1.heap.setIfInBounds kb (.mapIter (some mb) clock (gw arr (idx++[i])) clock)}:World)=w2 at ay;have ack:w2.heap[kb]?=some (.mapIter (some mb) clock (gw arr (idx++[i])) clock):=by rw[←Bd];simp[Bc,hkl]
        have Be:∀b,b≠kb→w2.heap[b]?=w'.heap[b]?:=fun b hb=>by rw[←Bd];simp only[Bc];rw[Yx (yR hb)]
        have aFO:w2.heap.size=w'.heap.size:=by rw[←Bd];simp[Bc]
        have acm:w2.heap[mb]?=some (.map arr clock):=by rw[Be mb (yR aA)];exact h4
        refine Bt jY g1 (by rw[q1];rfl) (v:=.tuple #[.bool true,e.key,e.val]) (w':=w2) (by simp only[execOp,q1,Kj];simp[ay]) ?_;rw[d1]
        refine Bt fH g2 (by rw[q2];rfl) (v:=.bool true) (w':=w2) (by
         have:(a'.put (some p.nx) (.tuple #[.bool true,e.key,e.val])).eval (.tmp p.nx)=.tuple #[.bool true,e.key,e.val]:=by simp only[Act.eval];exact Bz (by omega)
         simp only[execOp,q2,this];simp[Instr.extract]) ?_
        rw[d2];simp only[wpOpsIn]
        have xl:SameBut (fun t=>t∈ws) a' ((a'.put (some p.nx) (.tuple #[.bool true,e.key,e.val])).put (some p.mo) (.bool true)):=by
         have s1:=SameBut.put a' (some p.nx) (.tuple #[.bool true,e.key,e.val]) a'.defers;have s2:=SameBut.put (a'.put (some p.nx) (.tuple #[.bool true,e.key,e.val])) (some p.mo) (.bool true) (a'.put (some p.nx) (.tuple #[.bool true,e.key,e.val])).defers;exact(s1.mono fun t e=>by cases e;exact fT o1 (by rw[e1];simp) _ d1).trans (s2.mono fun t e=>by cases e;exact fT o2 (by rw[e1];simp) _ d2)
        have aby:(((a'.put (some p.nx) (.tuple #[.bool true,e.key,e.val])).put (some p.mo) (.bool true))).eval (.tmp p.it)=.pointer (some ⟨kb,0,none⟩):=by
         simp only[Act.eval] at Kj ⊢;rw[LR n2,LR n1];exact Kj
        generalize wX:(a'.put (some p.nx) (.tuple #[.bool true,e.key,e.val])).put (some p.mo) (.bool true)=a1 at xl aby
        have QB:a1.eval (.tmp p.mo)=.bool true:=by
         rw[←wX];simp only[Act.eval];exact Bz (by rw[size_put];omega)
        have oe:a1.defers=a'.defers:=by rw[←wX,put_defers,put_defers]
        refine wpIn_seq (wpIn_cond_true QB (wpIn_skip ?_));refine wpIn_block (wpIn_seq (wpIn_region ?_));rw[KH];refine Bt ho3 g3 (by rw[q3];rfl) (v:=.tuple #[e.key,e.val]) (w':=w2) (by simp only[execOp,q3,aby];simp[ama ack acm lD uF]) ?_;rw[d3]
        have KF:SameBut (fun t=>t∈ws) a1 (a1.put (some p.pr) (.tuple #[e.key,e.val])):=
         (SameBut.put a1 (some p.pr) (.tuple #[e.key,e.val]) a1.defers).mono fun t e=>by cases e;exact cd o3 (by rw[e2];simp) _ d3
        have ab8:a1.tmps.size=n:=xl.size.trans uS;refine afR (kv:=e.key) (vv:=e.val) l [] p.aa 1 _ nj (by rw[e2];rfl) (fun x hx=>by rw[KF.size,ab8];exact ap2 _ (dH.2 ⟨x,hx,rfl⟩)) (Bz (by rw[ab8];exact lL)) (fun x hx=>by cases hx) (fun a2 eY dy apU=>?_);have QX:SameBut (fun t=>t∈ws) a' a2:=(xl.trans KF).trans (eY.mono fun t ⟨o,ho,hd⟩=>cd o ho t hd);have aoJ:a2.defers=a'.defers:=by rw[dy,put_defers,oe]
        have aqq:Good C w0 σ0 (((qS.mask m).start (p.aa.map (·.1)) (p.aa.map fun x=>bif Nat.beq x.2 0 then kt else et)).st ids) ((ρ.put (p.aa.map (·.1)) ((p.aa.map (·.2)).map (D.tup [pd.1,pd.2]).tget) lo vo).setO J (.tup [.list (gL gD idx++[.tup [pd.1,pd.2]]),.map gD])) (fun _=>False) a2 w2:=by
         have hbw:Below w0.heap.size w' w2:=⟨by rw[←Bd];exact EC.os,by rw[←Bd];exact EC.tape,by rw[←Bd];exact EC.output,by omega,fun b hb=>Be b (fun e=>by subst e;have:=(h.owns b J h2).1;omega)⟩
         have jZ:σ.ok w2:=by
          refine⟨fun b o v hc=>?_,fun b es hc=>?_⟩
          ·have P8:b≠kb:=fun e=>by subst e;rw[(h.owns b J h2).2.2.1 o] at hc;cases hc
           have:=h.ok.c b o v hc;simp only[World.cell?] at this ⊢;rw[Be b P8];exact this
          ·have P8:b≠kb:=fun e=>by subst e;rw[(h.owns b J h2).2.2.2] at hc;cases hc
           exact(h.ok.m b es hc).keep (Be b P8)
         have gG:∀j,((ρ.put (p.aa.map (·.1)) ((p.aa.map (·.2)).map (D.tup [pd.1,pd.2]).tget) lo vo).setO J (.tup [.list (gL gD idx++[.tup [pd.1,pd.2]]),.map gD])).o j=if j=J then .tup [.list (gL gD idx++[.tup [pd.1,pd.2]]),.map gD] else putL ρ.o lo vo j:=fun j=>by
          simp only[Env.setO,gN];rfl
         refine⟨σ,own,hv,h.step (fun j=>j=J) aoJ (.refl σ) jZ (fun _ _ _ hx=>.inl hx) (fun _ _ hx=>.inl hx) hbw ⟨fun _=>bK _,fun _ _=>rfl⟩
          (fun j hj=>⟨rfl,by rw[gG,if_neg hj];simp[Env.setO,bR _ _ hj,Env.put],rfl,fun b hb=>⟨hb,Be b (fun e=>by subst e;rw[h2] at hb;cases hb;exact hj rfl)⟩⟩) (fun j hj=>?_) (fun b j hb=>?_) (fun _=>id) (fun t=>?_) (fun _ hf=>hf.elim)
          (fun b hb ho=>Be b (fun e=>by subst e;rw[h2] at ho;cases ho)) (fun b j hb=>.inl ⟨j,hb⟩) (fun j hj=>?_)⟩
         ·subst hj;have:(((qS.mask m).start (p.aa.map (·.1)) (p.aa.map fun x=>bif Nat.beq x.2 0 then kt else et)).st ids).o j=.it kt et:=Kz;rw[this];refine⟨kb,mb,arr,clock,gD,idx++[i],h1,h2,h3,aA,acm,ack,by rw[gG,if_pos rfl,ahC gD idx QL],?_,?_,h9,lD,oa⟩
          ·rw[Cs];exact⟨h7,by simp,fun a ha b hb e=>by simp at hb;subst hb;subst e;exact D7 ha⟩
          ·intro i' eN;rcases da.1 eN with h|h
           ·exact h8 i' h
           ·simp at h;subst h;exact(gO.1 uF).1
         ·obtain⟨b1,b2,b3,b4⟩:=h.owns b j hb;exact⟨b1,by omega,b3,b4⟩
         ·have hc:Compat ((qS.mask m).st ids) hv (((qS.mask m).start (p.aa.map (·.1)) (p.aa.map fun x=>bif Nat.beq x.2 0 then kt else et)).st ids) hv:=⟨fun _=>bK _,fun _ _=>rfl⟩
          refine .inr ⟨?_,fun gs s' e=>absurd e (Snap.noOpt _ _ t gs s')⟩;show bf C _ _ σ hv (cP ((rD (p.aa.map (·.1)) (p.aa.map fun x=>bif Nat.beq x.2 0 then kt else et) ((qS.mask m).rs.map sO)).getD t .none)) (a2.tmps.getD t undef) (putL ρ.r (p.aa.map (·.1)) ((p.aa.map (·.2)).map (D.tup [pd.1,pd.2]).tget) t);rcases U1 (p.aa.map (·.1)) (p.aa.map fun x=>bif Nat.beq x.2 0 then kt else et) ((qS.mask m).rs.map sO) (by simp) c4 t with e|⟨Al,uq⟩|⟨i',y,Al,uq,Pt⟩
          ·rw[e];trivial
          ·rw[uq,By _ _ _ _ Al];have e3:((qS.mask m).rs.map sO).getD t .none=sO ((qS.mask m).rs.getD t .none):=by
            simp only[bh,dG];cases(qS.mask m).rs[t]?<;>rfl
           rw[e3];by_cases htw:t∈ws
           ·have AU:=Qz t (sW t htw);change cP ((qS.mask m).rs.getD t .none)=.none at AU;generalize (qS.mask m).rs.getD t .none=s' at AU;cases s'<;>simp[cP] at AU<;>trivial
           ·have hr:=h.regs t;change bf C _ _ σ hv (cP ((qS.mask m).rs.getD t .none)) _ (ρ.r t) at hr;rw[QX.get t htw];generalize (qS.mask m).rs.getD t .none=s' at hr;cases s' with
            |yv=>trivial
            |opt gs s=>trivial
            |none=>trivial
            |fclo f c=>exact bf.mono' (.refl σ) hc (fun _ _ e=>by cases e) hr
            |dat t=>exact hr
            |obj j v=>exact bf.mono' (.refl σ) hc (fun _ _ e=>by cases e) hr
            |ptr j v o=>exact bf.mono' (.refl σ) hc (fun _ _ e=>by cases e) hr
            |eptr j v o q=>exact bf.mono' (.refl σ) hc (fun _ _ e=>by cases e) hr
          ·rw[Pt];have ao3:i'<p.aa.length:=by have:=(jh.1 Al).1;simpa using this
           rw[S6 _ (p.aa.map (·.1)) _ i' t (tj c4) (by simp) Al];obtain⟨xa,kV⟩:∃xa,p.aa[i']?=some xa:=⟨_,cl ao3⟩
           simp only[dG,kV,ly,bx] at Al uq;subst Al;subst uq;rw[apU xa (ud kV)];have hd:((p.aa.map (·.2)).map (D.tup [pd.1,pd.2]).tget).getD i' .none=(D.tup [pd.1,pd.2]).tget xa.2:=by simp[bh,kV]
           rw[hd];have h2x:xa.2≤1:=by
            rcases SS l nj (fun x hx=>by cases hx) xa (ud kV) with h|h
            ·cases h
            ·exact h.1
           rcases(by omega:xa.2=0∨xa.2=1) with e0|e0<;>rw[e0]
           ·exact bI
           ·exact cY
         ·have:(((qS.mask m).start (p.aa.map (·.1)) (p.aa.map fun x=>bif Nat.beq x.2 0 then kt else et)).st ids).o j=.it kt et:=by rw[hj];exact Kz
          rw[this];intro e;cases e
        have apW:=ahC gD idx QL;obtain⟨rest,uN⟩:∃rest,(gL gD idx++(D.tup [pd.1,pd.2])::rest).Perm (iN (.map gD)):=by
         obtain⟨rest,hr⟩:=awd (es:=gD) (idx:=idx++[i]) (by rw[Cs];exact⟨h7,by simp,fun a ha b hb e=>by simp at hb;subst hb;subst e;exact D7 ha⟩) (fun i' eN=>by
          rcases da.1 eN with h|h
          ·rw[h9];exact h8 i' h
          ·simp at h;subst h;rw[h9];exact(gO.1 uF).1)
         rw[apW] at hr;exact⟨rest,by simpa using hr⟩
        have jU:=bn _ uN;simp only[oD] at jU;split at jU
        case h_2=>cases jU
        rename_i ρ2 Ka;obtain⟨xi,dL⟩:=Zt Ka;refine wpIn_mono (ihc rm _ q0 A1 rd w0 σ0 wr _ xi a2 w2 gH hC hY (fun t ht=>Rf t (hwc t ht)) (QX.size.trans uS) aqq dL) fun ee a3 w3 gG=>?_;have pY:=Zv n6 (um code A1) dL Ka gG;have conv:∀ee a3 w3,gQ C w0 σ0 ids fn s rm wr a2 (gC ids p.next q0).out (gC ids p.next q0).ex (.next ρ2) ee a3 w3→Exit.then (Code.roundsIn (FR rd) 0 C.P (.seq (.region i1 p.ops1 false) (.seq (.cond (.tmp p.mo) .skip (.exit p.out)) (.block p.next (.seq (.region i2 p.ops2 false) code)))) (gQ C w0 σ0 ids fn s rm wr a none [(p.out,(qS.mask m).kill ids J)] x0) kk) (gQ C w0 σ0 ids fn s rm wr a none [(p.out,(qS.mask m).kill ids J)] x0) ee a3 w3:=by
         intro ee a3 w3 ho;cases ee with
         |normal=>
          obtain⟨ρ3,T,f1,f2,f3,f4⟩:=ho;cases f1;refine ih (gL gD idx++[.tup [pd.1,pd.2]]) (lo.map ρ2.o) a3 w3 (kr.trans ((QX.mono Rf).trans f3)) ?_ (fun ys uU=>?_) (by simp at hlen ⊢;omega)
          ·have sM:Good C w0 σ0 (qS.st ids) ρ2 (fun _=>False) a3 w3:=by
            have:=f4.meet2 (x:=qS)
            rwa [AJ T f2] at this
           obtain⟨σ3,xP,EA,dO⟩:=sM;have Qa:=PC.ev_but _ _ _ ρ2 Ka rfl;refine⟨σ3,xP,EA,(dO.maskR m).env (Snap.noOpt _ _) (fun t ht=>?_) (fun j hj=>?_)⟩
           ·have AU:=apv t ht
            have ed:t∉(gC ids p.next q0).pc.modR:=fun cI=>by
                 have:=QC.1 t cI;have h2:aV (Nat.lor m (gC ids p.next q0).mr) t=true:=by rw[gB,this,rU]
                 rw[Ee,AU] at h2;cases h2
            rw[Qa.r t ed]
            have pW:t∉p.aa.map (·.1):=fun bj=>by
                 have:aV m t=true:=by
                  refine sW t ?_;obtain⟨xa,kV,rfl⟩:=dH.1 bj;rcases SS l nj (fun x hx=>by cases hx) xa kV with h|⟨_,o,ho,hd⟩
                  ·cases h
                  ·exact cd o (by rw[e2];exact fL _ ho) _ hd
                 rw[AU] at this;cases this
            show ρ.r t=putL ρ.r (p.aa.map (·.1)) _ t;rw[By _ _ _ _ pW]
           ·have hjd:q9 (eD ids qS.os j)=false:=hj;show cE (putL ρ.o lo (lo.map ρ2.o)) J _ j=ρ2.o j;by_cases AQ:j=J
            ·subst AQ;rw[be,Qa.o j (fun cI=>aaD (QC.2 j cI))];simp[Env.setO,be]
            ·rw[bR _ _ AQ,tB];split
             ·rfl
             ·rename_i jW;have ed:j∉(gC ids p.next q0).pc.modO:=fun cI=>jW (by rw[←xc];exact ei.2 ⟨QC.2 j cI,by rw[hjd];rfl⟩);rw[Qa.o j ed];simp only[Env.setO,bR _ _ AQ];exact(S7 _ _ _ _ jW).symm
          ·have:=bn ((D.tup [pd.1,pd.2])::ys) (by simpa using uU);simp only[oD,Ka] at this;exact this
         |exit id=>obtain⟨ρ3,T,f1,_⟩:=ho;cases f1
         |ret=>
          cases rm with
          |false=>obtain⟨d,f1,_⟩:=ho;cases f1
          |true=>obtain⟨ρ3,T,f1,_⟩:=ho;cases f1
         |_=>exact ho.elim
        cases ee with
        |exit id=>
         simp only[Exit.inBlock] at pY;show if id=p.next then _ else _;split
         ·rename_i cM;rw[if_pos cM] at pY;exact conv .normal a3 w3 pY
         ·rename_i cM;rw[if_neg cM] at pY;exact conv (.exit id) a3 w3 pY
        |normal=>exact conv .normal a3 w3 pY
        |ret=>exact conv .ret a3 w3 pY
        |panic c=>exact gG.elim
        |goto l=>exact gG.elim
        |_=>exact gG.elim
 have hgq:Good C w0 σ0 (qS.st ids) ρ (fun _=>False) a w:=bU hg;obtain⟨σ,own,hv,h⟩:=hgq;have bG:=h.objs J;have:(qS.st ids).o J=.it kt et:=Kz;rw[this] at bG;obtain⟨kb,mb,arr,clock,gD,idx,h1,h2,h3,aA,h4,h5,h6,h7,h8,h9,lD,oa⟩:=bG;have hρJ:ρ.o J=.tup [.list [],es]:=by
  rw[h6] at AX lG;simp[D.tget] at AX lG;rw[h6,AX,←lG]
 have xb:(ρ.put [] [] lo (lo.map ρ.o)).setO J (.tup [.list [],es])=ρ:=by
  rw[Env.put_self];show Env.mk _ _=_;have:cE ρ.o J (.tup [.list [],es])=ρ.o:=by
   funext j;rw[gN];split
   ·rename_i e;rw[e];exact hρJ.symm
   ·rfl
  rw[this]
 exact wpIn_loop_rounds _ (key ((iN es).length+1) [] (lo.map ρ.o) a w (.refl _ _) (by rw[xb];exact⟨σ,own,hv,h.maskR m⟩) (fun ys uU=>aok ys uU) (by simp))
theorem akX {N:Nat}(gh:gx C Φ)(hR:N7 C n ids Φ R):∀(k:Nat) (c:Code),sizeOf c<k→vZ C Φ fn s n ids R N c:=by
 intro k;refine Nat.rec (fun c h=>absurd h (Nat.not_lt_zero _)) (fun k IH=>?_) k;intro c hc;cases c with
 |skip=>
  intro rm S r h rd w0 σ0 wr ρ x a w gH hC hY iJ hn hg he;simp only[comp,bx] at h;subst h;simp only[PC.ev,bx] at he;subst he;exact wpIn_skip ⟨ρ,S,rfl,rfl,.refl _ _,hg⟩
 |region id ops draw=>
  intro rm S r h rd w0 σ0 wr ρ x a w gH hC hY iJ hn hg he;simp only[comp,aR] at h;obtain⟨q,hq,rfl⟩:=h;simp only[PC.ev,aR] at he;obtain⟨ρ',hr,rfl⟩:=he;exact hR id ops draw S q hq rd w0 σ0 ρ ρ' a w _ hC hY hn hg hr (fun a' w' eX fF=>⟨ρ',q.1,rfl,rfl,eX.mono (fun t ⟨o,h1,h2⟩=>iJ t (yP.2 ⟨o,h1,h2⟩)),fF⟩)
 |seq c1 c2=>
  have uW:=IH c1 (by simp at hc;omega);have oy:=IH c2 (by simp at hc;omega);intro rm S r h rd w0 σ0 wr ρ x a w gH hC hY iJ hn hg he;have fT:∀t,t∈cQ c1→wr t:=fun t ht=>iJ t (kc _ ht);have cd:∀t,t∈cQ c2→wr t:=fun t ht=>iJ t (kK _ ht);simp only[comp,aG] at h;obtain⟨q,hq,h⟩:=h;split at h
  ·rename_i kp;cases h;refine wpIn_seq (wpIn_mono (uW rm S _ hq rd w0 σ0 wr ρ x a w gH hC hY fT hn hg he) fun e a' w' ho=>?_);cases e with
   |normal=>obtain⟨_,_,_,h2,_⟩:=ho;rw[kp] at h2;cases h2
   |_=>exact ho
  ·rename_i S1 kp;simp only[aR] at h;obtain⟨p,hp,rfl⟩:=h;simp only[PC.ev] at he
   have key:∀x1,q.pc.ev Φ N ρ=some x1→(match some x1 with|some (.next ρ')=>p.pc.ev Φ N ρ'|y=>y)=some x→(Code.seq c1 c2).wpIn (FR rd) 0 C.P (gQ C w0 σ0 ids fn s rm wr a p.out (q.ex++p.ex) x) a w:=by
      intro x1 h1 h2;refine wpIn_seq (wpIn_mono (uW rm S _ hq rd w0 σ0 wr ρ x1 a w gH hC hY fT hn hg h1) fun e a' w' ho=>?_);have other:∀{e:Exit},e≠.normal→gQ C w0 σ0 ids fn s rm wr a q.out q.ex x1 e a' w'→x1=x→gQ C w0 σ0 ids fn s rm wr a p.out (q.ex++p.ex) x e a' w':=by
       intro e aA ho hx;subst hx;exact ho.mono (fun y hy=>kc _ hy) (.refl _ _) (fun e=>absurd e aA)
      cases e with
      |normal=>
       obtain⟨ρ1,S2,e1,e2,eY,fR⟩:=ho;subst e1;rw[kp] at e2;cases e2;simp only at h2;refine wpIn_mono (oy rm S1 _ hp rd w0 σ0 wr ρ1 x a' w' gH hC hY cd (eY.size.trans hn) fR h2) fun e a2 w2 fH=>?_;exact fH.mono (fun y hy=>kK _ hy) eY (fun _=>rfl)
      |exit id=>
       refine other (by simp) ho ?_;obtain⟨ρ1,S2,e1,_⟩:=ho;subst e1;simpa using h2
      |ret=>
       refine other (by simp) ho ?_;cases rm with
       |false=>obtain⟨d,e1,_⟩:=ho;subst e1;simpa using h2
       |true=>obtain⟨ρ1,S2,e1,_⟩:=ho;subst e1;simpa using h2
      |_=>exact ho.elim
   cases h1:q.pc.ev Φ N ρ with
   |none=>rw[h1] at he;simp at he
   |some x1=>rw[h1] at he;exact key x1 h1 he
 |cond c c1 c2=>
  have uW:=IH c1 (by simp at hc;omega);have oy:=IH c2 (by simp at hc;omega);intro rm S r h rd w0 σ0 wr ρ x a w gH hC hY iJ hn hg he;have fT:∀t,t∈cQ c1→wr t:=fun t ht=>iJ t (kc _ ht);have cd:∀t,t∈cQ c2→wr t:=fun t ht=>iJ t (kK _ ht);simp only[comp] at h;split at h
  case h_2=>cases h;exact absurd he (mL _ _ _ _)
  rename_i e hu;simp only[aG,aR] at h;obtain⟨q,hq,p,hp,rfl⟩:=h;have hb:∃b,a.eval c=.bool b∧e.ev ρ=.v (.bool b):=by
   obtain⟨σ,own,hv,hi⟩:=hg;have:=cG (gs:=[]) hi hC rfl hu;generalize a.eval c=v at this;generalize e.ev ρ=d at this;cases this with|bool b=>exact⟨b,rfl,rfl⟩
  obtain⟨b,jU,ew⟩:=hb;have qZ:=um c1 hq;have hmp:=um c2 hp;have main:∀(o:Option Snap) (lr lo:List Nat) (rx:Res2),rx=⟨.ite e lr lo q.pc p.pc,o,q.ex++p.ex,Nat.lor q.mr p.mr,jJ q.mo p.mo⟩→
        (∀M,o=some M→lr=kA M (Nat.lor q.mr p.mr)∧lo=jx ids M (jJ q.mo p.mo))→
        (∀S1 ρ1 a w,q.out=some S1→Good C w0 σ0 (S1.st ids) ρ1 (fun _=>False) a w→∃M,o=some M∧Good C w0 σ0 (M.st ids) ρ1 (fun _=>False) a w)→
        (∀S1 ρ1 a w,p.out=some S1→Good C w0 σ0 (S1.st ids) ρ1 (fun _=>False) a w→∃M,o=some M∧Good C w0 σ0 (M.st ids) ρ1 (fun _=>False) a w)→
        rx.pc.ev Φ N ρ=some x→(Code.cond c c1 c2).wpIn (FR rd) 0 C.P (gQ C w0 σ0 ids fn s rm wr a rx.out rx.ex x) a w:=by
   intro o lr lo rx hrx hl q6 nj cf;subst hrx;simp only[PC.ev,ew,D.b_bool] at cf;have fin:∀(ci:Code) (qi:Res2) (xi:Out),(∀y,y∈qi.ex→y∈q.ex++p.ex)→(∀t,t∈qi.pc.modR→aV (Nat.lor q.mr p.mr) t=true)→(∀j,j∈qi.pc.modO→j∈jJ q.mo p.mo)→
    (∀S1 ρ1 a w,qi.out=some S1→Good C w0 σ0 (S1.st ids) ρ1 (fun _=>False) a w→∃M,o=some M∧Good C w0 σ0 (M.st ids) ρ1 (fun _=>False) a w)→
    qi.pc.ev Φ N ρ=some xi→(match some xi with|some (.next ρ')=>some (Out.next (ρ.join lr lo ρ'))|y=>y)=some x→
    ci.wpIn (FR rd) 0 C.P (gQ C w0 σ0 ids fn s rm wr a qi.out qi.ex xi) a w→ci.wpIn (FR rd) 0 C.P (gQ C w0 σ0 ids fn s rm wr a o (q.ex++p.ex) x) a w:=by
        intro ci qi xi hex oq sU kp dL hx hwp;refine wpIn_mono hwp fun ee a' w' ho=>?_;have other:ee≠.normal→xi=x→gQ C w0 σ0 ids fn s rm wr a o (q.ex++p.ex) x ee a' w':=by
         intro aA ku;subst ku;exact ho.mono hex (.refl _ _) (fun e=>absurd e aA)
        cases ee with
        |normal=>
         obtain⟨ρ1,S2,e1,e2,eY,fR⟩:=ho;subst e1;simp only[bx] at hx;subst hx;obtain⟨M,hM,sM⟩:=kp S2 ρ1 a' w' e2 fR;obtain⟨l1,l2⟩:=hl M hM;subst l1 l2;exact⟨_,M,rfl,hM,eY,sM.joined (PC.ev_but qi.pc ρ _ ρ1 dL rfl) oq sU⟩
        |exit id=>
         refine other (by simp) ?_;obtain⟨ρ1,S2,e1,_⟩:=ho;subst e1;simpa using hx
        |ret=>
         refine other (by simp) ?_;cases rm with
         |false=>obtain⟨d,e1,_⟩:=ho;subst e1;simpa using hx
         |true=>obtain⟨ρ1,S2,e1,_⟩:=ho;subst e1;simpa using hx
        |_=>exact ho.elim
   refine wpIn_cond jU ?_;cases b with
   |true=>
    simp only[cond_true] at cf;cases dL:q.pc.ev Φ N ρ with
    |none=>rw[dL] at cf;simp at cf
    |some xi=>
     rw[dL] at cf;refine fin c1 q xi (fun y hy=>kc _ hy) (fun t ht=>?_) (fun j hj=>p9.2 (.inl (qZ.2 j hj))) q6 dL cf (uW rm S _ hq rd w0 σ0 wr ρ xi a w gH hC hY fT hn hg dL);rw[gB,qZ.1 t ht];rfl
   |false=>
    simp only[cond_false] at cf;cases dL:p.pc.ev Φ N ρ with
    |none=>rw[dL] at cf;simp at cf
    |some xi=>
     rw[dL] at cf;refine fin c2 p xi (fun y hy=>kK _ hy) (fun t ht=>?_) (fun j hj=>p9.2 (.inr (hmp.2 j hj))) nj dL cf (oy rm S _ hp rd w0 σ0 wr ρ xi a w gH hC hY cd hn hg dL);rw[gB,hmp.1 t ht,rU]
  have q6:∀S1 ρ1 a w,q.out=some S1→Good C w0 σ0 (S1.st ids) ρ1 (fun _=>False) a w→∃M,mC q.out p.out=some M∧Good C w0 σ0 (M.st ids) ρ1 (fun _=>False) a w:=by
   intro S1 ρ1 a w e1 g1;rw[e1];obtain⟨M,hM⟩:=@adk S1 p.out;exact⟨M,hM,adi g1 hM⟩
  have nj:∀S1 ρ1 a w,p.out=some S1→Good C w0 σ0 (S1.st ids) ρ1 (fun _=>False) a w→∃M,mC q.out p.out=some M∧Good C w0 σ0 (M.st ids) ρ1 (fun _=>False) a w:=by
   intro S1 ρ1 a w e1 g1;rw[e1];obtain⟨M,hM⟩:=@adl q.out S1;exact⟨M,hM,adj g1 hM⟩
  cases hm:mC q.out p.out with
  |none=>
   rw[hm] at q6 nj;simp only[hm] at he ⊢;exact main none [] [] _ rfl (fun M e=>by cases e) q6 nj he
  |some M=>
   rw[hm] at q6 nj;simp only[hm] at he ⊢;exact main (some M) _ _ _ rfl (fun M' e=>by cases e;exact⟨rfl,rfl⟩) q6 nj he
 |block id c1=>
  have uW:=IH c1 (by simp at hc;omega);intro rm S r h rd w0 σ0 wr ρ x a w gH hC hY iJ hn hg he;simp only[comp] at h;cases cM:Nat.beq id cT<;>simp only[cM,cond_true,cond_false] at h
  case true=>cases h;exact absurd he (mL _ _ _ _)
  have Ki:id≠cT:=fun e=>by subst e;simp at cM
  simp only[aR] at h;obtain⟨q,hq,rfl⟩:=h;obtain⟨xi,dL⟩:=Zt he;exact wpIn_block (wpIn_mono (uW rm S _ hq rd w0 σ0 wr ρ xi a w gH hC hY iJ hn hg dL) fun e a' w' gG=>Zv Ki (um c1 hq) dL he gG)
 |loop c1=>
  have uW:=IH c1 (by simp at hc;omega);intro rm S r h rd w0 σ0 wr ρ x a w gH hC hY iJ hn hg he;rw[ZP] at h;split at h
  ·rename_i qb Eo;obtain⟨p,code,ws⟩:=qb;unfold xH at Eo;split at Eo
   case h_2=>cases Eo
   rename_i cx cy ck cz cc;simp only[aR] at Eo;obtain⟨p',bj,ep⟩:=Eo;cases ep;exact as0 bj (IH _ (by simp at hc;omega)) h gH hC hY iJ hn hg he
  split at h
  case h_2=>cases h;exact absurd he (mL _ _ _ _)
  rename_i q hq;cases h;obtain⟨hs,AJ,bU⟩:=EL (C:=C) (w0:=w0) (σ0:=σ0) (ids:=ids) 8 hq;have qZ:=um c1 hs;simp only[PC.ev] at he
  have sL:Good C w0 σ0 (q.1.st ids) (ρ.put (kA q.1 q.2.mr) ((kA q.1 q.2.mr).map ρ.r) (jx ids q.1 q.2.mo) ((jx ids q.1 q.2.mo).map ρ.o)) (fun _=>False) a w:=by
   exact Good.joined (bU hg) (.refl ρ q.2.pc.modR q.2.pc.modO) qZ.1 qZ.2
  have key:∀(k:Nat) (ρ1:Env) (a':Act) (w:World),SameBut wr a a'→iL (q.2.pc.ev Φ N) ρ (kA q.1 q.2.mr) (jx ids q.1 q.2.mo) k ((kA q.1 q.2.mr).map ρ1.r) ((jx ids q.1 q.2.mo).map ρ1.o)=some x→
        Good C w0 σ0 (q.1.st ids) (ρ.join (kA q.1 q.2.mr) (jx ids q.1 q.2.mo) ρ1) (fun _=>False) a' w→Code.roundsIn (FR rd) 0 C.P c1 (gQ C w0 σ0 ids fn s rm wr a none q.2.ex x) k a' w:=by
   intro k
   induction k with
   |zero=>intro ρ1 a' w hn hl hg;simp[iL] at hl
   |succ k ih=>
    intro ρ1 a' w kr hl hg;rw[roundsIn_succ];simp only[iL] at hl;change (match q.2.pc.ev Φ N (ρ.join (kA q.1 q.2.mr) (jx ids q.1 q.2.mo) ρ1) with|some (.next ρ')=>_|y=>y)=some x at hl;cases dL:q.2.pc.ev Φ N (ρ.join (kA q.1 q.2.mr) (jx ids q.1 q.2.mo) ρ1) with
    |none=>rw[dL] at hl;simp at hl
    |some xi=>
     rw[dL] at hl;refine wpIn_mono (uW rm _ _ hs rd w0 σ0 wr _ xi a' w gH hC hY iJ (kr.size.trans hn) hg dL) fun e a2 w' gG=>?_;have other:e≠.normal→xi=x→gQ C w0 σ0 ids fn s rm wr a none q.2.ex x e a2 w':=by
         intro aA ku;subst ku;exact gG.mono (fun y hy=>hy) kr (fun e=>absurd e aA)
     cases e with
     |normal=>
      obtain⟨ρ2,S2,e1,e2,eY,fR⟩:=gG;subst e1;simp only at hl;refine ih ρ2 a2 w' (kr.trans eY) hl ?_
      have sM:Good C w0 σ0 (q.1.st ids) ρ2 (fun _=>False) a2 w':=by
       have:=fR.meet2 (x:=q.1)
       rwa [AJ S2 e2] at this
      refine sM.joined (mr':=kA q.1 q.2.mr++q.2.pc.modR) (mo':=jx ids q.1 q.2.mo++q.2.pc.modO) ?_ (fun t ht=>?_) (fun j hj=>?_)
      ·exact((Env.but.join ρ ρ1 _ _).mono (fun t ht=>kc _ ht) (fun t ht=>kc _ ht)).trans
        ((PC.ev_but q.2.pc _ _ ρ2 dL rfl).mono (fun t ht=>kK _ ht) (fun t ht=>kK _ ht))
      ·exact(da.1 ht).elim K1 (qZ.1 t)
      ·exact(da.1 hj).elim Bl (qZ.2 j)
     |exit id=>
      refine other (by simp) ?_;obtain⟨ρ1,S2,e1,_⟩:=gG;subst e1;simpa using hl
     |ret=>
      refine other (by simp) ?_;cases rm with
      |false=>obtain⟨d,e1,_⟩:=gG;subst e1;simpa using hl
      |true=>obtain⟨ρ1,S2,e1,_⟩:=gG;subst e1;simpa using hl
     |_=>exact gG.elim
  exact wpIn_loop_rounds N (key N ρ a w (.refl _ _) he sL)
 |exit id=>
  intro rm S r h rd w0 σ0 wr ρ x a w gH hC hY iJ hn hg he;simp only[comp] at h;cases cM:Nat.beq id cT<;>simp only[cM,cond_true,cond_false] at h
  case true=>cases h;exact absurd he (mL _ _ _ _)
  cases h;simp only[PC.ev,bx] at he;subst he;exact wpIn_exit ⟨ρ,S,rfl,fun e=>by subst e;simp at cM,by simp,.refl _ _,hg⟩
 |ret=>
  intro rm S r h rd w0 σ0 wr ρ x a w gH hC hY iJ hn hg he;simp only[comp] at h;cases rm<;>simp only[cond_true,cond_false] at h
  case true=>
   cases h;simp only[PC.ev,bx] at he;subst he;exact wpIn_ret ⟨ρ,S,rfl,by simp,.refl _ _,hg⟩
  split at h
  ·rename_i e QT;cases h;simp only[PC.ev,bx] at he;subst he;obtain⟨σ,own,hv,hi⟩:=hg;exact wpIn_ret ⟨_,rfl,Inv.retD hC (fun _=>rfl) (gH rfl).2 QT _ hi rfl,.refl _ _⟩
  ·cases h;exact absurd he (mL _ _ _ _)
 |rangeFunc g ps ca cb=>exact avt gh (IH ca (by simp at hc;omega)) (IH cb (by simp at hc;omega))
 |_=>intro rm S r h rd w0 σ0 wr ρ x a w gH hC hY iJ hn hg he;simp only[comp,bx] at h;subst h;exact absurd he (mL _ _ _ _)
theorem akW {N:Nat}(gh:gx C Φ)(hR:N7 C n ids Φ R)(c:Code):vZ C Φ fn s n ids R N c:=akX gh hR _ c (Nat.lt_succ_self _)
end
end Cx
