/-
  Code: sequences, choices, blocks, loops.
-/
import Derived.LoopNIn
import Derived.Test.YtmnnipoiigfapaaGreatDoorBAE
import Derived.LoopN
set_option linter.unusedSimpArgs false
set_option linter.unusedVariables false
namespace Cx
open Go Go.RowKit
def aw (m t:Nat):Bool:= !Nat.beq (Nat.land 1 (Nat.shiftRight m t)) 0
theorem sU (m t:Nat):aw m t=m.testBit t:=by
 unfold aw Nat.testBit;show(!Nat.beq (1&&& (m>>>t)) 0)=((1&&& (m>>>t))!=0)
 generalize 1&&& (m>>>t)=x;cases x<;>rfl
def dK (t:Nat):Nat:=Nat.shiftLeft 1 t
theorem q9 (t:Nat):aw (dK t) t=true:=by
 rw[sU];show(1<<<t).testBit t=true;simp[Nat.testBit_shiftLeft]
theorem fb (m k t:Nat):aw (Nat.lor m k) t=(aw m t||aw k t):=by
 simp only[sU];exact Nat.testBit_or m k t
def PI.mask:PI→Nat
 |.setR t _=>dK t|.call _ t _ _=>dK t|.callc _ t _ _=>dK t|_=>0
def Kg:List PI→Nat
 |[]=>0
 |p::l=>Nat.lor p.mask (Kg l)
def PI.objs:PI→List Nat
 |.setO j _=>[j]|.mcall j _ _=>[j]|_=>[]
def fq (l:List Nat)(x:Nat):Bool:=l.any (Nat.beq x)
def jF (a b:List Nat):List Nat:=a.foldl (fun acc x=>bif fq acc x then acc else x::acc) b
def abO (l:List PI):List Nat:=l.foldl (fun acc p=>jF p.objs acc) []
theorem qt (l:List Nat)(x:Nat):fq l x=true↔x∈l:=by
 unfold fq;rw[nY];constructor
 ·rintro⟨y,hy,h⟩;rw[aB h];exact hy
 ·intro h;exact⟨x,h,gH x⟩
theorem qu {x:Nat}:∀{a b:List Nat},x∈jF a b↔x∈a∨x∈b
 |[],b=>by simp[jF]
 |y::a,b=>by
  have ih:=@qu x a (bif fq b y then b else y::b);have e:jF (y::a) b=jF a (bif fq b y then b else y::b):=rfl;rw[e,ih];cases hb:fq b y
  ·simp[or_assoc,or_left_comm]
  ·have:=(qt b y).1 hb;simp only[cond_true,cC];constructor
   ·rintro(h|h)
    ·exact .inl (.inr h)
    ·exact .inr h
   ·rintro((h|h)|h)
    ·subst h;exact .inr this
    ·exact .inl h
    ·exact .inr h
theorem aqp {x:Nat}(l:List PI)(h:x∈l.flatMap PI.modO):x∈abO l:=by
 have key:∀(l:List PI) (acc:List Nat),(x∈l.flatMap PI.modO∨x∈acc)→x∈l.foldl (fun acc p=>jF p.objs acc) acc:=by
  intro l
  induction l with
  |nil=>intro acc h;simpa using h
  |cons p l ih=>
   intro acc h;refine ih _ ?_;rw[wc,dt] at h;rcases h with(h|h)|h
   ·refine .inr (qu.2 (.inl ?_));cases p<;>simp_all [PI.modO,PI.objs]
   ·exact .inl h
   ·exact .inr (qu.2 (.inr h))
 exact key l [] (.inl h)
theorem abn {t:Nat}:∀(l:List PI),t∈l.flatMap PI.modR→aw (Kg l) t=true
 |[],h=>by simp at h
 |p::l,h=>by
  rw[wc,dt] at h;simp only[Kg,fb,gF];rcases h with h|h
  ·left;cases p<;>simp[PI.modR] at h<;>subst h<;>exact q9 _
  ·exact .inr (abn l h)
structure Res2 where
 pc:PC
 out:Option Snap
 ex:List (Nat×Snap)
 mr:Nat
 mo:List Nat
 deriving Inhabited
def mH:Option Snap→Option Snap→Option Snap
 |none,x=>x
 |x,none=>x
 |some a,some b=>some (a.meet b)
def oK (id:Nat):List (Nat×Snap)→Option Snap→Option Snap
 |[],acc=>acc
 |x::l,acc=>oK id l (bif Nat.beq x.1 id then mH acc (some x.2) else acc)
def iter (step:Snap→Option Res2):Nat→Snap→Option (Snap×Res2)
 |0,_=>none
 |k+1,S=>(step S).bind fun r=>
  match r.out with
  |none=>some (S,r)
  |some T=>bif (S.meet T).beq S then some (S,r) else iter step k (S.meet T)
def kF (S:Snap)(m:Nat):List Nat:=(List.range S.rs.length).filter fun t=>aw m t&& !isNone (cw (S.rs.getD t .none))
def jv (ids:List Nat)(S:Snap)(l:List Nat):List Nat:=l.filter fun j=> !oI (dm ids S.os j)
def gE:Res2:=⟨.is [GG],none,[],0,[]⟩
theorem mU (Φ:aR)(N:Nat)(ρ:Env)(x:Out):gE.pc.ev Φ N ρ≠some x:=by
 intro h;simp[gE,PC.ev,PI.runs,PI.run,GG,PE.ev,D.b_bool] at h
theorem mV:(∀t,t∈gE.pc.modR→aw gE.mr t=true)∧∀j,j∈gE.pc.modO→j∈gE.mo:=by
 constructor<;>intro t h<;>simp[gE,PC.modR,PC.modO,PI.modR,PI.modO,GG] at h
def cr:Code→List Nat
 |.region _ ops _=>ops.toList.filterMap (·.dst)
 |.seq a b=>cr a++cr b
 |.cond _ a b=>cr a++cr b
 |.block _ a=>cr a
 |.loop a=>cr a
 |_=>[]
def xI (l:List Nat):Nat:=l.foldr (fun t m=>Nat.lor (dK t) m) 0
def tN (m:Nat):Nat→List Sh→List Sh
 |_,[]=>[]
 |t,s::l=>(bif aw m t then .none else s)::tN m (t+1) l
def Snap.mask (m:Nat)(S:Snap):Snap:=⟨tN m 0 S.rs,S.os⟩
def tz:Sh→Sh
 |.yv=>.none
 |s=>s
def sn:List Nat→List Ty→List Sh→List Sh
 |p::ps,y::ys,l=>sn ps ys (l.set p (.dat y))
 |_,_,l=>l
def Snap.start (ps:List Nat)(ys:List Ty)(S:Snap):Snap:=⟨sn ps ys (S.rs.map tz),S.os⟩
def abg (ids:List Nat)(l:List Snap)(mo:List Nat):List Nat:=mo.filter fun j=>l.any fun S=> !oI (dm ids S.os j)
def as5 (wm:Nat)(ra rb:Res2):Res2:=
 let m:=Nat.lor wm (Nat.lor ra.mr rb.mr)
 ⟨.seq ra.pc rb.pc,rb.out.map (Snap.mask m),rb.ex.map (fun x=>(x.1,x.2.mask m)),m,jF ra.mo rb.mo⟩
def gr (ids:List Nat)(id:Nat)(r:Res2):Res2:=
    match oK id r.ex r.out with
    |some M=>⟨.block id (kF M r.mr) (jv ids M r.mo) r.pc,some M,r.ex.filter fun x=> !Nat.beq x.1 id,r.mr,r.mo⟩
    |none=>⟨.block id [] [] r.pc,none,r.ex.filter fun x=> !Nat.beq x.1 id,r.mr,r.mo⟩
def vp:List (Nat×Nat)→Nat→Option Nat
 |[],_=>none
 |x::l,t=>bif Nat.beq x.1 t then some x.2 else vp l t
def lh (pr:Nat):List Oper→List (Nat×Nat)→Option (List (Nat×Nat))
 |[],acc=>some acc
 |o::l,acc=>
  match o.dst,o.guard with
  |some d,none=>
   bif Nat.beq d pr||(vp acc d).isSome then none else
   match o.op with
   |.extract (.tmp t) i=>bif Nat.beq t pr&&Nat.ble i 1 then lh pr l (acc++[(d,i)]) else none
   |.assign (.tmp t)=>(vp acc t).bind fun i=>lh pr l (acc++[(d,i)])
   |.move (.tmp t)=>(vp acc t).bind fun i=>lh pr l (acc++[(d,i)])
   |_=>none
  |_,_=>none
structure MP where
 it:Nat
 nx:Nat
 mo:Nat
 out:Nat
 next:Nat
 pr:Nat
 ops1:Array Oper
 ops2:Array Oper
 aa:List (Nat×Nat)
 deriving Inhabited
def A7 (x y:Code)(k:Nat)(z:Code):Option MP:=
 match x,y,z with
 |.region _ ops1 false,.cond (.tmp mo) .skip (.exit out),.region _ ops2 false=>
  match ops1.toList,ops2.toList with
  |[o1,o2],o3::l=>
   match o1.dst,o1.guard,o1.op,o2.dst,o2.guard,o2.op,o3.dst,o3.guard,o3.op with
   |some nx,none,.next (.tmp it) false,some mo',none,.extract (.tmp nx') 0,some pr,none,.entry (.tmp it')=>
    bif Nat.beq mo mo'&&Nat.beq nx nx'&&Nat.beq it it'&& !Nat.beq it nx&& !Nat.beq it mo&& !Nat.beq it pr&& !Nat.beq nx mo&& !Nat.beq out cJ&& !Nat.beq k cJ then
     (lh pr l []).map fun aa=>⟨it,nx,mo,out,k,pr,ops1,ops2,aa⟩
    else none
   |_,_,_,_,_,_,_,_,_=>none
  |_,_=>none
 |_,_,_=>none
def xB:List Nat→Nat→List Ob→List Ob
 |i::is,J,o::os=>(bif Nat.beq i J then .dead else o)::xB is J os
 |_,_,os=>os
def Snap.kill (ids:List Nat)(J:Nat)(S:Snap):Snap:=⟨S.rs,xB ids J S.os⟩
def aav (J:Nat)(kt et:Ty)(ids:List Nat)(p:MP)(m:Nat)(S:Snap):Bool:=
 Sh.beq (S.rs.getD p.it .none) (.obj J 0)&&Ob.beq (dm ids S.os J) (.it kt et)&& !aw m p.it
def A8 (ids:List Nat)(n:Nat)(p:MP)(ws:List Nat)(f:Snap→Option Res2)(S:Snap):Option Res2:=
 match cw (S.rs.getD p.it .none) with
 |.obj J 0=>
  match dm ids S.os J with
  |.it kt et=>
   let ps:=p.aa.map (·.1)
   let ys:=p.aa.map fun x=>bif Nat.beq x.2 0 then kt else et
   let m:=xI ws
   match iter (fun S=>(f ((S.mask m).start ps ys)).map (gr ids p.next)) 8 S with
   |some r=>
    bif r.2.ex.isEmpty&& !fq r.2.mo J&&aav J kt et ids p m r.1&&gA ps&&ps.all (fun t=>Nat.blt t n)&&Nat.blt p.nx n&&Nat.blt p.mo n&&Nat.blt p.pr n&&Nat.beq (Nat.lor m r.2.mr) m then
       some ⟨.seq (.meach J ps (p.aa.map (·.2)) (jv ids r.1 r.2.mo) r.2.pc) (.exit p.out),none,[(p.out,(r.1.mask m).kill ids J)],0,r.2.mo⟩
    else some gE
   |none=>some gE
  |_=>some gE
 |_=>some gE
def comp (C:Ctx)(fn:Func)(s:Sig)(n:Nat)(ids:List Nat)(R:Array Oper→Bool→Snap→Option (Snap×List PI)):Bool→Code→Snap→Option Res2
 |_,.skip,S=>some ⟨.skip,some S,[],0,[]⟩
 |_,.region _ ops draw,S=>(R ops draw S).map fun r=>⟨.is r.2,some r.1,[],Kg r.2,abO r.2⟩
 |rm,.seq a b,S=>(comp C fn s n ids R rm a S).bind fun r=>
  match r.out with
  |none=>some r
  |some S1=>(comp C fn s n ids R rm b S1).map fun q=>⟨.seq r.pc q.pc,q.out,r.ex++q.ex,Nat.lor r.mr q.mr,jF r.mo q.mo⟩
 |rm,.cond c a b,S=>
  match use C (S.st ids) [] c with
  |some (.bool,e)=>
   (comp C fn s n ids R rm a S).bind fun r=>(comp C fn s n ids R rm b S).map fun q=>
     match mH r.out q.out with
     |some M=>⟨.ite e (kF M (Nat.lor r.mr q.mr)) (jv ids M (jF r.mo q.mo)) r.pc q.pc,some M,r.ex++q.ex,Nat.lor r.mr q.mr,jF r.mo q.mo⟩
     |none=>⟨.ite e [] [] r.pc q.pc,none,r.ex++q.ex,Nat.lor r.mr q.mr,jF r.mo q.mo⟩
  |_=>some gE
 |rm,.block id a,S=>bif Nat.beq id cJ then some gE else(comp C fn s n ids R rm a S).map (gr ids id)
 |rm,.loop (.seq x (.seq y (.block k (.seq z code)))),S=>
  (match A7 x y k z with
  |some p=>A8 ids n p (cr x++(cr y++(cr z++cr code))) (fun S=>comp C fn s n ids R rm code S) S
  |none=>
  match iter (fun S=>comp C fn s n ids R rm (.seq x (.seq y (.block k (.seq z code)))) S) 8 S with
  |some r=>some ⟨.loop (kF r.1 r.2.mr) (jv ids r.1 r.2.mo) r.2.pc,none,r.2.ex,r.2.mr,r.2.mo⟩
  |none=>some gE)
 |rm,.loop a,S=>
  match iter (fun S=>comp C fn s n ids R rm a S) 8 S with
  |some r=>some ⟨.loop (kF r.1 r.2.mr) (jv ids r.1 r.2.mo) r.2.pc,none,r.2.ex,r.2.mr,r.2.mo⟩
  |none=>some gE
 |_,.exit id,S=>bif Nat.beq id cJ then some gE else some ⟨.exit id,none,[(id,S)],0,[]⟩
 |rm,.ret,S=>
  bif rm then some ⟨.exit cJ,none,[(cJ,S)],0,[]⟩ else
  match yq C fn s (S.st ids) with
  |some e=>some ⟨.ret e,none,[],0,[]⟩
  |none=>some gE
 |rm,.rangeFunc g ps a b,S=>
  match rm,C.yl,use C (S.st ids) [] g with
  |false,none,some (.fn aa r,e)=>
   match mD aa r with
   |some ys=>
    match iter (fun S=>(comp C fn s n ids R true a (S.start ps.toList ys)).bind fun ra=>
          match ra.out,ra.ex with
          |some S1,[]=>(comp C fn s n ids R true b S1).map (as5 (xI (ps.toList++cr a++cr b)) ra)
          |_,_=>none) 8 S with
    |some r=>
     bif Nat.beq ys.length ps.size&&gA ps.toList&&ps.toList.all (fun p=>Nat.blt p n)&&Nat.ble r.1.rs.length n then
           some ⟨.seq (.is [.callc [] n e []]) (.each (.r n) ps.toList (abg ids (r.1::r.2.ex.map (·.2)) r.2.mo) ((oK cJ r.2.ex none).bind fun M=>yq C fn s (M.st ids)) r.2.pc),
            some r.1,r.2.ex.filter (fun x=> !Nat.beq x.1 cJ),dK n,r.2.mo⟩
     else some gE
    |none=>some gE
   |none=>some gE
  |_,_,_=>some gE
 |_,_,_=>some gE
termination_by structural _ c=>c
def xG:Code→Option (MP×Code×List Nat)
 |.seq x (.seq y (.block k (.seq z code)))=>(A7 x y k z).map fun p=>(p,code,cr x++(cr y++(cr z++cr code)))
 |_=>none
theorem XP (C:Ctx)(fn:Func)(s:Sig)(n:Nat)(ids:List Nat)(R:Array Oper→Bool→Snap→Option (Snap×List PI))(rm:Bool)(a:Code)(S:Snap):comp C fn s n ids R rm (.loop a) S=
 match xG a with
 |some q=>A8 ids n q.1 q.2.2 (fun S=>comp C fn s n ids R rm q.2.1 S) S
 |none=>
  match iter (fun S=>comp C fn s n ids R rm a S) 8 S with
  |some r=>some ⟨.loop (kF r.1 r.2.mr) (jv ids r.1 r.2.mo) r.2.pc,none,r.2.ex,r.2.mr,r.2.mo⟩
  |none=>some gE:=by
 by_cases h:∃x y k z code,a=.seq x (.seq y (.block k (.seq z code)))
 ·obtain⟨x,y,k,z,code,rfl⟩:=h
  conv=>lhs;unfold comp
  simp only[xG];cases A7 x y k z<;>rfl
 ·have e:xG a=none:=by
   unfold xG;split
   ·rename_i x y k z code;exact absurd ⟨x,y,k,z,code,rfl⟩ h
   ·rfl
  rw[e];rw[comp];intro x y k z code e;exact h ⟨x,y,k,z,code,e⟩
def subs:Code→List Code
 |.seq a b=>.seq a b::(subs a++subs b)
 |.cond c a b=>.cond c a b::(subs a++subs b)
 |.block i a=>.block i a::subs a
 |.loop a=>.loop a::subs a
 |.rangeFunc g ps a b=>.rangeFunc g ps a b::(subs a++subs b)
 |c=>[c]
theorem atK (c:Code):c∈subs c:=by cases c<;>simp[subs]
theorem aCN {a code:Code}{p:MP}{ws:List Nat}(h:xG a=some (p,code,ws)):code∈subs a:=by
 unfold xG at h;split at h
 ·simp only[aC] at h;obtain⟨q,_,e⟩:=h;cases e;simp[subs,atK]
 ·cases h
def MD (C:Ctx)(n:Nat)(ids:List Nat)(Φ:aR)(R:Array Oper→Bool→Snap→Option (Snap×List PI)):Prop:=
 ∀(id:Nat) (ops:Array Oper) (draw:Bool) (S:Snap) (r:Snap×List PI),R ops draw S=some r→
  ∀(rd:Option Nat) (w0:World) (σ0:Base) (ρ ρ':Env) (a:Act) (w:World) (Q:Exit→Act→World→Prop),CtxOK C σ0→pD C Φ w0 σ0→a.tmps.size=n→Good C w0 σ0 (S.st ids) ρ (fun _=>False) a w→PI.runs Φ r.2 ρ=some ρ'→
   (∀a' w',SameBut (ri ops) a a'→Good C w0 σ0 (r.1.st ids) ρ' (fun _=>False) a' w'→Q .normal a' w')→(Code.region id ops draw).wpIn (FR rd) 0 C.P Q a w
section
variable {C:Ctx} {ρ ρ':Env} {σ:Im} {own:Nat→Option Nat} {hv:Nat→Value} {w0:World} {σ0:Base} {A:Nat→Prop} {a:Act} {w:World} {Φ:aR} {n:Nat} {ids:List Nat} {fn:Func} {s:Sig}
 {R:Array Oper→Bool→Snap→Option (Snap×List PI)}
def gJ (C:Ctx)(w0:World)(σ0:Base)(ids:List Nat)(fn:Func)(s:Sig)(rm:Bool)(wr:Nat→Prop)(a0:Act)(out:Option Snap)(ex:List (Nat×Snap))(x:Out):Exit→Act→World→Prop
 |.normal,a,w=>∃ρ S,x=.next ρ∧out=some S∧SameBut wr a0 a∧Good C w0 σ0 (S.st ids) ρ (fun _=>False) a w
 |.exit id,a,w=>∃ρ S,x=.exit id ρ∧id≠cJ∧(id,S)∈ex∧SameBut wr a0 a∧Good C w0 σ0 (S.st ids) ρ (fun _=>False) a w
 |.ret,a,w=>match rm with
  |false=>∃d,x=.ret d∧qY C w0 σ0 fn s d a.tmps a.defers w∧SameBut wr a0 a
  |true=>∃ρ S,x=.exit cJ ρ∧(cJ,S)∈ex∧SameBut wr a0 a∧Good C w0 σ0 (S.st ids) ρ (fun _=>False) a w
 |_,_,_=>False
theorem Good.meet1 {x y:Snap}(h:Good C w0 σ0 (x.st ids) ρ A a w):Good C w0 σ0 ((x.meet y).st ids) ρ (fun _=>False) a w:=by
 obtain⟨σ,own,hv,h⟩:=h;exact⟨σ,own,hv,Snap.meet_ok1 h⟩
theorem Good.meet2 {x y:Snap}(h:Good C w0 σ0 (y.st ids) ρ A a w):Good C w0 σ0 ((x.meet y).st ids) ρ (fun _=>False) a w:=by
 obtain⟨σ,own,hv,h⟩:=h;exact⟨σ,own,hv,Snap.meet_ok2 h⟩
theorem abw {x:Snap}{y:Option Snap}{M:Snap}(h:Good C w0 σ0 (x.st ids) ρ (fun _=>False) a w)(hm:mH (some x) y=some M):Good C w0 σ0 (M.st ids) ρ (fun _=>False) a w:=by
 cases y<;>simp[mH] at hm<;>subst hm
 ·exact h
 ·exact h.meet1
theorem abx {x:Option Snap}{y:Snap}{M:Snap}(h:Good C w0 σ0 (y.st ids) ρ (fun _=>False) a w)(hm:mH x (some y)=some M):Good C w0 σ0 (M.st ids) ρ (fun _=>False) a w:=by
 cases x<;>simp[mH] at hm<;>subst hm
 ·exact h
 ·exact h.meet2
theorem aby {x:Snap}{y:Option Snap}:∃M,mH (some x) y=some M:=by cases y<;>simp[mH]
theorem abz {x:Option Snap}{y:Snap}:∃M,mH x (some y)=some M:=by cases x<;>simp[mH]
theorem Kh {id:Nat}:∀(l:List (Nat×Snap)) {x:Snap},Good C w0 σ0 (x.st ids) ρ (fun _=>False) a w→∃M,oK id l (some x)=some M∧Good C w0 σ0 (M.st ids) ρ (fun _=>False) a w
 |[],x,h=>⟨x,rfl,h⟩
 |y::l,x,h=>by
  simp only[oK];cases Nat.beq y.1 id
  ·exact Kh l h
  ·obtain⟨M,hM⟩:=@aby x (some y.2);simp only[cond_true,hM];exact Kh l (abw h hM)
theorem Qz {id:Nat}{S:Snap}(h:Good C w0 σ0 (S.st ids) ρ (fun _=>False) a w):∀(l:List (Nat×Snap)) (x:Option Snap),(id,S)∈l→∃M,oK id l x=some M∧Good C w0 σ0 (M.st ids) ρ (fun _=>False) a w
 |y::l,x,hm=>by
  simp only[oK];rcases cC.1 hm with e|hm
  ·subst e;simp only[gH,cond_true];obtain⟨M,hM⟩:=@abz x S;rw[hM];exact Kh l (abx h hM)
  ·exact Qz h l _ hm
theorem EM {step:Snap→Option Res2}:∀(k:Nat) {S:Snap} {r:Snap×Res2},iter step k S=some r→
 step r.1=some r.2∧(∀T,r.2.out=some T→r.1.meet T=r.1)∧∀{ρ:Env} {a:Act} {w:World},Good C w0 σ0 (S.st ids) ρ (fun _=>False) a w→Good C w0 σ0 (r.1.st ids) ρ (fun _=>False) a w
 |0,S,r,h=>by simp[iter] at h
 |k+1,S,r,h=>by
  simp only[iter,av] at h;obtain⟨q,hq,h⟩:=h;split at h
  ·rename_i ho;cases h;exact⟨hq,fun T hT=>by simp[ho] at hT,fun g=>g⟩
  ·rename_i T ho;cases hb:(S.meet T).beq S<;>simp only[hb,cond_true,cond_false] at h
   ·obtain⟨h1,h2,h3⟩:=EM k h;exact⟨h1,h2,fun g=>h3 g.meet1⟩
   ·cases h;refine⟨hq,fun T' hT=>?_,fun g=>g⟩;simp only[ho,aT] at hT;subst hT;exact Snap.beq_eq _ _ hb
theorem aaA {step:Snap→Option Res2}{hv:Nat→Value}:∀(k:Nat) {S:Snap} {r:Snap×Res2},iter step k S=some r→Inv C (S.st ids) ρ σ own hv w0 σ0 (fun _=>False) a w→Inv C (r.1.st ids) ρ σ own hv w0 σ0 (fun _=>False) a w
 |0,S,r,h,_=>by simp[iter] at h
 |k+1,S,r,h,i=>by
  simp only[iter,av] at h;obtain⟨q,hq,h⟩:=h;split at h
  ·cases h;exact i
  ·rename_i T ho;cases hb:(S.meet T).beq S<;>simp only[hb,cond_true,cond_false] at h
   ·exact aaA k h (Snap.meet_ok1 i)
   ·cases h;exact i
theorem Good.joined {M:Snap}{m:Nat}{mo mr' mo':List Nat}(h:Good C w0 σ0 (M.st ids) ρ' (fun _=>False) a w)(hb:ρ.but ρ' mr' mo')(h1:∀t,t∈mr'→aw m t=true)(h2:∀j,j∈mo'→j∈mo):
 Good C w0 σ0 (M.st ids) (ρ.join (kF M m) (jv ids M mo) ρ') (fun _=>False) a w:=by
 obtain⟨σ,own,hv,h⟩:=h;refine⟨σ,own,hv,h.env (Snap.noOpt _ _) (fun t ht=>?_) (fun j hj=>?_)⟩
 ·simp only[Env.join,Env.put,tT];split
  ·rfl
  ·rename_i hm;refine(hb.r t fun Em=>hm ?_).symm;have af:t<M.rs.length:=by
        refine WX fun hle=>?_;simp only[Snap.st,aJ,sI hle,Option.getD_none,cw,isNone] at ht;cases ht
   exact dj.2 ⟨bY.2 af,by rw[h1 t Em];simpa [Snap.st] using ht⟩
 ·simp only[Env.join,Env.put,tT];split
  ·rfl
  ·rename_i hm;refine(hb.o j fun Em=>hm ?_).symm;exact dj.2 ⟨h2 j Em,by simpa [Snap.st] using hj⟩
theorem Ki {S:Snap}{m t:Nat}(h:t∈kF S m):aw m t=true:=by
 have:=(dj.1 h).2;simp only[aq] at this;exact this.1
theorem A9 {S:Snap}{l:List Nat}{j:Nat}(h:j∈jv ids S l):j∈l:=(dj.1 h).1
theorem Xt {id:Nat}{q:Res2}(h:(∀t,t∈q.pc.modR→aw q.mr t=true)∧∀j,j∈q.pc.modO→j∈q.mo):(∀t,t∈(gr ids id q).pc.modR→aw (gr ids id q).mr t=true)∧∀j,j∈(gr ids id q).pc.modO→j∈(gr ids id q).mo:=by
 unfold gr;cases hm:oK id q.ex q.out<;>simp only
 ·simpa [PC.modR,PC.modO] using h
 ·refine⟨fun t ht=>?_,fun j hj=>?_⟩
  ·simp only[PC.modR,dt] at ht;exact ht.elim Ki (h.1 t)
  ·simp only[PC.modO,dt] at hj;exact hj.elim A9 (h.2 j)
theorem aqh {p:MP}{ws:List Nat}{f:Snap→Option Res2}{S:Snap}{r:Res2}(h:A8 ids n p ws f S=some r):(∀t,t∈r.pc.modR→aw r.mr t=true)∧∀j,j∈r.pc.modO→j∈r.mo:=by
 unfold A8 at h;split at h
 case h_2=>cases h;exact mV
 split at h
 case h_2=>cases h;exact mV
 simp only at h;split at h
 case h_2=>cases h;exact mV
 rw[pv] at h;split at h
 ·cases h;refine⟨fun t ht=>by simp[PC.modR] at ht,fun j hj=>?_⟩;simp only[PC.modO,lx] at hj;exact A9 hj
 ·cases h;exact mV
theorem uG:∀(c:Code) {rm:Bool} {S:Snap} {r:Res2},comp C fn s n ids R rm c S=some r→(∀t,t∈r.pc.modR→aw r.mr t=true)∧∀j,j∈r.pc.modO→j∈r.mo:=by
 intro c
 induction c with
 |skip=>intro rm S r h;simp only[comp,aT] at h;subst h;simp[PC.modR,PC.modO]
 |region id ops draw=>
  intro rm S r h;simp only[comp,aC] at h;obtain⟨q,_,rfl⟩:=h;exact⟨fun t ht=>abn _ ht,fun j hj=>aqp _ hj⟩
 |seq x y jt xz=>
  intro rm S r h;simp only[comp,av] at h;obtain⟨q,hq,h⟩:=h;split at h
  ·cases h;exact jt hq
  ·simp only[aC] at h;obtain⟨p,hp,rfl⟩:=h;refine⟨fun t ht=>?_,fun j hj=>?_⟩
   ·simp only[PC.modR,dt] at ht;rw[fb,gF];exact ht.imp ((jt hq).1 t) ((xz hp).1 t)
   ·simp only[PC.modO,dt] at hj;rw[qu];exact hj.imp ((jt hq).2 j) ((xz hp).2 j)
 |cond c x y jt xz=>
  intro rm S r h;simp only[comp] at h;split at h
  case h_2=>cases h;exact mV
  rename_i e _;simp only[av,aC] at h;obtain⟨q,hq,p,hp,rfl⟩:=h;cases hm:mH q.out p.out<;>simp only[hm]
  ·refine⟨fun t ht=>?_,fun j hj=>?_⟩
   ·simp only[PC.modR,dt,uA] at ht;rw[fb,gF];exact ht.imp ((jt hq).1 t) ((xz hp).1 t)
   ·simp only[PC.modO,dt,uA] at hj;rw[qu];exact hj.imp ((jt hq).2 j) ((xz hp).2 j)
  ·refine⟨fun t ht=>?_,fun j hj=>?_⟩
   ·simp only[PC.modR,dt] at ht;rw[fb,gF];rcases ht with(ht|ht)|ht
    ·have:=Ki ht;rw[fb,gF] at this;exact this
    ·exact .inl ((jt hq).1 t ht)
    ·exact .inr ((xz hp).1 t ht)
   ·simp only[PC.modO,dt] at hj;rcases hj with(hj|hj)|hj
    ·exact A9 hj
    ·exact qu.2 (.inl ((jt hq).2 j hj))
    ·exact qu.2 (.inr ((xz hp).2 j hj))
 |block id x jt=>
  intro rm S r h;simp only[comp] at h;cases cD:Nat.beq id cJ<;>simp only[cD,cond_true,cond_false] at h
  case true=>cases h;exact mV
  simp only[aC] at h;obtain⟨q,hq,rfl⟩:=h;exact Xt (jt hq)
 |loop x jt=>
  intro rm S r h;rw[XP] at h;split at h
  ·exact aqh h
  split at h
  case h_2=>cases h;exact mV
  rename_i q hq;cases h;have hs:=(EM (C:=C) (w0:=default) (σ0:=Base.mk0 ⟨fun _ _=>none,fun _=>none⟩ 0) (ids:=ids) 8 hq).1;refine⟨fun t ht=>?_,fun j hj=>?_⟩
  ·simp only[PC.modR,dt] at ht;exact ht.elim Ki ((jt hs).1 t)
  ·simp only[PC.modO,dt] at hj;exact hj.elim A9 ((jt hs).2 j)
 |exit id=>
  intro rm S r h;simp only[comp] at h;cases cD:Nat.beq id cJ<;>simp only[cD,cond_true,cond_false] at h<;>cases h
  ·simp[PC.modR,PC.modO]
  ·exact mV
 |ret=>
  intro rm S r h;simp only[comp] at h;cases rm<;>simp only[cond_true,cond_false] at h
  case true=>cases h;simp[PC.modR,PC.modO]
  split at h
  ·cases h;simp[PC.modR,PC.modO]
  ·cases h;exact mV
 |rangeFunc g ps x y _ _=>
  intro rm S r h;simp only[comp] at h;split at h
  case h_2=>cases h;exact mV
  split at h
  case h_2=>cases h;exact mV
  split at h
  case h_2=>cases h;exact mV
  rename_i q hq;rw[pv] at h;split at h
  ·cases h;refine⟨fun t ht=>?_,fun j hj=>?_⟩
   ·simp[PC.modR,PI.modR] at ht;subst ht;exact q9 _
   ·simp only[PC.modO,PI.modO,wc,WS,lx,uA] at hj;exact(dj.1 hj).1
  ·cases h;exact mV
 |_=>intro rm S r h;simp only[comp,aT] at h;subst h;exact mV
theorem gJ.mono {rm:Bool}{wr:Nat→Prop}{a0 a1:Act}{out adt:Option Snap}{ex Yj:List (Nat×Snap)}{x:Out}{e:Exit}(h:gJ C w0 σ0 ids fn s rm wr a0 out ex x e a w)(he:∀y,y∈ex→y∈Yj)(hs:SameBut wr a1 a0)
 (ho:e=.normal→adt=out):gJ C w0 σ0 ids fn s rm wr a1 adt Yj x e a w:=by
 cases e with
 |normal=>obtain⟨ρ,S,h1,h2,h3,h4⟩:=h;exact⟨ρ,S,h1,by rw[ho rfl];exact h2,hs.trans h3,h4⟩
 |exit id=>obtain⟨ρ,S,h1,h2,h3,h4,h5⟩:=h;exact⟨ρ,S,h1,h2,he _ h3,hs.trans h4,h5⟩
 |ret=>
  cases rm with
  |false=>obtain⟨d,h1,h2,h3⟩:=h;exact⟨d,h1,h2,hs.trans h3⟩
  |true=>obtain⟨ρ,S,h1,h3,h4,h5⟩:=h;exact⟨ρ,S,h1,he _ h3,hs.trans h4,h5⟩
 |_=>exact h.elim
theorem X5 {body:Env→Option Out}{ρ:Env}{ps lo:List Nat}{rt:Option PE}{x:Out}:∀{xs vo:List D},gu body ρ ps lo rt xs vo=some x→
 ∃(m:Nat) (mZ:Nat→List D),m≤xs.length∧mZ 0=vo∧
  (∀i,i<m→∃y ρ',xs[i]?=some y∧body (ρ.put ps (partsOf ps y) lo (mZ i))=some (.next ρ')∧lo.map ρ'.o=mZ (i+1))∧
  ((m=xs.length∧x=.next (ρ.put [] [] lo (mZ m)))∨
   (m<xs.length∧∃y id ρ',xs[m]?=some y∧body (ρ.put ps (partsOf ps y) lo (mZ m))=some (.exit id ρ')∧
    ((id≠cJ∧x=.exit id (ρ.put [] [] lo (lo.map ρ'.o)))∨(id=cJ∧∃e,rt=some e∧x=.ret (e.ev (ρ.put [] [] lo (lo.map ρ'.o)))))))
 |[],vo,h=>by
  simp only[gu,aT] at h;exact⟨0,fun _=>vo,bl _,rfl,fun i hi=>by omega,.inl ⟨rfl,h.symm⟩⟩
 |y::xs,vo,h=>by
  simp only[gu] at h;split at h
  ·rename_i ρ' hb;obtain⟨m,mZ,h1,h2,h3,h4⟩:=X5 h;refine⟨m+1,fun i=>match i with|0=>vo|i+1=>mZ i,by simp;omega,rfl,fun i hi=>?_,?_⟩
   ·cases i with
    |zero=>exact⟨y,ρ',rfl,hb,h2.symm⟩
    |succ i=>simpa using h3 i (by omega)
   ·rcases h4 with⟨e1,e2⟩|⟨e1,z,id,ρ2,e2,e3,e4⟩
    ·exact .inl ⟨by simp[e1],e2⟩
    ·exact .inr ⟨by simp;omega,z,id,ρ2,by simpa using e2,e3,e4⟩
  ·rename_i id ρ' hb;refine⟨0,fun _=>vo,pC _,rfl,fun i hi=>by omega,.inr ⟨by simp,y,id,ρ',rfl,hb,?_⟩⟩;cases cD:Nat.beq id cJ<;>simp only[cD,cond_true,cond_false] at h
   ·refine .inl ⟨fun e=>?_,(Cw h).symm⟩;subst e;simp at cD
   ·simp only[aC] at h;obtain⟨e,he,e2⟩:=h;exact .inr ⟨aB cD,e,he,e2.symm⟩
  ·cases h
theorem Xr {l:List Nat}{t:Nat}(h:t∈l):aw (xI l) t=true:=by
 induction l with
 |nil=>cases h
 |cons x l ih=>
  have e:xI (x::l)=Nat.lor (dK x) (xI l):=rfl;rw[e,fb];rcases cC.1 h with e|e
  ·subst e;rw[q9];rfl
  ·rw[ih e];simp
theorem Qx (m:Nat):∀(l:List Sh) (k t:Nat),(tN m k l).getD t .none=if aw m (k+t)=true then .none else l.getD t .none
 |[],k,t=>by simp[tN]
 |s::l,k,0=>by
  simp only[tN,ux,iI];cases aw m k<;>rfl
 |s::l,k,t+1=>by
  simp only[tN,Cs];rw[Qx m l (k+1) t,show k+1+t=k+(t+1) by omega]
theorem EV (m:Nat)(S:Snap)(t:Nat):((S.mask m).st ids).r t=if aw m t=true then .none else(S.st ids).r t:=by
 show cw ((tN m 0 S.rs).getD t .none)=if aw m t=true then .none else cw (S.rs.getD t .none);rw[Qx,gI];split<;>rfl
theorem aqn {m:Nat}{x S:Snap}{t:Nat}(h:aw m t=true):((x.meet (S.mask m)).st ids).r t=.none:=by
 show cw ((List.zipWith jx x.rs (tN m 0 S.rs)).getD t .none)=.none;rcases Mk (f:=jx) x.rs (tN m 0 S.rs) t with h0|⟨s,u,h1,h2,h3⟩
 ·rw[h0];rfl
 ·rw[Qx,gI,if_pos h] at h2;subst h2;rw[h3];cases s<;>rfl
theorem Inv.maskR {S:Snap}{hv:Nat→Value}(h:Inv C (S.st ids) ρ σ own hv w0 σ0 A a w)(m:Nat):Inv C ((S.mask m).st ids) ρ σ own hv w0 σ0 (fun _=>False) a w:=by
 have hc:Compat (S.st ids) hv ((S.mask m).st ids) hv:=⟨fun _=>bl _,fun _ _=>rfl⟩
 refine h.weaken (fun t=>?_) (fun j=>?_) (Snap.noOpt _ _) (fun j hj=>⟨hj,rfl⟩)
 ·refine aG.mono' (ρ:=ρ) (.refl σ) hc (Snap.noOpt _ _ t) ?_;rw[EV];split
  ·trivial
  ·exact h.regs t
 ·exact(h.objs j).mono (.refl σ) hc rfl rfl (fun k hk=>⟨hk,rfl⟩)
theorem TA:∀(ps:List Nat) (ys:List Ty) (l:List Sh),ps.length=ys.length→gA ps=true→∀t,(sn ps ys l).getD t .none=.none∨(t∉ps∧(sn ps ys l).getD t .none=l.getD t .none)∨∃(i:Nat) (y:Ty),ps[i]?=some t∧ys[i]?=some y∧(sn ps ys l).getD t .none=.dat y
 |[],ys,l,_,_,t=>.inr (.inl ⟨by simp,by cases ys<;>rfl⟩)
 |p::ps,[],l,h,_,t=>by simp at h
 |p::ps,y::ys,l,h,hn,t=>by
  have jU:=mI hn;rw[m6] at jU;have dx:gA ps=true:=by
   simp only[gA,aq] at hn;exact hn.2
  show(sn ps ys (l.set p (.dat y))).getD t .none=_∨_∨_;rcases TA ps ys (l.set p (.dat y)) (by simpa using h) dx t with e|⟨e1,e2⟩|⟨i,z,e1,e2,e3⟩
  ·exact .inl e
  ·by_cases hp:t=p
   ·subst hp;by_cases af:t<l.length
    ·exact .inr (.inr ⟨0,y,rfl,rfl,by show(sn ps ys (l.set t (.dat y))).getD t .none=_;rw[e2];simp[aJ,af]⟩)
    ·left;rw[e2];simp[aJ,af]
   ·refine .inr (.inl ⟨by simp[hp,e1],?_⟩);show(sn ps ys (l.set p (.dat y))).getD t .none=_;rw[e2];simp only[aJ,Ct];rw[if_neg (fun e=>hp e.symm)]
  ·exact .inr (.inr ⟨i+1,z,by simpa using e1,by simpa using e2,e3⟩)
def mS:List Nat→List Value→Array Value→Array Value
 |p::ps,v::vs,T=>mS ps vs (T.setIfInBounds p v)
 |_,_,T=>T
theorem atm (ps:Array Nat)(vs:Array Value)(T:Array Value):(ps.zip vs).foldl (fun T x=>T.setIfInBounds x.1 x.2) T=mS ps.toList vs.toList T:=by
 rw[←Array.foldl_toList,Array.toList_zip];generalize ps.toList=l;generalize vs.toList=k
 induction l generalizing k T with
 |nil=>rfl
 |cons p l ih=>
  cases k with
  |nil=>rfl
  |cons v k=>simpa [mS] using ih (T.setIfInBounds p v) k
theorem afl:∀(ps:List Nat) (vs:List Value) (T:Array Value),(mS ps vs T).size=T.size
 |[],vs,T=>by cases vs<;>rfl
 |p::ps,[],T=>rfl
 |p::ps,v::vs,T=>by simp[mS,afl ps vs]
theorem LQ:∀(ps:List Nat) (vs:List Value) (T:Array Value) (t:Nat),t∉ps→(mS ps vs T).getD t undef=T.getD t undef
 |[],vs,T,t,_=>by cases vs<;>rfl
 |p::ps,[],T,t,_=>rfl
 |p::ps,v::vs,T,t,h=>by
  simp only[cC,not_or] at h;simp only[mS];rw[LQ ps vs _ t h.2];simp only[dT,vZ];rw[if_neg (fun e=>h.1 e.symm)]
theorem afk:∀(ps:List Nat) (vs:List Value) (T:Array Value) (i t:Nat),ps.Nodup→ps.length=vs.length→(∀p,p∈ps→p<T.size)→ps[i]?=some t→(mS ps vs T).getD t undef=vs.getD i undef
 |p::ps,v::vs,T,0,t,hn,hl,af,h=>by
  simp at h;subst h;rw[m6] at hn;simp only[mS];rw[LQ ps vs _ p hn.1];simp[vZ,af p (du ..)]
 |p::ps,v::vs,T,i+1,t,hn,hl,af,h=>by
  rw[m6] at hn;simp only[mS];have:=afk ps vs (T.setIfInBounds p v) i t hn.2 (by simpa using hl) (fun q hq=>by simpa using af q (di _ hq)) (by simpa using h);simpa using this
 |p::ps,[],T,i,t,hn,hl,af,h=>by simp at hl
 |[],vs,T,i,t,hn,hl,af,h=>by simp at h
theorem By (f:Nat→D):∀(ps:List Nat) (vs:List D) (t:Nat),t∉ps→putL f ps vs t=f t
 |[],vs,t,_=>by cases vs<;>rfl
 |p::ps,[],t,_=>rfl
 |p::ps,v::vs,t,h=>by
  simp only[cC,not_or] at h;simp only[putL,br _ _ h.1];exact By f ps vs t h.2
theorem RH (f:Nat→D):∀(ps:List Nat) (vs:List D) (i t:Nat),ps.Nodup→ps.length=vs.length→ps[i]?=some t→putL f ps vs t=vs.getD i .none
 |p::ps,v::vs,0,t,hn,hl,h=>by
  simp at h;subst h;simp[putL,aK]
 |p::ps,v::vs,i+1,t,hn,hl,h=>by
  rw[m6] at hn;have ht:t∈ps:=mc (by simpa using h);have aE:t≠p:=fun e=>hn.1 (e▸ht);simp only[putL,br _ _ aE];have:=RH f ps vs i t hn.2 (by simpa using hl) (by simpa using h);simpa using this
 |p::ps,[],i,t,hn,hl,h=>by simp at hl
 |[],vs,i,t,hn,hl,h=>by simp at h
theorem arQ (ps:List Nat)(ds:List D)(i:Nat)(h:i<ps.length):(partsOf ps (.tup ds)).getD i .none=ds.getD i .none:=by
 simp[partsOf,aJ,h,D.tget]
theorem arP (ps:List Nat)(x:D):(partsOf ps x).length=ps.length:=by simp[partsOf]
theorem Inv.startR {S:Snap}{hv:Nat→Value}(h:Inv C (S.st ids) ρ σ own hv w0 σ0 A a w){ps:List Nat}{ys:List Ty}{args:List Value}{ds:List D}{lo:List Nat}{vo:List D}(hl:ps.length=ys.length)(bq:gA ps=true)(af:∀p,p∈ps→p<a.tmps.size)(ha:pq C σ ys args ds)
 (hρ:ρ=ρ'.put [] [] lo vo):Inv C ((S.start ps ys).st ids) (ρ'.put ps (partsOf ps (.tup ds)) lo vo) σ own hv w0 σ0 (fun _=>False) {tmps:=mS ps args a.tmps,defers:=[]} w:=by
 obtain⟨a1,a2,a3⟩:=ha;have hn:=mI bq;have hc:Compat (S.st ids) hv ((S.start ps ys).st ids) hv:=⟨fun _=>bl _,fun _ _=>rfl⟩
 have ho:∀j,(ρ'.put ps (partsOf ps (.tup ds)) lo vo).o j=ρ.o j:=fun j=>by rw[hρ];rfl
 refine⟨trivial,h.ok,h.le,h.old,h.newc,h.newm,h.below,h.bw,h.owns,fun t=>?_,fun j=>(h.objs j).mono (.refl σ) hc rfl (ho j) (fun k hk=>⟨hk,rfl⟩),fun t gs s e=>absurd e (Snap.noOpt _ _ t gs s),?_⟩
 ·show aG C _ _ σ hv (cw ((sn ps ys (S.rs.map tz)).getD t .none)) ((mS ps args a.tmps).getD t undef) (putL ρ'.r ps (partsOf ps (.tup ds)) t);rcases TA ps ys (S.rs.map tz) hl bq t with e|⟨e1,e2⟩|⟨i,y,e1,e2,e3⟩
  ·rw[e];trivial
  ·rw[e2,LQ _ _ _ _ e1,By _ _ _ _ e1];have hr:=h.regs t;change aG C _ ρ σ hv (cw (S.rs.getD t .none)) _ _ at hr;have hρr:ρ.r t=ρ'.r t:=by rw[hρ];show putL ρ'.r [] [] t=_;rfl
   rw[hρr] at hr;have e3:(S.rs.map tz).getD t .none=tz (S.rs.getD t .none):=by
        simp only[aJ,cB];cases S.rs[t]?<;>rfl
   rw[e3];generalize S.rs.getD t .none=s at hr;cases s with
   |yv=>trivial
   |opt gs s=>trivial
   |none=>trivial
   |fclo f c=>exact aG.mono' (.refl σ) hc (fun _ _ e=>by cases e) hr
   |agg l=>exact aG.mono' (.refl σ) hc (fun _ _ e=>by cases e) hr
   |dat t=>exact hr
   |obj j v=>exact aG.mono' (.refl σ) hc (fun _ _ e=>by cases e) hr
   |ptr j v o=>exact aG.mono' (.refl σ) hc (fun _ _ e=>by cases e) hr
   |eptr j v o q=>exact aG.mono' (.refl σ) hc (fun _ _ e=>by cases e) hr
  ·rw[e3];have hi:i<ps.length:=(eD.1 e1).1;rw[afk ps args a.tmps i t hn (by omega) af e1,RH _ ps _ i t hn (by rw[arP]) e1,arQ _ _ _ hi];exact a3 i y e2
 ·obtain⟨t,fx,cx,h1,h2⟩:=h.frame;exact⟨t,fx,cx,h1,fun j hj=>⟨(h2 j hj).1,by rw[ho j];exact(h2 j hj).2⟩⟩
def wq (C:Ctx)(Φ:aR)(fn:Func)(s:Sig)(n:Nat)(ids:List Nat)(R:Array Oper→Bool→Snap→Option (Snap×List PI))(N:Nat)(c:Code):Prop:=
 ∀(rm:Bool) (S:Snap) (r:Res2),comp C fn s n ids R rm c S=some r→∀(rd:Option Nat) (w0:World) (σ0:Base) (wr:Nat→Prop) (ρ:Env) (x:Out) (a:Act) (w:World),(rm=false→rd=none∧σ0.fin)→CtxOK C σ0→pD C Φ w0 σ0→(∀t,t∈cr c→wr t)→a.tmps.size=n→
  Good C w0 σ0 (S.st ids) ρ (fun _=>False) a w→r.pc.ev Φ N ρ=some x→c.wpIn (FR rd) 0 C.P (gJ C w0 σ0 ids fn s rm wr a r.out r.ex x) a w
structure Seg (σ:Im) (own:Nat→Option Nat) (w:World) (σ':Im) (own':Nat→Option Nat) (w':World):Prop where
 le:σ.le σ'
 below:Below 0 w w'
 same:∀k,k<w.heap.size→own k=none→w'.heap[k]?=w.heap[k]?
 ow:∀k j,own' k=some j→(∃i,own k=some i)∨w.heap.size≤k
 imm:∀k,((∃o x,σ'.c k o=some x)∨∃x,σ'.m k=some x)→(∃o x,σ.c k o=some x)∨(∃x,σ.m k=some x)∨(∃i,own k=some i)∨w.heap.size≤k
structure Free (L:Nat) (σ:Im) (own:Nat→Option Nat):Prop where
 own:own L=none
 c:∀o,σ.c L o=none
 m:σ.m L=none
theorem Free.seg {L:Nat}{σ':Im}{own':Nat→Option Nat}{w':World}(h:Free L σ own)(hL:L<w.heap.size)(k:Seg σ own w σ' own' w'):Free L σ' own':=by
 have Ec:¬((∃o x,σ'.c L o=some x)∨∃x,σ'.m L=some x):=fun e=>by
  rcases k.imm L e with⟨o,x,e⟩|⟨x,e⟩|⟨i,e⟩|e
  ·rw[h.c o] at e;cases e
  ·rw[h.m] at e;cases e
  ·rw[h.own] at e;cases e
  ·omega
 refine⟨?_,fun o=>?_,?_⟩
 ·cases e:own' L with
  |none=>rfl
  |some j=>
   rcases k.ow L j e with⟨i,e⟩|e
   ·rw[h.own] at e;cases e
   ·omega
 ·cases e:σ'.c L o with
  |none=>rfl
  |some x=>exact absurd (.inl ⟨o,x,e⟩) Ec
 ·cases e:σ'.m L with
  |none=>rfl
  |some x=>exact absurd (.inr ⟨x,e⟩) Ec
def agw (C:Ctx)(w0:World)(σ0:Base)(ids:List Nat)(wr:Nat→Prop)(a0:Act)(σ:Im)(own:Nat→Option Nat)(w:World)(out:Option Snap)(ex:List (Nat×Snap))(x:Out)(e:Exit)(a':Act)(w':World):Prop:=
 ∃ρ' S' σ' own' hv',Inv C (S'.st ids) ρ' σ' own' hv' w0 σ0 (fun _=>False) a' w'∧Seg σ own w σ' own' w'∧SameBut wr a0 a'∧
  match e with
  |.normal=>x=.next ρ'∧out=some S'
  |.exit id=>x=.exit id ρ'∧id≠cJ∧(id,S')∈ex
  |.ret=>x=.exit cJ ρ'∧(cJ,S')∈ex
  |_=>False
theorem aff {N:Nat}{c:Code}(hc:wq C Φ fn s n ids R N c){S:Snap}{r:Res2}(hr:comp C fn s n ids R true c S=some r)(kD:C.yl=none)(hC:CtxOK C σ0){wr:Nat→Prop}{ρ:Env}{x:Out}{hv:Nat→Value}(h:Inv C (S.st ids) ρ σ own hv w0 σ0 (fun _=>False) a w)
 (il:∀t,t∈cr c→wr t) (hn:a.tmps.size=n) (he:r.pc.ev Φ N ρ=some x) (L:Nat):c.wpIn (FR (some L)) 0 C.P (agw C w0 σ0 ids wr a σ own w r.out r.ex x) a w:=by
 obtain⟨t,fx,cx,da,ht⟩:=h.frame;have h1:=h.toRnd (X:=fun _=>False) ht;refine wpIn_mono (hc true S r hr (some L) w0 (σ0.rnd σ own w t fun _=>False) wr ρ x a w (fun e=>by cases e) (hC.mono h.le) (fun J ys e=>by rw[kD] at e;cases e) il hn ⟨_,_,_,h1⟩ he) fun e a' w' ho=>?_
 have main:∀{S':Snap} {ρ':Env},SameBut wr a a'→Good C w0 (σ0.rnd σ own w t fun _=>False) (S'.st ids) ρ' (fun _=>False) a' w'→∃σ' own' hv',Inv C (S'.st ids) ρ' σ' own' hv' w0 σ0 (fun _=>False) a' w'∧Seg σ own w σ' own' w'∧SameBut wr a a':=by
  intro S' ρ' hs hg;obtain⟨σ',own',hv',h2⟩:=hg;exact⟨σ',own',hv',h.ofRnd da (fun _ _=>id) h2,⟨h2.le,h.rndBelow h2,fun k hk ho=>Inv.rndSame h.ok h2 hk ho id,fun k j e=>Inv.rndOwn h2 e id,fun k e=>Inv.rndC h2 e id⟩,hs⟩
 cases e with
 |normal=>
  obtain⟨ρ',S',e1,e2,e3,e4⟩:=ho;obtain⟨σ',own',hv',g1,g2,g3⟩:=main e3 e4;exact⟨ρ',S',σ',own',hv',g1,g2,g3,e1,e2⟩
 |exit id=>
  obtain⟨ρ',S',e1,e0,e2,e3,e4⟩:=ho;obtain⟨σ',own',hv',g1,g2,g3⟩:=main e3 e4;exact⟨ρ',S',σ',own',hv',g1,g2,g3,e1,e0,e2⟩
 |ret=>
  obtain⟨ρ',S',e1,e2,e3,e4⟩:=ho;obtain⟨σ',own',hv',g1,g2,g3⟩:=main e3 e4;exact⟨ρ',S',σ',own',hv',g1,g2,g3,e1,e2⟩
 |_=>exact ho.elim
theorem Inv.putL {L:Nat}{hv:Nat→Value}{S:St}{ρ:Env}(h:Inv C S ρ σ own hv w0 σ0 A a w)(hL:w0.heap.size≤L)(hf:Free L σ own)(hx:∀t fx cx,FrOK σ own w0.heap.size σ0 w t fx cx→¬fx L)(o:Obj):Inv C S ρ σ own hv w0 σ0 A a (w.putObj L o):=
 h.keep (X:=fun k=>k≠L) ⟨rfl,rfl,rfl,by simp,fun k hk=>by omega⟩ (fun k hk=>World.putObj_heap_other hk) (fun k hk=>by omega) (fun k j e1 e2=>by subst e2;rw[hf.own] at e1;cases e1) (fun k o v e1 e2=>by subst e2;rw[hf.c] at e1;cases e1)
  (fun k v e1 e2=>by subst e2;rw[hf.m] at e1;cases e1) (fun t fx cx da k hk e=>by subst e;exact hx t fx cx da hk)
theorem awU {o:Oper}{L:Nat}{x:Operand}{aa:Array Operand}{ts:Array TypeId}{r:Loop}(bR:o.op=.call {callee:=.value x,args:=aa,argTypes:=ts})(hx:a.eval x=.func (.yield L) #[] #[])(hL:w.heap[L]?=some (.loop r))(hs:aa.size=r.params.size):
 (execOp a.eval o).run C.P w=.ok (.round L r.fn ((r.params.zip (aa.map a.eval)).foldl (fun tmps (t,v)=>tmps.setIfInBounds t v) r.tmps) r.assign r.body) w:=by
 have hy:=run_yield (P:=C.P) (args:=aa.map a.eval) hL (by simpa using hs);simp[execOp,bR,resolve,hx,Deferred.ofValue,invoke,hy]
theorem asx {g:Operand}{f:Nat}{vs:List Value}{L:Nat}(hf:∃fn,C.P.funcs[f]?=some fn∧fn.body.isSome=true∧(fn.name== "runtime.NumGoroutine")=false)(hg:a.eval g=.func (.func f) #[] vs.toArray):
 (resolve a.eval (rangeCall g L) 0).run C.P w=.ok {target:=.fn (.func f) vs.toArray,args:=#[.func (.yield L) #[] #[]]} w∧
 (invoke (.fn (.func f) vs.toArray) #[.func (.yield L) #[] #[]]).run C.P w=.ok (.enter f (#[.func (.yield L) #[] #[]]++vs.toArray)) w:=by
 obtain⟨fn,h1,h2,h3⟩:=hf;obtain⟨bd,gK⟩:=WY.1 h2;have h4:¬fn.name= "runtime.NumGoroutine" :=by simpa using h3
 constructor
 ·simp only[resolve,hg];simp[go_sem]
 ·simp[invoke,callFunc,h1,gK,h4]
theorem FrOK.enter {hv:Nat→Value}{S:St}{ρ:Env}(h:Inv C S ρ σ own hv w0 σ0 A a w){t:D}{fx cx:Nat→Prop}(hf:FrOK σ own w0.heap.size σ0 w t fx cx)(r:Loop):FrOK (σ.mark w.heap.size) own w0.heap.size σ0 ((w.alloc (.deferred (some []))).alloc (.loop r)) t fx cx:=by
 have hb:=Yc w (.deferred (some [])) (.loop r);have af:=σ0.lt _ _ _ _ hf.F;have bN:=σ0.sub _ _ _ _ hf.F;have xg:∀k x,(σ.mark w.heap.size).m k=some x→σ.m k=some x∨k=w.heap.size:=by
  intro k x e;simp only[Im.mark] at e;split at e
  ·rename_i e2;exact .inr e2
  ·exact .inl e
 refine⟨σ0.keep _ _ _ _ _ hf.F (hb.mono (pC _)) fun k hk=>hb.block k (af k hk),hf.own,hf.c,fun k x e hc=>?_,fun k e hB hk=>?_⟩
 ·rcases xg k x e with e|e
  ·exact hf.m k x e hc
  ·have:=af k (bN k hc);omega
 ·rcases xg k _ e with e|e
  ·exact hf.d k e hB hk
  ·have:=af k hk;omega
structure RSt (C:Ctx) (w0:World) (σR:Base) (ids:List Nat) (ρ1:Env) (lo:List Nat) (aM:Act) (L:Nat) (W1:World) (σ1:Im) (rec:LoopState→Option Code→Loop) (xs:List D) (P:Nat→List D→Snap→LoopState→Option Code→Prop) (t:D) (fx cx:Nat→Prop) (w:World):Prop where
 lt:∀k,fx k→k<w.heap.size
 sub:∀k,cx k→fx k
 old:∀k,k<W1.heap.size→fx k
 ex:∃(i:Nat) (vo:List D) (Sx:Snap) (st:LoopState) (pe:Option Code) (σ:Im) (own:Nat→Option Nat) (hv:Nat→Value),t=.list (xs.take i)∧P i vo Sx st pe∧Inv C (Sx.st ids) (ρ1.put [] [] lo vo) σ own hv w0 σR (fun _=>False) aM w∧
  σ1.le σ∧Free L σ own∧w.heap[L]?=some (.loop (rec st pe))∧(∀k j,own k=some j→fx k)∧(∀k o x,σ.c k o=some x→fx k)∧(∀k x,σ.m k=some x→fx k)∧∀k,cx k↔((∃j,own k=some j)∨k=L)
theorem RSt.keep {σR:Base}{ρ1:Env}{lo:List Nat}{aM:Act}{L:Nat}{W1:World}{σ1:Im}{rec:LoopState→Option Code→Loop}{xs:List D}{P:Nat→List D→Snap→LoopState→Option Code→Prop}{t:D}{fx cx:Nat→Prop}{w w':World}
 (h0:w0.heap.size≤W1.heap.size) (hL:L<W1.heap.size) (hR:∀t f c w,σR.F t f c w→∀k,f k→k<W1.heap.size) (h:RSt C w0 σR ids ρ1 lo aM L W1 σ1 rec xs P t fx cx w) (hb:Below 0 w w') (hs:∀k,fx k→w'.heap[k]?=w.heap[k]?):
 RSt C w0 σR ids ρ1 lo aM L W1 σ1 rec xs P t fx cx w':=by
 obtain⟨i,vo,Sx,st,pe,σ,own,hv,e1,e2,e3,e4,e5,e6,e7,e8,e9,e10⟩:=h.ex;refine⟨fun k hk=>wj (h.lt k hk) hb.size,h.sub,h.old,i,vo,Sx,st,pe,σ,own,hv,e1,e2,?_,e4,e5,(hs L (h.old L hL)).trans e6,e7,e8,e9,e10⟩;exact e3.keep (X:=fx) hb hs (fun k hk=>h.old k (by omega)) e7 e8 e9 (fun t f c hf k hk=>h.old k (hR _ _ _ _ hf.F k hk))
theorem Im.noM_m {σ:Im}{k:Nat}{v:List (Value×Value)}(h:σ.noM.m k=some v):σ.m k=some v∧v≠cW:=by
 simp only[Im.noM] at h;split at h
 ·cases h
 ·rename_i aE;exact⟨h,fun e=>aE (by rw[h,e])⟩
structure SegL (L:Nat) (σ:Im) (own:Nat→Option Nat) (w:World) (σ':Im) (own':Nat→Option Nat) (w':World):Prop where
 le:σ.le σ'
 below:Below 0 w w'
 same:∀k,k<w.heap.size→own k=none→k≠L→w'.heap[k]?=w.heap[k]?
 ow:∀k j,own' k=some j→(∃i,own k=some i)∨w.heap.size≤k
 imm:∀k,((∃o x,σ'.c k o=some x)∨∃x,σ'.m k=some x)→(∃o x,σ.c k o=some x)∨(∃x,σ.m k=some x)∨(∃i,own k=some i)∨w.heap.size≤k
theorem adG (w:World)(L:Nat)(o:Obj):Below 0 w (w.putObj L o):=⟨rfl,rfl,rfl,by simp,fun k hk=>by omega⟩
theorem Seg.round {L:Nat}{σ' σ'':Im}{own' adu:Nat→Option Nat}{w' kK:World}{o o':Obj}(h:Seg σ own w σ' own' w')(k:Seg σ' own' (w'.putObj L o) σ'' adu kK):SegL L σ own w σ'' adu (kK.putObj L o'):=by
 have aI:=h.below.size;have JX:=k.below.size;simp only[World.putObj_size] at JX;refine⟨h.le.trans k.le,h.below.trans ((adG _ _ _).trans (k.below.trans (adG _ _ _))),fun q hq ho hL=>?_,fun q j e=>?_,fun q e=>?_⟩
 ·have h1:own' q=none:=by
   cases e:own' q with
   |none=>rfl
   |some j=>
    rcases h.ow q j e with⟨i,e⟩|e
    ·rw[ho] at e;cases e
    ·omega
  rw[World.putObj_heap_other hL,k.same q (by simp;omega) h1,World.putObj_heap_other hL,h.same q hq ho]
 ·rcases k.ow q j e with⟨i,e⟩|e
  ·exact h.ow q i e
  ·simp only[World.putObj_size] at e;exact .inr (by omega)
 ·rcases k.imm q e with e|e|⟨i,e⟩|e
  ·exact h.imm q (.inl e)
  ·exact h.imm q (.inr e)
  ·rcases h.ow q i e with e|e
   ·exact .inr (.inr (.inl e))
   ·exact .inr (.inr (.inr e))
  ·simp only[World.putObj_size] at e;exact .inr (.inr (.inr (by omega)))
theorem Env.put_self (ρ:Env)(lo:List Nat):ρ.put [] [] lo (lo.map ρ.o)=ρ:=by
 have h2:∀u,putL ρ.o lo (lo.map ρ.o) u=ρ.o u:=fun u=>by rw[tT];split<;>rfl
 show Env.mk ρ.r (putL ρ.o lo (lo.map ρ.o))=ρ;rw[funext h2]
theorem asy {N:Nat}(eQ:gq C Φ){g:Operand}{ps:Array Tmp}{ca cb:Code}(bo:wq C Φ fn s n ids R N ca)(dz:wq C Φ fn s n ids R N cb):wq C Φ fn s n ids R N (.rangeFunc g ps ca cb):=by
 intro rm S r hr rd w0 σ0 wr ρ x a w gz hC hY il hn hg he;simp only[comp] at hr;split at hr
 case h_2=>cases hr;exact absurd he (mU _ _ _ _)
 rename_i aa rr e kD hu;split at hr
 case h_2=>cases hr;exact absurd he (mU _ _ _ _)
 rename_i ys xx;split at hr
 case h_2=>cases hr;exact absurd he (mU _ _ _ _)
 rename_i q hq;rw[pv] at hr;split at hr
 case isFalse=>cases hr;exact absurd he (mU _ _ _ _)
 rename_i ry;cases hr;simp only[aq] at ry;obtain⟨⟨⟨hl,bq⟩,af⟩,xn⟩:=ry;have hl:=aB hl;have xn:=jJ xn;obtain⟨hrd,nm⟩:=gz rfl;subst hrd;obtain⟨hs,AE,_⟩:=EM (C:=C) (w0:=w0) (σ0:=σ0) (ids:=ids) 8 hq;simp only[av] at hs;obtain⟨ra,PH,hs⟩:=hs;split at hs
 case h_2=>cases hs
 rename_i S1 hao Ze;simp only[aC] at hs;obtain⟨rb,Z4,jr⟩:=hs;have ZL:=uG ca PH;have ZM:=uG cb Z4;obtain⟨q1,q2⟩:=q;simp only at PH jr xn AE he ⊢;generalize xd:abg ids (q1::q2.ex.map (·.2)) q2.mo=lo at he;generalize vc:((oK cJ q2.ex none).bind fun M=>yq C fn s (M.st ids))=rt at he;have Ew:∃f caps d,e.ev ρ=.clo f caps∧Φ f caps=some d∧gu (q2.pc.ev Φ N) (ρ.setR n d) ps.toList lo rt d.l (lo.map ρ.o)=some x:=by
  simp only[PC.ev,PI.runs,PI.run,holds,List.all_nil,cond_true] at he;cases bL:e.ev ρ with
  |clo f caps=>
   rw[bL] at he;simp only[PE.evs,uA] at he;cases hΦ:Φ f caps with
   |none=>rw[hΦ] at he;simp at he
   |some d=>
    rw[hΦ] at he;simp only[km,kl,PE.ev,Env.setR,aK] at he;exact⟨f,caps,d,rfl,hΦ,he⟩
  |_=>rw[bL] at he;simp at he
 obtain⟨f,caps,d,bL,hΦ,he⟩:=Ew;obtain⟨σ,own,hv,i⟩:=hg;have hx:=cj (gs:=[]) i hC rfl hu;rw[bL] at hx;generalize O0:a.eval g=gv at hx;generalize bm:Ty.fn aa rr=ty at hx;cases hx with
 |fn f cs vs ds gd h1 h2 aP=>
 cases bm;obtain⟨hfn,amx⟩:=eQ f cs ys gd xx;obtain⟨xs,rfl,aCu,O2⟩:=amx caps d hΦ;simp only[D.l_list] at he;obtain⟨m,mZ,hm,tF,JL,kY⟩:=X5 he;have iq0:=aaA 8 hq i
 have iq:Inv C (q1.st ids) (ρ.setR n (.list xs)) σ own hv w0 σ0 (fun _=>False) a w:=by
  refine iq0.env (Snap.noOpt _ _) (fun t ht=>?_) (fun _ _=>rfl);have af:t<q1.rs.length:=by
   refine WX fun hle=>?_;simp only[Snap.st,aJ,sI hle,Option.getD_none,cw,isNone] at ht;cases ht
  simp[Env.setR,br _ _ (show t≠n by omega)]
 obtain⟨ρ1,hρ1⟩:∃ρ1,ρ.setR n (.list xs)=ρ1:=⟨_,rfl⟩
 rw[hρ1] at he iq JL kY;have jW:ρ.o=ρ1.o:=by rw[←hρ1];rfl
 rw[jW] at tF;refine wpIn_rangeFunc ?_;intro Oo aB7;obtain⟨L,YU⟩:∃L,w.heap.size+1=L:=⟨_,rfl⟩
 obtain⟨rec,iT⟩:∃rec:LoopState→Option Code→Loop,rec=fun st pe=>{state:=st,pending:=pe,fn:=Oo,tmps:=a.tmps,params:=ps,assign:=ca,body:=cb,defers:=w.heap.size}:=⟨_,rfl⟩
 have i1:=iq.enter (rec .ready none);obtain⟨t,fx0,cx0,Zt,PS⟩:=iq.frame;have amf:=σ0.lt _ _ _ _ Zt.F;have OX:=FrOK.enter iq Zt (rec .ready none);have aCs:=iq.below.size;have As:Free L (σ.mark w.heap.size) own:=by
  refine⟨?_,fun o=>?_,?_⟩
  ·cases e:own L with
   |none=>rfl
   |some j=>have:=(iq.owns L j e).2.1;omega
  ·cases e:σ.c L o with
   |none=>exact e
   |some x=>have:=iq.lt e;omega
  ·simp only[Im.mark,show L≠w.heap.size by omega,if_false];cases e:σ.m L with
   |none=>rfl
   |some x=>have:=iq.ltm e;omega
 have lI:σ.le (σ.mark w.heap.size):=by
  refine⟨fun _ _ _ e=>e,fun k x e=>?_⟩;have:k≠w.heap.size:=by have:=iq.ltm e;omega
  simp[Im.mark,this,e]
 have YR:((w.alloc (.deferred (some []))).alloc (.loop (rec .ready none))).heap[L]?=some (.loop (rec .ready none)):=by
  have:=World.alloc_heap_new (w.alloc (.deferred (some []))) (.loop (rec .ready none));rw[World.size_alloc,YU] at this;exact this
 obtain⟨W1,OE⟩:∃W1,(w.alloc (.deferred (some []))).alloc (.loop (rec .ready none))=W1:=⟨_,rfl⟩
 have aB2:W1.heap.size=w.heap.size+2:=by rw[←OE];simp
 rw[OE] at i1 OX YR;have OW:(Instr.enterLoop Oo a.tmps ps ca cb none).run C.P w=.ok (L,[{target:=.collected w.heap.size,args:=#[]}]) W1:=by
  rw[←OE,iT,←YU];exact run_enterLoop_outer _ _ _ _ _
 obtain⟨σ1,hσ1⟩:∃σ1,σ.mark w.heap.size=σ1:=⟨_,rfl⟩
 rw[hσ1] at i1 OX As lI;obtain⟨aM,OF⟩:∃aM:Act,{a with defers:={target:=.collected w.heap.size,args:=#[]}::a.defers}=aM:=⟨_,rfl⟩
 have DR:aM.tmps=a.tmps:=by rw[←OF]
 rw[OF] at i1;have iR:=i1.toRnd (t:=t) (X:=fun k=>k=L) PS;obtain⟨σR,hσR⟩:∃σR,σ0.rnd σ1 own W1 t (fun k=>k=L)=σR:=⟨_,rfl⟩
 have uP:∀t' f c w',σR.F t' f c w'→(∀k,f k→k<W1.heap.size∧k≠L)∧∀k,c k→f k∧(∀o,σ1.c k o=none)∧σ1.m k=none:=by
  rw[←hσR];rintro t' f c w' ⟨_,h2,h3,_⟩;exact⟨fun k hk=>⟨((h2 k).1 hk).1,((h2 k).1 hk).2.2.2⟩,fun k hk=>(h3 k).1 hk⟩
 have YX:CtxOK C σR:=by rw[←hσR];exact hC.mono i1.le
 rw[hσR] at iR
 obtain⟨P,hP⟩:∃P:Nat→List D→Snap→LoopState→Option Code→Prop,P=fun i vo Sx st pe=>(i≤m∧vo=mZ i∧Sx=q1∧st=.ready∧pe=none)∨
  (i=m+1∧m<xs.length∧st=.done∧∃y id ρ',xs[m]?=some y∧q2.pc.ev Φ N (ρ1.put ps.toList (partsOf ps.toList y) lo (mZ m))=some (.exit id ρ')∧vo=lo.map ρ'.o∧(id,Sx)∈q2.ex∧((id≠cJ∧pe=some (.exit id))∨(id=cJ∧pe=some .ret))):=⟨_,rfl⟩
 obtain⟨c1,c2⟩:=asx (C:=C) (w:=W1) (L:=L) hfn O0;refine⟨L,[{target:=.collected w.heap.size,args:=#[]}],W1,_,W1,f,_,W1,OW,c1,fun _ _=>trivial,c2,(fun e=>by cases e),?_⟩
 refine XA ((O2 σ1 W1 (.func (.yield L) #[] #[]) vs (RSt C w0 σR ids ρ1 lo aM L W1 σ1 rec xs P) (fun k=>k<W1.heap.size) (fun k=>(∃j,own k=some j)∨k=L) m i1.ok (hC.mono i1.le) ⟨h1,h2,fun j t e=>(aP j t e).mono lI⟩ hm
  (fun t f c w h=>h.lt) (fun t f c w h=>h.sub) (fun t f c w w' h hb hs=>h.keep (by omega) (by omega) (fun t f c w hF k hk=>((uP t f c w hF).1 k hk).1) hb hs) ?_ ?_ ?_ ?_).mono ?_)
 ·refine⟨fun k hk=>hk,fun k hk=>?_,fun k hk=>hk,0,mZ 0,q1,.ready,none,σ1,own,hv,by simp,by rw[hP];exact .inl ⟨pC _,rfl,rfl,rfl,rfl⟩,?_,.refl σ1,As,YR,fun k j e=>(iR.owns k j e).2.1,fun k o x e=>iR.lt e,fun k x e=>iR.ltm e,fun k=>.rfl⟩
  ·rcases hk with⟨j,e⟩|e
   ·exact(iR.owns k j e).2.1
   ·show k<W1.heap.size;omega
  ·rw[tF,Env.put_self];exact iR
 ·rintro k o x e (⟨j,hj⟩|rfl)
  ·have:=(iR.owns k j hj).2.2.1 o;rw[e] at this;cases this
  ·rw[As.c] at e;cases e
 ·rintro k x e (⟨j,hj⟩|rfl)
  ·have:=(iR.owns k j hj).2.2.2;rw[e] at this;cases this
  ·rw[As.m] at e;cases e
 ·intro i fx cx w1 σx args ds' hi dG hF hσx iO fi lH cX cM rd' o a' x' aa ts K Q bR cq Zc hK;have aB9:i<xs.length:=(eD.1 dG).1;obtain⟨i',vo,Sx,st,pe,σa,xV,hva,e1,e2,iA,JF,DP,Je,Pn,Zi,Ek,Az⟩:=hF.ex;have hii:i'=i:=by
   have h9:=congrArg List.length (congrArg D.l e1);simp only[D.l_list,dU] at h9;omega
  subst hii;rw[hP] at e2;rcases e2 with⟨_,rfl,DQ,rfl,rfl⟩|⟨e2,_⟩
  case inr=>omega
  rw[DQ] at iA;have YV:L<w1.heap.size:=hF.lt L (hF.old L (by omega));have Jp:cx L:=(Az L).2 (.inr rfl)
  have amT:∀k o v,σx.c k o=some v→xV k=none:=fun k o v e=>by
   cases e2:xV k with
   |none=>rfl
   |some j=>exact absurd ((Az k).2 (.inl ⟨j,e2⟩)) (fi k o v e)
  have En:∀k v,σx.m k=some v→xV k=none:=fun k v e=>by
   cases e2:xV k with
   |none=>rfl
   |some j=>exact absurd ((Az k).2 (.inl ⟨j,e2⟩)) (lH k v e)
  have hτok:σx.noM.ok w1:=⟨hσx.c,fun k v e=>hσx.m k v (Im.noM_m e).1⟩
  have iB:=iA.joinIm (τ:=σx.noM) hτok (fun k e=>(Im.noM_m e).2 rfl) amT (fun k v e=>En k v (Im.noM_m e).1)
   (fun k o v e=>(cX k o v e).imp (fun e=>JF.c k o v e) fun e=>by omega) (fun k v e=>(cM k v (Im.noM_m e).1).imp (fun e=>JF.m k v e) fun e=>by omega)
   (fun t' f c hf=>⟨fun k o v e hc=>by
        obtain⟨g1,g2,g3⟩:=(uP _ _ _ _ hf.F).2 k hc;rcases cX k o v e with e|e
        ·rw[g2 o] at e;cases e
        ·have:=((uP _ _ _ _ hf.F).1 k g1).1;omega,fun k v e hc=>by
        obtain⟨g1,g2,g3⟩:=(uP _ _ _ _ hf.F).2 k hc;rcases cM k v (Im.noM_m e).1 with e|e
        ·rw[g3] at e;cases e
        ·have:=((uP _ _ _ _ hf.F).1 k g1).1;omega⟩)
  have YO:Free L (σa.plus σx.noM) xV:=by
   refine⟨DP.own,fun o=>?_,?_⟩
   ·cases e:(σa.plus σx.noM).c L o with
    |none=>rfl
    |some v=>
     rcases Im.plus_c e with e|e
     ·rw[DP.c] at e;cases e
     ·exact absurd Jp (fi L o v e)
   ·cases e:(σa.plus σx.noM).m L with
    |none=>rfl
    |some v=>
     rcases Im.plus_m e with e|e
     ·rw[DP.m] at e;cases e
     ·exact absurd Jp (lH L v (Im.noM_m e).1)
  have tD:ps.toList.length=ys.length:=by rw[Co];exact hl.symm
  have alz:pq C (σa.plus σx.noM) ys args ds':=⟨iO.1,iO.2.1,fun j t e=>((iO.2.2 j t e).noM).mono (Im.plus_le2 iA.ok hτok)⟩
  have iC:=iB.startR (ρ':=ρ1) tD bq (fun p hp=>by
   have:=bK.1 af p hp;rw[DR,hn];simpa [iJ] using this) alz rfl
  have PA:∃xi,q2.pc.ev Φ N (ρ1.put ps.toList (partsOf ps.toList (.tup ds')) lo (mZ i'))=some xi∧((i'<m∧∃ρ',xi=.next ρ'∧lo.map ρ'.o=mZ (i'+1))∨(i'=m∧m<xs.length∧∃id ρ',xi=.exit id ρ')):=by
   by_cases kX:i'<m
   ·obtain⟨y,ρ',g1,g2,g3⟩:=JL i' kX;rw[dG] at g1;cases g1;exact⟨_,g2,.inl ⟨kX,ρ',rfl,g3⟩⟩
   ·obtain rfl:i'=m:=by omega
    rcases kY with⟨g1,_⟩|⟨g1,y,id,ρ',g2,g3,_⟩
    ·omega
    ·rw[dG] at g2;cases g2;exact⟨_,g3,.inr ⟨rfl,g1,id,ρ',rfl⟩⟩
  obtain⟨xi,tH,Qa⟩:=PA;have ab:q2.pc=.seq ra.pc rb.pc:=by rw[←jr];rfl
  rw[ab] at tH;have aI:(mS ps.toList args aM.tmps).size=n:=by rw[afl,DR,hn]
  refine⟨fun _ _=>trivial,?_⟩;rw[Oper.semAt_eq _ _ _ (fun c e=>by rw[bR] at e;cases e)];have alA:aa.size=ps.size:=by
   have:=iO.1;rw[←Zc,fG,Co] at this;omega
  have ak:=awU (C:=C) bR cq Je (by rw[iT];exact alA);have ank:(rec .ready none).fn=Oo∧(rec .ready none).tmps=a.tmps∧(rec .ready none).params=ps∧(rec .ready none).assign=ca∧(rec .ready none).body=cb:=by rw[iT];exact⟨rfl,rfl,rfl,rfl,rfl⟩
  obtain⟨r1,r2,r3,r4,r5⟩:=ank;rw[r1,r2,r3,r4,r5] at ak
  have tE:(ps.zip (aa.map a'.eval)).foldl (fun tmps (t,v)=>tmps.setIfInBounds t v) a.tmps=mS ps.toList args aM.tmps:=by
   rw[DR,←Zc,←v3];exact atm ps (aa.map a'.eval) a.tmps
  rw[tE] at ak;rw[ak];refine⟨(fun e=>by cases e),?_⟩;refine roundIn_of_wpIn (F:=FR rd') trivial ?_;show ca.wpIn (FR (some L)) 0 C.P _ _ _;cases mA:ra.pc.ev Φ N (ρ1.put ps.toList (partsOf ps.toList (.tup ds')) lo (mZ i')) with
  |none=>simp only[PC.ev,mA] at tH;cases tH
  |some xa=>
  refine wpIn_mono (aff bo PH kD YX iC (wr:=fun t=>t∈cr ca) (fun _ h=>h) aI mA L) fun e2 a1 Wq anv=>?_;obtain⟨ρ2,S2,σ2,iV,ic,iD,rK,ib,kz⟩:=anv;cases e2 with
  |normal=>
   obtain⟨rfl,wR⟩:=kz;rw[hao] at wR;cases wR;simp only[PC.ev,mA] at tH;have YS:Wq.heap[L]?=some (.loop (rec .ready none)):=(rK.same L YV YO.own).trans Je;have OA:=YO.seg YV rK;have OB:L<Wq.heap.size:=(gp.1 YS).1;have YQ:w0.heap.size≤L:=by omega
   refine⟨_,run_beginRound YS (by rw[iT]),?_⟩;have iE:=iD.putL YQ OA (fun t' f c hf D6=>((uP _ _ _ _ hf.F).1 L D6).2 rfl) (.loop {rec .ready none with state:=.busy});have hL3:(Wq.putObj L (.loop {rec .ready none with state:=.busy})).heap[L]?=some (.loop {rec .ready none with state:=.busy}):=World.putObj_heap_same OB;show cb.wpIn (FR (some L)) 0 C.P _ _ _;refine wpIn_mono (aff dz Z4 kD YX iE (wr:=fun t=>t∈cr cb) (fun _ h=>h) (ib.size.trans aI) tH L) fun e3 a3 w3 anw=>?_;obtain⟨ρ3,S3,σ3,xU,EE,iF,JW,ans,oD⟩:=anw;have YT:w3.heap[L]?=some (.loop {rec .ready none with state:=.busy}):=(JW.same L (by simpa using OB) OA.own).trans hL3;have YN:=OA.seg (by simpa using OB) JW;have ali:L<w3.heap.size:=(gp.1 YT).1;obtain⟨mk,JI⟩:∃mk,Nat.lor (xI (ps.toList++cr ca++cr cb)) (Nat.lor ra.mr rb.mr)=mk:=⟨_,rfl⟩
   have amM:∀t,aw mk t=false→t∉ps.toList∧t∉cr ca∧t∉cr cb∧aw ra.mr t=false∧aw rb.mr t=false:=by
        intro t ht;rw[←JI,fb,fb,WC,WC] at ht;obtain⟨t1,t2,t3⟩:=ht;have:t∉ps.toList++cr ca++cr cb:=fun hm=>by rw[Xr hm] at t1;cases t1
        simp only[dt,not_or] at this;exact⟨this.1.1,this.1.2,this.2,t2,t3⟩
   have PJ:∀t,aw mk t=false→aM.tmps.getD t undef=a3.tmps.getD t undef∧(ρ1.put [] [] lo (lo.map ρ3.o)).r t=ρ3.r t:=by
        intro t ht;obtain⟨t1,t2,t3,t4,t5⟩:=amM t ht;refine⟨?_,?_⟩
        ·rw[ans.get t t3,ib.get t t2];exact(LQ _ _ _ _ t1).symm
        ·have hb3:∀ρ',xi=.next ρ'∨(∃id,xi=.exit id ρ')→ρ'.r t=ρ2.r t:=fun ρ' h=>by
          have wX:xi.env?=some ρ':=by rcases h with h|⟨id,h⟩<;>rw[h]<;>rfl
          exact(PC.ev_but rb.pc _ _ ρ' tH wX).r t fun hm=>by rw[ZM.1 t hm] at t5;cases t5
         have de:ρ2.r t=putL ρ1.r ps.toList (partsOf ps.toList (.tup ds')) t:=(PC.ev_but ra.pc _ _ ρ2 mA rfl).r t fun hm=>by rw[ZL.1 t hm] at t4;cases t4
         rw[By _ _ _ _ t1] at de;show ρ1.r t=ρ3.r t;rw[hb3 ρ3 (by
          cases e3 with
          |normal=>exact .inl oD.1
          |exit id=>exact .inr ⟨id,oD.1⟩
          |ret=>exact .inr ⟨_,oD.1⟩
          |_=>exact oD.elim),de]
   have Pc:q2.mo=jF ra.mo rb.mo:=by rw[←jr];rfl
   have Pq:∀j,j∉q2.mo→ρ3.o j=ρ1.o j:=by
        intro j hj;rw[Pc,qu,not_or] at hj;have wX:xi.env?=some ρ3:=by
         cases e3 with
         |normal=>rw[oD.1];rfl
         |exit id=>rw[oD.1];rfl
         |ret=>rw[oD.1];rfl
         |_=>exact oD.elim
        rw[(PC.ev_but rb.pc _ _ ρ3 tH wX).o j fun hm=>hj.2 (ZM.2 j hm),(PC.ev_but ra.pc _ _ ρ2 mA rfl).o j fun hm=>hj.1 (ZL.2 j hm)]
        exact By _ _ _ _ fun hm=>by
         rw[←xd] at hm;have:=(dj.1 hm).1;rw[Pc,qu] at this;exact this.elim hj.1 hj.2
   have Pp:∀(S:Snap),S∈(q1::q2.ex.map (·.2))→∀j,oI ((S.st ids).o j)=false→(ρ1.put [] [] lo (lo.map ρ3.o)).o j=ρ3.o j:=by
        intro S hS j hj;show putL ρ1.o lo (lo.map ρ3.o) j=ρ3.o j;rw[tT];split
        ·rfl
        ·rename_i eR;refine(Pq j fun uZ=>eR ?_).symm;rw[←xd];exact dj.2 ⟨uZ,nY.2 ⟨S,hS,by simpa [Snap.st] using hj⟩⟩
   have fin:∀(jump:Option Code) (Sx:Snap),Inv C (Sx.st ids) (ρ1.put [] [] lo (lo.map ρ3.o)) σ3 xU EE w0 σR (fun _=>False) aM w3→P (i'+1) (lo.map ρ3.o) Sx (if jump.isNone then .ready else .done) jump→jump.isNone=decide (i'<m)→
        ∃v w',(Instr.endRound L jump).run C.P w3=.ok v w'∧K (a'.put o.dst v) w':=by
        intro jump Sx iG hPn uZ;refine⟨_,_,run_endRound jump YT,?_⟩;have anj:({{rec .ready none with state:=.busy} with state:=if jump.isNone then .ready else .done,pending:=jump}:Loop)=rec (if jump.isNone then .ready else .done) jump:=by rw[iT]
        rw[anj];have aP:=rK.round (L:=L) (o':=.loop (rec (if jump.isNone then .ready else .done) jump)) JW;have iH:=iG.putL YQ YN (fun t' f c hf D6=>((uP _ _ _ _ hf.F).1 L D6).2 rfl) (.loop (rec (if jump.isNone then .ready else .done) jump));obtain⟨w4,P6⟩:∃w4,w3.putObj L (.loop (rec (if jump.isNone then .ready else .done) jump))=w4:=⟨_,rfl⟩
        have hL5:w4.heap[L]?=some (.loop (rec (if jump.isNone then .ready else .done) jump)):=by rw[←P6];exact World.putObj_heap_same ali
        have aCx:w4.heap.size=w3.heap.size:=by rw[←P6];simp
        rw[P6] at aP iH ⊢;have aB1:W1.heap.size≤w1.heap.size:=by
         have:=hF.lt (W1.heap.size-1) (hF.old _ (by omega));omega
        have aCt:=aP.below.size
        refine hK _ _ ⟨by rw[uZ],aP.below,fun k hk hc=>aP.same k hk (by
         cases e:xV k with
         |none=>rfl
         |some j=>exact absurd ((Az k).2 (.inl ⟨j,e⟩)) hc) (fun e=>hc (by rw[e];exact Jp)),(fun k=>k<w4.heap.size∧(k<W1.heap.size∨(∃j,xU k=some j)∨(∃o x,σ3.c k o=some x)∨∃x,σ3.m k=some x)),(fun k=>(∃j,xU k=some j)∨k=L),?_,?_,?_⟩
        ·refine⟨fun k hk=>hk.1,fun k hk=>?_,fun k hk=>⟨by omega,.inl hk⟩,i'+1,lo.map ρ3.o,Sx,_,jump,σ3,xU,EE,rfl,hPn,iH,JF.trans ((Im.plus_le1 _ _).trans aP.le),YN,hL5,fun k j e=>⟨(iH.owns k j e).2.1,.inr (.inl ⟨j,e⟩)⟩,fun k o x e=>⟨iH.lt e,.inr (.inr (.inl ⟨o,x,e⟩))⟩,fun k x e=>⟨iH.ltm e,.inr (.inr (.inr ⟨x,e⟩))⟩,fun k=>.rfl⟩;rcases hk with⟨j,e⟩|e
         ·exact⟨(iH.owns k j e).2.1,.inr (.inl ⟨j,e⟩)⟩
         ·exact⟨by omega,.inl (by omega)⟩
        ·rintro k ⟨_,hk⟩ bx
         have Ec:((∃o x,σ3.c k o=some x)∨∃x,σ3.m k=some x)→fx k∨(∃o x,σx.c k o=some x)∨(∃x,σx.m k=some x∧x≠cW):=fun h=>by
          rcases aP.imm k h with⟨o,x,e⟩|⟨x,e⟩|⟨j,e⟩|e
          ·rcases Im.plus_c e with e|e
           ·exact .inl (Zi k o x e)
           ·exact .inr (.inl ⟨o,x,e⟩)
          ·rcases Im.plus_m e with e|e
           ·exact .inl (Ek k x e)
           ·exact .inr (.inr ⟨x,(Im.noM_m e).1,(Im.noM_m e).2⟩)
          ·exact .inl (Pn k j e)
          ·omega
         rcases hk with hk|⟨j,e⟩|e|e
         ·exact .inl (hF.old k hk)
         ·rcases aP.ow k j e with⟨j',e⟩|e
          ·exact .inl (Pn k j' e)
          ·omega
         ·exact Ec (.inl e)
         ·exact Ec (.inr e)
        ·rintro k (⟨j,e⟩|e) bx
         ·rcases aP.ow k j e with⟨j',e⟩|e
          ·exact(Az k).2 (.inl ⟨j',e⟩)
          ·omega
         ·rw[e];exact Jp
   have oy:kL σ3 w0.heap.size aM.defers:=iA.defers.mono ((Im.plus_le1 _ _).trans (rK.le.trans JW.le));have PB:q2.out=rb.out.map (Snap.mask mk)∧q2.ex=rb.ex.map (fun x=>(x.1,x.2.mask mk)):=by rw[←jr,←JI];exact⟨rfl,rfl⟩
   cases e3 with
   |normal=>
    obtain⟨e4,e5⟩:=oD;have hT:q2.out=some (S3.mask mk):=by rw[PB.1,e5];rfl
    have Zu:=AE _ hT
    have iG:Inv C (q1.st ids) ρ3 σ3 xU EE w0 σR (fun _=>False) a3 w3:=by
        have:=Snap.meet_ok2 (x:=q1) (iF.maskR mk)
        rwa [Zu] at this
    have iH:=iG.restore (ρ':=ρ1.put [] [] lo (lo.map ρ3.o)) (a':=aM) (Snap.noOpt _ _) oy (fun t ht=>PJ t (by
        cases e:aw mk t with
        |false=>rfl
        |true=>
         have h9:=aqn (x:=q1) (S:=S3) (ids:=ids) e;rw[Zu] at h9;rw[h9] at ht;cases ht)) (fun j hj=>Pp q1 (du ..) j hj)
    rcases Qa with⟨kX,ρ',e6,e7⟩|⟨_,_,id,ρ',e6⟩
    ·rw[e4] at e6;cases e6;exact fin none q1 iH (by rw[hP];exact .inl ⟨by omega,e7,rfl,rfl,rfl⟩) (by simp[kX])
    ·rw[e4] at e6;cases e6
   |exit id=>
    obtain⟨e4,e5,e6⟩:=oD;have cP:(id,S3.mask mk)∈q2.ex:=by rw[PB.2];exact dJ.2 ⟨_,e6,rfl⟩
    have iH:=(iF.maskR mk).restore (ρ':=ρ1.put [] [] lo (lo.map ρ3.o)) (a':=aM) (Snap.noOpt _ _) oy (fun t ht=>PJ t (by
        cases e:aw mk t with
        |false=>rfl
        |true=>rw[EV,if_pos e] at ht;cases ht)) (fun j hj=>Pp (S3.mask mk) (di _ (dJ.2 ⟨_,cP,rfl⟩)) j hj)
    rcases Qa with⟨kX,ρ',e7,_⟩|⟨kX,ql,bT,ρ',e7⟩
    ·rw[e4] at e7;cases e7
    ·subst kX;refine fin (some (.exit id)) (S3.mask mk) iH ?_ (by simp);rw[hP];refine .inr ⟨rfl,ql,rfl,_,id,ρ3,dG,?_,rfl,cP,.inl ⟨e5,rfl⟩⟩;rw[ab];simp only[PC.ev,mA];rw[tH,e4]
   |ret=>
    obtain⟨e4,e6⟩:=oD;have cP:(cJ,S3.mask mk)∈q2.ex:=by rw[PB.2];exact dJ.2 ⟨_,e6,rfl⟩
    have iH:=(iF.maskR mk).restore (ρ':=ρ1.put [] [] lo (lo.map ρ3.o)) (a':=aM) (Snap.noOpt _ _) oy (fun t ht=>PJ t (by
        cases e:aw mk t with
        |false=>rfl
        |true=>rw[EV,if_pos e] at ht;cases ht)) (fun j hj=>Pp (S3.mask mk) (di _ (dJ.2 ⟨_,cP,rfl⟩)) j hj)
    rcases Qa with⟨kX,ρ',e7,_⟩|⟨kX,ql,bT,ρ',e7⟩
    ·rw[e4] at e7;cases e7
    ·subst kX;refine fin (some .ret) (S3.mask mk) iH ?_ (by simp);rw[hP];refine .inr ⟨rfl,ql,rfl,_,cJ,ρ3,dG,?_,rfl,cP,.inr ⟨rfl,rfl⟩⟩;rw[ab];simp only[PC.ev,mA];rw[tH,e4]
   |_=>exact oD.elim
  |exit id=>obtain⟨_,_,e6⟩:=kz;rw[Ze] at e6;cases e6
  |ret=>obtain⟨_,e6⟩:=kz;rw[Ze] at e6;cases e6
  |_=>exact kz.elim
 ·rintro e' w' ⟨⟨v,rfl⟩,fx,cx,hF⟩;rw[show({tmps:=a.tmps,defers:=[{target:=Target.collected w.heap.size,args:=#[]}]++a.defers}:Act)=aM from OF];obtain⟨i',vo,Sx,st,pe,σa,xV,hva,e1,e2,iA,JF,DP,Je,Pn,Zi,Ek,Az⟩:=hF.ex;have h9:=congrArg List.length (congrArg D.l e1);simp only[D.l_list,dU] at h9;have cn:(rec st pe).state≠.busy:=by
   rw[hP] at e2;rw[iT];rcases e2 with⟨_,_,_,e3,_⟩|⟨_,_,e3,_⟩<;>(rw[e3];intro e;cases e)
  have u9:(rec st pe).pending=pe:=by rw[iT]
  have AD:(Instr.endLoop L).run C.P w'=.ok pe (w'.putObj L (.loop {rec st pe with state:=.exhausted})):=(run_endLoop (P:=C.P) Je cn).trans (congrArg (fun z=>Result.ok z _) u9);have iF:=iA.putL (by omega:w0.heap.size≤L) DP (fun t' f c hf D6=>((uP _ _ _ _ hf.F).1 L D6).2 rfl) (.loop {rec st pe with state:=.exhausted});rw[←hσR] at iF;have iG:=i1.ofRnd OX (fun k hk e=>by have:=amf k hk;omega) iF;have kB:SameBut wr a aM:=⟨by rw[DR],fun t _=>by rw[DR]⟩
  refine⟨pe,_,AD,?_⟩;rw[hP] at e2;rcases e2 with⟨e3,rfl,DQ,_,rfl⟩|⟨rfl,ql,_,y,id,ρ',g1,g2,rfl,g4,g5⟩
  ·rcases kY with⟨g1,g2⟩|⟨g1,_⟩
   ·obtain rfl:i'=m:=by omega
    rw[DQ] at iG;exact⟨_,q1,g2,rfl,kB,_,_,_,iG⟩
   ·omega
  ·rcases kY with⟨g6,_⟩|⟨_,y',bT,ρ'',k1,k2,k3⟩
   ·omega
   ·rw[g1] at k1;cases k1;rw[g2] at k2;cases k2;rcases k3 with⟨k3,k4⟩|⟨k3,pe',k4,k5⟩
    ·rcases g5 with⟨_,rfl⟩|⟨g5,_⟩
     ·exact wpIn_exit ⟨_,Sx,k4,k3,dj.2 ⟨g4,by simp[ew k3]⟩,kB,_,_,_,iG⟩
     ·exact absurd g5 k3
    ·rcases g5 with⟨g5,_⟩|⟨_,rfl⟩
     ·exact absurd k3 g5
     ·subst k3;rw[←vc,av] at k4;obtain⟨M,hM,Ey⟩:=k4;obtain⟨M',YW,tu⟩:=Qz (⟨_,_,_,iG⟩:Good C w0 σ0 (Sx.st ids) _ (fun _=>False) aM _) q2.ex none g4;rw[hM] at YW;cases YW;obtain⟨σm,aDu,hvm,im⟩:=tu;exact wpIn_ret ⟨_,k5,Inv.retD hC (fun _=>rfl) nm Ey _ im rfl,kB⟩
theorem abk {arr:Array MapEntry}{clock:Nat}(hb:m3 arr clock){idx:List Nat}(hi:∀i,i∈idx→i<arr.size){i:Nat}{e:MapEntry}(he:arr[i]?=some e):(gn arr idx).contains e.born=true↔i∈idx:=by
 simp only[gn,List.contains_toArray,List.contains_iff_mem,dJ];constructor
 ·rintro⟨j,hj,h⟩;have af:=hi j hj;rw[fF af] at h;simp only at h;have:=hb.2 j i arr[j] e (fF af) he h;rw[←this];exact hj
 ·intro h;exact⟨i,h,by rw[he]⟩
theorem ati (arr:Array MapEntry)(idx:List Nat){i:Nat}{e:MapEntry}(he:arr[i]?=some e):(gn arr idx).push e.born=gn arr (idx++[i]):=by
 simp[gn,he]
theorem aqE {P:Program}{w:World}{k m:Nat}{arr:Array MapEntry}{clock:Nat}{idx:List Nat}(hk:w.heap[k]?=some (.mapIter (some m) clock (gn arr idx) clock))(hm:w.heap[m]?=some (.map arr clock))(hb:m3 arr clock)(hi:∀i,i∈idx→i<arr.size)(T:TypeId):
 ∃w1:World,(w1=w∨w1=w.drew)∧(((∀i,i<arr.size→i∈idx)∧(Instr.next (.pointer (some ⟨k,0,none⟩)) false T).run P w=.ok (.tuple #[.bool false]) w1)∨
  ∃i e,arr[i]?=some e∧i∉idx∧(Instr.next (.pointer (some ⟨k,0,none⟩)) false T).run P w=.ok (.tuple #[.bool true,e.key,e.val]) {w1 with heap:=w1.heap.setIfInBounds k (.mapIter (some m) clock (gn arr (idx++[i])) clock)}):=by
 have cP:∀{e:MapEntry},e∈arr→∃i:Nat,arr[i]?=some e:=fun he=>by
  obtain⟨i,hi,rfl⟩:=Array.mem_iff_getElem.1 he;exact⟨i,fF hi⟩
 have hold:∀(l:Array MapEntry),(∀e,e∈l→e.born<clock)→l.filter (fun x=>decide (x.born<clock))=l:=fun l h=>by
  rw[Array.filter_eq_self];intro e he;simpa using h e he
 have lL:∀(l:Array MapEntry),(∀e,e∈l→e.born<clock)→l.filter (fun x=>decide (x.born≥clock))=#[]:=fun l h=>by
  rw[Array.filter_eq_empty_iff];intro e he;have:=h e he;simp;omega
 have Zf:∀e,e∈arr→e.born<clock:=fun e he=>by obtain⟨i,hi⟩:=cP he;exact hb.1 i e hi
 have qj:(!(gn arr idx).isEmpty&& !arr.isEmpty&&arr.all (fun x=>decide (x.born≥clock)))=false:=by
  cases ha:arr.isEmpty
  ·have aE:arr.size≠0:=by simpa using ha
   have:arr.all (fun x=>decide (x.born≥clock))=false:=by
        rw[WB];intro h;rw[Array.all_eq_true] at h;have h0:=h 0 (by omega);have h1:=Zf arr[0] (Wz _);simp at h0;omega
   rw[this,yH]
  ·simp
 let left:=arr.filter fun e=> !(gn arr idx).contains e.born
 have hl:∀e,e∈left→e.born<clock:=fun e he=>Zf e (WA.1 he).1;by_cases hz:left.size=0
 ·refine⟨w,.inl rfl,.inl ⟨fun i af=>?_,?_⟩⟩
  ·by_cases bC:i∈idx
   ·exact bC
   ·exfalso;have JH:arr[i]∈left:=WA.2 ⟨Wz _,by
     have:=abk hb hi (fF af);cases hc:(gn arr idx).contains arr[i].born with
     |false=>rfl
     |true=>exact absurd (this.1 hc) bC⟩
    have:left=#[]:=Ml hz;rw[this] at JH;simp at JH
  ·have he:left=#[]:=Ml hz;have qk:arr.filter (fun e=> !(gn arr idx).contains e.born)=#[]:=he;simp only[Instr.next,getObj,Sem.run_bind,Sem.run,hk,hm,Result.andThen_ok,qj,qk];simp[Question.forced,Sem.run]
 ·have jR:left.filter (fun x=>decide (x.born<clock))=left:=hold left hl;have kV:left.filter (fun x=>decide (x.born≥clock))=#[]:=lL left hl;have hem:left.isEmpty=false:=by simpa using hz
  have key:∀c,c<left.size→∃i e,arr[i]?=some e∧i∉idx∧left[c]?=some e:=fun c hc=>by
   have JH:left[c]∈left:=Wz _;obtain⟨h1,h2⟩:=WA.1 JH;obtain⟨i,df⟩:=cP h1;refine⟨i,left[c],df,fun bC=>?_,fF hc⟩;rw[(abk hb hi df).2 bC] at h2;cases h2
  obtain⟨w1,c,fP,hc,mm⟩:∃w1 c,(w1=w∨w1=w.drew)∧c<left.size∧(choose (.mapNext left.size)).run P w=.ok c w1:=by
   by_cases h1:left.size≤1
   ·exact⟨w,0,.inl rfl,by omega,by simp[Question.forced,h1]⟩
   ·exact⟨w.drew,_,.inr rfl,Nat.mod_lt _ (by omega),by simp[Question.forced,h1,Question.cut];rfl⟩
  obtain⟨i,e,h1,h2,h3⟩:=key c hc;refine⟨w1,fP,.inr ⟨i,e,h1,h2,?_⟩⟩;have xc:arr.filter (fun e=> !(gn arr idx).contains e.born)=left:=rfl;have rB:(getObj k).run P w=.ok (.mapIter (some m) clock (gn arr idx) clock) w:=by simp[getObj,Sem.run,hk]
  have iQ:(getObj m).run P w=.ok (.map arr clock) w:=by simp[getObj,Sem.run,hm]
  have bx:w1.heap[k]?=some (.mapIter (some m) clock (gn arr idx) clock):=by rcases fP with rfl|rfl<;>exact hk
  have Zv:(setObj k (.mapIter (some m) clock ((gn arr idx).push e.born) clock)).run P w1=.ok () {w1 with heap:=w1.heap.setIfInBounds k (.mapIter (some m) clock ((gn arr idx).push e.born) clock)}:=by simp[setObj,Sem.run,bx]
  have alI:((if false=true then #[none] else #[])++Array.map some (left++#[]):Array (Option MapEntry))=left.map some:=by simp
  have fi:(left.map some)[c]?=some (some e):=by simp[h3]
  have Zx:∀(CX:Array (Option MapEntry)) (cc:Nat),(choose (.mapNext CX.size)).run P w=.ok cc w1→CX[cc]?=some (some e)→(do
        match CX[←choose (.mapNext CX.size)]? with
        |some (some e)=>
         setObj k (.mapIter (some m) clock ((gn arr idx).push e.born) clock)
         pure (.tuple #[.bool true,e.key,e.val])
        |some none=>(pure (.tuple #[.bool false]):Sem Value)
        |none=>stuck "Next: no such candidate" :Sem Value).run P w=.ok (.tuple #[.bool true,e.key,e.val]) {w1 with heap:=w1.heap.setIfInBounds k (.mapIter (some m) clock ((gn arr idx).push e.born) clock)}:=by
   intro CX cc h4 h5;rw[Sem.run_bind,h4];simp only[Result.andThen_ok,h5];rw[Sem.run_bind,Zv];rfl
  rw[ati arr idx h1] at Zx Zv;have:=Zx (left.map some) c (by rw[Array.size_map];exact mm) fi;simp only[Instr.next];rw[Sem.run_bind,rB];simp only[Result.andThen_ok];rw[Sem.run_bind,iQ];simp only[Result.andThen_ok,qj,xc,jR,kV,hem];rw[alI,if_neg (by decide)];exact this
theorem ajj {P:Program}{w:World}{k m:Nat}{arr:Array MapEntry}{clock:Nat}{idx:List Nat}{i:Nat}{e:MapEntry}(hk:w.heap[k]?=some (.mapIter (some m) clock (gn arr (idx++[i])) clock))(hm:w.heap[m]?=some (.map arr clock))(hb:m3 arr clock)(he:arr[i]?=some e):
 (Instr.entry (.pointer (some ⟨k,0,none⟩))).run P w=.ok (.tuple #[e.key,e.val]) w:=by
 have alD:(gn arr (idx++[i])).back?=some e.born:=by simp[gn,he]
 have D7:arr.find? (fun x=>x.born==e.born)=some e:=by
  have af:i<arr.size:=(gp.1 he).1;have hei:arr[i]=e:=(gp.1 he).2;rw[Array.find?_eq_some_iff_getElem];refine⟨by simp,i,af,hei,fun j hj=>?_⟩;have eR:j<arr.size:=by omega
  cases hc:(arr[j].born==e.born) with
  |false=>rfl
  |true=>
   have:=hb.2 j i arr[j] e (fF eR) he (by simpa using hc);omega
 simp[Instr.entry,getObj,Sem.run_bind,Sem.run,hk,hm,alD,D7]
theorem aqg {x y z:Code}{k:Nat}{p:MP}(h:A7 x y k z=some p):∃i1 i2 o1 o2 o3 l,x=.region i1 p.ops1 false∧y=.cond (.tmp p.mo) .skip (.exit p.out)∧z=.region i2 p.ops2 false∧p.next=k∧p.ops1.toList=[o1,o2]∧p.ops2.toList=o3::l∧
 o1.dst=some p.nx∧o1.guard=none∧o1.op=.next (.tmp p.it) false∧o2.dst=some p.mo∧o2.guard=none∧o2.op=.extract (.tmp p.nx) 0∧o3.dst=some p.pr∧o3.guard=none∧o3.op=.entry (.tmp p.it)∧lh p.pr l []=some p.aa∧
 p.it≠p.nx∧p.it≠p.mo∧p.it≠p.pr∧p.nx≠p.mo∧p.out≠cJ∧k≠cJ:=by
 unfold A7 at h;split at h
 case h_2=>cases h
 rename_i i1 ops1 mo out i2 ops2;split at h
 case h_2=>cases h
 rename_i o1 o2 o3 l e1 e2;split at h
 case h_2=>cases h
 rename_i nx it mo' nx' pr it' d1 g1 q1 d2 g2 q2 d3 g3 q3;rw[pv] at h;split at h
 case isFalse=>cases h
 rename_i hc;simp only[aC] at h;obtain⟨aa,h4,rfl⟩:=h;simp only[aq,iy] at hc;obtain⟨⟨⟨⟨⟨⟨⟨⟨c1,c2⟩,c3⟩,c4⟩,c5⟩,c6⟩,c7⟩,c8⟩,c9⟩:=hc;have ne:∀{a b:Nat},Nat.beq a b=false→a≠b:=fun h e=>by subst e;simp at h
 obtain rfl:=aB c1;obtain rfl:=aB c2;obtain rfl:=aB c3;exact⟨i1,i2,o1,o2,o3,l,rfl,rfl,rfl,rfl,e1,e2,d1,g1,q1,d2,g2,q2,d3,g3,q3,h4,ne c4,ne c5,ne c6,ne c7,ne c8,ne c9⟩
theorem KJ {pr:Nat}:∀(l:List Oper) {acc aa:List (Nat×Nat)},lh pr l acc=some aa→∀x,x∈acc→x∈aa
 |[],acc,aa,h,x,hx=>by simp only[lh,aT] at h;subst h;exact hx
 |o::l,acc,aa,h,x,hx=>by
  simp only[lh] at h;split at h
  case h_2=>cases h
  rw[pv] at h;split at h
  ·cases h
  split at h
  ·rw[pv] at h;split at h
   ·exact KJ l h x (jI _ hx)
   ·cases h
  ·simp only[av] at h;obtain⟨i,_,h⟩:=h;exact KJ l h x (jI _ hx)
  ·simp only[av] at h;obtain⟨i,_,h⟩:=h;exact KJ l h x (jI _ hx)
  ·cases h
theorem EU:∀{l:List (Nat×Nat)} {t i:Nat},vp l t=some i→(t,i)∈l
 |x::l,t,i,h=>by
  simp only[vp] at h;cases hb:Nat.beq x.1 t<;>simp only[hb,cond_true,cond_false] at h
  ·exact di _ (EU h)
  ·cases h;have:=aB hb;subst this;exact du ..
theorem aa5:∀{l:List (Nat×Nat)} {t:Nat},(vp l t).isSome=false→∀x,x∈l→x.1≠t
 |y::l,t,h,x,hx=>by
  simp only[vp] at h;cases hb:Nat.beq y.1 t<;>simp only[hb,cond_true,cond_false] at h
  ·rcases cC.1 hx with e|hx
   ·subst e;intro e;subst e;simp at hb
   ·exact aa5 h x hx
  ·cases h
theorem Ry {pr:Nat}:∀(l:List Oper) {acc aa:List (Nat×Nat)},lh pr l acc=some aa→(∀x,x∈acc→x.2≤1)→∀x,x∈aa→x∈acc∨(x.2≤1∧∃o,o∈l∧o.dst=some x.1)
 |[],acc,aa,h,_,x,hx=>by simp only[lh,aT] at h;subst h;exact .inl hx
 |o::l,acc,aa,h,ha,x,hx=>by
  simp only[lh] at h;split at h
  case h_2=>cases h
  rename_i d hd ky;rw[pv] at h;split at h
  ·cases h
  have go:∀(pt:Nat),pt≤1→lh pr l (acc++[(d,pt)])=some aa→x∈acc∨(x.2≤1∧∃o',o'∈o::l∧o'.dst=some x.1):=by
   intro pt va hp
   rcases Ry l hp (fun y hy=>by
        rcases dt.1 hy with h|h
        ·exact ha y h
        ·simp at h;subst h;exact va) x hx with h|⟨h1,o',h2,h3⟩
   ·rcases dt.1 h with h|h
    ·exact .inl h
    ·simp at h;subst h;exact .inr ⟨va,o,du ..,hd⟩
   ·exact .inr ⟨h1,o',di _ h2,h3⟩
  split at h
  ·rw[pv] at h;split at h
   case isFalse=>cases h
   rename_i fi;simp only[aq] at fi;exact go _ (jJ fi.2) h
  ·simp only[av] at h;obtain⟨i,hi,h⟩:=h;exact go i (ha _ (EU hi)) h
  ·simp only[av] at h;obtain⟨i,hi,h⟩:=h;exact go i (ha _ (EU hi)) h
  ·cases h
theorem Bt {P:Program}{ops:Array Oper}{i:Nat}{rest:List Nat}{o:Oper}{rd:Option Nat}{a:Act}{w w':World}{Q:Exit→Act→World→Prop}{v:Value}(ho:ops[i]?=some o)(hg:o.guard=none)(bq:oL o.op=true)(hx:(execOp a.eval o).run P w=.ok (.value v) w')
 (k:wpOpsIn (FR rd) 0 P ops Q rest (a.put o.dst v) w'):wpOpsIn (FR rd) 0 P ops Q (i::rest) a w:=by
 simp only[wpOpsIn,ho];rw[if_pos (by simp[Region.wanted,hg])];exact ads bq (by unfold Oper.wp;rw[hx];exact k)
theorem ate {ops:Array Oper}{o:Oper}(ho:o∈ops.toList)(a:Act)(v:Value):SameBut (ri ops) a (a.put o.dst v):=by
 have:=SameBut.put a o.dst v a.defers;exact this.mono fun t e=>⟨o,ho,e⟩
theorem Bz {a:Act}{d:Nat}{v:Value}(h:d<a.tmps.size):(a.put (some d) v).tmps.getD d undef=v:=by rw[yy];simp[h]
theorem KS {a:Act}{d t:Nat}{v:Value}(h:t≠d):(a.put (some d) v).tmps.getD t undef=a.tmps.getD t undef:=by rw[yy];simp[h]
theorem put_defers (a:Act)(d:Option Nat)(v:Value):(a.put d v).defers=a.defers:=by cases d<;>rfl
def E5 (kv vv:Value)(i:Nat):Value:=if i=0 then kv else vv
theorem adz {P:Program}{ops:Array Oper}{rd:Option Nat}{Q:Exit→Act→World→Prop}{pr:Nat}{kv vv:Value}{w:World}:∀(l:List Oper) (acc aa:List (Nat×Nat)) (i:Nat) (a:Act),lh pr l acc=some aa→ops.toList.drop i=l→(∀x,x∈aa→x.1<a.tmps.size)→a.tmps.getD pr undef=.tuple #[kv,vv]→
 (∀x,x∈acc→a.tmps.getD x.1 undef=E5 kv vv x.2)→(∀a',SameBut (ri ops) a a'→a'.defers=a.defers→(∀x,x∈aa→a'.tmps.getD x.1 undef=E5 kv vv x.2)→Q .normal a' w)→wpOpsIn (FR rd) 0 P ops Q (List.range' i (ops.size-i)) a w
 |[],acc,aa,i,a,h,hl,af,qn,DS,hQ=>by
  simp only[lh,aT] at h;subst h;have:ops.size-i=0:=by
    have:=Mo.1 hl;simp at this;omega
  rw[this];exact hQ a (.refl _ _) rfl DS
 |o::l,acc,aa,i,a,h,hl,af,qn,DS,hQ=>by
  have hi:i<ops.toList.length:=by
   refine WX fun hle=>?_;rw[Mo.2 hle] at hl;cases hl
  rw[Mn hi] at hl;have ho:ops[i]?=some o:=by
   have:ops.toList[i]=o:=by injection hl
   rw[←this];simp at hi ⊢
  have AK:ops.toList.drop (i+1)=l:=by injection hl
  have aI:ops.size-i=(ops.size-(i+1))+1:=by simp at hi;omega
  rw[aI,G4];have cP:o∈ops.toList:=by simpa using gT ho
  simp only[lh] at h;split at h
  case h_2=>cases h
  rename_i d hd ky;rw[pv] at h;split at h
  ·cases h
  rename_i hc;simp only[gF,not_or,Bool.not_eq_true] at hc;have hdp:pr≠d:=fun e=>by subst e;simp at hc
  have hda:∀x,x∈acc→x.1≠d:=aa5 hc.2;have go:∀(pt:Nat) (v:Value),lh pr l (acc++[(d,pt)])=some aa→oL o.op=true→v=E5 kv vv pt→(execOp a.eval o).run P w=.ok (.value v) w→wpOpsIn (FR rd) 0 P ops Q (i::List.range' (i+1) (ops.size-(i+1))) a w:=by
   intro pt v hp bq hv hx;have OS:d<a.tmps.size:=af _ (KJ l hp (d,pt) (by simp));refine Bt ho ky bq hx ?_;have kB:=ate cP a v;rw[hd] at kB ⊢;refine adz l _ aa (i+1) _ hp AK (fun x hx=>by rw[kB.size];exact af x hx) (by rw[KS hdp];exact qn) (fun x hx=>?_) (fun a' h1 h2 h3=>hQ a' (kB.trans h1) (h2.trans (put_defers _ _ _)) h3);rcases dt.1 hx with hx|hx
   ·rw[KS (hda x hx)];exact DS x hx
   ·simp at hx;subst hx;rw[Bz OS];exact hv
  split at h
  ·rename_i t pt e;rw[pv] at h;split at h
   case isFalse=>cases h
   rename_i fi;simp only[aq] at fi;have ht:=aB fi.1;have va:=jJ fi.2;subst ht;have bL:a.eval (.tmp t)=.tuple #[kv,vv]:=by simpa [Act.eval] using qn
   refine go pt (E5 kv vv pt) h (by rw[e];rfl) rfl ?_;rcases(by omega:pt=0∨pt=1) with rfl|rfl<;>simp[execOp,e,bL,Instr.extract,E5]
  ·rename_i t e;simp only[av] at h;obtain⟨pt,xc,h⟩:=h;have:=DS _ (EU xc);exact go pt (a.eval (.tmp t)) h (by rw[e];rfl) (by simpa [Act.eval] using this) (by simp[execOp,e])
  ·rename_i t e;simp only[av] at h;obtain⟨pt,xc,h⟩:=h;have:=DS _ (EU xc);exact go pt (a.eval (.tmp t)) h (by rw[e];rfl) (by simpa [Act.eval] using this) (by simp[execOp,e])
  ·cases h
theorem Qj (ids:List Nat)(J j:Nat)(S:Snap):((S.kill ids J).st ids).o j=if j=J then .dead else(S.st ids).o j:=by
 show dm ids (xB ids J S.os) j=_;have:∀(is:List Nat) (os:List Ob),dm is (xB is J os) j=if j=J then .dead else dm is os j:=by
  intro is
  induction is with
  |nil=>intro os;simp[xB,dm]
  |cons i is ih=>
   intro os;cases os with
   |nil=>simp[xB,dm]
   |cons o os=>
    simp only[xB,dm];cases hb:Nat.beq i j
    ·simp only[cond_false];exact ih os
    ·have:=aB hb;subst this;simp only[cond_true];by_cases db:i=J
     ·subst db;simp
     ·simp[ew db,db]
 exact this ids S.os
theorem Xu {N:Nat}{id:Nat}(Jy:id≠cJ){rm:Bool}{wr:Nat→Prop}{a:Act}{q:Res2}{x xi:Out}(rE:(∀t,t∈q.pc.modR→aw q.mr t=true)∧∀j,j∈q.pc.modO→j∈q.mo)(dG:q.pc.ev Φ N ρ=some xi)(bL:(gr ids id q).pc.ev Φ N ρ=some x){e:Exit}{a':Act}{w':World}
 (fM:gJ C w0 σ0 ids fn s rm wr a q.out q.ex xi e a' w'):Exit.inBlock id (gJ C w0 σ0 ids fn s rm wr a (gr ids id q).out (gr ids id q).ex x) e a' w':=by
 have Zs:∀bT S1,(bT,S1)∈q.ex→bT≠id→(bT,S1)∈q.ex.filter fun x=> !Nat.beq x.1 id:=fun bT S1 hm aE=>dj.2 ⟨hm,by simp[ew aE]⟩;have main:∀(o:Option Snap) (lr lo:List Nat),oK id q.ex q.out=o→(∀M,o=some M→lr=kF M q.mr∧lo=jv ids M q.mo)→(PC.block id lr lo q.pc).ev Φ N ρ=some x→
        Exit.inBlock id (gJ C w0 σ0 ids fn s rm wr a o (q.ex.filter fun x=> !Nat.beq x.1 id) x) e a' w':=by
  intro o lr lo ho hl bL;simp only[PC.ev] at bL;rw[dG] at bL
  have fin:∀{ρ1:Env} {a':Act} {w':World},(∃M,o=some M∧Good C w0 σ0 (M.st ids) ρ1 (fun _=>False) a' w')→xi.env?=some ρ1→x=.next (ρ.join lr lo ρ1)→SameBut wr a a'→
   gJ C w0 σ0 ids fn s rm wr a o (q.ex.filter fun x=> !Nat.beq x.1 id) x .normal a' w':=by
        intro ρ1 a' w' hM wX hx eI;obtain⟨M,hM,tu⟩:=hM;obtain⟨l1,l2⟩:=hl M hM;subst l1 l2;exact⟨_,M,hx,hM,eI,tu.joined (PC.ev_but q.pc ρ _ ρ1 dG wX) rE.1 rE.2⟩
  cases e with
  |normal=>
   obtain⟨ρ1,S2,e1,e2,eI,iQ⟩:=fM;subst e1;simp only[aT] at bL;refine fin ?_ rfl bL.symm eI;rw[e2] at ho;obtain⟨M,h1,h2⟩:=Kh (id:=id) q.ex iQ;rw[ho] at h1;exact⟨M,h1,h2⟩
  |exit bT=>
   obtain⟨ρ1,S2,e1,e0,e2,eI,iQ⟩:=fM;subst e1;simp only at bL;show if bT=id then _ else _;by_cases cD:bT=id
   ·subst cD;simp only[gH,cond_true,aT] at bL;simp only[if_true];refine fin ?_ rfl bL.symm eI;rw[←ho];exact Qz iQ q.ex q.out e2
   ·simp only[ew cD,cond_false,aT] at bL;subst bL;simp only[cD,if_false];exact⟨ρ1,S2,rfl,e0,Zs _ _ e2 cD,eI,iQ⟩
  |ret=>
   cases rm with
   |false=>
    have hy:=fM;obtain⟨d,e1,_⟩:=hy;subst e1;simp only[aT] at bL;subst bL;exact fM
   |true=>
    obtain⟨ρ1,S2,e1,e2,eI,iQ⟩:=fM;subst e1;simp only[ew (fun e=>Jy e.symm:cJ≠id),cond_false,aT] at bL;subst bL;exact⟨ρ1,S2,rfl,Zs _ _ e2 (fun e=>Jy e.symm),eI,iQ⟩
  |_=>exact fM.elim
 unfold gr at bL ⊢;cases hm:oK id q.ex q.out with
 |none=>
  simp only[hm] at bL ⊢;exact main none [] [] hm (fun M e=>by cases e) bL
 |some M=>
  simp only[hm] at bL ⊢;exact main (some M) _ _ hm (fun M' e=>by cases e;exact⟨rfl,rfl⟩) bL
theorem Xs {N id:Nat}{q:Res2}{x:Out}(bL:(gr ids id q).pc.ev Φ N ρ=some x):∃xi,q.pc.ev Φ N ρ=some xi:=by
 unfold gr at bL;cases hm:oK id q.ex q.out<;>simp only[hm,PC.ev] at bL<;>cases dG:q.pc.ev Φ N ρ<;>first|exact⟨_,rfl⟩|(rw[dG] at bL;cases bL)
theorem afd {es:List (D×D)}{idx:List Nat}(hn:idx.Nodup)(af:∀i,i∈idx→i<es.length)(aP:∀i,i<es.length→i∈idx):(gD es idx).Perm (iu (.map es)):=by
 have h1:idx.Perm (List.range es.length):=by
  rw[List.perm_ext_iff_of_nodup hn Mw];intro i;rw[bY];exact⟨af i,aP i⟩
 have h2:gD es (List.range es.length)=iu (.map es):=by
  refine List.ext_getElem (by simp[gD,iu,D.m]) fun i g1 g2=>?_;have hi:i<es.length:=by simpa [gD] using g1
  simp[gD,iu,D.m,bF hi]
 rw[←h2];exact h1.map _
theorem atj {es:List (D×D)}{idx:List Nat}(hn:idx.Nodup)(af:∀i,i∈idx→i<es.length):∃rest,(gD es idx++rest).Perm (iu (.map es)):=by
 refine⟨gD es ((List.range es.length).filter fun i=> !idx.contains i),?_⟩;have e:gD es idx++gD es ((List.range es.length).filter fun i=> !idx.contains i)=gD es (idx++(List.range es.length).filter fun i=> !idx.contains i):=by simp[gD]
 rw[e];refine afd ?_ (fun i hi=>?_) (fun i hi=>?_)
 ·rw[Cu];refine⟨hn,Mw.filter _,fun a ha b hb e=>?_⟩;subst e;have:=(dj.1 hb).2;simp[ha] at this
 ·rcases dt.1 hi with h|h
  ·exact af i h
  ·exact bY.1 (dj.1 h).1
 ·by_cases h:i∈idx
  ·exact jI _ h
  ·exact kh _ (dj.2 ⟨bY.2 hi,by simp[h]⟩)
theorem afe (es:List (D×D))(idx:List Nat){i:Nat}{p:D×D}(h:es[i]?=some p):gD es (idx++[i])=gD es idx++[.tup [p.1,p.2]]:=by simp[gD,h]
theorem aqi {N:Nat}{x y z code:Code}{k:Nat}{p:MP}(hp:A7 x y k z=some p)(ihc:wq C Φ fn s n ids R N code){rm:Bool}{S:Snap}{r:Res2}
 (hr:A8 ids n p (cr x++(cr y++(cr z++cr code))) (fun S=>comp C fn s n ids R rm code S) S=some r) {rd:Option Nat} {wr:Nat→Prop} {x0:Out} (gz:rm=false→rd=none∧σ0.fin) (hC:CtxOK C σ0) (hY:pD C Φ w0 σ0)
 (il:∀t,t∈cr (.loop (.seq x (.seq y (.block k (.seq z code)))))→wr t) (hn:a.tmps.size=n) (hg:Good C w0 σ0 (S.st ids) ρ (fun _=>False) a w) (he:r.pc.ev Φ N ρ=some x0):
 (Code.loop (.seq x (.seq y (.block k (.seq z code))))).wpIn (FR rd) 0 C.P (gJ C w0 σ0 ids fn s rm wr a r.out r.ex x0) a w:=by
 obtain⟨i1,i2,o1,o2,o3,l,rfl,rfl,rfl,hk,e1,e2,d1,g1,q1,d2,g2,q2,d3,g3,q3,nu,n1,n2,n3,n4,n5,n6⟩:=aqg hp;subst hk;unfold A8 at hr;split at hr
 case h_2=>cases hr;exact absurd he (mU _ _ _ _)
 rename_i J hJ;split at hr
 case h_2=>cases hr;exact absurd he (mU _ _ _ _)
 rename_i kt et JD;simp only at hr;split at hr
 case h_2=>cases hr;exact absurd he (mU _ _ _ _)
 rename_i q hq;rw[pv] at hr;split at hr
 case isFalse=>cases hr;exact absurd he (mU _ _ _ _)
 rename_i ry;cases hr;generalize J2:cr (.region i1 p.ops1 false)++(cr (.cond (.tmp p.mo) .skip (.exit p.out))++(cr (.region i2 p.ops2 false)++cr code))=ws at*;simp only[aq,iy] at ry;obtain⟨⟨⟨⟨⟨⟨⟨⟨c1,c2⟩,c3⟩,c4⟩,c5⟩,c6⟩,c7⟩,c8⟩,c9⟩:=ry;have hex:q.2.ex=[]:=uy.1 c1;have YP:J∉q.2.mo:=fun h=>by rw[(qt _ _).2 h] at c2;cases c2
 simp only[aav,aq,iy] at c3;obtain⟨⟨c3a,c3b⟩,c3c⟩:=c3;have anm:q.1.rs.getD p.it .none=.obj J 0:=Sh.beq_eq _ _ c3a;have JO:dm ids q.1.os J=.it kt et:=Ob.beq_eq _ _ c3b;have ane:∀t,t∈p.aa.map (·.1)→t<n:=fun t ht=>by have:=bK.1 c5 t ht;rwa [iJ] at this
 have Pm:p.nx<n:=by rwa [iJ] at c6
 have Pc:p.mo<n:=by rwa [iJ] at c7
 have qn:p.pr<n:=by rwa [iJ] at c8
 have Em:=aB c9;obtain⟨hs,AE,bC⟩:=EM (C:=C) (w0:=w0) (σ0:=σ0) (ids:=ids) 8 hq;simp only[aC] at hs;obtain⟨q0,xj,jr⟩:=hs;obtain⟨qS,qR⟩:=q;simp only at*;subst jr;generalize hm:xI ws=m at*;generalize xd:jv ids qS (gr ids p.next q0).mo=lo at*;have Pe:=Xt (ids:=ids) (id:=p.next) (uG code xj);have amD:∀j,j∈lo→j∈(gr ids p.next q0).mo:=fun j hj=>by rw[←xd] at hj;exact A9 hj
 have aBZ:J∉lo:=fun h=>YP (amD J h);have Ew:∃Ci,KM ((gr ids p.next q0).pc.ev Φ N) ρ J (p.aa.map (·.1)) (p.aa.map (·.2)) lo Ci∧x0=.exit p.out (ρ.put [] [] lo Ci):=by
  simp only[PC.ev] at he;cases qn:KN ((gr ids p.next q0).pc.ev Φ N) ρ J (p.aa.map (·.1)) (p.aa.map (·.2)) lo with
  |none=>rw[qn] at he;cases he
  |some y=>
   obtain⟨Ci,h1,rfl⟩:=xX.1 qn;rw[qn] at he;simp only[aT] at he;exact⟨Ci,h1,he.symm⟩
 obtain⟨Ci,⟨Es,als⟩,hx0⟩:=Ew;generalize jo:(ρ.o J).tget 1=es at*
 have fP:∀o,o∈p.ops1.toList→∀d,o.dst=some d→d∈ws:=fun o ho d hd=>by
  rw[←J2];exact jI _ (uz.2 ⟨o,ho,hd⟩)
 have dF:∀o,o∈p.ops2.toList→∀d,o.dst=some d→d∈ws:=fun o ho d hd=>by
  rw[←J2];exact kh _ (kh _ (jI _ (uz.2 ⟨o,ho,hd⟩)))
 have hwc:∀d,d∈cr code→d∈ws:=fun d hd=>by
  rw[←J2];exact kh _ (kh _ (kh _ hd))
 have P7:∀t,t∈ws→wr t:=fun t ht=>il t (by rw[←J2] at ht;exact ht);have tG:∀t,t∈ws→aw m t=true:=fun t ht=>by rw[←hm];exact Xr ht
 have Pb:∀t,aw m t=true→((qS.mask m).st ids).r t=.none:=fun t ht=>by rw[EV,if_pos ht]
 have amK:∀t,isNone (((qS.mask m).st ids).r t)=false→aw m t=false:=fun t ht=>by
  cases hb:aw m t with
  |false=>rfl
  |true=>rw[Pb t hb] at ht;cases ht
 have gN:((qS.mask m).st ids).r p.it=.obj J 0:=by
  rw[EV,c3c];show cw (qS.rs.getD p.it .none)=_;rw[anm];rfl
 have cN:((qS.mask m).st ids).o J=.it kt et:=JO;have jW:p.ops1[0]?=some o1:=by rw[←Cn,e1];rfl
 have eG:p.ops1[1]?=some o2:=by rw[←Cn,e1];rfl
 have ho3:p.ops2[0]?=some o3:=by rw[←Cn,e2];rfl
 have anN:List.range p.ops1.size=[0,1]:=by
  have:p.ops1.size=2:=by rw[←Co,e1];rfl
  rw[this];rfl
 have JX:List.range p.ops2.size=0::List.range' 1 (p.ops2.size-1):=by
  have:p.ops2.size=l.length+1:=by rw[←Co,e2];rfl
  rw[this,Mx,G4];rfl
 have key:∀(kk:Nat) (done vo:List D) (a':Act) (w':World),SameBut wr a a'→Good C w0 σ0 ((qS.mask m).st ids) ((ρ.put [] [] lo vo).setO J (.tup [.list done,es])) (fun _=>False) a' w'→
  (∀ys,(done++ys).Perm (iu es)→lN ((gr ids p.next q0).pc.ev Φ N) ρ J es (p.aa.map (·.1)) (p.aa.map (·.2)) lo ys done vo=some Ci)→done.length+kk=(iu es).length+1→
  Code.roundsIn (FR rd) 0 C.P (.seq (.region i1 p.ops1 false) (.seq (.cond (.tmp p.mo) .skip (.exit p.out)) (.block p.next (.seq (.region i2 p.ops2 false) code)))) (gJ C w0 σ0 ids fn s rm wr a none [(p.out,(qS.mask m).kill ids J)] x0) kk a' w':=by
  intro kk
  induction kk with
  |zero=>
   intro done vo a' w' _ fL _ hlen;exfalso;obtain⟨σ,own,hv,h⟩:=fL;have bh:=h.objs J;rw[cN] at bh;obtain⟨kb,mb,arr,clock,fI,idx,h1,h2,h3,aE,h4,h5,h6,h7,h8,h9,ou,tp⟩:=bh;simp only[Env.setO,aK] at h6;injection h6 with h6;injection h6 with wP wQ;injection wQ with wQ _;injection wP with wP;subst wP;subst wQ;have hle:idx.length≤arr.size:=by
        have:=List.Nodup.length_le_of_subset h7 (l₂:=List.range arr.size) (fun i hi=>bY.2 (h8 i hi));simpa using this
   simp[gD,iu,D.m] at hlen;omega
  |succ kk ih=>
   intro done vo a' w' kB fL aP hlen;rw[roundsIn_succ];obtain⟨σ,own,hv,h⟩:=fL;have bh:=h.objs J;rw[cN] at bh;obtain⟨kb,mb,arr,clock,fI,idx,h1,h2,h3,aE,h4,h5,h6,h7,h8,h9,ou,tp⟩:=bh;simp only[Env.setO,aK] at h6;injection h6 with h6;injection h6 with wP wQ;injection wQ with wQ _;injection wP with wP;subst wP;subst wQ;have gg:=h.regs p.it;rw[gN] at gg;have Jz:a'.eval (.tmp p.it)=.pointer (some ⟨kb,0,none⟩):=by
        have:=gg.2 rfl;simp only[Act.eval];rw[this];exact h1
   have rL:a'.tmps.size=n:=kB.size.trans hn;obtain⟨w1,aah,JL⟩:=aqE (P:=C.P) h5 h4 ou h8 o1.type;have EG:Below w'.heap.size w' w1:=by rcases aah with rfl|rfl;exact .refl _ _;exact⟨rfl,rfl,rfl,bl _,fun _ _=>rfl⟩
   have AV:w1.heap=w'.heap:=by rcases aah with rfl|rfl<;>rfl
   have ZE:kb<w'.heap.size:=(h.owns kb J h2).2.1;have ql:mb<w'.heap.size:=(h.owns mb J h3).2.1;refine wpIn_seq (wpIn_region ?_);rw[anN];rcases JL with⟨OY,ak⟩|⟨i,e,tw,Jx,ak⟩
   ·
        refine Bt jW g1 (by rw[q1];rfl) (v:=.tuple #[.bool false]) (w':=w1) (by simp only[execOp,q1,Jz];simp[ak]) ?_;rw[d1]
        refine Bt eG g2 (by rw[q2];rfl) (v:=.bool false) (w':=w1) (by
         have:(a'.put (some p.nx) (.tuple #[.bool false])).eval (.tmp p.nx)=.tuple #[.bool false]:=by simp only[Act.eval];exact Bz (by omega)
         simp only[execOp,q2,this];simp[Instr.extract]) ?_
        rw[d2];simp only[wpOpsIn]
        have xo:SameBut (fun t=>t∈ws) a' ((a'.put (some p.nx) (.tuple #[.bool false])).put (some p.mo) (.bool false)):=by
         have s1:=SameBut.put a' (some p.nx) (.tuple #[.bool false]) a'.defers;have s2:=SameBut.put (a'.put (some p.nx) (.tuple #[.bool false])) (some p.mo) (.bool false) (a'.put (some p.nx) (.tuple #[.bool false])).defers;exact(s1.mono fun t e=>by cases e;exact fP o1 (by rw[e1];simp) _ d1).trans (s2.mono fun t e=>by cases e;exact fP o2 (by rw[e1];simp) _ d2)
        generalize wT:(a'.put (some p.nx) (.tuple #[.bool false])).put (some p.mo) (.bool false)=a1 at xo;have Pd:a1.eval (.tmp p.mo)=.bool false:=by
         rw[←wT];simp only[Act.eval];exact Bz (by rw[size_put];omega)
        have oy:a1.defers=a'.defers:=by rw[←wT,put_defers,put_defers]
        refine wpIn_seq (wpIn_cond_false Pd (wpIn_exit ?_));have am9:(gD fI idx++[]).Perm (iu (.map fI)):=by
         rw[lx];exact afd h7 (fun i hi=>by rw[h9];exact h8 i hi) (fun i hi=>OY i (by omega))
        have aag:=aP [] am9;simp only[lN,aT] at aag;subst aag;refine⟨_,_,hx0,n5,py.2 rfl,kB.trans (xo.mono P7),?_⟩;refine⟨σ,own,hv,?_⟩
        refine h.step (S':=((qS.mask m).kill ids J).st ids) (ρ':=ρ.put [] [] lo vo) (A':=fun _=>False) (fun j=>j=J) oy (.refl σ) (h.ok.below EG) (fun _ _ _ hx=>.inl hx) (fun _ _ hx=>.inl hx) (EG.mono h.below.size) ⟨fun _=>bl _,fun _ _=>rfl⟩
         (fun j hj=>⟨by rw[Qj,if_neg hj],by simp[Env.setO,br _ _ hj],rfl,fun b hb=>⟨hb,by rw[AV]⟩⟩) (fun j hj=>?_) (fun b j hb=>?_) (fun _=>id) (fun t=>?_) (fun _ hf=>hf.elim) (fun b hb _=>by rw[AV]) (fun b j hb=>.inl ⟨j,hb⟩) (fun j hj=>?_)
        ·rw[Qj,if_pos hj];trivial
        ·obtain⟨b1,b2,b3,b4⟩:=h.owns b j hb;exact⟨b1,by rw[AV];exact b2,b3,b4⟩
        ·by_cases ht:t∈ws
         ·refine .inr ⟨?_,fun gs s' e=>absurd e (Snap.noOpt _ _ t gs s')⟩;have:(((qS.mask m).kill ids J).st ids).r t=.none:=Pb t (tG t ht);rw[this];trivial
         ·exact .inl ⟨rfl,xo.get t ht,rfl⟩
        ·rw[Qj,if_pos hj];intro e;cases e
   ·
        obtain⟨pd,Px⟩:∃pd,fI[i]?=some pd:=⟨_,bF (by rw[h9];exact(gp.1 tw).1)⟩
        obtain⟨bx,ct⟩:=tp i e pd tw Px;generalize AW:({w1 with heap:=w1.heap.setIfInBounds kb (.mapIter (some mb) clock (gn arr (idx++[i])) clock)}:World)=w2 at ak;have aai:w2.heap[kb]?=some (.mapIter (some mb) clock (gn arr (idx++[i])) clock):=by rw[←AW];simp[AV,ZE]
        have AX:∀b,b≠kb→w2.heap[b]?=w'.heap[b]?:=fun b hb=>by rw[←AW];simp only[AV];rw[Wy (qX hb)]
        have aCw:w2.heap.size=w'.heap.size:=by rw[←AW];simp[AV]
        have aaj:w2.heap[mb]?=some (.map arr clock):=by rw[AX mb (qX aE)];exact h4
        refine Bt jW g1 (by rw[q1];rfl) (v:=.tuple #[.bool true,e.key,e.val]) (w':=w2) (by simp only[execOp,q1,Jz];simp[ak]) ?_;rw[d1]
        refine Bt eG g2 (by rw[q2];rfl) (v:=.bool true) (w':=w2) (by
         have:(a'.put (some p.nx) (.tuple #[.bool true,e.key,e.val])).eval (.tmp p.nx)=.tuple #[.bool true,e.key,e.val]:=by simp only[Act.eval];exact Bz (by omega)
         simp only[execOp,q2,this];simp[Instr.extract]) ?_
        rw[d2];simp only[wpOpsIn]
        have xo:SameBut (fun t=>t∈ws) a' ((a'.put (some p.nx) (.tuple #[.bool true,e.key,e.val])).put (some p.mo) (.bool true)):=by
         have s1:=SameBut.put a' (some p.nx) (.tuple #[.bool true,e.key,e.val]) a'.defers;have s2:=SameBut.put (a'.put (some p.nx) (.tuple #[.bool true,e.key,e.val])) (some p.mo) (.bool true) (a'.put (some p.nx) (.tuple #[.bool true,e.key,e.val])).defers;exact(s1.mono fun t e=>by cases e;exact fP o1 (by rw[e1];simp) _ d1).trans (s2.mono fun t e=>by cases e;exact fP o2 (by rw[e1];simp) _ d2)
        have ZC:(((a'.put (some p.nx) (.tuple #[.bool true,e.key,e.val])).put (some p.mo) (.bool true))).eval (.tmp p.it)=.pointer (some ⟨kb,0,none⟩):=by
         simp only[Act.eval] at Jz ⊢;rw[KS n2,KS n1];exact Jz
        generalize wT:(a'.put (some p.nx) (.tuple #[.bool true,e.key,e.val])).put (some p.mo) (.bool true)=a1 at xo ZC;have Pd:a1.eval (.tmp p.mo)=.bool true:=by
         rw[←wT];simp only[Act.eval];exact Bz (by rw[size_put];omega)
        have oy:a1.defers=a'.defers:=by rw[←wT,put_defers,put_defers]
        refine wpIn_seq (wpIn_cond_true Pd (wpIn_skip ?_));refine wpIn_block (wpIn_seq (wpIn_region ?_));rw[JX];refine Bt ho3 g3 (by rw[q3];rfl) (v:=.tuple #[e.key,e.val]) (w':=w2) (by simp only[execOp,q3,ZC];simp[ajj aai aaj ou tw]) ?_;rw[d3]
        have Z7:SameBut (fun t=>t∈ws) a1 (a1.put (some p.pr) (.tuple #[e.key,e.val])):=
         (SameBut.put a1 (some p.pr) (.tuple #[e.key,e.val]) a1.defers).mono fun t e=>by cases e;exact dF o3 (by rw[e2];simp) _ d3
        have aaa:a1.tmps.size=n:=xo.size.trans rL;refine adz (kv:=e.key) (vv:=e.val) l [] p.aa 1 _ nu (by rw[e2];rfl) (fun x hx=>by rw[Z7.size,aaa];exact ane _ (dJ.2 ⟨x,hx,rfl⟩)) (Bz (by rw[aaa];exact qn)) (fun x hx=>by cases hx) (fun a2 eI dW am7=>?_);have PL:SameBut (fun t=>t∈ws) a' a2:=(xo.trans Z7).trans (eI.mono fun t ⟨o,ho,hd⟩=>dF o ho t hd);have alZ:a2.defers=a'.defers:=by rw[dW,put_defers,oy]
        have anJ:Good C w0 σ0 (((qS.mask m).start (p.aa.map (·.1)) (p.aa.map fun x=>bif Nat.beq x.2 0 then kt else et)).st ids) ((ρ.put (p.aa.map (·.1)) ((p.aa.map (·.2)).map (D.tup [pd.1,pd.2]).tget) lo vo).setO J (.tup [.list (gD fI idx++[.tup [pd.1,pd.2]]),.map fI])) (fun _=>False) a2 w2:=by
         have DY:Below w0.heap.size w' w2:=⟨by rw[←AW];exact EG.os,by rw[←AW];exact EG.tape,by rw[←AW];exact EG.output,by omega,fun b hb=>AX b (fun e=>by subst e;have:=(h.owns b J h2).1;omega)⟩
         have jX:σ.ok w2:=by
          refine⟨fun b o v hc=>?_,fun b es hc=>?_⟩
          ·have uR:b≠kb:=fun e=>by subst e;rw[(h.owns b J h2).2.2.1 o] at hc;cases hc
           have:=h.ok.c b o v hc;simp only[World.cell?] at this ⊢;rw[AX b uR];exact this
          ·have uR:b≠kb:=fun e=>by subst e;rw[(h.owns b J h2).2.2.2] at hc;cases hc
           exact(h.ok.m b es hc).keep (AX b uR)
         have fM:∀j,((ρ.put (p.aa.map (·.1)) ((p.aa.map (·.2)).map (D.tup [pd.1,pd.2]).tget) lo vo).setO J (.tup [.list (gD fI idx++[.tup [pd.1,pd.2]]),.map fI])).o j=if j=J then .tup [.list (gD fI idx++[.tup [pd.1,pd.2]]),.map fI] else putL ρ.o lo vo j:=fun j=>by
          simp only[Env.setO,eZ];rfl
         refine⟨σ,own,hv,h.step (fun j=>j=J) alZ (.refl σ) jX (fun _ _ _ hx=>.inl hx) (fun _ _ hx=>.inl hx) DY ⟨fun _=>bl _,fun _ _=>rfl⟩
          (fun j hj=>⟨rfl,by rw[fM,if_neg hj];simp[Env.setO,br _ _ hj,Env.put],rfl,fun b hb=>⟨hb,AX b (fun e=>by subst e;rw[h2] at hb;cases hb;exact hj rfl)⟩⟩) (fun j hj=>?_) (fun b j hb=>?_) (fun _=>id) (fun t=>?_) (fun _ hf=>hf.elim)
          (fun b hb ho=>AX b (fun e=>by subst e;rw[h2] at ho;cases ho)) (fun b j hb=>.inl ⟨j,hb⟩) (fun j hj=>?_)⟩
         ·subst hj;have:(((qS.mask m).start (p.aa.map (·.1)) (p.aa.map fun x=>bif Nat.beq x.2 0 then kt else et)).st ids).o j=.it kt et:=JO;rw[this];refine⟨kb,mb,arr,clock,fI,idx++[i],h1,h2,h3,aE,aaj,aai,by rw[fM,if_pos rfl,afe fI idx Px],?_,?_,h9,ou,tp⟩
          ·rw[Cu];exact⟨h7,by simp,fun a ha b hb e=>by simp at hb;subst hb;subst e;exact Jx ha⟩
          ·intro i' df;rcases dt.1 df with h|h
           ·exact h8 i' h
           ·simp at h;subst h;exact(gp.1 tw).1
         ·obtain⟨b1,b2,b3,b4⟩:=h.owns b j hb;exact⟨b1,by omega,b3,b4⟩
         ·have hc:Compat ((qS.mask m).st ids) hv (((qS.mask m).start (p.aa.map (·.1)) (p.aa.map fun x=>bif Nat.beq x.2 0 then kt else et)).st ids) hv:=⟨fun _=>bl _,fun _ _=>rfl⟩
          refine .inr ⟨?_,fun gs s' e=>absurd e (Snap.noOpt _ _ t gs s')⟩;show aG C _ _ σ hv (cw ((sn (p.aa.map (·.1)) (p.aa.map fun x=>bif Nat.beq x.2 0 then kt else et) ((qS.mask m).rs.map tz)).getD t .none)) (a2.tmps.getD t undef) (putL ρ.r (p.aa.map (·.1)) ((p.aa.map (·.2)).map (D.tup [pd.1,pd.2]).tget) t);rcases TA (p.aa.map (·.1)) (p.aa.map fun x=>bif Nat.beq x.2 0 then kt else et) ((qS.mask m).rs.map tz) (by simp) c4 t with e|⟨Af,uH⟩|⟨i',y,Af,uH,N1⟩
          ·rw[e];trivial
          ·rw[uH,By _ _ _ _ Af];have e3:((qS.mask m).rs.map tz).getD t .none=tz ((qS.mask m).rs.getD t .none):=by
            simp only[aJ,cB];cases(qS.mask m).rs[t]?<;>rfl
           rw[e3];by_cases htw:t∈ws
           ·have AN:=Pb t (tG t htw);change cw ((qS.mask m).rs.getD t .none)=.none at AN;generalize (qS.mask m).rs.getD t .none=s' at AN;cases s'<;>simp[cw] at AN<;>trivial
           ·have hr:=h.regs t;change aG C _ _ σ hv (cw ((qS.mask m).rs.getD t .none)) _ (ρ.r t) at hr;rw[PL.get t htw];generalize (qS.mask m).rs.getD t .none=s' at hr;cases s' with
            |yv=>trivial
            |opt gs s=>trivial
            |none=>trivial
            |fclo f c=>exact aG.mono' (.refl σ) hc (fun _ _ e=>by cases e) hr
            |agg l=>exact aG.mono' (.refl σ) hc (fun _ _ e=>by cases e) hr
            |dat t=>exact hr
            |obj j v=>exact aG.mono' (.refl σ) hc (fun _ _ e=>by cases e) hr
            |ptr j v o=>exact aG.mono' (.refl σ) hc (fun _ _ e=>by cases e) hr
            |eptr j v o q=>exact aG.mono' (.refl σ) hc (fun _ _ e=>by cases e) hr
          ·rw[N1];have amo:i'<p.aa.length:=by have:=(eD.1 Af).1;simpa using this
           rw[RH _ (p.aa.map (·.1)) _ i' t (mI c4) (by simp) Af];obtain⟨xa,mA⟩:∃xa,p.aa[i']?=some xa:=⟨_,bF amo⟩
           simp only[cB,mA,km,aT] at Af uH;subst Af;subst uH;rw[am7 xa (mc mA)];have hd:((p.aa.map (·.2)).map (D.tup [pd.1,pd.2]).tget).getD i' .none=(D.tup [pd.1,pd.2]).tget xa.2:=by simp[aJ,mA]
           rw[hd];have h2x:xa.2≤1:=by
            rcases Ry l nu (fun x hx=>by cases hx) xa (mc mA) with h|h
            ·cases h
            ·exact h.1
           rcases(by omega:xa.2=0∨xa.2=1) with e0|e0<;>rw[e0]
           ·exact bx
           ·exact ct
         ·have:(((qS.mask m).start (p.aa.map (·.1)) (p.aa.map fun x=>bif Nat.beq x.2 0 then kt else et)).st ids).o j=.it kt et:=by rw[hj];exact JO
          rw[this];intro e;cases e
        have am8:=afe fI idx Px;obtain⟨rest,vb⟩:∃rest,(gD fI idx++(D.tup [pd.1,pd.2])::rest).Perm (iu (.map fI)):=by
         obtain⟨rest,hr⟩:=atj (es:=fI) (idx:=idx++[i]) (by rw[Cu];exact⟨h7,by simp,fun a ha b hb e=>by simp at hb;subst hb;subst e;exact Jx ha⟩) (fun i' df=>by
          rcases dt.1 df with h|h
          ·rw[h9];exact h8 i' h
          ·simp at h;subst h;rw[h9];exact(gp.1 tw).1)
         rw[am8] at hr;exact⟨rest,by simpa using hr⟩
        have gL:=aP _ vb;simp only[lN] at gL;split at gL
        case h_2=>cases gL
        rename_i ρ2 Jm;obtain⟨xi,dG⟩:=Xs Jm;refine wpIn_mono (ihc rm _ q0 xj rd w0 σ0 wr _ xi a2 w2 gz hC hY (fun t ht=>P7 t (hwc t ht)) (PL.size.trans rL) anJ dG) fun ee a3 w3 fM=>?_;have kA:=Xu n6 (uG code xj) dG Jm fM;have conv:∀ee a3 w3,gJ C w0 σ0 ids fn s rm wr a2 (gr ids p.next q0).out (gr ids p.next q0).ex (.next ρ2) ee a3 w3→Exit.then (Code.roundsIn (FR rd) 0 C.P (.seq (.region i1 p.ops1 false) (.seq (.cond (.tmp p.mo) .skip (.exit p.out)) (.block p.next (.seq (.region i2 p.ops2 false) code)))) (gJ C w0 σ0 ids fn s rm wr a none [(p.out,(qS.mask m).kill ids J)] x0) kk) (gJ C w0 σ0 ids fn s rm wr a none [(p.out,(qS.mask m).kill ids J)] x0) ee a3 w3:=by
         intro ee a3 w3 ho;cases ee with
         |normal=>
          obtain⟨ρ3,T,f1,f2,f3,f4⟩:=ho;cases f1;refine ih (gD fI idx++[.tup [pd.1,pd.2]]) (lo.map ρ2.o) a3 w3 (kB.trans ((PL.mono P7).trans f3)) ?_ (fun ys xx=>?_) (by simp at hlen ⊢;omega)
          ·have tu:Good C w0 σ0 (qS.st ids) ρ2 (fun _=>False) a3 w3:=by
            have:=f4.meet2 (x:=qS)
            rwa [AE T f2] at this
           obtain⟨σ3,xU,EE,fh⟩:=tu;have OP:=PC.ev_but _ _ _ ρ2 Jm rfl;refine⟨σ3,xU,EE,(fh.maskR m).env (Snap.noOpt _ _) (fun t ht=>?_) (fun j hj=>?_)⟩
           ·have AN:=amK t ht
            have cM:t∉(gr ids p.next q0).pc.modR:=fun fm=>by
                 have:=Pe.1 t fm;have h2:aw (Nat.lor m (gr ids p.next q0).mr) t=true:=by rw[fb,this,nX]
                 rw[Em,AN] at h2;cases h2
            rw[OP.r t cM]
            have rG:t∉p.aa.map (·.1):=fun aU=>by
                 have:aw m t=true:=by
                  refine tG t ?_;obtain⟨xa,mA,rfl⟩:=dJ.1 aU;rcases Ry l nu (fun x hx=>by cases hx) xa mA with h|⟨_,o,ho,hd⟩
                  ·cases h
                  ·exact dF o (by rw[e2];exact di _ ho) _ hd
                 rw[AN] at this;cases this
            show ρ.r t=putL ρ.r (p.aa.map (·.1)) _ t;rw[By _ _ _ _ rG]
           ·have hjd:oI (dm ids qS.os j)=false:=hj;show bV (putL ρ.o lo (lo.map ρ2.o)) J _ j=ρ2.o j;by_cases AI:j=J
            ·subst AI;rw[aK,OP.o j (fun fm=>YP (Pe.2 j fm))];simp[Env.setO,aK]
            ·rw[br _ _ AI,tT];split
             ·rfl
             ·rename_i eR;have cM:j∉(gr ids p.next q0).pc.modO:=fun fm=>eR (by rw[←xd];exact dj.2 ⟨Pe.2 j fm,by rw[hjd];rfl⟩);rw[OP.o j cM];simp only[Env.setO,br _ _ AI];exact(RI _ _ _ _ eR).symm
          ·have:=aP ((D.tup [pd.1,pd.2])::ys) (by simpa using xx);simp only[lN,Jm] at this;exact this
         |exit id=>obtain⟨ρ3,T,f1,_⟩:=ho;cases f1
         |ret=>
          cases rm with
          |false=>obtain⟨d,f1,_⟩:=ho;cases f1
          |true=>obtain⟨ρ3,T,f1,_⟩:=ho;cases f1
         |_=>exact ho.elim
        cases ee with
        |exit id=>
         simp only[Exit.inBlock] at kA;show if id=p.next then _ else _;split
         ·rename_i cD;rw[if_pos cD] at kA;exact conv .normal a3 w3 kA
         ·rename_i cD;rw[if_neg cD] at kA;exact conv (.exit id) a3 w3 kA
        |normal=>exact conv .normal a3 w3 kA
        |ret=>exact conv .ret a3 w3 kA
        |panic c=>exact fM.elim
        |goto l=>exact fM.elim
        |_=>exact fM.elim
 have hgq:Good C w0 σ0 (qS.st ids) ρ (fun _=>False) a w:=bC hg;obtain⟨σ,own,hv,h⟩:=hgq;have bh:=h.objs J;have:(qS.st ids).o J=.it kt et:=JO;rw[this] at bh;obtain⟨kb,mb,arr,clock,fI,idx,h1,h2,h3,aE,h4,h5,h6,h7,h8,h9,ou,tp⟩:=bh;have hρJ:ρ.o J=.tup [.list [],es]:=by
  rw[h6] at Es jo;simp[D.tget] at Es jo;rw[h6,Es,←jo]
 have wX:(ρ.put [] [] lo (lo.map ρ.o)).setO J (.tup [.list [],es])=ρ:=by
  rw[Env.put_self];show Env.mk _ _=_;have:bV ρ.o J (.tup [.list [],es])=ρ.o:=by
   funext j;rw[eZ];split
   ·rename_i e;rw[e];exact hρJ.symm
   ·rfl
  rw[this]
 exact wpIn_loop_rounds _ (key ((iu es).length+1) [] (lo.map ρ.o) a w (.refl _ _) (by rw[wX];exact⟨σ,own,hv,h.maskR m⟩) (fun ys xx=>als ys xx) (by simp))
theorem ah0 {N:Nat}(eQ:gq C Φ)(hR:MD C n ids Φ R):∀(k:Nat) (c:Code),sizeOf c<k→wq C Φ fn s n ids R N c:=by
 intro k;refine Nat.rec (fun c h=>absurd h (Nat.not_lt_zero _)) (fun k IH=>?_) k;intro c hc;cases c with
 |skip=>
  intro rm S r h rd w0 σ0 wr ρ x a w gz hC hY il hn hg he;simp only[comp,aT] at h;subst h;simp only[PC.ev,aT] at he;subst he;exact wpIn_skip ⟨ρ,S,rfl,rfl,.refl _ _,hg⟩
 |region id ops draw=>
  intro rm S r h rd w0 σ0 wr ρ x a w gz hC hY il hn hg he;simp only[comp,aC] at h;obtain⟨q,hq,rfl⟩:=h;simp only[PC.ev,aC] at he;obtain⟨ρ',hr,rfl⟩:=he;exact hR id ops draw S q hq rd w0 σ0 ρ ρ' a w _ hC hY hn hg hr (fun a' w' eH fL=>⟨ρ',q.1,rfl,rfl,eH.mono (fun t ⟨o,h1,h2⟩=>il t (uz.2 ⟨o,h1,h2⟩)),fL⟩)
 |seq c1 c2=>
  have vi:=IH c1 (by simp at hc;omega);have mC:=IH c2 (by simp at hc;omega);intro rm S r h rd w0 σ0 wr ρ x a w gz hC hY il hn hg he;have fP:∀t,t∈cr c1→wr t:=fun t ht=>il t (jI _ ht);have dF:∀t,t∈cr c2→wr t:=fun t ht=>il t (kh _ ht);simp only[comp,av] at h;obtain⟨q,hq,h⟩:=h;split at h
  ·rename_i kz;cases h;refine wpIn_seq (wpIn_mono (vi rm S _ hq rd w0 σ0 wr ρ x a w gz hC hY fP hn hg he) fun e a' w' ho=>?_);cases e with
   |normal=>obtain⟨_,_,_,h2,_⟩:=ho;rw[kz] at h2;cases h2
   |_=>exact ho
  ·rename_i S1 kz;simp only[aC] at h;obtain⟨p,hp,rfl⟩:=h;simp only[PC.ev] at he
   have key:∀x1,q.pc.ev Φ N ρ=some x1→(match some x1 with|some (.next ρ')=>p.pc.ev Φ N ρ'|y=>y)=some x→(Code.seq c1 c2).wpIn (FR rd) 0 C.P (gJ C w0 σ0 ids fn s rm wr a p.out (q.ex++p.ex) x) a w:=by
      intro x1 h1 h2;refine wpIn_seq (wpIn_mono (vi rm S _ hq rd w0 σ0 wr ρ x1 a w gz hC hY fP hn hg h1) fun e a' w' ho=>?_);have other:∀{e:Exit},e≠.normal→gJ C w0 σ0 ids fn s rm wr a q.out q.ex x1 e a' w'→x1=x→gJ C w0 σ0 ids fn s rm wr a p.out (q.ex++p.ex) x e a' w':=by
       intro e aE ho hx;subst hx;exact ho.mono (fun y hy=>jI _ hy) (.refl _ _) (fun e=>absurd e aE)
      cases e with
      |normal=>
       obtain⟨ρ1,S2,e1,e2,eI,iQ⟩:=ho;subst e1;rw[kz] at e2;cases e2;simp only at h2;refine wpIn_mono (mC rm S1 _ hp rd w0 σ0 wr ρ1 x a' w' gz hC hY dF (eI.size.trans hn) iQ h2) fun e a2 w2 eG=>?_;exact eG.mono (fun y hy=>kh _ hy) eI (fun _=>rfl)
      |exit id=>
       refine other (by simp) ho ?_;obtain⟨ρ1,S2,e1,_⟩:=ho;subst e1;simpa using h2
      |ret=>
       refine other (by simp) ho ?_;cases rm with
       |false=>obtain⟨d,e1,_⟩:=ho;subst e1;simpa using h2
       |true=>obtain⟨ρ1,S2,e1,_⟩:=ho;subst e1;simpa using h2
      |_=>exact ho.elim
   cases h1:q.pc.ev Φ N ρ with
   |none=>rw[h1] at he;simp at he
   |some x1=>rw[h1] at he;exact key x1 h1 he
 |cond c c1 c2=>
  have vi:=IH c1 (by simp at hc;omega);have mC:=IH c2 (by simp at hc;omega);intro rm S r h rd w0 σ0 wr ρ x a w gz hC hY il hn hg he;have fP:∀t,t∈cr c1→wr t:=fun t ht=>il t (jI _ ht);have dF:∀t,t∈cr c2→wr t:=fun t ht=>il t (kh _ ht);simp only[comp] at h;split at h
  case h_2=>cases h;exact absurd he (mU _ _ _ _)
  rename_i e hu;simp only[av,aC] at h;obtain⟨q,hq,p,hp,rfl⟩:=h;have hb:∃b,a.eval c=.bool b∧e.ev ρ=.v (.bool b):=by
   obtain⟨σ,own,hv,hi⟩:=hg;have:=cj (gs:=[]) hi hC rfl hu;generalize a.eval c=v at this;generalize e.ev ρ=d at this;cases this with|bool b=>exact⟨b,rfl,rfl⟩
  obtain⟨b,gL,de⟩:=hb;have rE:=uG c1 hq;have El:=uG c2 hp;have main:∀(o:Option Snap) (lr lo:List Nat) (rx:Res2),rx=⟨.ite e lr lo q.pc p.pc,o,q.ex++p.ex,Nat.lor q.mr p.mr,jF q.mo p.mo⟩→
        (∀M,o=some M→lr=kF M (Nat.lor q.mr p.mr)∧lo=jv ids M (jF q.mo p.mo))→
        (∀S1 ρ1 a w,q.out=some S1→Good C w0 σ0 (S1.st ids) ρ1 (fun _=>False) a w→∃M,o=some M∧Good C w0 σ0 (M.st ids) ρ1 (fun _=>False) a w)→
        (∀S1 ρ1 a w,p.out=some S1→Good C w0 σ0 (S1.st ids) ρ1 (fun _=>False) a w→∃M,o=some M∧Good C w0 σ0 (M.st ids) ρ1 (fun _=>False) a w)→
        rx.pc.ev Φ N ρ=some x→(Code.cond c c1 c2).wpIn (FR rd) 0 C.P (gJ C w0 σ0 ids fn s rm wr a rx.out rx.ex x) a w:=by
   intro o lr lo rx hrx hl rI nu bL;subst hrx;simp only[PC.ev,de,D.b_bool] at bL;have fin:∀(ci:Code) (qi:Res2) (xi:Out),(∀y,y∈qi.ex→y∈q.ex++p.ex)→(∀t,t∈qi.pc.modR→aw (Nat.lor q.mr p.mr) t=true)→(∀j,j∈qi.pc.modO→j∈jF q.mo p.mo)→
    (∀S1 ρ1 a w,qi.out=some S1→Good C w0 σ0 (S1.st ids) ρ1 (fun _=>False) a w→∃M,o=some M∧Good C w0 σ0 (M.st ids) ρ1 (fun _=>False) a w)→
    qi.pc.ev Φ N ρ=some xi→(match some xi with|some (.next ρ')=>some (Out.next (ρ.join lr lo ρ'))|y=>y)=some x→
    ci.wpIn (FR rd) 0 C.P (gJ C w0 σ0 ids fn s rm wr a qi.out qi.ex xi) a w→ci.wpIn (FR rd) 0 C.P (gJ C w0 σ0 ids fn s rm wr a o (q.ex++p.ex) x) a w:=by
        intro ci qi xi hex iS mz kz dG hx hwp;refine wpIn_mono hwp fun ee a' w' ho=>?_;have other:ee≠.normal→xi=x→gJ C w0 σ0 ids fn s rm wr a o (q.ex++p.ex) x ee a' w':=by
         intro aE kC;subst kC;exact ho.mono hex (.refl _ _) (fun e=>absurd e aE)
        cases ee with
        |normal=>
         obtain⟨ρ1,S2,e1,e2,eI,iQ⟩:=ho;subst e1;simp only[aT] at hx;subst hx;obtain⟨M,hM,tu⟩:=kz S2 ρ1 a' w' e2 iQ;obtain⟨l1,l2⟩:=hl M hM;subst l1 l2;exact⟨_,M,rfl,hM,eI,tu.joined (PC.ev_but qi.pc ρ _ ρ1 dG rfl) iS mz⟩
        |exit id=>
         refine other (by simp) ?_;obtain⟨ρ1,S2,e1,_⟩:=ho;subst e1;simpa using hx
        |ret=>
         refine other (by simp) ?_;cases rm with
         |false=>obtain⟨d,e1,_⟩:=ho;subst e1;simpa using hx
         |true=>obtain⟨ρ1,S2,e1,_⟩:=ho;subst e1;simpa using hx
        |_=>exact ho.elim
   refine wpIn_cond gL ?_;cases b with
   |true=>
    simp only[cond_true] at bL;cases dG:q.pc.ev Φ N ρ with
    |none=>rw[dG] at bL;simp at bL
    |some xi=>
     rw[dG] at bL;refine fin c1 q xi (fun y hy=>jI _ hy) (fun t ht=>?_) (fun j hj=>qu.2 (.inl (rE.2 j hj))) rI dG bL (vi rm S _ hq rd w0 σ0 wr ρ xi a w gz hC hY fP hn hg dG);rw[fb,rE.1 t ht];rfl
   |false=>
    simp only[cond_false] at bL;cases dG:p.pc.ev Φ N ρ with
    |none=>rw[dG] at bL;simp at bL
    |some xi=>
     rw[dG] at bL;refine fin c2 p xi (fun y hy=>kh _ hy) (fun t ht=>?_) (fun j hj=>qu.2 (.inr (El.2 j hj))) nu dG bL (mC rm S _ hp rd w0 σ0 wr ρ xi a w gz hC hY dF hn hg dG);rw[fb,El.1 t ht,nX]
  have rI:∀S1 ρ1 a w,q.out=some S1→Good C w0 σ0 (S1.st ids) ρ1 (fun _=>False) a w→∃M,mH q.out p.out=some M∧Good C w0 σ0 (M.st ids) ρ1 (fun _=>False) a w:=by
   intro S1 ρ1 a w e1 g1;rw[e1];obtain⟨M,hM⟩:=@aby S1 p.out;exact⟨M,hM,abw g1 hM⟩
  have nu:∀S1 ρ1 a w,p.out=some S1→Good C w0 σ0 (S1.st ids) ρ1 (fun _=>False) a w→∃M,mH q.out p.out=some M∧Good C w0 σ0 (M.st ids) ρ1 (fun _=>False) a w:=by
   intro S1 ρ1 a w e1 g1;rw[e1];obtain⟨M,hM⟩:=@abz q.out S1;exact⟨M,hM,abx g1 hM⟩
  cases hm:mH q.out p.out with
  |none=>
   rw[hm] at rI nu;simp only[hm] at he ⊢;exact main none [] [] _ rfl (fun M e=>by cases e) rI nu he
  |some M=>
   rw[hm] at rI nu;simp only[hm] at he ⊢;exact main (some M) _ _ _ rfl (fun M' e=>by cases e;exact⟨rfl,rfl⟩) rI nu he
 |block id c1=>
  have vi:=IH c1 (by simp at hc;omega);intro rm S r h rd w0 σ0 wr ρ x a w gz hC hY il hn hg he;simp only[comp] at h;cases cD:Nat.beq id cJ<;>simp only[cD,cond_true,cond_false] at h
  case true=>cases h;exact absurd he (mU _ _ _ _)
  have Jy:id≠cJ:=fun e=>by subst e;simp at cD
  simp only[aC] at h;obtain⟨q,hq,rfl⟩:=h;obtain⟨xi,dG⟩:=Xs he;exact wpIn_block (wpIn_mono (vi rm S _ hq rd w0 σ0 wr ρ xi a w gz hC hY il hn hg dG) fun e a' w' fM=>Xu Jy (uG c1 hq) dG he fM)
 |loop c1=>
  have vi:=IH c1 (by simp at hc;omega);intro rm S r h rd w0 σ0 wr ρ x a w gz hC hY il hn hg he;rw[XP] at h;split at h
  ·rename_i qb Ex;obtain⟨p,code,ws⟩:=qb;unfold xG at Ex;split at Ex
   case h_2=>cases Ex
   rename_i cx cy ck cz cc;simp only[aC] at Ex;obtain⟨p',aU,ep⟩:=Ex;cases ep;exact aqi aU (IH _ (by simp at hc;omega)) h gz hC hY il hn hg he
  split at h
  case h_2=>cases h;exact absurd he (mU _ _ _ _)
  rename_i q hq;cases h;obtain⟨hs,AE,bC⟩:=EM (C:=C) (w0:=w0) (σ0:=σ0) (ids:=ids) 8 hq;have rE:=uG c1 hs;simp only[PC.ev] at he
  have AF:Good C w0 σ0 (q.1.st ids) (ρ.put (kF q.1 q.2.mr) ((kF q.1 q.2.mr).map ρ.r) (jv ids q.1 q.2.mo) ((jv ids q.1 q.2.mo).map ρ.o)) (fun _=>False) a w:=by
   exact Good.joined (bC hg) (.refl ρ q.2.pc.modR q.2.pc.modO) rE.1 rE.2
  have key:∀(k:Nat) (ρ1:Env) (a':Act) (w:World),SameBut wr a a'→fR (q.2.pc.ev Φ N) ρ (kF q.1 q.2.mr) (jv ids q.1 q.2.mo) k ((kF q.1 q.2.mr).map ρ1.r) ((jv ids q.1 q.2.mo).map ρ1.o)=some x→
        Good C w0 σ0 (q.1.st ids) (ρ.join (kF q.1 q.2.mr) (jv ids q.1 q.2.mo) ρ1) (fun _=>False) a' w→Code.roundsIn (FR rd) 0 C.P c1 (gJ C w0 σ0 ids fn s rm wr a none q.2.ex x) k a' w:=by
   intro k
   induction k with
   |zero=>intro ρ1 a' w hn hl hg;simp[fR] at hl
   |succ k ih=>
    intro ρ1 a' w kB hl hg;rw[roundsIn_succ];simp only[fR] at hl;change (match q.2.pc.ev Φ N (ρ.join (kF q.1 q.2.mr) (jv ids q.1 q.2.mo) ρ1) with|some (.next ρ')=>_|y=>y)=some x at hl;cases dG:q.2.pc.ev Φ N (ρ.join (kF q.1 q.2.mr) (jv ids q.1 q.2.mo) ρ1) with
    |none=>rw[dG] at hl;simp at hl
    |some xi=>
     rw[dG] at hl;refine wpIn_mono (vi rm _ _ hs rd w0 σ0 wr _ xi a' w gz hC hY il (kB.size.trans hn) hg dG) fun e a2 w' fM=>?_;have other:e≠.normal→xi=x→gJ C w0 σ0 ids fn s rm wr a none q.2.ex x e a2 w':=by
         intro aE kC;subst kC;exact fM.mono (fun y hy=>hy) kB (fun e=>absurd e aE)
     cases e with
     |normal=>
      obtain⟨ρ2,S2,e1,e2,eI,iQ⟩:=fM;subst e1;simp only at hl;refine ih ρ2 a2 w' (kB.trans eI) hl ?_
      have tu:Good C w0 σ0 (q.1.st ids) ρ2 (fun _=>False) a2 w':=by
       have:=iQ.meet2 (x:=q.1)
       rwa [AE S2 e2] at this
      refine tu.joined (mr':=kF q.1 q.2.mr++q.2.pc.modR) (mo':=jv ids q.1 q.2.mo++q.2.pc.modO) ?_ (fun t ht=>?_) (fun j hj=>?_)
      ·exact((Env.but.join ρ ρ1 _ _).mono (fun t ht=>jI _ ht) (fun t ht=>jI _ ht)).trans
        ((PC.ev_but q.2.pc _ _ ρ2 dG rfl).mono (fun t ht=>kh _ ht) (fun t ht=>kh _ ht))
      ·exact(dt.1 ht).elim Ki (rE.1 t)
      ·exact(dt.1 hj).elim A9 (rE.2 j)
     |exit id=>
      refine other (by simp) ?_;obtain⟨ρ1,S2,e1,_⟩:=fM;subst e1;simpa using hl
     |ret=>
      refine other (by simp) ?_;cases rm with
      |false=>obtain⟨d,e1,_⟩:=fM;subst e1;simpa using hl
      |true=>obtain⟨ρ1,S2,e1,_⟩:=fM;subst e1;simpa using hl
     |_=>exact fM.elim
  exact wpIn_loop_rounds N (key N ρ a w (.refl _ _) he AF)
 |exit id=>
  intro rm S r h rd w0 σ0 wr ρ x a w gz hC hY il hn hg he;simp only[comp] at h;cases cD:Nat.beq id cJ<;>simp only[cD,cond_true,cond_false] at h
  case true=>cases h;exact absurd he (mU _ _ _ _)
  cases h;simp only[PC.ev,aT] at he;subst he;exact wpIn_exit ⟨ρ,S,rfl,fun e=>by subst e;simp at cD,by simp,.refl _ _,hg⟩
 |ret=>
  intro rm S r h rd w0 σ0 wr ρ x a w gz hC hY il hn hg he;simp only[comp] at h;cases rm<;>simp only[cond_true,cond_false] at h
  case true=>
   cases h;simp only[PC.ev,aT] at he;subst he;exact wpIn_ret ⟨ρ,S,rfl,by simp,.refl _ _,hg⟩
  split at h
  ·rename_i e Ey;cases h;simp only[PC.ev,aT] at he;subst he;obtain⟨σ,own,hv,hi⟩:=hg;exact wpIn_ret ⟨_,rfl,Inv.retD hC (fun _=>rfl) (gz rfl).2 Ey _ hi rfl,.refl _ _⟩
  ·cases h;exact absurd he (mU _ _ _ _)
 |rangeFunc g ps ca cb=>exact asy eQ (IH ca (by simp at hc;omega)) (IH cb (by simp at hc;omega))
 |_=>intro rm S r h rd w0 σ0 wr ρ x a w gz hC hY il hn hg he;simp only[comp,aT] at h;subst h;exact absurd he (mU _ _ _ _)
theorem ahZ {N:Nat}(eQ:gq C Φ)(hR:MD C n ids Φ R)(c:Code):wq C Φ fn s n ids R N c:=ah0 eQ hR _ c (Nat.lt_succ_self _)
end
end Cx
