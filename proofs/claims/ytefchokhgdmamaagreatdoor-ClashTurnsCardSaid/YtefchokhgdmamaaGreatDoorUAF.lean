/-
  Code: sequences, choices, blocks, loops.
-/
import Derived.LoopNIn
import Derived.Test.YtefchokhgdmamaaGreatDoorUAE
import Derived.LoopN
set_option linter.unusedSimpArgs false
set_option linter.unusedVariables false
namespace Cx
open Go Go.RowKit
def au (m t:Nat):Bool:= !Nat.beq (Nat.land 1 (Nat.shiftRight m t)) 0
theorem su (m t:Nat):au m t=m.testBit t:=by
 unfold au Nat.testBit;show(!Nat.beq (1&&& (m>>>t)) 0)=((1&&& (m>>>t))!=0)
 generalize 1&&& (m>>>t)=x;cases x<;>rfl
def ed (t:Nat):Nat:=Nat.shiftLeft 1 t
theorem qP (t:Nat):au (ed t) t=true:=by
 rw[su];show(1<<<t).testBit t=true;simp[Nat.testBit_shiftLeft]
theorem fN (m k t:Nat):au (Nat.lor m k) t=(au m t||au k t):=by
 simp only[su];exact Nat.testBit_or m k t
def PI.mask:PI→Nat
 |.setR t _=>ed t|.call _ t _ _=>ed t|.callc _ t _ _=>ed t|_=>0
def I0:List PI→Nat
 |[]=>0
 |p::l=>Nat.lor p.mask (I0 l)
def PI.objs:PI→List Nat
 |.setO j _=>[j]|.mcall j _ _=>[j]|_=>[]
def fU (l:List Nat)(x:Nat):Bool:=l.any (Nat.beq x)
def jT (a b:List Nat):List Nat:=a.foldl (fun acc x=>bif fU acc x then acc else x::acc) b
def Zb (l:List PI):List Nat:=l.foldl (fun acc p=>jT p.objs acc) []
theorem qk (l:List Nat)(x:Nat):fU l x=true↔x∈l:=by
 unfold fU;rw[vM];constructor
 ·rintro⟨y,hy,h⟩;rw[aw h];exact hy
 ·intro h;exact⟨x,h,iI x⟩
theorem ql {x:Nat}:∀{a b:List Nat},x∈jT a b↔x∈a∨x∈b
 |[],b=>by simp[jT]
 |y::a,b=>by
  have ih:=@ql x a (bif fU b y then b else y::b);have e:jT (y::a) b=jT a (bif fU b y then b else y::b):=rfl;rw[e,ih];cases hb:fU b y
  ·simp[or_assoc,or_left_comm]
  ·have:=(qk b y).1 hb;simp only[cond_true,cW];constructor
   ·rintro(h|h)
    ·exact .inl (.inr h)
    ·exact .inr h
   ·rintro((h|h)|h)
    ·subst h;exact .inr this
    ·exact .inl h
    ·exact .inr h
theorem al9 {x:Nat}(l:List PI)(h:x∈l.flatMap PI.modO):x∈Zb l:=by
 have key:∀(l:List PI) (acc:List Nat),(x∈l.flatMap PI.modO∨x∈acc)→x∈l.foldl (fun acc p=>jT p.objs acc) acc:=by
  intro l
  induction l with
  |nil=>intro acc h;simpa using h
  |cons p l ih=>
   intro acc h;refine ih _ ?_;rw[rV,cR] at h;rcases h with(h|h)|h
   ·refine .inr (ql.2 (.inl ?_));cases p<;>simp_all [PI.modO,PI.objs]
   ·exact .inl h
   ·exact .inr (ql.2 (.inr h))
 exact key l [] (.inl h)
theorem YC {t:Nat}:∀(l:List PI),t∈l.flatMap PI.modR→au (I0 l) t=true
 |[],h=>by simp at h
 |p::l,h=>by
  rw[rV,cR] at h;simp only[I0,fN,gF];rcases h with h|h
  ·left;cases p<;>simp[PI.modR] at h<;>subst h<;>exact qP _
  ·exact .inr (YC l h)
structure Res2 where
 pc:PC
 out:Option Snap
 ex:List (Nat×Snap)
 mr:Nat
 mo:List Nat
 deriving Inhabited
def mV:Option Snap→Option Snap→Option Snap
 |none,x=>x
 |x,none=>x
 |some a,some b=>some (a.meet b)
def oN (id:Nat):List (Nat×Snap)→Option Snap→Option Snap
 |[],acc=>acc
 |x::l,acc=>oN id l (bif Nat.beq x.1 id then mV acc (some x.2) else acc)
def iter (step:Snap→Option Res2):Nat→Snap→Option (Snap×Res2)
 |0,_=>none
 |k+1,S=>(step S).bind fun r=>
  match r.out with
  |none=>some (S,r)
  |some T=>bif (S.meet T).beq S then some (S,r) else iter step k (S.meet T)
def kH (S:Snap)(m:Nat):List Nat:=(List.range S.rs.length).filter fun t=>au m t&& !isNone (cQ (S.rs.getD t .none))
def jO (ids:List Nat)(S:Snap)(l:List Nat):List Nat:=l.filter fun j=> !oL (dY ids S.os j)
def gW:Res2:=⟨.is [Fo],none,[],0,[]⟩
theorem na (Φ:aV)(N:Nat)(ρ:Env)(x:Out):gW.pc.ev Φ N ρ≠some x:=by
 intro h;simp[gW,PC.ev,PI.runs,PI.run,Fo,PE.ev,D.b_bool] at h
theorem nf:(∀t,t∈gW.pc.modR→au gW.mr t=true)∧∀j,j∈gW.pc.modO→j∈gW.mo:=by
 constructor<;>intro t h<;>simp[gW,PC.modR,PC.modO,PI.modR,PI.modO,Fo] at h
def cG:Code→List Nat
 |.region _ ops _=>ops.toList.filterMap (·.dst)
 |.seq a b=>cG a++cG b
 |.cond _ a b=>cG a++cG b
 |.block _ a=>cG a
 |.loop a=>cG a
 |_=>[]
def xg (l:List Nat):Nat:=l.foldr (fun t m=>Nat.lor (ed t) m) 0
def s9 (m:Nat):Nat→List Sh→List Sh
 |_,[]=>[]
 |t,s::l=>(bif au m t then .none else s)::s9 m (t+1) l
def Snap.mask (m:Nat)(S:Snap):Snap:=⟨s9 m 0 S.rs,S.os⟩
def sP:Sh→Sh
 |.yv=>.none
 |s=>s
def rJ:List Nat→List Ty→List Sh→List Sh
 |p::ps,y::ys,l=>rJ ps ys (l.set p (.dat y))
 |_,_,l=>l
def Snap.start (ps:List Nat)(ys:List Ty)(S:Snap):Snap:=⟨rJ ps ys (S.rs.map sP),S.os⟩
def Yv (ids:List Nat)(l:List Snap)(mo:List Nat):List Nat:=mo.filter fun j=>l.any fun S=> !oL (dY ids S.os j)
def aoB (wm:Nat)(ra rb:Res2):Res2:=
 let m:=Nat.lor wm (Nat.lor ra.mr rb.mr)
 ⟨.seq ra.pc rb.pc,rb.out.map (Snap.mask m),rb.ex.map (fun x=>(x.1,x.2.mask m)),m,jT ra.mo rb.mo⟩
def gI (ids:List Nat)(id:Nat)(r:Res2):Res2:=
    match oN id r.ex r.out with
    |some M=>⟨.block id (kH M r.mr) (jO ids M r.mo) r.pc,some M,r.ex.filter fun x=> !Nat.beq x.1 id,r.mr,r.mo⟩
    |none=>⟨.block id [] [] r.pc,none,r.ex.filter fun x=> !Nat.beq x.1 id,r.mr,r.mo⟩
def uR:List (Nat×Nat)→Nat→Option Nat
 |[],_=>none
 |x::l,t=>bif Nat.beq x.1 t then some x.2 else uR l t
def lF (pr:Nat):List Oper→List (Nat×Nat)→Option (List (Nat×Nat))
 |[],acc=>some acc
 |o::l,acc=>
  match o.dst,o.guard with
  |some d,none=>
   bif Nat.beq d pr||(uR acc d).isSome then none else
   match o.op with
   |.extract (.tmp t) i=>bif Nat.beq t pr&&Nat.ble i 1 then lF pr l (acc++[(d,i)]) else none
   |.assign (.tmp t)=>(uR acc t).bind fun i=>lF pr l (acc++[(d,i)])
   |.move (.tmp t)=>(uR acc t).bind fun i=>lF pr l (acc++[(d,i)])
   |_=>none
  |_,_=>none
structure MP where
 it:Nat
 nx:Nat
 mo:Nat
 out:Nat
 next:Nat
 pr:Nat
 ops1:Array Oper
 ops2:Array Oper
 aa:List (Nat×Nat)
 deriving Inhabited
def z8 (x y:Code)(k:Nat)(z:Code):Option MP:=
 match x,y,z with
 |.region _ ops1 false,.cond (.tmp mo) .skip (.exit out),.region _ ops2 false=>
  match ops1.toList,ops2.toList with
  |[o1,o2],o3::l=>
   match o1.dst,o1.guard,o1.op,o2.dst,o2.guard,o2.op,o3.dst,o3.guard,o3.op with
   |some nx,none,.next (.tmp it) false,some mo',none,.extract (.tmp YY) 0,some pr,none,.entry (.tmp X0)=>
    bif Nat.beq mo mo'&&Nat.beq nx YY&&Nat.beq it X0&& !Nat.beq it nx&& !Nat.beq it mo&& !Nat.beq it pr&& !Nat.beq nx mo&& !Nat.beq out cZ&& !Nat.beq k cZ then
     (lF pr l []).map fun aa=>⟨it,nx,mo,out,k,pr,ops1,ops2,aa⟩
    else none
   |_,_,_,_,_,_,_,_,_=>none
  |_,_=>none
 |_,_,_=>none
def w6:List Nat→Nat→List Ob→List Ob
 |i::is,J,o::os=>(bif Nat.beq i J then .dead else o)::w6 is J os
 |_,_,os=>os
def Snap.kill (ids:List Nat)(J:Nat)(S:Snap):Snap:=⟨S.rs,w6 ids J S.os⟩
def XX (J:Nat)(kt et:Ty)(ids:List Nat)(p:MP)(m:Nat)(S:Snap):Bool:=
 Sh.beq (S.rs.getD p.it .none) (.obj J 0)&&Ob.beq (dY ids S.os J) (.it kt et)&& !au m p.it
def Aa (ids:List Nat)(n:Nat)(p:MP)(ws:List Nat)(f:Snap→Option Res2)(S:Snap):Option Res2:=
 match cQ (S.rs.getD p.it .none) with
 |.obj J 0=>
  match dY ids S.os J with
  |.it kt et=>
   let ps:=p.aa.map (·.1)
   let ys:=p.aa.map fun x=>bif Nat.beq x.2 0 then kt else et
   let m:=xg ws
   match iter (fun S=>(f ((S.mask m).start ps ys)).map (gI ids p.next)) 8 S with
   |some r=>
    bif r.2.ex.isEmpty&& !fU r.2.mo J&&XX J kt et ids p m r.1&&gS ps&&ps.all (fun t=>Nat.blt t n)&&Nat.blt p.nx n&&Nat.blt p.mo n&&Nat.blt p.pr n&&Nat.beq (Nat.lor m r.2.mr) m then
       some ⟨.seq (.meach J ps (p.aa.map (·.2)) (jO ids r.1 r.2.mo) r.2.pc) (.exit p.out),none,[(p.out,(r.1.mask m).kill ids J)],0,r.2.mo⟩
    else some gW
   |none=>some gW
  |_=>some gW
 |_=>some gW
def comp (C:Ctx)(fn:Func)(s:Sig)(n:Nat)(ids:List Nat)(R:Array Oper→Bool→Snap→Option (Snap×List PI)):Bool→Code→Snap→Option Res2
 |_,.skip,S=>some ⟨.skip,some S,[],0,[]⟩
 |_,.region _ ops draw,S=>(R ops draw S).map fun r=>⟨.is r.2,some r.1,[],I0 r.2,Zb r.2⟩
 |rm,.seq a b,S=>(comp C fn s n ids R rm a S).bind fun r=>
  match r.out with
  |none=>some r
  |some S1=>(comp C fn s n ids R rm b S1).map fun q=>⟨.seq r.pc q.pc,q.out,r.ex++q.ex,Nat.lor r.mr q.mr,jT r.mo q.mo⟩
 |rm,.cond c a b,S=>
  match use C (S.st ids) [] c with
  |some (.bool,e)=>
   (comp C fn s n ids R rm a S).bind fun r=>(comp C fn s n ids R rm b S).map fun q=>
     match mV r.out q.out with
     |some M=>⟨.ite e (kH M (Nat.lor r.mr q.mr)) (jO ids M (jT r.mo q.mo)) r.pc q.pc,some M,r.ex++q.ex,Nat.lor r.mr q.mr,jT r.mo q.mo⟩
     |none=>⟨.ite e [] [] r.pc q.pc,none,r.ex++q.ex,Nat.lor r.mr q.mr,jT r.mo q.mo⟩
  |_=>some gW
 |rm,.block id a,S=>bif Nat.beq id cZ then some gW else(comp C fn s n ids R rm a S).map (gI ids id)
 |rm,.loop (.seq x (.seq y (.block k (.seq z code)))),S=>
  (match z8 x y k z with
  |some p=>Aa ids n p (cG x++(cG y++(cG z++cG code))) (fun S=>comp C fn s n ids R rm code S) S
  |none=>
  match iter (fun S=>comp C fn s n ids R rm (.seq x (.seq y (.block k (.seq z code)))) S) 8 S with
  |some r=>some ⟨.loop (kH r.1 r.2.mr) (jO ids r.1 r.2.mo) r.2.pc,none,r.2.ex,r.2.mr,r.2.mo⟩
  |none=>some gW)
 |rm,.loop a,S=>
  match iter (fun S=>comp C fn s n ids R rm a S) 8 S with
  |some r=>some ⟨.loop (kH r.1 r.2.mr) (jO ids r.1 r.2.mo) r.2.pc,none,r.2.ex,r.2.mr,r.2.mo⟩
  |none=>some gW
 |_,.exit id,S=>bif Nat.beq id cZ then some gW else some ⟨.exit id,none,[(id,S)],0,[]⟩
 |rm,.ret,S=>
  bif rm then some ⟨.exit cZ,none,[(cZ,S)],0,[]⟩ else
  match xH C fn s (S.st ids) with
  |some e=>some ⟨.ret e,none,[],0,[]⟩
  |none=>some gW
 |rm,.rangeFunc g ps a b,S=>
  match rm,C.yl,use C (S.st ids) [] g with
  |false,none,some (.fn aa r,e)=>
   match mS aa r with
   |some ys=>
    match iter (fun S=>(comp C fn s n ids R true a (S.start ps.toList ys)).bind fun ra=>
          match ra.out,ra.ex with
          |some S1,[]=>(comp C fn s n ids R true b S1).map (aoB (xg (ps.toList++cG a++cG b)) ra)
          |_,_=>none) 8 S with
    |some r=>
     bif Nat.beq ys.length ps.size&&gS ps.toList&&ps.toList.all (fun p=>Nat.blt p n)&&Nat.ble r.1.rs.length n then
           some ⟨.seq (.is [.callc [] n e []]) (.each (.r n) ps.toList (Yv ids (r.1::r.2.ex.map (·.2)) r.2.mo) ((oN cZ r.2.ex none).bind fun M=>xH C fn s (M.st ids)) r.2.pc),
            some r.1,r.2.ex.filter (fun x=> !Nat.beq x.1 cZ),ed n,r.2.mo⟩
     else some gW
    |none=>some gW
   |none=>some gW
  |_,_,_=>some gW
 |_,_,_=>some gW
termination_by structural _ c=>c
def xe:Code→Option (MP×Code×List Nat)
 |.seq x (.seq y (.block k (.seq z code)))=>(z8 x y k z).map fun p=>(p,code,cG x++(cG y++(cG z++cG code)))
 |_=>none
theorem Vf (C:Ctx)(fn:Func)(s:Sig)(n:Nat)(ids:List Nat)(R:Array Oper→Bool→Snap→Option (Snap×List PI))(rm:Bool)(a:Code)(S:Snap):comp C fn s n ids R rm (.loop a) S=
 match xe a with
 |some q=>Aa ids n q.1 q.2.2 (fun S=>comp C fn s n ids R rm q.2.1 S) S
 |none=>
  match iter (fun S=>comp C fn s n ids R rm a S) 8 S with
  |some r=>some ⟨.loop (kH r.1 r.2.mr) (jO ids r.1 r.2.mo) r.2.pc,none,r.2.ex,r.2.mr,r.2.mo⟩
  |none=>some gW:=by
 by_cases h:∃x y k z code,a=.seq x (.seq y (.block k (.seq z code)))
 ·obtain⟨x,y,k,z,code,rfl⟩:=h
  conv=>lhs;unfold comp
  simp only[xe];cases z8 x y k z<;>rfl
 ·have e:xe a=none:=by
   unfold xe;split
   ·rename_i x y k z code;exact absurd ⟨x,y,k,z,code,rfl⟩ h
   ·rfl
  rw[e];rw[comp];intro x y k z code e;exact h ⟨x,y,k,z,code,e⟩
def subs:Code→List Code
 |.seq a b=>.seq a b::(subs a++subs b)
 |.cond c a b=>.cond c a b::(subs a++subs b)
 |.block i a=>.block i a::subs a
 |.loop a=>.loop a::subs a
 |.rangeFunc g ps a b=>.rangeFunc g ps a b::(subs a++subs b)
 |c=>[c]
theorem apb (c:Code):c∈subs c:=by cases c<;>simp[subs]
theorem awH {a code:Code}{p:MP}{ws:List Nat}(h:xe a=some (p,code,ws)):code∈subs a:=by
 unfold xe at h;split at h
 ·simp only[ax] at h;obtain⟨q,_,e⟩:=h;cases e;simp[subs,apb]
 ·cases h
def La (C:Ctx)(n:Nat)(ids:List Nat)(Φ:aV)(R:Array Oper→Bool→Snap→Option (Snap×List PI)):Prop:=
 ∀(id:Nat) (ops:Array Oper) (draw:Bool) (S:Snap) (r:Snap×List PI),R ops draw S=some r→
  ∀(rd:Option Nat) (w0:World) (σ0:Base) (ρ ρ':Env) (a:Act) (w:World) (Q:Exit→Act→World→Prop),CtxOK C σ0→qN C Φ w0 σ0→a.tmps.size=n→Good C w0 σ0 (S.st ids) ρ (fun _=>False) a w→PI.runs Φ r.2 ρ=some ρ'→
   (∀a' w',SameBut (qV ops) a a'→Good C w0 σ0 (r.1.st ids) ρ' (fun _=>False) a' w'→Q .normal a' w')→(Code.region id ops draw).wpIn (FR rd) 0 C.P Q a w
section
variable {C:Ctx} {ρ ρ':Env} {σ:Im} {own:Nat→Option Nat} {hv:Nat→Value} {w0:World} {σ0:Base} {A:Nat→Prop} {a:Act} {w:World} {Φ:aV} {n:Nat} {ids:List Nat} {fn:Func} {s:Sig}
 {R:Array Oper→Bool→Snap→Option (Snap×List PI)}
def hH (C:Ctx)(w0:World)(σ0:Base)(ids:List Nat)(fn:Func)(s:Sig)(rm:Bool)(wr:Nat→Prop)(a0:Act)(out:Option Snap)(ex:List (Nat×Snap))(x:Out):Exit→Act→World→Prop
 |.normal,a,w=>∃ρ S,x=.next ρ∧out=some S∧SameBut wr a0 a∧Good C w0 σ0 (S.st ids) ρ (fun _=>False) a w
 |.exit id,a,w=>∃ρ S,x=.exit id ρ∧id≠cZ∧(id,S)∈ex∧SameBut wr a0 a∧Good C w0 σ0 (S.st ids) ρ (fun _=>False) a w
 |.ret,a,w=>match rm with
  |false=>∃d,x=.ret d∧sk C w0 σ0 fn s d a.tmps a.defers w∧SameBut wr a0 a
  |true=>∃ρ S,x=.exit cZ ρ∧(cZ,S)∈ex∧SameBut wr a0 a∧Good C w0 σ0 (S.st ids) ρ (fun _=>False) a w
 |_,_,_=>False
theorem Good.meet1 {x y:Snap}(h:Good C w0 σ0 (x.st ids) ρ A a w):Good C w0 σ0 ((x.meet y).st ids) ρ (fun _=>False) a w:=by
 obtain⟨σ,own,hv,h⟩:=h;exact⟨σ,own,hv,Snap.meet_ok1 h⟩
theorem Good.meet2 {x y:Snap}(h:Good C w0 σ0 (y.st ids) ρ A a w):Good C w0 σ0 ((x.meet y).st ids) ρ (fun _=>False) a w:=by
 obtain⟨σ,own,hv,h⟩:=h;exact⟨σ,own,hv,Snap.meet_ok2 h⟩
theorem YK {x:Snap}{y:Option Snap}{M:Snap}(h:Good C w0 σ0 (x.st ids) ρ (fun _=>False) a w)(hm:mV (some x) y=some M):Good C w0 σ0 (M.st ids) ρ (fun _=>False) a w:=by
 cases y<;>simp[mV] at hm<;>subst hm
 ·exact h
 ·exact h.meet1
theorem YL {x:Option Snap}{y:Snap}{M:Snap}(h:Good C w0 σ0 (y.st ids) ρ (fun _=>False) a w)(hm:mV x (some y)=some M):Good C w0 σ0 (M.st ids) ρ (fun _=>False) a w:=by
 cases x<;>simp[mV] at hm<;>subst hm
 ·exact h
 ·exact h.meet2
theorem YM {x:Snap}{y:Option Snap}:∃M,mV (some x) y=some M:=by cases y<;>simp[mV]
theorem YN {x:Option Snap}{y:Snap}:∃M,mV x (some y)=some M:=by cases x<;>simp[mV]
theorem I2 {id:Nat}:∀(l:List (Nat×Snap)) {x:Snap},Good C w0 σ0 (x.st ids) ρ (fun _=>False) a w→∃M,oN id l (some x)=some M∧Good C w0 σ0 (M.st ids) ρ (fun _=>False) a w
 |[],x,h=>⟨x,rfl,h⟩
 |y::l,x,h=>by
  simp only[oN];cases Nat.beq y.1 id
  ·exact I2 l h
  ·obtain⟨M,hM⟩:=@YM x (some y.2);simp only[cond_true,hM];exact I2 l (YK h hM)
theorem O2 {id:Nat}{S:Snap}(h:Good C w0 σ0 (S.st ids) ρ (fun _=>False) a w):∀(l:List (Nat×Snap)) (x:Option Snap),(id,S)∈l→∃M,oN id l x=some M∧Good C w0 σ0 (M.st ids) ρ (fun _=>False) a w
 |y::l,x,hm=>by
  simp only[oN];rcases cW.1 hm with e|hm
  ·subst e;simp only[iI,cond_true];obtain⟨M,hM⟩:=@YN x S;rw[hM];exact I2 l (YL h hM)
  ·exact O2 h l _ hm
theorem DI {step:Snap→Option Res2}:∀(k:Nat) {S:Snap} {r:Snap×Res2},iter step k S=some r→
 step r.1=some r.2∧(∀T,r.2.out=some T→r.1.meet T=r.1)∧∀{ρ:Env} {a:Act} {w:World},Good C w0 σ0 (S.st ids) ρ (fun _=>False) a w→Good C w0 σ0 (r.1.st ids) ρ (fun _=>False) a w
 |0,S,r,h=>by simp[iter] at h
 |k+1,S,r,h=>by
  simp only[iter,ao] at h;obtain⟨q,hq,h⟩:=h;split at h
  ·rename_i ho;cases h;exact⟨hq,fun T hT=>by simp[ho] at hT,fun g=>g⟩
  ·rename_i T ho;cases hb:(S.meet T).beq S<;>simp only[hb,cond_true,cond_false] at h
   ·obtain⟨h1,h2,h3⟩:=DI k h;exact⟨h1,h2,fun g=>h3 g.meet1⟩
   ·cases h;refine⟨hq,fun T' hT=>?_,fun g=>g⟩;simp only[ho,aR] at hT;subst hT;exact Snap.beq_eq _ _ hb
theorem X1 {step:Snap→Option Res2}{hv:Nat→Value}:∀(k:Nat) {S:Snap} {r:Snap×Res2},iter step k S=some r→Inv C (S.st ids) ρ σ own hv w0 σ0 (fun _=>False) a w→Inv C (r.1.st ids) ρ σ own hv w0 σ0 (fun _=>False) a w
 |0,S,r,h,_=>by simp[iter] at h
 |k+1,S,r,h,i=>by
  simp only[iter,ao] at h;obtain⟨q,hq,h⟩:=h;split at h
  ·cases h;exact i
  ·rename_i T ho;cases hb:(S.meet T).beq S<;>simp only[hb,cond_true,cond_false] at h
   ·exact X1 k h (Snap.meet_ok1 i)
   ·cases h;exact i
theorem Good.joined {M:Snap}{m:Nat}{mo mr' mo':List Nat}(h:Good C w0 σ0 (M.st ids) ρ' (fun _=>False) a w)(hb:ρ.but ρ' mr' mo')(h1:∀t,t∈mr'→au m t=true)(h2:∀j,j∈mo'→j∈mo):
 Good C w0 σ0 (M.st ids) (ρ.join (kH M m) (jO ids M mo) ρ') (fun _=>False) a w:=by
 obtain⟨σ,own,hv,h⟩:=h;refine⟨σ,own,hv,h.env (Snap.noOpt _ _) (fun t ht=>?_) (fun j hj=>?_)⟩
 ·simp only[Env.join,Env.put,tq];split
  ·rfl
  ·rename_i hm;refine(hb.r t fun C5=>hm ?_).symm;have ae:t<M.rs.length:=by
        refine Uf fun hle=>?_;simp only[Snap.st,aH,rX hle,Option.getD_none,cQ,isNone] at ht;cases ht
   exact cS.2 ⟨cr.2 ae,by rw[h1 t C5];simpa [Snap.st] using ht⟩
 ·simp only[Env.join,Env.put,tq];split
  ·rfl
  ·rename_i hm;refine(hb.o j fun C5=>hm ?_).symm;exact cS.2 ⟨h2 j C5,by simpa [Snap.st] using hj⟩
theorem I3 {S:Snap}{m t:Nat}(h:t∈kH S m):au m t=true:=by
 have:=(cS.1 h).2;simp only[aj] at this;exact this.1
theorem Ab {S:Snap}{l:List Nat}{j:Nat}(h:j∈jO ids S l):j∈l:=(cS.1 h).1
theorem UN {id:Nat}{q:Res2}(h:(∀t,t∈q.pc.modR→au q.mr t=true)∧∀j,j∈q.pc.modO→j∈q.mo):(∀t,t∈(gI ids id q).pc.modR→au (gI ids id q).mr t=true)∧∀j,j∈(gI ids id q).pc.modO→j∈(gI ids id q).mo:=by
 unfold gI;cases hm:oN id q.ex q.out<;>simp only
 ·simpa [PC.modR,PC.modO] using h
 ·refine⟨fun t ht=>?_,fun j hj=>?_⟩
  ·simp only[PC.modR,cR] at ht;exact ht.elim I3 (h.1 t)
  ·simp only[PC.modO,cR] at hj;exact hj.elim Ab (h.2 j)
theorem al0 {p:MP}{ws:List Nat}{f:Snap→Option Res2}{S:Snap}{r:Res2}(h:Aa ids n p ws f S=some r):(∀t,t∈r.pc.modR→au r.mr t=true)∧∀j,j∈r.pc.modO→j∈r.mo:=by
 unfold Aa at h;split at h
 case h_2=>cases h;exact nf
 split at h
 case h_2=>cases h;exact nf
 simp only at h;split at h
 case h_2=>cases h;exact nf
 rw[po] at h;split at h
 ·cases h;refine⟨fun t ht=>by simp[PC.modR] at ht,fun j hj=>?_⟩;simp only[PC.modO,lK] at hj;exact Ab hj
 ·cases h;exact nf
theorem tZ:∀(c:Code) {rm:Bool} {S:Snap} {r:Res2},comp C fn s n ids R rm c S=some r→(∀t,t∈r.pc.modR→au r.mr t=true)∧∀j,j∈r.pc.modO→j∈r.mo:=by
 intro c
 induction c with
 |skip=>intro rm S r h;simp only[comp,aR] at h;subst h;simp[PC.modR,PC.modO]
 |region id ops draw=>
  intro rm S r h;simp only[comp,ax] at h;obtain⟨q,_,rfl⟩:=h;exact⟨fun t ht=>YC _ ht,fun j hj=>al9 _ hj⟩
 |seq x y jN wZ=>
  intro rm S r h;simp only[comp,ao] at h;obtain⟨q,hq,h⟩:=h;split at h
  ·cases h;exact jN hq
  ·simp only[ax] at h;obtain⟨p,hp,rfl⟩:=h;refine⟨fun t ht=>?_,fun j hj=>?_⟩
   ·simp only[PC.modR,cR] at ht;rw[fN,gF];exact ht.imp ((jN hq).1 t) ((wZ hp).1 t)
   ·simp only[PC.modO,cR] at hj;rw[ql];exact hj.imp ((jN hq).2 j) ((wZ hp).2 j)
 |cond c x y jN wZ=>
  intro rm S r h;simp only[comp] at h;split at h
  case h_2=>cases h;exact nf
  rename_i e _;simp only[ao,ax] at h;obtain⟨q,hq,p,hp,rfl⟩:=h;cases hm:mV q.out p.out<;>simp only[hm]
  ·refine⟨fun t ht=>?_,fun j hj=>?_⟩
   ·simp only[PC.modR,cR,sd] at ht;rw[fN,gF];exact ht.imp ((jN hq).1 t) ((wZ hp).1 t)
   ·simp only[PC.modO,cR,sd] at hj;rw[ql];exact hj.imp ((jN hq).2 j) ((wZ hp).2 j)
  ·refine⟨fun t ht=>?_,fun j hj=>?_⟩
   ·simp only[PC.modR,cR] at ht;rw[fN,gF];rcases ht with(ht|ht)|ht
    ·have:=I3 ht;rw[fN,gF] at this;exact this
    ·exact .inl ((jN hq).1 t ht)
    ·exact .inr ((wZ hp).1 t ht)
   ·simp only[PC.modO,cR] at hj;rcases hj with(hj|hj)|hj
    ·exact Ab hj
    ·exact ql.2 (.inl ((jN hq).2 j hj))
    ·exact ql.2 (.inr ((wZ hp).2 j hj))
 |block id x jN=>
  intro rm S r h;simp only[comp] at h;cases de:Nat.beq id cZ<;>simp only[de,cond_true,cond_false] at h
  case true=>cases h;exact nf
  simp only[ax] at h;obtain⟨q,hq,rfl⟩:=h;exact UN (jN hq)
 |loop x jN=>
  intro rm S r h;rw[Vf] at h;split at h
  ·exact al0 h
  split at h
  case h_2=>cases h;exact nf
  rename_i q hq;cases h;have hs:=(DI (C:=C) (w0:=default) (σ0:=Base.mk0 ⟨fun _ _=>none,fun _=>none⟩ 0) (ids:=ids) 8 hq).1;refine⟨fun t ht=>?_,fun j hj=>?_⟩
  ·simp only[PC.modR,cR] at ht;exact ht.elim I3 ((jN hs).1 t)
  ·simp only[PC.modO,cR] at hj;exact hj.elim Ab ((jN hs).2 j)
 |exit id=>
  intro rm S r h;simp only[comp] at h;cases de:Nat.beq id cZ<;>simp only[de,cond_true,cond_false] at h<;>cases h
  ·simp[PC.modR,PC.modO]
  ·exact nf
 |ret=>
  intro rm S r h;simp only[comp] at h;cases rm<;>simp only[cond_true,cond_false] at h
  case true=>cases h;simp[PC.modR,PC.modO]
  split at h
  ·cases h;simp[PC.modR,PC.modO]
  ·cases h;exact nf
 |rangeFunc g ps x y _ _=>
  intro rm S r h;simp only[comp] at h;split at h
  case h_2=>cases h;exact nf
  split at h
  case h_2=>cases h;exact nf
  split at h
  case h_2=>cases h;exact nf
  rename_i q hq;rw[po] at h;split at h
  ·cases h;refine⟨fun t ht=>?_,fun j hj=>?_⟩
   ·simp[PC.modR,PI.modR] at ht;subst ht;exact qP _
   ·simp only[PC.modO,PI.modO,rV,T6,lK,sd] at hj;exact(cS.1 hj).1
  ·cases h;exact nf
 |_=>intro rm S r h;simp only[comp,aR] at h;subst h;exact nf
theorem hH.mono {rm:Bool}{wr:Nat→Prop}{a0 a1:Act}{out aan:Option Snap}{ex Vz:List (Nat×Snap)}{x:Out}{e:Exit}(h:hH C w0 σ0 ids fn s rm wr a0 out ex x e a w)(he:∀y,y∈ex→y∈Vz)(hs:SameBut wr a1 a0)
 (ho:e=.normal→aan=out):hH C w0 σ0 ids fn s rm wr a1 aan Vz x e a w:=by
 cases e with
 |normal=>obtain⟨ρ,S,h1,h2,h3,h4⟩:=h;exact⟨ρ,S,h1,by rw[ho rfl];exact h2,hs.trans h3,h4⟩
 |exit id=>obtain⟨ρ,S,h1,h2,h3,h4,h5⟩:=h;exact⟨ρ,S,h1,h2,he _ h3,hs.trans h4,h5⟩
 |ret=>
  cases rm with
  |false=>obtain⟨d,h1,h2,h3⟩:=h;exact⟨d,h1,h2,hs.trans h3⟩
  |true=>obtain⟨ρ,S,h1,h3,h4,h5⟩:=h;exact⟨ρ,S,h1,he _ h3,hs.trans h4,h5⟩
 |_=>exact h.elim
theorem Vr {body:Env→Option Out}{ρ:Env}{ps lo:List Nat}{rt:Option PE}{x:Out}:∀{xs vo:List D},kY body ρ ps lo rt xs vo=some x→
 ∃(m:Nat) (nk:Nat→List D),m≤xs.length∧nk 0=vo∧
  (∀i,i<m→∃y ρ',xs[i]?=some y∧body (ρ.put ps (partsOf ps y) lo (nk i))=some (.next ρ')∧lo.map ρ'.o=nk (i+1))∧
  ((m=xs.length∧x=.next (ρ.put [] [] lo (nk m)))∨
   (m<xs.length∧∃y id ρ',xs[m]?=some y∧body (ρ.put ps (partsOf ps y) lo (nk m))=some (.exit id ρ')∧
    ((id≠cZ∧x=.exit id (ρ.put [] [] lo (lo.map ρ'.o)))∨(id=cZ∧∃e,rt=some e∧x=.ret (e.ev (ρ.put [] [] lo (lo.map ρ'.o)))))))
 |[],vo,h=>by
  simp only[kY,aR] at h;exact⟨0,fun _=>vo,aX _,rfl,fun i hi=>by omega,.inl ⟨rfl,h.symm⟩⟩
 |y::xs,vo,h=>by
  simp only[kY] at h;split at h
  ·rename_i ρ' hb;obtain⟨m,nk,h1,h2,h3,h4⟩:=Vr h;refine⟨m+1,fun i=>match i with|0=>vo|i+1=>nk i,by simp;omega,rfl,fun i hi=>?_,?_⟩
   ·cases i with
    |zero=>exact⟨y,ρ',rfl,hb,h2.symm⟩
    |succ i=>simpa using h3 i (by omega)
   ·rcases h4 with⟨e1,e2⟩|⟨e1,z,id,ρ2,e2,e3,e4⟩
    ·exact .inl ⟨by simp[e1],e2⟩
    ·exact .inr ⟨by simp;omega,z,id,ρ2,by simpa using e2,e3,e4⟩
  ·rename_i id ρ' hb;refine⟨0,fun _=>vo,oc _,rfl,fun i hi=>by omega,.inr ⟨by simp,y,id,ρ',rfl,hb,?_⟩⟩;cases de:Nat.beq id cZ<;>simp only[de,cond_true,cond_false] at h
   ·refine .inl ⟨fun e=>?_,(tU h).symm⟩;subst e;simp at de
   ·simp only[ax] at h;obtain⟨e,he,e2⟩:=h;exact .inr ⟨aw de,e,he,e2.symm⟩
  ·cases h
theorem UK {l:List Nat}{t:Nat}(h:t∈l):au (xg l) t=true:=by
 induction l with
 |nil=>cases h
 |cons x l ih=>
  have e:xg (x::l)=Nat.lor (ed x) (xg l):=rfl;rw[e,fN];rcases cW.1 h with e|e
  ·subst e;rw[qP];rfl
  ·rw[ih e];simp
theorem O1 (m:Nat):∀(l:List Sh) (k t:Nat),(s9 m k l).getD t .none=if au m (k+t)=true then .none else l.getD t .none
 |[],k,t=>by simp[s9]
 |s::l,k,0=>by
  simp only[s9,rW,iz];cases au m k<;>rfl
 |s::l,k,t+1=>by
  simp only[s9,ya];rw[O1 m l (k+1) t,show k+1+t=k+(t+1) by omega]
theorem DR (m:Nat)(S:Snap)(t:Nat):((S.mask m).st ids).r t=if au m t=true then .none else(S.st ids).r t:=by
 show cQ ((s9 m 0 S.rs).getD t .none)=if au m t=true then .none else cQ (S.rs.getD t .none);rw[O1,fq];split<;>rfl
theorem al7 {m:Nat}{x S:Snap}{t:Nat}(h:au m t=true):((x.meet (S.mask m)).st ids).r t=.none:=by
 show cQ ((List.zipWith jP x.rs (s9 m 0 S.rs)).getD t .none)=.none;rcases KN (f:=jP) x.rs (s9 m 0 S.rs) t with h0|⟨s,u,h1,h2,h3⟩
 ·rw[h0];rfl
 ·rw[O1,fq,if_pos h] at h2;subst h2;rw[h3];cases s<;>rfl
theorem Inv.maskR {S:Snap}{hv:Nat→Value}(h:Inv C (S.st ids) ρ σ own hv w0 σ0 A a w)(m:Nat):Inv C ((S.mask m).st ids) ρ σ own hv w0 σ0 (fun _=>False) a w:=by
 have hc:Compat (S.st ids) hv ((S.mask m).st ids) hv:=⟨fun _=>aX _,fun _ _=>rfl⟩
 refine h.weaken (fun t=>?_) (fun j=>?_) (Snap.noOpt _ _) (fun j hj=>⟨hj,rfl⟩)
 ·refine aE.mono' (ρ:=ρ) (.refl σ) hc (Snap.noOpt _ _ t) ?_;rw[DR];split
  ·trivial
  ·exact h.regs t
 ·exact(h.objs j).mono (.refl σ) hc rfl rfl (fun k hk=>⟨hk,rfl⟩)
theorem Ro:∀(ps:List Nat) (ys:List Ty) (l:List Sh),ps.length=ys.length→gS ps=true→∀t,(rJ ps ys l).getD t .none=.none∨(t∉ps∧(rJ ps ys l).getD t .none=l.getD t .none)∨∃(i:Nat) (y:Ty),ps[i]?=some t∧ys[i]?=some y∧(rJ ps ys l).getD t .none=.dat y
 |[],ys,l,_,_,t=>.inr (.inl ⟨by simp,by cases ys<;>rfl⟩)
 |p::ps,[],l,h,_,t=>by simp at h
 |p::ps,y::ys,l,h,hn,t=>by
  have jI:=mW hn;rw[np] at jI;have dN:gS ps=true:=by
   simp only[gS,aj] at hn;exact hn.2
  show(rJ ps ys (l.set p (.dat y))).getD t .none=_∨_∨_;rcases Ro ps ys (l.set p (.dat y)) (by simpa using h) dN t with e|⟨e1,e2⟩|⟨i,z,e1,e2,e3⟩
  ·exact .inl e
  ·by_cases hp:t=p
   ·subst hp;by_cases ae:t<l.length
    ·exact .inr (.inr ⟨0,y,rfl,rfl,by show(rJ ps ys (l.set t (.dat y))).getD t .none=_;rw[e2];simp[aH,ae]⟩)
    ·left;rw[e2];simp[aH,ae]
   ·refine .inr (.inl ⟨by simp[hp,e1],?_⟩);show(rJ ps ys (l.set p (.dat y))).getD t .none=_;rw[e2];simp only[aH,tO];rw[if_neg (fun e=>hp e.symm)]
  ·exact .inr (.inr ⟨i+1,z,by simpa using e1,by simpa using e2,e3⟩)
def m7:List Nat→List Value→Array Value→Array Value
 |p::ps,v::vs,T=>m7 ps vs (T.setIfInBounds p v)
 |_,_,T=>T
theorem aoV (ps:Array Nat)(vs:Array Value)(T:Array Value):(ps.zip vs).foldl (fun T x=>T.setIfInBounds x.1 x.2) T=m7 ps.toList vs.toList T:=by
 rw[←Array.foldl_toList,Array.toList_zip];generalize ps.toList=l;generalize vs.toList=k
 induction l generalizing k T with
 |nil=>rfl
 |cons p l ih=>
  cases k with
  |nil=>rfl
  |cons v k=>simpa [m7] using ih (T.setIfInBounds p v) k
theorem abZ:∀(ps:List Nat) (vs:List Value) (T:Array Value),(m7 ps vs T).size=T.size
 |[],vs,T=>by cases vs<;>rfl
 |p::ps,[],T=>rfl
 |p::ps,v::vs,T=>by simp[m7,abZ ps vs]
theorem Kk:∀(ps:List Nat) (vs:List Value) (T:Array Value) (t:Nat),t∉ps→(m7 ps vs T).getD t undef=T.getD t undef
 |[],vs,T,t,_=>by cases vs<;>rfl
 |p::ps,[],T,t,_=>rfl
 |p::ps,v::vs,T,t,h=>by
  simp only[cW,not_or] at h;simp only[m7];rw[Kk ps vs _ t h.2];simp only[eK,vG];rw[if_neg (fun e=>h.1 e.symm)]
theorem abY:∀(ps:List Nat) (vs:List Value) (T:Array Value) (i t:Nat),ps.Nodup→ps.length=vs.length→(∀p,p∈ps→p<T.size)→ps[i]?=some t→(m7 ps vs T).getD t undef=vs.getD i undef
 |p::ps,v::vs,T,0,t,hn,hl,ae,h=>by
  simp at h;subst h;rw[np] at hn;simp only[m7];rw[Kk ps vs _ p hn.1];simp[vG,ae p (dR ..)]
 |p::ps,v::vs,T,i+1,t,hn,hl,ae,h=>by
  rw[np] at hn;simp only[m7];have:=abY ps vs (T.setIfInBounds p v) i t hn.2 (by simpa using hl) (fun q hq=>by simpa using ae q (dK _ hq)) (by simpa using h);simpa using this
 |p::ps,[],T,i,t,hn,hl,ae,h=>by simp at hl
 |[],vs,T,i,t,hn,hl,ae,h=>by simp at h
theorem Az (f:Nat→D):∀(ps:List Nat) (vs:List D) (t:Nat),t∉ps→putL f ps vs t=f t
 |[],vs,t,_=>by cases vs<;>rfl
 |p::ps,[],t,_=>rfl
 |p::ps,v::vs,t,h=>by
  simp only[cW,not_or] at h;simp only[putL,bk _ _ h.1];exact Az f ps vs t h.2
theorem PZ (f:Nat→D):∀(ps:List Nat) (vs:List D) (i t:Nat),ps.Nodup→ps.length=vs.length→ps[i]?=some t→putL f ps vs t=vs.getD i .none
 |p::ps,v::vs,0,t,hn,hl,h=>by
  simp at h;subst h;simp[putL,aK]
 |p::ps,v::vs,i+1,t,hn,hl,h=>by
  rw[np] at hn;have ht:t∈ps:=kl (by simpa using h);have ay:t≠p:=fun e=>hn.1 (e▸ht);simp only[putL,bk _ _ ay];have:=PZ f ps vs i t hn.2 (by simpa using hl) (by simpa using h);simpa using this
 |p::ps,[],i,t,hn,hl,h=>by simp at hl
 |[],vs,i,t,hn,hl,h=>by simp at h
theorem ant (ps:List Nat)(ds:List D)(i:Nat)(h:i<ps.length):(partsOf ps (.tup ds)).getD i .none=ds.getD i .none:=by
 simp[partsOf,aH,h,D.tget]
theorem ans (ps:List Nat)(x:D):(partsOf ps x).length=ps.length:=by simp[partsOf]
theorem Inv.startR {S:Snap}{hv:Nat→Value}(h:Inv C (S.st ids) ρ σ own hv w0 σ0 A a w){ps:List Nat}{ys:List Ty}{args:List Value}{ds:List D}{lo:List Nat}{vo:List D}(hl:ps.length=ys.length)(bj:gS ps=true)(ae:∀p,p∈ps→p<a.tmps.size)(ha:qF C σ ys args ds)
 (hρ:ρ=ρ'.put [] [] lo vo):Inv C ((S.start ps ys).st ids) (ρ'.put ps (partsOf ps (.tup ds)) lo vo) σ own hv w0 σ0 (fun _=>False) {tmps:=m7 ps args a.tmps,defers:=[]} w:=by
 obtain⟨a1,a2,a3⟩:=ha;have hn:=mW bj;have hc:Compat (S.st ids) hv ((S.start ps ys).st ids) hv:=⟨fun _=>aX _,fun _ _=>rfl⟩
 have ho:∀j,(ρ'.put ps (partsOf ps (.tup ds)) lo vo).o j=ρ.o j:=fun j=>by rw[hρ];rfl
 refine⟨trivial,h.ok,h.le,h.old,h.newc,h.newm,h.below,h.bw,h.owns,fun t=>?_,fun j=>(h.objs j).mono (.refl σ) hc rfl (ho j) (fun k hk=>⟨hk,rfl⟩),fun t gs s e=>absurd e (Snap.noOpt _ _ t gs s),?_⟩
 ·show aE C _ _ σ hv (cQ ((rJ ps ys (S.rs.map sP)).getD t .none)) ((m7 ps args a.tmps).getD t undef) (putL ρ'.r ps (partsOf ps (.tup ds)) t);rcases Ro ps ys (S.rs.map sP) hl bj t with e|⟨e1,e2⟩|⟨i,y,e1,e2,e3⟩
  ·rw[e];trivial
  ·rw[e2,Kk _ _ _ _ e1,Az _ _ _ _ e1];have hr:=h.regs t;change aE C _ ρ σ hv (cQ (S.rs.getD t .none)) _ _ at hr;have hρr:ρ.r t=ρ'.r t:=by rw[hρ];show putL ρ'.r [] [] t=_;rfl
   rw[hρr] at hr;have e3:(S.rs.map sP).getD t .none=sP (S.rs.getD t .none):=by
        simp only[aH,cK];cases S.rs[t]?<;>rfl
   rw[e3];generalize S.rs.getD t .none=s at hr;cases s with
   |yv=>trivial
   |opt gs s=>trivial
   |none=>trivial
   |fclo f c=>exact aE.mono' (.refl σ) hc (fun _ _ e=>by cases e) hr
   |agg l=>exact aE.mono' (.refl σ) hc (fun _ _ e=>by cases e) hr
   |dat t=>exact hr
   |obj j v=>exact aE.mono' (.refl σ) hc (fun _ _ e=>by cases e) hr
   |ptr j v o=>exact aE.mono' (.refl σ) hc (fun _ _ e=>by cases e) hr
   |eptr j v o q=>exact aE.mono' (.refl σ) hc (fun _ _ e=>by cases e) hr
  ·rw[e3];have hi:i<ps.length:=(eE.1 e1).1;rw[abY ps args a.tmps i t hn (by omega) ae e1,PZ _ ps _ i t hn (by rw[ans]) e1,ant _ _ _ hi];exact a3 i y e2
 ·obtain⟨t,fx,cx,h1,h2⟩:=h.frame;exact⟨t,fx,cx,h1,fun j hj=>⟨(h2 j hj).1,by rw[ho j];exact(h2 j hj).2⟩⟩
def vR (C:Ctx)(Φ:aV)(fn:Func)(s:Sig)(n:Nat)(ids:List Nat)(R:Array Oper→Bool→Snap→Option (Snap×List PI))(N:Nat)(c:Code):Prop:=
 ∀(rm:Bool) (S:Snap) (r:Res2),comp C fn s n ids R rm c S=some r→∀(rd:Option Nat) (w0:World) (σ0:Base) (wr:Nat→Prop) (ρ:Env) (x:Out) (a:Act) (w:World),(rm=false→rd=none∧σ0.fin)→CtxOK C σ0→qN C Φ w0 σ0→(∀t,t∈cG c→wr t)→a.tmps.size=n→
  Good C w0 σ0 (S.st ids) ρ (fun _=>False) a w→r.pc.ev Φ N ρ=some x→c.wpIn (FR rd) 0 C.P (hH C w0 σ0 ids fn s rm wr a r.out r.ex x) a w
structure Seg (σ:Im) (own:Nat→Option Nat) (w:World) (σ':Im) (own':Nat→Option Nat) (w':World):Prop where
 le:σ.le σ'
 below:Below 0 w w'
 same:∀k,k<w.heap.size→own k=none→w'.heap[k]?=w.heap[k]?
 ow:∀k j,own' k=some j→(∃i,own k=some i)∨w.heap.size≤k
 imm:∀k,((∃o x,σ'.c k o=some x)∨∃x,σ'.m k=some x)→(∃o x,σ.c k o=some x)∨(∃x,σ.m k=some x)∨(∃i,own k=some i)∨w.heap.size≤k
structure Free (L:Nat) (σ:Im) (own:Nat→Option Nat):Prop where
 own:own L=none
 c:∀o,σ.c L o=none
 m:σ.m L=none
theorem Free.seg {L:Nat}{σ':Im}{own':Nat→Option Nat}{w':World}(h:Free L σ own)(hL:L<w.heap.size)(k:Seg σ own w σ' own' w'):Free L σ' own':=by
 have CV:¬((∃o x,σ'.c L o=some x)∨∃x,σ'.m L=some x):=fun e=>by
  rcases k.imm L e with⟨o,x,e⟩|⟨x,e⟩|⟨i,e⟩|e
  ·rw[h.c o] at e;cases e
  ·rw[h.m] at e;cases e
  ·rw[h.own] at e;cases e
  ·omega
 refine⟨?_,fun o=>?_,?_⟩
 ·cases e:own' L with
  |none=>rfl
  |some j=>
   rcases k.ow L j e with⟨i,e⟩|e
   ·rw[h.own] at e;cases e
   ·omega
 ·cases e:σ'.c L o with
  |none=>rfl
  |some x=>exact absurd (.inl ⟨o,x,e⟩) CV
 ·cases e:σ'.m L with
  |none=>rfl
  |some x=>exact absurd (.inr ⟨x,e⟩) CV
def acZ (C:Ctx)(w0:World)(σ0:Base)(ids:List Nat)(wr:Nat→Prop)(a0:Act)(σ:Im)(own:Nat→Option Nat)(w:World)(out:Option Snap)(ex:List (Nat×Snap))(x:Out)(e:Exit)(a':Act)(w':World):Prop:=
 ∃ρ' S' σ' own' hv',Inv C (S'.st ids) ρ' σ' own' hv' w0 σ0 (fun _=>False) a' w'∧Seg σ own w σ' own' w'∧SameBut wr a0 a'∧
  match e with
  |.normal=>x=.next ρ'∧out=some S'
  |.exit id=>x=.exit id ρ'∧id≠cZ∧(id,S')∈ex
  |.ret=>x=.exit cZ ρ'∧(cZ,S')∈ex
  |_=>False
theorem abR {N:Nat}{c:Code}(hc:vR C Φ fn s n ids R N c){S:Snap}{r:Res2}(hr:comp C fn s n ids R true c S=some r)(mP:C.yl=none)(hC:CtxOK C σ0){wr:Nat→Prop}{ρ:Env}{x:Out}{hv:Nat→Value}(h:Inv C (S.st ids) ρ σ own hv w0 σ0 (fun _=>False) a w)
 (iT:∀t,t∈cG c→wr t) (hn:a.tmps.size=n) (he:r.pc.ev Φ N ρ=some x) (L:Nat):c.wpIn (FR (some L)) 0 C.P (acZ C w0 σ0 ids wr a σ own w r.out r.ex x) a w:=by
 obtain⟨t,fx,cx,dm,ht⟩:=h.frame;have h1:=h.toRnd (X:=fun _=>False) ht;refine wpIn_mono (hc true S r hr (some L) w0 (σ0.rnd σ own w t fun _=>False) wr ρ x a w (fun e=>by cases e) (hC.mono h.le) (fun J ys e=>by rw[mP] at e;cases e) iT hn ⟨_,_,_,h1⟩ he) fun e a' w' ho=>?_
 have main:∀{S':Snap} {ρ':Env},SameBut wr a a'→Good C w0 (σ0.rnd σ own w t fun _=>False) (S'.st ids) ρ' (fun _=>False) a' w'→∃σ' own' hv',Inv C (S'.st ids) ρ' σ' own' hv' w0 σ0 (fun _=>False) a' w'∧Seg σ own w σ' own' w'∧SameBut wr a a':=by
  intro S' ρ' hs hg;obtain⟨σ',own',hv',h2⟩:=hg;exact⟨σ',own',hv',h.ofRnd dm (fun _ _=>id) h2,⟨h2.le,h.rndBelow h2,fun k hk ho=>Inv.rndSame h.ok h2 hk ho id,fun k j e=>Inv.rndOwn h2 e id,fun k e=>Inv.rndC h2 e id⟩,hs⟩
 cases e with
 |normal=>
  obtain⟨ρ',S',e1,e2,e3,e4⟩:=ho;obtain⟨σ',own',hv',g1,g2,g3⟩:=main e3 e4;exact⟨ρ',S',σ',own',hv',g1,g2,g3,e1,e2⟩
 |exit id=>
  obtain⟨ρ',S',e1,e0,e2,e3,e4⟩:=ho;obtain⟨σ',own',hv',g1,g2,g3⟩:=main e3 e4;exact⟨ρ',S',σ',own',hv',g1,g2,g3,e1,e0,e2⟩
 |ret=>
  obtain⟨ρ',S',e1,e2,e3,e4⟩:=ho;obtain⟨σ',own',hv',g1,g2,g3⟩:=main e3 e4;exact⟨ρ',S',σ',own',hv',g1,g2,g3,e1,e2⟩
 |_=>exact ho.elim
theorem Inv.putL {L:Nat}{hv:Nat→Value}{S:St}{ρ:Env}(h:Inv C S ρ σ own hv w0 σ0 A a w)(hL:w0.heap.size≤L)(hf:Free L σ own)(hx:∀t fx cx,FrOK σ own w0.heap.size σ0 w t fx cx→¬fx L)(o:Obj):Inv C S ρ σ own hv w0 σ0 A a (w.putObj L o):=
 h.keep (X:=fun k=>k≠L) ⟨rfl,rfl,rfl,by simp,fun k hk=>by omega⟩ (fun k hk=>World.putObj_heap_other hk) (fun k hk=>by omega) (fun k j e1 e2=>by subst e2;rw[hf.own] at e1;cases e1) (fun k o v e1 e2=>by subst e2;rw[hf.c] at e1;cases e1)
  (fun k v e1 e2=>by subst e2;rw[hf.m] at e1;cases e1) (fun t fx cx dm k hk e=>by subst e;exact hx t fx cx dm hk)
theorem arM {o:Oper}{L:Nat}{x:Operand}{aa:Array Operand}{ts:Array TypeId}{r:Loop}(bY:o.op=.call {callee:=.value x,args:=aa,argTypes:=ts})(hx:a.eval x=.func (.yield L) #[] #[])(hL:w.heap[L]?=some (.loop r))(hs:aa.size=r.params.size):
 (execOp a.eval o).run C.P w=.ok (.round L r.fn ((r.params.zip (aa.map a.eval)).foldl (fun tmps (t,v)=>tmps.setIfInBounds t v) r.tmps) r.assign r.body) w:=by
 have hy:=run_yield (P:=C.P) (args:=aa.map a.eval) hL (by simpa using hs);simp[execOp,bY,resolve,hx,Deferred.ofValue,invoke,hy]
theorem an6 {g:Operand}{f:Nat}{vs:List Value}{L:Nat}(hf:∃fn,C.P.funcs[f]?=some fn∧fn.body.isSome=true∧(fn.name== "runtime.NumGoroutine")=false)(hg:a.eval g=.func (.func f) #[] vs.toArray):
 (resolve a.eval (rangeCall g L) 0).run C.P w=.ok {target:=.fn (.func f) vs.toArray,args:=#[.func (.yield L) #[] #[]]} w∧
 (invoke (.fn (.func f) vs.toArray) #[.func (.yield L) #[] #[]]).run C.P w=.ok (.enter f (#[.func (.yield L) #[] #[]]++vs.toArray)) w:=by
 obtain⟨fn,h1,h2,h3⟩:=hf;obtain⟨bd,ny⟩:=Ui.1 h2;have h4:¬fn.name= "runtime.NumGoroutine" :=by simpa using h3
 constructor
 ·simp only[resolve,hg];simp[go_sem]
 ·simp[invoke,callFunc,h1,ny,h4]
theorem FrOK.enter {hv:Nat→Value}{S:St}{ρ:Env}(h:Inv C S ρ σ own hv w0 σ0 A a w){t:D}{fx cx:Nat→Prop}(hf:FrOK σ own w0.heap.size σ0 w t fx cx)(r:Loop):FrOK (σ.mark w.heap.size) own w0.heap.size σ0 ((w.alloc (.deferred (some []))).alloc (.loop r)) t fx cx:=by
 have hb:=Vt w (.deferred (some [])) (.loop r);have ae:=σ0.lt _ _ _ _ hf.F;have bG:=σ0.sub _ _ _ _ hf.F;have C3:∀k x,(σ.mark w.heap.size).m k=some x→σ.m k=some x∨k=w.heap.size:=by
  intro k x e;simp only[Im.mark] at e;split at e
  ·rename_i e2;exact .inr e2
  ·exact .inl e
 refine⟨σ0.keep _ _ _ _ _ hf.F (hb.mono (oc _)) fun k hk=>hb.block k (ae k hk),hf.own,hf.c,fun k x e hc=>?_,fun k e hB hk=>?_⟩
 ·rcases C3 k x e with e|e
  ·exact hf.m k x e hc
  ·have:=ae k (bG k hc);omega
 ·rcases C3 k _ e with e|e
  ·exact hf.d k e hB hk
  ·have:=ae k hk;omega
structure RSt (C:Ctx) (w0:World) (σR:Base) (ids:List Nat) (ρ1:Env) (lo:List Nat) (aM:Act) (L:Nat) (W1:World) (σ1:Im) (rec:LoopState→Option Code→Loop) (xs:List D) (P:Nat→List D→Snap→LoopState→Option Code→Prop) (t:D) (fx cx:Nat→Prop) (w:World):Prop where
 lt:∀k,fx k→k<w.heap.size
 sub:∀k,cx k→fx k
 old:∀k,k<W1.heap.size→fx k
 ex:∃(i:Nat) (vo:List D) (Sx:Snap) (st:LoopState) (pe:Option Code) (σ:Im) (own:Nat→Option Nat) (hv:Nat→Value),t=.list (xs.take i)∧P i vo Sx st pe∧Inv C (Sx.st ids) (ρ1.put [] [] lo vo) σ own hv w0 σR (fun _=>False) aM w∧
  σ1.le σ∧Free L σ own∧w.heap[L]?=some (.loop (rec st pe))∧(∀k j,own k=some j→fx k)∧(∀k o x,σ.c k o=some x→fx k)∧(∀k x,σ.m k=some x→fx k)∧∀k,cx k↔((∃j,own k=some j)∨k=L)
theorem RSt.keep {σR:Base}{ρ1:Env}{lo:List Nat}{aM:Act}{L:Nat}{W1:World}{σ1:Im}{rec:LoopState→Option Code→Loop}{xs:List D}{P:Nat→List D→Snap→LoopState→Option Code→Prop}{t:D}{fx cx:Nat→Prop}{w w':World}
 (h0:w0.heap.size≤W1.heap.size) (hL:L<W1.heap.size) (hR:∀t f c w,σR.F t f c w→∀k,f k→k<W1.heap.size) (h:RSt C w0 σR ids ρ1 lo aM L W1 σ1 rec xs P t fx cx w) (hb:Below 0 w w') (hs:∀k,fx k→w'.heap[k]?=w.heap[k]?):
 RSt C w0 σR ids ρ1 lo aM L W1 σ1 rec xs P t fx cx w':=by
 obtain⟨i,vo,Sx,st,pe,σ,own,hv,e1,e2,e3,e4,e5,e6,e7,e8,e9,e10⟩:=h.ex;refine⟨fun k hk=>vP (h.lt k hk) hb.size,h.sub,h.old,i,vo,Sx,st,pe,σ,own,hv,e1,e2,?_,e4,e5,(hs L (h.old L hL)).trans e6,e7,e8,e9,e10⟩;exact e3.keep (X:=fx) hb hs (fun k hk=>h.old k (by omega)) e7 e8 e9 (fun t f c hf k hk=>h.old k (hR _ _ _ _ hf.F k hk))
theorem Im.noM_m {σ:Im}{k:Nat}{v:List (Value×Value)}(h:σ.noM.m k=some v):σ.m k=some v∧v≠da:=by
 simp only[Im.noM] at h;split at h
 ·cases h
 ·rename_i ay;exact⟨h,fun e=>ay (by rw[h,e])⟩
structure SegL (L:Nat) (σ:Im) (own:Nat→Option Nat) (w:World) (σ':Im) (own':Nat→Option Nat) (w':World):Prop where
 le:σ.le σ'
 below:Below 0 w w'
 same:∀k,k<w.heap.size→own k=none→k≠L→w'.heap[k]?=w.heap[k]?
 ow:∀k j,own' k=some j→(∃i,own k=some i)∨w.heap.size≤k
 imm:∀k,((∃o x,σ'.c k o=some x)∨∃x,σ'.m k=some x)→(∃o x,σ.c k o=some x)∨(∃x,σ.m k=some x)∨(∃i,own k=some i)∨w.heap.size≤k
theorem aaz (w:World)(L:Nat)(o:Obj):Below 0 w (w.putObj L o):=⟨rfl,rfl,rfl,by simp,fun k hk=>by omega⟩
theorem Seg.round {L:Nat}{σ' σ'':Im}{own' aao:Nat→Option Nat}{w' kO:World}{o o':Obj}(h:Seg σ own w σ' own' w')(k:Seg σ' own' (w'.putObj L o) σ'' aao kO):SegL L σ own w σ'' aao (kO.putObj L o'):=by
 have aC:=h.below.size;have Of:=k.below.size;simp only[World.putObj_size] at Of;refine⟨h.le.trans k.le,h.below.trans ((aaz _ _ _).trans (k.below.trans (aaz _ _ _))),fun q hq ho hL=>?_,fun q j e=>?_,fun q e=>?_⟩
 ·have h1:own' q=none:=by
   cases e:own' q with
   |none=>rfl
   |some j=>
    rcases h.ow q j e with⟨i,e⟩|e
    ·rw[ho] at e;cases e
    ·omega
  rw[World.putObj_heap_other hL,k.same q (by simp;omega) h1,World.putObj_heap_other hL,h.same q hq ho]
 ·rcases k.ow q j e with⟨i,e⟩|e
  ·exact h.ow q i e
  ·simp only[World.putObj_size] at e;exact .inr (by omega)
 ·rcases k.imm q e with e|e|⟨i,e⟩|e
  ·exact h.imm q (.inl e)
  ·exact h.imm q (.inr e)
  ·rcases h.ow q i e with e|e
   ·exact .inr (.inr (.inl e))
   ·exact .inr (.inr (.inr e))
  ·simp only[World.putObj_size] at e;exact .inr (.inr (.inr (by omega)))
theorem Env.put_self (ρ:Env)(lo:List Nat):ρ.put [] [] lo (lo.map ρ.o)=ρ:=by
 have h2:∀u,putL ρ.o lo (lo.map ρ.o) u=ρ.o u:=fun u=>by rw[tq];split<;>rfl
 show Env.mk ρ.r (putL ρ.o lo (lo.map ρ.o))=ρ;rw[funext h2]
theorem an7 {N:Nat}(je:ki C Φ){g:Operand}{ps:Array Tmp}{ca cb:Code}(bD:vR C Φ fn s n ids R N ca)(eM:vR C Φ fn s n ids R N cb):vR C Φ fn s n ids R N (.rangeFunc g ps ca cb):=by
 intro rm S r hr rd w0 σ0 wr ρ x a w gQ hC hY iT hn hg he;simp only[comp] at hr;split at hr
 case h_2=>cases hr;exact absurd he (na _ _ _ _)
 rename_i aa rr e mP hu;split at hr
 case h_2=>cases hr;exact absurd he (na _ _ _ _)
 rename_i ys sV;split at hr
 case h_2=>cases hr;exact absurd he (na _ _ _ _)
 rename_i q hq;rw[po] at hr;split at hr
 case isFalse=>cases hr;exact absurd he (na _ _ _ _)
 rename_i wC;cases hr;simp only[aj] at wC;obtain⟨⟨⟨hl,bj⟩,ae⟩,wR⟩:=wC;have hl:=aw hl;have wR:=km wR;obtain⟨hrd,iN⟩:=gQ rfl;subst hrd;obtain⟨hs,zE,_⟩:=DI (C:=C) (w0:=w0) (σ0:=σ0) (ids:=ids) 8 hq;simp only[ao] at hs;obtain⟨ra,N4,hs⟩:=hs;split at hs
 case h_2=>cases hs
 rename_i S1 hao Wu;simp only[ax] at hs;obtain⟨rb,Xq,jK⟩:=hs;have Ih:=tZ ca N4;have W8:=tZ cb Xq;obtain⟨q1,q2⟩:=q;simp only at N4 jK wR zE he ⊢;generalize wL:Yv ids (q1::q2.ex.map (·.2)) q2.mo=lo at he;generalize uG:((oN cZ q2.ex none).bind fun M=>xH C fn s (M.st ids))=rt at he;have Di:∃f caps d,e.ev ρ=.clo f caps∧Φ f caps=some d∧kY (q2.pc.ev Φ N) (ρ.setR n d) ps.toList lo rt d.l (lo.map ρ.o)=some x:=by
  simp only[PC.ev,PI.runs,PI.run,holds,List.all_nil,cond_true] at he;cases bI:e.ev ρ with
  |clo f caps=>
   rw[bI] at he;simp only[PE.evs,sd] at he;cases hΦ:Φ f caps with
   |none=>rw[hΦ] at he;simp at he
   |some d=>
    rw[hΦ] at he;simp only[kU,ko,PE.ev,Env.setR,aK] at he;exact⟨f,caps,d,rfl,hΦ,he⟩
  |_=>rw[bI] at he;simp at he
 obtain⟨f,caps,d,bI,hΦ,he⟩:=Di;obtain⟨σ,own,hv,i⟩:=hg;have hx:=cB (gs:=[]) i hC rfl hu;rw[bI] at hx;generalize No:a.eval g=gv at hx;generalize ba:Ty.fn aa rr=ty at hx;cases hx with
 |fn f cs vs ds fg h1 h2 aF=>
 cases ba;obtain⟨hfn,ai3⟩:=je f cs ys fg sV;obtain⟨xs,rfl,awo,Nq⟩:=ai3 caps d hΦ;simp only[D.l_list] at he;obtain⟨m,nk,hm,qf,Ip,ls⟩:=Vr he;have iq0:=X1 8 hq i
 have iq:Inv C (q1.st ids) (ρ.setR n (.list xs)) σ own hv w0 σ0 (fun _=>False) a w:=by
  refine iq0.env (Snap.noOpt _ _) (fun t ht=>?_) (fun _ _=>rfl);have ae:t<q1.rs.length:=by
   refine Uf fun hle=>?_;simp only[Snap.st,aH,rX hle,Option.getD_none,cQ,isNone] at ht;cases ht
  simp[Env.setR,bk _ _ (show t≠n by omega)]
 obtain⟨ρ1,hρ1⟩:∃ρ1,ρ.setR n (.list xs)=ρ1:=⟨_,rfl⟩
 rw[hρ1] at he iq Ip ls;have ka:ρ.o=ρ1.o:=by rw[←hρ1];rfl
 rw[ka] at qf;refine wpIn_rangeFunc ?_;intro MJ av1;obtain⟨L,Wh⟩:∃L,w.heap.size+1=L:=⟨_,rfl⟩
 obtain⟨rec,jn⟩:∃rec:LoopState→Option Code→Loop,rec=fun st pe=>{state:=st,pending:=pe,fn:=MJ,tmps:=a.tmps,params:=ps,assign:=ca,body:=cb,defers:=w.heap.size}:=⟨_,rfl⟩
 have i1:=iq.enter (rec .ready none);obtain⟨t,fx0,cx0,WL,Oh⟩:=iq.frame;have aiK:=σ0.lt _ _ _ _ WL.F;have Nl:=FrOK.enter iq WL (rec .ready none);have awm:=iq.below.size;have HE:Free L (σ.mark w.heap.size) own:=by
  refine⟨?_,fun o=>?_,?_⟩
  ·cases e:own L with
   |none=>rfl
   |some j=>have:=(iq.owns L j e).2.1;omega
  ·cases e:σ.c L o with
   |none=>exact e
   |some x=>have:=iq.lt e;omega
  ·simp only[Im.mark,show L≠w.heap.size by omega,if_false];cases e:σ.m L with
   |none=>rfl
   |some x=>have:=iq.ltm e;omega
 have l0:σ.le (σ.mark w.heap.size):=by
  refine⟨fun _ _ _ e=>e,fun k x e=>?_⟩;have:k≠w.heap.size:=by have:=iq.ltm e;omega
  simp[Im.mark,this,e]
 have We:((w.alloc (.deferred (some []))).alloc (.loop (rec .ready none))).heap[L]?=some (.loop (rec .ready none)):=by
  have:=World.alloc_heap_new (w.alloc (.deferred (some []))) (.loop (rec .ready none));rw[World.size_alloc,Wh] at this;exact this
 obtain⟨W1,lV⟩:∃W1,(w.alloc (.deferred (some []))).alloc (.loop (rec .ready none))=W1:=⟨_,rfl⟩
 have avS:W1.heap.size=w.heap.size+2:=by rw[←lV];simp
 rw[lV] at i1 Nl We;have Nj:(Instr.enterLoop MJ a.tmps ps ca cb none).run C.P w=.ok (L,[{target:=.collected w.heap.size,args:=#[]}]) W1:=by
  rw[←lV,jn,←Wh];exact run_enterLoop_outer _ _ _ _ _
 obtain⟨σ1,hσ1⟩:∃σ1,σ.mark w.heap.size=σ1:=⟨_,rfl⟩
 rw[hσ1] at i1 Nl HE l0;obtain⟨aM,M2⟩:∃aM:Act,{a with defers:={target:=.collected w.heap.size,args:=#[]}::a.defers}=aM:=⟨_,rfl⟩
 have Cy:aM.tmps=a.tmps:=by rw[←M2]
 rw[M2] at i1;have iR:=i1.toRnd (t:=t) (X:=fun k=>k=L) Oh;obtain⟨σR,hσR⟩:∃σR,σ0.rnd σ1 own W1 t (fun k=>k=L)=σR:=⟨_,rfl⟩
 have um:∀t' f c w',σR.F t' f c w'→(∀k,f k→k<W1.heap.size∧k≠L)∧∀k,c k→f k∧(∀o,σ1.c k o=none)∧σ1.m k=none:=by
  rw[←hσR];rintro t' f c w' ⟨_,h2,h3,_⟩;exact⟨fun k hk=>⟨((h2 k).1 hk).1,((h2 k).1 hk).2.2.2⟩,fun k hk=>(h3 k).1 hk⟩
 have Wl:CtxOK C σR:=by rw[←hσR];exact hC.mono i1.le
 rw[hσR] at iR
 obtain⟨P,hP⟩:∃P:Nat→List D→Snap→LoopState→Option Code→Prop,P=fun i vo Sx st pe=>(i≤m∧vo=nk i∧Sx=q1∧st=.ready∧pe=none)∨
  (i=m+1∧m<xs.length∧st=.done∧∃y id ρ',xs[m]?=some y∧q2.pc.ev Φ N (ρ1.put ps.toList (partsOf ps.toList y) lo (nk m))=some (.exit id ρ')∧vo=lo.map ρ'.o∧(id,Sx)∈q2.ex∧((id≠cZ∧pe=some (.exit id))∨(id=cZ∧pe=some .ret))):=⟨_,rfl⟩
 obtain⟨c1,c2⟩:=an6 (C:=C) (w:=W1) (L:=L) hfn No;refine⟨L,[{target:=.collected w.heap.size,args:=#[]}],W1,_,W1,f,_,W1,Nj,c1,fun _ _=>trivial,c2,(fun e=>by cases e),?_⟩
 refine UW ((Nq σ1 W1 (.func (.yield L) #[] #[]) vs (RSt C w0 σR ids ρ1 lo aM L W1 σ1 rec xs P) (fun k=>k<W1.heap.size) (fun k=>(∃j,own k=some j)∨k=L) m i1.ok (hC.mono i1.le) ⟨h1,h2,fun j t e=>(aF j t e).mono l0⟩ hm
  (fun t f c w h=>h.lt) (fun t f c w h=>h.sub) (fun t f c w w' h hb hs=>h.keep (by omega) (by omega) (fun t f c w hF k hk=>((um t f c w hF).1 k hk).1) hb hs) ?_ ?_ ?_ ?_).mono ?_)
 ·refine⟨fun k hk=>hk,fun k hk=>?_,fun k hk=>hk,0,nk 0,q1,.ready,none,σ1,own,hv,by simp,by rw[hP];exact .inl ⟨oc _,rfl,rfl,rfl,rfl⟩,?_,.refl σ1,HE,We,fun k j e=>(iR.owns k j e).2.1,fun k o x e=>iR.lt e,fun k x e=>iR.ltm e,fun k=>.rfl⟩
  ·rcases hk with⟨j,e⟩|e
   ·exact(iR.owns k j e).2.1
   ·show k<W1.heap.size;omega
  ·rw[qf,Env.put_self];exact iR
 ·rintro k o x e (⟨j,hj⟩|rfl)
  ·have:=(iR.owns k j hj).2.2.1 o;rw[e] at this;cases this
  ·rw[HE.c] at e;cases e
 ·rintro k x e (⟨j,hj⟩|rfl)
  ·have:=(iR.owns k j hj).2.2.2;rw[e] at this;cases this
  ·rw[HE.m] at e;cases e
 ·intro i fx cx w1 σx args ds' hi dX hF hσx jh lh zA dp dq rd' o a' x' aa ts K Q bY cl Ws hK;have av3:i<xs.length:=(eE.1 dX).1;obtain⟨i',vo,Sx,st,pe,σa,xt,hva,e1,e2,iA,If,Cu,HG,NM,Wy,C2,zB⟩:=hF.ex;have hii:i'=i:=by
   have h9:=congrArg List.length (congrArg D.l e1);simp only[D.l_list,du] at h9;omega
  subst hii;rw[hP] at e2;rcases e2 with⟨_,rfl,Cv,rfl,rfl⟩|⟨e2,_⟩
  case inr=>omega
  rw[Cv] at iA;have Wi:L<w1.heap.size:=hF.lt L (hF.old L (by omega));have HT:cx L:=(zB L).2 (.inr rfl)
  have ajs:∀k o v,σx.c k o=some v→xt k=none:=fun k o v e=>by
   cases e2:xt k with
   |none=>rfl
   |some j=>exact absurd ((zB k).2 (.inl ⟨j,e2⟩)) (lh k o v e)
  have C7:∀k v,σx.m k=some v→xt k=none:=fun k v e=>by
   cases e2:xt k with
   |none=>rfl
   |some j=>exact absurd ((zB k).2 (.inl ⟨j,e2⟩)) (zA k v e)
  have hτok:σx.noM.ok w1:=⟨hσx.c,fun k v e=>hσx.m k v (Im.noM_m e).1⟩
  have iB:=iA.joinIm (τ:=σx.noM) hτok (fun k e=>(Im.noM_m e).2 rfl) ajs (fun k v e=>C7 k v (Im.noM_m e).1)
   (fun k o v e=>(dp k o v e).imp (fun e=>If.c k o v e) fun e=>by omega) (fun k v e=>(dq k v (Im.noM_m e).1).imp (fun e=>If.m k v e) fun e=>by omega)
   (fun t' f c hf=>⟨fun k o v e hc=>by
        obtain⟨g1,g2,g3⟩:=(um _ _ _ _ hf.F).2 k hc;rcases dp k o v e with e|e
        ·rw[g2 o] at e;cases e
        ·have:=((um _ _ _ _ hf.F).1 k g1).1;omega,fun k v e hc=>by
        obtain⟨g1,g2,g3⟩:=(um _ _ _ _ hf.F).2 k hc;rcases dq k v (Im.noM_m e).1 with e|e
        ·rw[g3] at e;cases e
        ·have:=((um _ _ _ _ hf.F).1 k g1).1;omega⟩)
  have Wa:Free L (σa.plus σx.noM) xt:=by
   refine⟨Cu.own,fun o=>?_,?_⟩
   ·cases e:(σa.plus σx.noM).c L o with
    |none=>rfl
    |some v=>
     rcases Im.plus_c e with e|e
     ·rw[Cu.c] at e;cases e
     ·exact absurd HT (lh L o v e)
   ·cases e:(σa.plus σx.noM).m L with
    |none=>rfl
    |some v=>
     rcases Im.plus_m e with e|e
     ·rw[Cu.m] at e;cases e
     ·exact absurd HT (zA L v (Im.noM_m e).1)
  have sR:ps.toList.length=ys.length:=by rw[rT];exact hl.symm
  have ah9:qF C (σa.plus σx.noM) ys args ds':=⟨jh.1,jh.2.1,fun j t e=>((jh.2.2 j t e).noM).mono (Im.plus_le2 iA.ok hτok)⟩
  have iC:=iB.startR (ρ':=ρ1) sR bj (fun p hp=>by
   have:=bz.1 ae p hp;rw[Cy,hn];simpa [jc] using this) ah9 rfl
  have NZ:∃xi,q2.pc.ev Φ N (ρ1.put ps.toList (partsOf ps.toList (.tup ds')) lo (nk i'))=some xi∧((i'<m∧∃ρ',xi=.next ρ'∧lo.map ρ'.o=nk (i'+1))∨(i'=m∧m<xs.length∧∃id ρ',xi=.exit id ρ')):=by
   by_cases lq:i'<m
   ·obtain⟨y,ρ',g1,g2,g3⟩:=Ip i' lq;rw[dX] at g1;cases g1;exact⟨_,g2,.inl ⟨lq,ρ',rfl,g3⟩⟩
   ·obtain rfl:i'=m:=by omega
    rcases ls with⟨g1,_⟩|⟨g1,y,id,ρ',g2,g3,_⟩
    ·omega
    ·rw[dX] at g2;cases g2;exact⟨_,g3,.inr ⟨rfl,g1,id,ρ',rfl⟩⟩
  obtain⟨xi,sU,Ox⟩:=NZ;have ah:q2.pc=.seq ra.pc rb.pc:=by rw[←jK];rfl
  rw[ah] at sU;have aC:(m7 ps.toList args aM.tmps).size=n:=by rw[abZ,Cy,hn]
  refine⟨fun _ _=>trivial,?_⟩;rw[Oper.semAt_eq _ _ _ (fun c e=>by rw[bY] at e;cases e)];have aib:aa.size=ps.size:=by
   have:=jh.1;rw[←Ws,fL,rT] at this;omega
  have af:=arM (C:=C) bY cl HG (by rw[jn];exact aib);have ajT:(rec .ready none).fn=MJ∧(rec .ready none).tmps=a.tmps∧(rec .ready none).params=ps∧(rec .ready none).assign=ca∧(rec .ready none).body=cb:=by rw[jn];exact⟨rfl,rfl,rfl,rfl,rfl⟩
  obtain⟨r1,r2,r3,r4,r5⟩:=ajT;rw[r1,r2,r3,r4,r5] at af
  have kB:(ps.zip (aa.map a'.eval)).foldl (fun tmps (t,v)=>tmps.setIfInBounds t v) a.tmps=m7 ps.toList args aM.tmps:=by
   rw[Cy,←Ws,←vI];exact aoV ps (aa.map a'.eval) a.tmps
  rw[kB] at af;rw[af];refine⟨(fun e=>by cases e),?_⟩;refine roundIn_of_wpIn (F:=FR rd') trivial ?_;show ca.wpIn (FR (some L)) 0 C.P _ _ _;cases mO:ra.pc.ev Φ N (ρ1.put ps.toList (partsOf ps.toList (.tup ds')) lo (nk i')) with
  |none=>simp only[PC.ev,mO] at sU;cases sU
  |some xa=>
  refine wpIn_mono (abR bD N4 mP Wl iC (wr:=fun t=>t∈cG ca) (fun _ h=>h) aC mO L) fun e2 a1 TF aj2=>?_;obtain⟨ρ2,S2,σ2,jo,iS,iD,oJ,fh,kz⟩:=aj2;cases e2 with
  |normal=>
   obtain⟨rfl,zt⟩:=kz;rw[hao] at zt;cases zt;simp only[PC.ev,mO] at sU;have Wf:TF.heap[L]?=some (.loop (rec .ready none)):=(oJ.same L Wi Wa.own).trans HG;have MW:=Wa.seg Wi oJ;have MX:L<TF.heap.size:=(dI.1 Wf).1;have Wd:w0.heap.size≤L:=by omega
   refine⟨_,run_beginRound Wf (by rw[jn]),?_⟩;have iE:=iD.putL Wd MW (fun t' f c hf CP=>((um _ _ _ _ hf.F).1 L CP).2 rfl) (.loop {rec .ready none with state:=.busy});have hL3:(TF.putObj L (.loop {rec .ready none with state:=.busy})).heap[L]?=some (.loop {rec .ready none with state:=.busy}):=World.putObj_heap_same MX;show cb.wpIn (FR (some L)) 0 C.P _ _ _;refine wpIn_mono (abR eM Xq mP Wl iE (wr:=fun t=>t∈cG cb) (fun _ h=>h) (fh.size.trans aC) sU L) fun e3 a3 w3 aj3=>?_;obtain⟨ρ3,S3,σ3,xr,Dz,iF,Iz,aj1,oF⟩:=aj3;have Wg:w3.heap[L]?=some (.loop {rec .ready none with state:=.busy}):=(Iz.same L (by simpa using MX) MW.own).trans hL3;have V9:=MW.seg (by simpa using MX) Iz;have ahM:L<w3.heap.size:=(dI.1 Wg).1;obtain⟨mk,Ik⟩:∃mk,Nat.lor (xg (ps.toList++cG ca++cG cb)) (Nat.lor ra.mr rb.mr)=mk:=⟨_,rfl⟩
   have ajl:∀t,au mk t=false→t∉ps.toList∧t∉cG ca∧t∉cG cb∧au ra.mr t=false∧au rb.mr t=false:=by
        intro t ht;rw[←Ik,fN,fN,TS,TS] at ht;obtain⟨t1,t2,t3⟩:=ht;have:t∉ps.toList++cG ca++cG cb:=fun hm=>by rw[UK hm] at t1;cases t1
        simp only[cR,not_or] at this;exact⟨this.1.1,this.1.2,this.2,t2,t3⟩
   have N5:∀t,au mk t=false→aM.tmps.getD t undef=a3.tmps.getD t undef∧(ρ1.put [] [] lo (lo.map ρ3.o)).r t=ρ3.r t:=by
        intro t ht;obtain⟨t1,t2,t3,t4,t5⟩:=ajl t ht;refine⟨?_,?_⟩
        ·rw[aj1.get t t3,fh.get t t2];exact(Kk _ _ _ _ t1).symm
        ·have fB:∀ρ',xi=.next ρ'∨(∃id,xi=.exit id ρ')→ρ'.r t=ρ2.r t:=fun ρ' h=>by
          have wD:xi.env?=some ρ':=by rcases h with h|⟨id,h⟩<;>rw[h]<;>rfl
          exact(PC.ev_but rb.pc _ _ ρ' sU wD).r t fun hm=>by rw[W8.1 t hm] at t5;cases t5
         have bn:ρ2.r t=putL ρ1.r ps.toList (partsOf ps.toList (.tup ds')) t:=(PC.ev_but ra.pc _ _ ρ2 mO rfl).r t fun hm=>by rw[Ih.1 t hm] at t4;cases t4
         rw[Az _ _ _ _ t1] at bn;show ρ1.r t=ρ3.r t;rw[fB ρ3 (by
          cases e3 with
          |normal=>exact .inl oF.1
          |exit id=>exact .inr ⟨id,oF.1⟩
          |ret=>exact .inr ⟨_,oF.1⟩
          |_=>exact oF.elim),bn]
   have NC:q2.mo=jT ra.mo rb.mo:=by rw[←jK];rfl
   have NP:∀j,j∉q2.mo→ρ3.o j=ρ1.o j:=by
        intro j hj;rw[NC,ql,not_or] at hj;have wD:xi.env?=some ρ3:=by
         cases e3 with
         |normal=>rw[oF.1];rfl
         |exit id=>rw[oF.1];rfl
         |ret=>rw[oF.1];rfl
         |_=>exact oF.elim
        rw[(PC.ev_but rb.pc _ _ ρ3 sU wD).o j fun hm=>hj.2 (W8.2 j hm),(PC.ev_but ra.pc _ _ ρ2 mO rfl).o j fun hm=>hj.1 (Ih.2 j hm)]
        exact Az _ _ _ _ fun hm=>by
         rw[←wL] at hm;have:=(cS.1 hm).1;rw[NC,ql] at this;exact this.elim hj.1 hj.2
   have NO:∀(S:Snap),S∈(q1::q2.ex.map (·.2))→∀j,oL ((S.st ids).o j)=false→(ρ1.put [] [] lo (lo.map ρ3.o)).o j=ρ3.o j:=by
        intro S hS j hj;show putL ρ1.o lo (lo.map ρ3.o) j=ρ3.o j;rw[tq];split
        ·rfl
        ·rename_i fD;refine(NP j fun uA=>fD ?_).symm;rw[←wL];exact cS.2 ⟨uA,vM.2 ⟨S,hS,by simpa [Snap.st] using hj⟩⟩
   have fin:∀(jump:Option Code) (Sx:Snap),Inv C (Sx.st ids) (ρ1.put [] [] lo (lo.map ρ3.o)) σ3 xr Dz w0 σR (fun _=>False) aM w3→P (i'+1) (lo.map ρ3.o) Sx (if jump.isNone then .ready else .done) jump→jump.isNone=decide (i'<m)→
        ∃v w',(Instr.endRound L jump).run C.P w3=.ok v w'∧K (a'.put o.dst v) w':=by
        intro jump Sx iG hPn uA;refine⟨_,_,run_endRound jump Wg,?_⟩;have ajS:({{rec .ready none with state:=.busy} with state:=if jump.isNone then .ready else .done,pending:=jump}:Loop)=rec (if jump.isNone then .ready else .done) jump:=by rw[jn]
        rw[ajS];have aF:=oJ.round (L:=L) (o':=.loop (rec (if jump.isNone then .ready else .done) jump)) Iz;have iH:=iG.putL Wd V9 (fun t' f c hf CP=>((um _ _ _ _ hf.F).1 L CP).2 rfl) (.loop (rec (if jump.isNone then .ready else .done) jump));obtain⟨w4,Ou⟩:∃w4,w3.putObj L (.loop (rec (if jump.isNone then .ready else .done) jump))=w4:=⟨_,rfl⟩
        have hL5:w4.heap[L]?=some (.loop (rec (if jump.isNone then .ready else .done) jump)):=by rw[←Ou];exact World.putObj_heap_same ahM
        have awr:w4.heap.size=w3.heap.size:=by rw[←Ou];simp
        rw[Ou] at aF iH ⊢;have avR:W1.heap.size≤w1.heap.size:=by
         have:=hF.lt (W1.heap.size-1) (hF.old _ (by omega));omega
        have awn:=aF.below.size
        refine hK _ _ ⟨by rw[uA],aF.below,fun k hk hc=>aF.same k hk (by
         cases e:xt k with
         |none=>rfl
         |some j=>exact absurd ((zB k).2 (.inl ⟨j,e⟩)) hc) (fun e=>hc (by rw[e];exact HT)),(fun k=>k<w4.heap.size∧(k<W1.heap.size∨(∃j,xr k=some j)∨(∃o x,σ3.c k o=some x)∨∃x,σ3.m k=some x)),(fun k=>(∃j,xr k=some j)∨k=L),?_,?_,?_⟩
        ·refine⟨fun k hk=>hk.1,fun k hk=>?_,fun k hk=>⟨by omega,.inl hk⟩,i'+1,lo.map ρ3.o,Sx,_,jump,σ3,xr,Dz,rfl,hPn,iH,If.trans ((Im.plus_le1 _ _).trans aF.le),V9,hL5,fun k j e=>⟨(iH.owns k j e).2.1,.inr (.inl ⟨j,e⟩)⟩,fun k o x e=>⟨iH.lt e,.inr (.inr (.inl ⟨o,x,e⟩))⟩,fun k x e=>⟨iH.ltm e,.inr (.inr (.inr ⟨x,e⟩))⟩,fun k=>.rfl⟩;rcases hk with⟨j,e⟩|e
         ·exact⟨(iH.owns k j e).2.1,.inr (.inl ⟨j,e⟩)⟩
         ·exact⟨by omega,.inl (by omega)⟩
        ·rintro k ⟨_,hk⟩ bQ
         have CV:((∃o x,σ3.c k o=some x)∨∃x,σ3.m k=some x)→fx k∨(∃o x,σx.c k o=some x)∨(∃x,σx.m k=some x∧x≠da):=fun h=>by
          rcases aF.imm k h with⟨o,x,e⟩|⟨x,e⟩|⟨j,e⟩|e
          ·rcases Im.plus_c e with e|e
           ·exact .inl (Wy k o x e)
           ·exact .inr (.inl ⟨o,x,e⟩)
          ·rcases Im.plus_m e with e|e
           ·exact .inl (C2 k x e)
           ·exact .inr (.inr ⟨x,(Im.noM_m e).1,(Im.noM_m e).2⟩)
          ·exact .inl (NM k j e)
          ·omega
         rcases hk with hk|⟨j,e⟩|e|e
         ·exact .inl (hF.old k hk)
         ·rcases aF.ow k j e with⟨j',e⟩|e
          ·exact .inl (NM k j' e)
          ·omega
         ·exact CV (.inl e)
         ·exact CV (.inr e)
        ·rintro k (⟨j,e⟩|e) bQ
         ·rcases aF.ow k j e with⟨j',e⟩|e
          ·exact(zB k).2 (.inl ⟨j',e⟩)
          ·omega
         ·rw[e];exact HT
   have oA:kR σ3 w0.heap.size aM.defers:=iA.defers.mono ((Im.plus_le1 _ _).trans (oJ.le.trans Iz.le));have N0:q2.out=rb.out.map (Snap.mask mk)∧q2.ex=rb.ex.map (fun x=>(x.1,x.2.mask mk)):=by rw[←jK,←Ik];exact⟨rfl,rfl⟩
   cases e3 with
   |normal=>
    obtain⟨e4,e5⟩:=oF;have hT:q2.out=some (S3.mask mk):=by rw[N0.1,e5];rfl
    have WM:=zE _ hT
    have iG:Inv C (q1.st ids) ρ3 σ3 xr Dz w0 σR (fun _=>False) a3 w3:=by
        have:=Snap.meet_ok2 (x:=q1) (iF.maskR mk)
        rwa [WM] at this
    have iH:=iG.restore (ρ':=ρ1.put [] [] lo (lo.map ρ3.o)) (a':=aM) (Snap.noOpt _ _) oA (fun t ht=>N5 t (by
        cases e:au mk t with
        |false=>rfl
        |true=>
         have h9:=al7 (x:=q1) (S:=S3) (ids:=ids) e;rw[WM] at h9;rw[h9] at ht;cases ht)) (fun j hj=>NO q1 (dR ..) j hj)
    rcases Ox with⟨lq,ρ',e6,e7⟩|⟨_,_,id,ρ',e6⟩
    ·rw[e4] at e6;cases e6;exact fin none q1 iH (by rw[hP];exact .inl ⟨by omega,e7,rfl,rfl,rfl⟩) (by simp[lq])
    ·rw[e4] at e6;cases e6
   |exit id=>
    obtain⟨e4,e5,e6⟩:=oF;have cA:(id,S3.mask mk)∈q2.ex:=by rw[N0.2];exact ec.2 ⟨_,e6,rfl⟩
    have iH:=(iF.maskR mk).restore (ρ':=ρ1.put [] [] lo (lo.map ρ3.o)) (a':=aM) (Snap.noOpt _ _) oA (fun t ht=>N5 t (by
        cases e:au mk t with
        |false=>rfl
        |true=>rw[DR,if_pos e] at ht;cases ht)) (fun j hj=>NO (S3.mask mk) (dK _ (ec.2 ⟨_,cA,rfl⟩)) j hj)
    rcases Ox with⟨lq,ρ',e7,_⟩|⟨lq,p7,cd,ρ',e7⟩
    ·rw[e4] at e7;cases e7
    ·subst lq;refine fin (some (.exit id)) (S3.mask mk) iH ?_ (by simp);rw[hP];refine .inr ⟨rfl,p7,rfl,_,id,ρ3,dX,?_,rfl,cA,.inl ⟨e5,rfl⟩⟩;rw[ah];simp only[PC.ev,mO];rw[sU,e4]
   |ret=>
    obtain⟨e4,e6⟩:=oF;have cA:(cZ,S3.mask mk)∈q2.ex:=by rw[N0.2];exact ec.2 ⟨_,e6,rfl⟩
    have iH:=(iF.maskR mk).restore (ρ':=ρ1.put [] [] lo (lo.map ρ3.o)) (a':=aM) (Snap.noOpt _ _) oA (fun t ht=>N5 t (by
        cases e:au mk t with
        |false=>rfl
        |true=>rw[DR,if_pos e] at ht;cases ht)) (fun j hj=>NO (S3.mask mk) (dK _ (ec.2 ⟨_,cA,rfl⟩)) j hj)
    rcases Ox with⟨lq,ρ',e7,_⟩|⟨lq,p7,cd,ρ',e7⟩
    ·rw[e4] at e7;cases e7
    ·subst lq;refine fin (some .ret) (S3.mask mk) iH ?_ (by simp);rw[hP];refine .inr ⟨rfl,p7,rfl,_,cZ,ρ3,dX,?_,rfl,cA,.inr ⟨rfl,rfl⟩⟩;rw[ah];simp only[PC.ev,mO];rw[sU,e4]
   |_=>exact oF.elim
  |exit id=>obtain⟨_,_,e6⟩:=kz;rw[Wu] at e6;cases e6
  |ret=>obtain⟨_,e6⟩:=kz;rw[Wu] at e6;cases e6
  |_=>exact kz.elim
 ·rintro e' w' ⟨⟨v,rfl⟩,fx,cx,hF⟩;rw[show({tmps:=a.tmps,defers:=[{target:=Target.collected w.heap.size,args:=#[]}]++a.defers}:Act)=aM from M2];obtain⟨i',vo,Sx,st,pe,σa,xt,hva,e1,e2,iA,If,Cu,HG,NM,Wy,C2,zB⟩:=hF.ex;have h9:=congrArg List.length (congrArg D.l e1);simp only[D.l_list,du] at h9;have bZ:(rec st pe).state≠.busy:=by
   rw[hP] at e2;rw[jn];rcases e2 with⟨_,_,_,e3,_⟩|⟨_,_,e3,_⟩<;>(rw[e3];intro e;cases e)
  have uD:(rec st pe).pending=pe:=by rw[jn]
  have Nk:(Instr.endLoop L).run C.P w'=.ok pe (w'.putObj L (.loop {rec st pe with state:=.exhausted})):=(run_endLoop (P:=C.P) HG bZ).trans (congrArg (fun z=>Result.ok z _) uD);have iF:=iA.putL (by omega:w0.heap.size≤L) Cu (fun t' f c hf CP=>((um _ _ _ _ hf.F).1 L CP).2 rfl) (.loop {rec st pe with state:=.exhausted});rw[←hσR] at iF;have iG:=i1.ofRnd Nl (fun k hk e=>by have:=aiK k hk;omega) iF;have jM:SameBut wr a aM:=⟨by rw[Cy],fun t _=>by rw[Cy]⟩
  refine⟨pe,_,Nk,?_⟩;rw[hP] at e2;rcases e2 with⟨e3,rfl,Cv,_,rfl⟩|⟨rfl,p7,_,y,id,ρ',g1,g2,rfl,g4,g5⟩
  ·rcases ls with⟨g1,g2⟩|⟨g1,_⟩
   ·obtain rfl:i'=m:=by omega
    rw[Cv] at iG;exact⟨_,q1,g2,rfl,jM,_,_,_,iG⟩
   ·omega
  ·rcases ls with⟨g6,_⟩|⟨_,y',cd,ρ'',k1,k2,k3⟩
   ·omega
   ·rw[g1] at k1;cases k1;rw[g2] at k2;cases k2;rcases k3 with⟨k3,k4⟩|⟨k3,pe',k4,k5⟩
    ·rcases g5 with⟨_,rfl⟩|⟨g5,_⟩
     ·exact wpIn_exit ⟨_,Sx,k4,k3,cS.2 ⟨g4,by simp[fu k3]⟩,jM,_,_,_,iG⟩
     ·exact absurd g5 k3
    ·rcases g5 with⟨g5,_⟩|⟨_,rfl⟩
     ·exact absurd k3 g5
     ·subst k3;rw[←uG,ao] at k4;obtain⟨M,hM,Dl⟩:=k4;obtain⟨M',Wj,sO⟩:=O2 (⟨_,_,_,iG⟩:Good C w0 σ0 (Sx.st ids) _ (fun _=>False) aM _) q2.ex none g4;rw[hM] at Wj;cases Wj;obtain⟨σm,axb,XF,im⟩:=sO;exact wpIn_ret ⟨_,k5,Inv.retD hC (fun _=>rfl) iN Dl _ im rfl,jM⟩
theorem Yz {arr:Array MapEntry}{clock:Nat}(hb:nm arr clock){idx:List Nat}(hi:∀i,i∈idx→i<arr.size){i:Nat}{e:MapEntry}(he:arr[i]?=some e):(gD arr idx).contains e.born=true↔i∈idx:=by
 simp only[gD,List.contains_toArray,List.contains_iff_mem,ec];constructor
 ·rintro⟨j,hj,h⟩;have ae:=hi j hj;rw[eC ae] at h;simp only at h;have:=hb.2 j i arr[j] e (eC ae) he h;rw[←this];exact hj
 ·intro h;exact⟨i,h,by rw[he]⟩
theorem aoR (arr:Array MapEntry)(idx:List Nat){i:Nat}{e:MapEntry}(he:arr[i]?=some e):(gD arr idx).push e.born=gD arr (idx++[i]):=by
 simp[gD,he]
theorem ams {P:Program}{w:World}{k m:Nat}{arr:Array MapEntry}{clock:Nat}{idx:List Nat}(hk:w.heap[k]?=some (.mapIter (some m) clock (gD arr idx) clock))(hm:w.heap[m]?=some (.map arr clock))(hb:nm arr clock)(hi:∀i,i∈idx→i<arr.size)(T:TypeId):
 ∃w1:World,(w1=w∨w1=w.drew)∧(((∀i,i<arr.size→i∈idx)∧(Instr.next (.pointer (some ⟨k,0,none⟩)) false T).run P w=.ok (.tuple #[.bool false]) w1)∨
  ∃i e,arr[i]?=some e∧i∉idx∧(Instr.next (.pointer (some ⟨k,0,none⟩)) false T).run P w=.ok (.tuple #[.bool true,e.key,e.val]) {w1 with heap:=w1.heap.setIfInBounds k (.mapIter (some m) clock (gD arr (idx++[i])) clock)}):=by
 have cA:∀{e:MapEntry},e∈arr→∃i:Nat,arr[i]?=some e:=fun he=>by
  obtain⟨i,hi,rfl⟩:=Array.mem_iff_getElem.1 he;exact⟨i,eC hi⟩
 have hold:∀(l:Array MapEntry),(∀e,e∈l→e.born<clock)→l.filter (fun x=>decide (x.born<clock))=l:=fun l h=>by
  rw[Array.filter_eq_self];intro e he;simpa using h e he
 have l8:∀(l:Array MapEntry),(∀e,e∈l→e.born<clock)→l.filter (fun x=>decide (x.born≥clock))=#[]:=fun l h=>by
  rw[Array.filter_eq_empty_iff];intro e he;have:=h e he;simp;omega
 have Wv:∀e,e∈arr→e.born<clock:=fun e he=>by obtain⟨i,hi⟩:=cA he;exact hb.1 i e hi
 have oz:(!(gD arr idx).isEmpty&& !arr.isEmpty&&arr.all (fun x=>decide (x.born≥clock)))=false:=by
  cases ha:arr.isEmpty
  ·have ay:arr.size≠0:=by simpa using ha
   have:arr.all (fun x=>decide (x.born≥clock))=false:=by
        rw[TR];intro h;rw[Array.all_eq_true] at h;have h0:=h 0 (by omega);have h1:=Wv arr[0] (TO _);simp at h0;omega
   rw[this,Fz]
  ·simp
 let left:=arr.filter fun e=> !(gD arr idx).contains e.born
 have hl:∀e,e∈left→e.born<clock:=fun e he=>Wv e (TP.1 he).1;by_cases hz:left.size=0
 ·refine⟨w,.inl rfl,.inl ⟨fun i ae=>?_,?_⟩⟩
  ·by_cases bo:i∈idx
   ·exact bo
   ·exfalso;have Ii:arr[i]∈left:=TP.2 ⟨TO _,by
     have:=Yz hb hi (eC ae);cases hc:(gD arr idx).contains arr[i].born with
     |false=>rfl
     |true=>exact absurd (this.1 hc) bo⟩
    have:left=#[]:=KO hz;rw[this] at Ii;simp at Ii
  ·have he:left=#[]:=KO hz;have pU:arr.filter (fun e=> !(gD arr idx).contains e.born)=#[]:=he;simp only[Instr.next,getObj,Sem.run_bind,Sem.run,hk,hm,Result.andThen_ok,oz,pU];simp[Question.forced,Sem.run]
 ·have j4:left.filter (fun x=>decide (x.born<clock))=left:=hold left hl;have j5:left.filter (fun x=>decide (x.born≥clock))=#[]:=l8 left hl;have hem:left.isEmpty=false:=by simpa using hz
  have key:∀c,c<left.size→∃i e,arr[i]?=some e∧i∉idx∧left[c]?=some e:=fun c hc=>by
   have Ii:left[c]∈left:=TO _;obtain⟨h1,h2⟩:=TP.1 Ii;obtain⟨i,cw⟩:=cA h1;refine⟨i,left[c],cw,fun bo=>?_,eC hc⟩;rw[(Yz hb hi cw).2 bo] at h2;cases h2
  obtain⟨w1,c,fS,hc,mI⟩:∃w1 c,(w1=w∨w1=w.drew)∧c<left.size∧(choose (.mapNext left.size)).run P w=.ok c w1:=by
   by_cases h1:left.size≤1
   ·exact⟨w,0,.inl rfl,by omega,by simp[Question.forced,h1]⟩
   ·exact⟨w.drew,_,.inr rfl,K6 _ (by omega),by simp[Question.forced,h1,Question.cut];rfl⟩
  obtain⟨i,e,h1,h2,h3⟩:=key c hc;refine⟨w1,fS,.inr ⟨i,e,h1,h2,?_⟩⟩;have wK:arr.filter (fun e=> !(gD arr idx).contains e.born)=left:=rfl;have pV:(getObj k).run P w=.ok (.mapIter (some m) clock (gD arr idx) clock) w:=by simp[getObj,Sem.run,hk]
  have db:(getObj m).run P w=.ok (.map arr clock) w:=by simp[getObj,Sem.run,hm]
  have bQ:w1.heap[k]?=some (.mapIter (some m) clock (gD arr idx) clock):=by rcases fS with rfl|rfl<;>exact hk
  have uw:(setObj k (.mapIter (some m) clock ((gD arr idx).push e.born) clock)).run P w1=.ok () {w1 with heap:=w1.heap.setIfInBounds k (.mapIter (some m) clock ((gD arr idx).push e.born) clock)}:=by simp[setObj,Sem.run,bQ]
  have aih:((if false=true then #[none] else #[])++Array.map some (left++#[]):Array (Option MapEntry))=left.map some:=by simp
  have lh:(left.map some)[c]?=some (some e):=by simp[h3]
  have WQ:∀(BF:Array (Option MapEntry)) (cc:Nat),(choose (.mapNext BF.size)).run P w=.ok cc w1→BF[cc]?=some (some e)→(do
        match BF[←choose (.mapNext BF.size)]? with
        |some (some e)=>
         setObj k (.mapIter (some m) clock ((gD arr idx).push e.born) clock)
         pure (.tuple #[.bool true,e.key,e.val])
        |some none=>(pure (.tuple #[.bool false]):Sem Value)
        |none=>stuck "Next: no such candidate" :Sem Value).run P w=.ok (.tuple #[.bool true,e.key,e.val]) {w1 with heap:=w1.heap.setIfInBounds k (.mapIter (some m) clock ((gD arr idx).push e.born) clock)}:=by
   intro BF cc h4 h5;rw[Sem.run_bind,h4];simp only[Result.andThen_ok,h5];rw[Sem.run_bind,uw];rfl
  rw[aoR arr idx h1] at WQ uw;have:=WQ (left.map some) c (by rw[Array.size_map];exact mI) lh;simp only[Instr.next];rw[Sem.run_bind,pV];simp only[Result.andThen_ok];rw[Sem.run_bind,db];simp only[Result.andThen_ok,oz,wK,j4,j5,hem];rw[aih,if_neg (by decide)];exact this
theorem afV {P:Program}{w:World}{k m:Nat}{arr:Array MapEntry}{clock:Nat}{idx:List Nat}{i:Nat}{e:MapEntry}(hk:w.heap[k]?=some (.mapIter (some m) clock (gD arr (idx++[i])) clock))(hm:w.heap[m]?=some (.map arr clock))(hb:nm arr clock)(he:arr[i]?=some e):
 (Instr.entry (.pointer (some ⟨k,0,none⟩))).run P w=.ok (.tuple #[e.key,e.val]) w:=by
 have aid:(gD arr (idx++[i])).back?=some e.born:=by simp[gD,he]
 have CQ:arr.find? (fun x=>x.born==e.born)=some e:=by
  have ae:i<arr.size:=(dI.1 he).1;have hei:arr[i]=e:=(dI.1 he).2;rw[Array.find?_eq_some_iff_getElem];refine⟨by simp,i,ae,hei,fun j hj=>?_⟩;have fD:j<arr.size:=by omega
  cases hc:(arr[j].born==e.born) with
  |false=>rfl
  |true=>
   have:=hb.2 j i arr[j] e (eC fD) he (by simpa using hc);omega
 simp[Instr.entry,getObj,Sem.run_bind,Sem.run,hk,hm,aid,CQ]
theorem alZ {x y z:Code}{k:Nat}{p:MP}(h:z8 x y k z=some p):∃i1 i2 o1 o2 o3 l,x=.region i1 p.ops1 false∧y=.cond (.tmp p.mo) .skip (.exit p.out)∧z=.region i2 p.ops2 false∧p.next=k∧p.ops1.toList=[o1,o2]∧p.ops2.toList=o3::l∧
 o1.dst=some p.nx∧o1.guard=none∧o1.op=.next (.tmp p.it) false∧o2.dst=some p.mo∧o2.guard=none∧o2.op=.extract (.tmp p.nx) 0∧o3.dst=some p.pr∧o3.guard=none∧o3.op=.entry (.tmp p.it)∧lF p.pr l []=some p.aa∧
 p.it≠p.nx∧p.it≠p.mo∧p.it≠p.pr∧p.nx≠p.mo∧p.out≠cZ∧k≠cZ:=by
 unfold z8 at h;split at h
 case h_2=>cases h
 rename_i i1 ops1 mo out i2 ops2;split at h
 case h_2=>cases h
 rename_i o1 o2 o3 l e1 e2;split at h
 case h_2=>cases h
 rename_i nx it mo' YY pr X0 d1 g1 q1 d2 g2 q2 d3 g3 q3;rw[po] at h;split at h
 case isFalse=>cases h
 rename_i hc;simp only[ax] at h;obtain⟨aa,h4,rfl⟩:=h;simp only[aj,iy] at hc;obtain⟨⟨⟨⟨⟨⟨⟨⟨c1,c2⟩,c3⟩,c4⟩,c5⟩,c6⟩,c7⟩,c8⟩,c9⟩:=hc;have ne:∀{a b:Nat},Nat.beq a b=false→a≠b:=fun h e=>by subst e;simp at h
 obtain rfl:=aw c1;obtain rfl:=aw c2;obtain rfl:=aw c3;exact⟨i1,i2,o1,o2,o3,l,rfl,rfl,rfl,rfl,e1,e2,d1,g1,q1,d2,g2,q2,d3,g3,q3,h4,ne c4,ne c5,ne c6,ne c7,ne c8,ne c9⟩
theorem Jo {pr:Nat}:∀(l:List Oper) {acc aa:List (Nat×Nat)},lF pr l acc=some aa→∀x,x∈acc→x∈aa
 |[],acc,aa,h,x,hx=>by simp only[lF,aR] at h;subst h;exact hx
 |o::l,acc,aa,h,x,hx=>by
  simp only[lF] at h;split at h
  case h_2=>cases h
  rw[po] at h;split at h
  ·cases h
  split at h
  ·rw[po] at h;split at h
   ·exact Jo l h x (jX _ hx)
   ·cases h
  ·simp only[ao] at h;obtain⟨i,_,h⟩:=h;exact Jo l h x (jX _ hx)
  ·simp only[ao] at h;obtain⟨i,_,h⟩:=h;exact Jo l h x (jX _ hx)
  ·cases h
theorem DP:∀{l:List (Nat×Nat)} {t i:Nat},uR l t=some i→(t,i)∈l
 |x::l,t,i,h=>by
  simp only[uR] at h;cases hb:Nat.beq x.1 t<;>simp only[hb,cond_true,cond_false] at h
  ·exact dK _ (DP h)
  ·cases h;have:=aw hb;subst this;exact dR ..
theorem Yp:∀{l:List (Nat×Nat)} {t:Nat},(uR l t).isSome=false→∀x,x∈l→x.1≠t
 |y::l,t,h,x,hx=>by
  simp only[uR] at h;cases hb:Nat.beq y.1 t<;>simp only[hb,cond_true,cond_false] at h
  ·rcases cW.1 hx with e|hx
   ·subst e;intro e;subst e;simp at hb
   ·exact Yp h x hx
  ·cases h
theorem PO {pr:Nat}:∀(l:List Oper) {acc aa:List (Nat×Nat)},lF pr l acc=some aa→(∀x,x∈acc→x.2≤1)→∀x,x∈aa→x∈acc∨(x.2≤1∧∃o,o∈l∧o.dst=some x.1)
 |[],acc,aa,h,_,x,hx=>by simp only[lF,aR] at h;subst h;exact .inl hx
 |o::l,acc,aa,h,ha,x,hx=>by
  simp only[lF] at h;split at h
  case h_2=>cases h
  rename_i d hd gN;rw[po] at h;split at h
  ·cases h
  have go:∀(pt:Nat),pt≤1→lF pr l (acc++[(d,pt)])=some aa→x∈acc∨(x.2≤1∧∃o',o'∈o::l∧o'.dst=some x.1):=by
   intro pt uE hp
   rcases PO l hp (fun y hy=>by
        rcases cR.1 hy with h|h
        ·exact ha y h
        ·simp at h;subst h;exact uE) x hx with h|⟨h1,o',h2,h3⟩
   ·rcases cR.1 h with h|h
    ·exact .inl h
    ·simp at h;subst h;exact .inr ⟨uE,o,dR ..,hd⟩
   ·exact .inr ⟨h1,o',dK _ h2,h3⟩
  split at h
  ·rw[po] at h;split at h
   case isFalse=>cases h
   rename_i lh;simp only[aj] at lh;exact go _ (km lh.2) h
  ·simp only[ao] at h;obtain⟨i,hi,h⟩:=h;exact go i (ha _ (DP hi)) h
  ·simp only[ao] at h;obtain⟨i,hi,h⟩:=h;exact go i (ha _ (DP hi)) h
  ·cases h
theorem Au {P:Program}{ops:Array Oper}{i:Nat}{rest:List Nat}{o:Oper}{rd:Option Nat}{a:Act}{w w':World}{Q:Exit→Act→World→Prop}{v:Value}(ho:ops[i]?=some o)(hg:o.guard=none)(bj:oO o.op=true)(hx:(execOp a.eval o).run P w=.ok (.value v) w')
 (k:wpOpsIn (FR rd) 0 P ops Q rest (a.put o.dst v) w'):wpOpsIn (FR rd) 0 P ops Q (i::rest) a w:=by
 simp only[wpOpsIn,ho];rw[if_pos (by simp[Region.wanted,hg])];exact aal bj (by unfold Oper.wp;rw[hx];exact k)
theorem aoM {ops:Array Oper}{o:Oper}(ho:o∈ops.toList)(a:Act)(v:Value):SameBut (qV ops) a (a.put o.dst v):=by
 have:=SameBut.put a o.dst v a.defers;exact this.mono fun t e=>⟨o,ho,e⟩
theorem AA {a:Act}{d:Nat}{v:Value}(h:d<a.tmps.size):(a.put (some d) v).tmps.getD d undef=v:=by rw[xM];simp[h]
theorem Jx {a:Act}{d t:Nat}{v:Value}(h:t≠d):(a.put (some d) v).tmps.getD t undef=a.tmps.getD t undef:=by rw[xM];simp[h]
theorem put_defers (a:Act)(d:Option Nat)(v:Value):(a.put d v).defers=a.defers:=by cases d<;>rfl
def D3 (kv vv:Value)(i:Nat):Value:=if i=0 then kv else vv
theorem aau {P:Program}{ops:Array Oper}{rd:Option Nat}{Q:Exit→Act→World→Prop}{pr:Nat}{kv vv:Value}{w:World}:∀(l:List Oper) (acc aa:List (Nat×Nat)) (i:Nat) (a:Act),lF pr l acc=some aa→ops.toList.drop i=l→(∀x,x∈aa→x.1<a.tmps.size)→a.tmps.getD pr undef=.tuple #[kv,vv]→
 (∀x,x∈acc→a.tmps.getD x.1 undef=D3 kv vv x.2)→(∀a',SameBut (qV ops) a a'→a'.defers=a.defers→(∀x,x∈aa→a'.tmps.getD x.1 undef=D3 kv vv x.2)→Q .normal a' w)→wpOpsIn (FR rd) 0 P ops Q (List.range' i (ops.size-i)) a w
 |[],acc,aa,i,a,h,hl,ae,qd,CA,hQ=>by
  simp only[lF,aR] at h;subst h;have:ops.size-i=0:=by
    have:=List.drop_eq_nil_iff.1 hl;simp at this;omega
  rw[this];exact hQ a (.refl _ _) rfl CA
 |o::l,acc,aa,i,a,h,hl,ae,qd,CA,hQ=>by
  have hi:i<ops.toList.length:=by
   refine Uf fun hle=>?_;rw[List.drop_eq_nil_iff.2 hle] at hl;cases hl
  rw[TZ hi] at hl;have ho:ops[i]?=some o:=by
   have:ops.toList[i]=o:=by injection hl
   rw[←this];simp at hi ⊢
  have p5:ops.toList.drop (i+1)=l:=by injection hl
  have aC:ops.size-i=(ops.size-(i+1))+1:=by simp at hi;omega
  rw[aC,FO];have cA:o∈ops.toList:=by simpa using gE ho
  simp only[lF] at h;split at h
  case h_2=>cases h
  rename_i d hd gN;rw[po] at h;split at h
  ·cases h
  rename_i hc;simp only[gF,not_or,Bool.not_eq_true] at hc;have hdp:pr≠d:=fun e=>by subst e;simp at hc
  have Nd:∀x,x∈acc→x.1≠d:=Yp hc.2;have go:∀(pt:Nat) (v:Value),lF pr l (acc++[(d,pt)])=some aa→oO o.op=true→v=D3 kv vv pt→(execOp a.eval o).run P w=.ok (.value v) w→wpOpsIn (FR rd) 0 P ops Q (i::List.range' (i+1) (ops.size-(i+1))) a w:=by
   intro pt v hp bj hv hx;have Nf:d<a.tmps.size:=ae _ (Jo l hp (d,pt) (by simp));refine Au ho gN bj hx ?_;have jM:=aoM cA a v;rw[hd] at jM ⊢;refine aau l _ aa (i+1) _ hp p5 (fun x hx=>by rw[jM.size];exact ae x hx) (by rw[Jx hdp];exact qd) (fun x hx=>?_) (fun a' h1 h2 h3=>hQ a' (jM.trans h1) (h2.trans (put_defers _ _ _)) h3);rcases cR.1 hx with hx|hx
   ·rw[Jx (Nd x hx)];exact CA x hx
   ·simp at hx;subst hx;rw[AA Nf];exact hv
  split at h
  ·rename_i t pt e;rw[po] at h;split at h
   case isFalse=>cases h
   rename_i lh;simp only[aj] at lh;have ht:=aw lh.1;have uE:=km lh.2;subst ht;have bI:a.eval (.tmp t)=.tuple #[kv,vv]:=by simpa [Act.eval] using qd
   refine go pt (D3 kv vv pt) h (by rw[e];rfl) rfl ?_;rcases(by omega:pt=0∨pt=1) with rfl|rfl<;>simp[execOp,e,bI,Instr.extract,D3]
  ·rename_i t e;simp only[ao] at h;obtain⟨pt,wK,h⟩:=h;have:=CA _ (DP wK);exact go pt (a.eval (.tmp t)) h (by rw[e];rfl) (by simpa [Act.eval] using this) (by simp[execOp,e])
  ·rename_i t e;simp only[ao] at h;obtain⟨pt,wK,h⟩:=h;have:=CA _ (DP wK);exact go pt (a.eval (.tmp t)) h (by rw[e];rfl) (by simpa [Act.eval] using this) (by simp[execOp,e])
  ·cases h
theorem OG (ids:List Nat)(J j:Nat)(S:Snap):((S.kill ids J).st ids).o j=if j=J then .dead else(S.st ids).o j:=by
 show dY ids (w6 ids J S.os) j=_;have:∀(is:List Nat) (os:List Ob),dY is (w6 is J os) j=if j=J then .dead else dY is os j:=by
  intro is
  induction is with
  |nil=>intro os;simp[w6,dY]
  |cons i is ih=>
   intro os;cases os with
   |nil=>simp[w6,dY]
   |cons o os=>
    simp only[w6,dY];cases hb:Nat.beq i j
    ·simp only[cond_false];exact ih os
    ·have:=aw hb;subst this;simp only[cond_true];by_cases cD:i=J
     ·subst cD;simp
     ·simp[fu cD,cD]
 exact this ids S.os
theorem UO {N:Nat}{id:Nat}(H5:id≠cZ){rm:Bool}{wr:Nat→Prop}{a:Act}{q:Res2}{x xi:Out}(ri:(∀t,t∈q.pc.modR→au q.mr t=true)∧∀j,j∈q.pc.modO→j∈q.mo)(dX:q.pc.ev Φ N ρ=some xi)(bI:(gI ids id q).pc.ev Φ N ρ=some x){e:Exit}{a':Act}{w':World}
 (gg:hH C w0 σ0 ids fn s rm wr a q.out q.ex xi e a' w'):Exit.inBlock id (hH C w0 σ0 ids fn s rm wr a (gI ids id q).out (gI ids id q).ex x) e a' w':=by
 have WK:∀cd S1,(cd,S1)∈q.ex→cd≠id→(cd,S1)∈q.ex.filter fun x=> !Nat.beq x.1 id:=fun cd S1 hm ay=>cS.2 ⟨hm,by simp[fu ay]⟩;have main:∀(o:Option Snap) (lr lo:List Nat),oN id q.ex q.out=o→(∀M,o=some M→lr=kH M q.mr∧lo=jO ids M q.mo)→(PC.block id lr lo q.pc).ev Φ N ρ=some x→
        Exit.inBlock id (hH C w0 σ0 ids fn s rm wr a o (q.ex.filter fun x=> !Nat.beq x.1 id) x) e a' w':=by
  intro o lr lo ho hl bI;simp only[PC.ev] at bI;rw[dX] at bI
  have fin:∀{ρ1:Env} {a':Act} {w':World},(∃M,o=some M∧Good C w0 σ0 (M.st ids) ρ1 (fun _=>False) a' w')→xi.env?=some ρ1→x=.next (ρ.join lr lo ρ1)→SameBut wr a a'→
   hH C w0 σ0 ids fn s rm wr a o (q.ex.filter fun x=> !Nat.beq x.1 id) x .normal a' w':=by
        intro ρ1 a' w' hM wD hx eI;obtain⟨M,hM,sO⟩:=hM;obtain⟨l1,l2⟩:=hl M hM;subst l1 l2;exact⟨_,M,hx,hM,eI,sO.joined (PC.ev_but q.pc ρ _ ρ1 dX wD) ri.1 ri.2⟩
  cases e with
  |normal=>
   obtain⟨ρ1,S2,e1,e2,eI,db⟩:=gg;subst e1;simp only[aR] at bI;refine fin ?_ rfl bI.symm eI;rw[e2] at ho;obtain⟨M,h1,h2⟩:=I2 (id:=id) q.ex db;rw[ho] at h1;exact⟨M,h1,h2⟩
  |exit cd=>
   obtain⟨ρ1,S2,e1,e0,e2,eI,db⟩:=gg;subst e1;simp only at bI;show if cd=id then _ else _;by_cases de:cd=id
   ·subst de;simp only[iI,cond_true,aR] at bI;simp only[if_true];refine fin ?_ rfl bI.symm eI;rw[←ho];exact O2 db q.ex q.out e2
   ·simp only[fu de,cond_false,aR] at bI;subst bI;simp only[de,if_false];exact⟨ρ1,S2,rfl,e0,WK _ _ e2 de,eI,db⟩
  |ret=>
   cases rm with
   |false=>
    have hy:=gg;obtain⟨d,e1,_⟩:=hy;subst e1;simp only[aR] at bI;subst bI;exact gg
   |true=>
    obtain⟨ρ1,S2,e1,e2,eI,db⟩:=gg;subst e1;simp only[fu (fun e=>H5 e.symm:cZ≠id),cond_false,aR] at bI;subst bI;exact⟨ρ1,S2,rfl,WK _ _ e2 (fun e=>H5 e.symm),eI,db⟩
  |_=>exact gg.elim
 unfold gI at bI ⊢;cases hm:oN id q.ex q.out with
 |none=>
  simp only[hm] at bI ⊢;exact main none [] [] hm (fun M e=>by cases e) bI
 |some M=>
  simp only[hm] at bI ⊢;exact main (some M) _ _ hm (fun M' e=>by cases e;exact⟨rfl,rfl⟩) bI
theorem UM {N id:Nat}{q:Res2}{x:Out}(bI:(gI ids id q).pc.ev Φ N ρ=some x):∃xi,q.pc.ev Φ N ρ=some xi:=by
 unfold gI at bI;cases hm:oN id q.ex q.out<;>simp only[hm,PC.ev] at bI<;>cases dX:q.pc.ev Φ N ρ<;>first|exact⟨_,rfl⟩|(rw[dX] at bI;cases bI)
theorem abP {es:List (D×D)}{idx:List Nat}(hn:idx.Nodup)(ae:∀i,i∈idx→i<es.length)(aF:∀i,i<es.length→i∈idx):(gV es idx).Perm (iW (.map es)):=by
 have h1:idx.Perm (List.range es.length):=by
  rw[List.perm_ext_iff_of_nodup hn K4];intro i;rw[cr];exact⟨ae i,aF i⟩
 have h2:gV es (List.range es.length)=iW (.map es):=by
  refine T4 (by simp[gV,iW,D.m]) fun i g1 g2=>?_;have hi:i<es.length:=by simpa [gV] using g1
  simp[gV,iW,D.m,bu hi]
 rw[←h2];exact h1.map _
theorem aoS {es:List (D×D)}{idx:List Nat}(hn:idx.Nodup)(ae:∀i,i∈idx→i<es.length):∃rest,(gV es idx++rest).Perm (iW (.map es)):=by
 refine⟨gV es ((List.range es.length).filter fun i=> !idx.contains i),?_⟩;have e:gV es idx++gV es ((List.range es.length).filter fun i=> !idx.contains i)=gV es (idx++(List.range es.length).filter fun i=> !idx.contains i):=by simp[gV]
 rw[e];refine abP ?_ (fun i hi=>?_) (fun i hi=>?_)
 ·rw[Bh];refine⟨hn,K4.filter _,fun a ha b hb e=>?_⟩;subst e;have:=(cS.1 hb).2;simp[ha] at this
 ·rcases cR.1 hi with h|h
  ·exact ae i h
  ·exact cr.1 (cS.1 h).1
 ·by_cases h:i∈idx
  ·exact jX _ h
  ·exact kj _ (cS.2 ⟨cr.2 hi,by simp[h]⟩)
theorem abQ (es:List (D×D))(idx:List Nat){i:Nat}{p:D×D}(h:es[i]?=some p):gV es (idx++[i])=gV es idx++[.tup [p.1,p.2]]:=by simp[gV,h]
theorem al3 {N:Nat}{x y z code:Code}{k:Nat}{p:MP}(hp:z8 x y k z=some p)(ihc:vR C Φ fn s n ids R N code){rm:Bool}{S:Snap}{r:Res2}
 (hr:Aa ids n p (cG x++(cG y++(cG z++cG code))) (fun S=>comp C fn s n ids R rm code S) S=some r) {rd:Option Nat} {wr:Nat→Prop} {x0:Out} (gQ:rm=false→rd=none∧σ0.fin) (hC:CtxOK C σ0) (hY:qN C Φ w0 σ0)
 (iT:∀t,t∈cG (.loop (.seq x (.seq y (.block k (.seq z code)))))→wr t) (hn:a.tmps.size=n) (hg:Good C w0 σ0 (S.st ids) ρ (fun _=>False) a w) (he:r.pc.ev Φ N ρ=some x0):
 (Code.loop (.seq x (.seq y (.block k (.seq z code))))).wpIn (FR rd) 0 C.P (hH C w0 σ0 ids fn s rm wr a r.out r.ex x0) a w:=by
 obtain⟨i1,i2,o1,o2,o3,l,rfl,rfl,rfl,hk,e1,e2,d1,g1,q1,d2,g2,q2,d3,g3,q3,nE,n1,n2,n3,n4,n5,n6⟩:=alZ hp;subst hk;unfold Aa at hr;split at hr
 case h_2=>cases hr;exact absurd he (na _ _ _ _)
 rename_i J hJ;split at hr
 case h_2=>cases hr;exact absurd he (na _ _ _ _)
 rename_i kt et Ib;simp only at hr;split at hr
 case h_2=>cases hr;exact absurd he (na _ _ _ _)
 rename_i q hq;rw[po] at hr;split at hr
 case isFalse=>cases hr;exact absurd he (na _ _ _ _)
 rename_i wC;cases hr;generalize IE:cG (.region i1 p.ops1 false)++(cG (.cond (.tmp p.mo) .skip (.exit p.out))++(cG (.region i2 p.ops2 false)++cG code))=ws at*;simp only[aj,iy] at wC;obtain⟨⟨⟨⟨⟨⟨⟨⟨c1,c2⟩,c3⟩,c4⟩,c5⟩,c6⟩,c7⟩,c8⟩,c9⟩:=wC;have hex:q.2.ex=[]:=rY.1 c1;have Wc:J∉q.2.mo:=fun h=>by rw[(qk _ _).2 h] at c2;cases c2
 simp only[XX,aj,iy] at c3;obtain⟨⟨c3a,c3b⟩,c3c⟩:=c3;have ajV:q.1.rs.getD p.it .none=.obj J 0:=Sh.beq_eq _ _ c3a;have Is:dY ids q.1.os J=.it kt et:=Ob.beq_eq _ _ c3b;have ajN:∀t,t∈p.aa.map (·.1)→t<n:=fun t ht=>by have:=bz.1 c5 t ht;rwa [jc] at this
 have hnx:p.nx<n:=by rwa [jc] at c6
 have NC:p.mo<n:=by rwa [jc] at c7
 have qd:p.pr<n:=by rwa [jc] at c8
 have C5:=aw c9;obtain⟨hs,zE,bo⟩:=DI (C:=C) (w0:=w0) (σ0:=σ0) (ids:=ids) 8 hq;simp only[ax] at hs;obtain⟨q0,wP,jK⟩:=hs;obtain⟨qS,qR⟩:=q;simp only at*;subst jK;generalize hm:xg ws=m at*;generalize wL:jO ids qS (gI ids p.next q0).mo=lo at*;have NF:=UN (ids:=ids) (id:=p.next) (tZ code wP);have ajd:∀j,j∈lo→j∈(gI ids p.next q0).mo:=fun j hj=>by rw[←wL] at hj;exact Ab hj
 have avP:J∉lo:=fun h=>Wc (ajd J h);have Di:∃A7,Jr ((gI ids p.next q0).pc.ev Φ N) ρ J (p.aa.map (·.1)) (p.aa.map (·.2)) lo A7∧x0=.exit p.out (ρ.put [] [] lo A7):=by
  simp only[PC.ev] at he;cases qd:Js ((gI ids p.next q0).pc.ev Φ N) ρ J (p.aa.map (·.1)) (p.aa.map (·.2)) lo with
  |none=>rw[qd] at he;cases he
  |some y=>
   obtain⟨A7,h1,rfl⟩:=Ax.1 qd;rw[qd] at he;simp only[aR] at he;exact⟨A7,h1,he.symm⟩
 obtain⟨A7,⟨Dc,ah3⟩,dg⟩:=Di;generalize jH:(ρ.o J).tget 1=es at*
 have fS:∀o,o∈p.ops1.toList→∀d,o.dst=some d→d∈ws:=fun o ho d hd=>by
  rw[←IE];exact jX _ (tP.2 ⟨o,ho,hd⟩)
 have fl:∀o,o∈p.ops2.toList→∀d,o.dst=some d→d∈ws:=fun o ho d hd=>by
  rw[←IE];exact kj _ (kj _ (jX _ (tP.2 ⟨o,ho,hd⟩)))
 have hwc:∀d,d∈cG code→d∈ws:=fun d hd=>by
  rw[←IE];exact kj _ (kj _ (kj _ hd))
 have Ov:∀t,t∈ws→wr t:=fun t ht=>iT t (by rw[←IE] at ht;exact ht);have sS:∀t,t∈ws→au m t=true:=fun t ht=>by rw[←hm];exact UK ht
 have NB:∀t,au m t=true→((qS.mask m).st ids).r t=.none:=fun t ht=>by rw[DR,if_pos ht]
 have ajj:∀t,isNone (((qS.mask m).st ids).r t)=false→au m t=false:=fun t ht=>by
  cases hb:au m t with
  |false=>rfl
  |true=>rw[NB t hb] at ht;cases ht
 have eL:((qS.mask m).st ids).r p.it=.obj J 0:=by
  rw[DR,c3c];show cQ (qS.rs.getD p.it .none)=_;rw[ajV];rfl
 have cU:((qS.mask m).st ids).o J=.it kt et:=Is;have ka:p.ops1[0]?=some o1:=by rw[←xU,e1];rfl
 have iO:p.ops1[1]?=some o2:=by rw[←xU,e1];rfl
 have ho3:p.ops2[0]?=some o3:=by rw[←xU,e2];rfl
 have akd:List.range p.ops1.size=[0,1]:=by
  have:p.ops1.size=2:=by rw[←rT,e1];rfl
  rw[this];rfl
 have Of:List.range p.ops2.size=0::List.range' 1 (p.ops2.size-1):=by
  have:p.ops2.size=l.length+1:=by rw[←rT,e2];rfl
  rw[this,K5,FO];rfl
 have key:∀(kk:Nat) (done vo:List D) (a':Act) (w':World),SameBut wr a a'→Good C w0 σ0 ((qS.mask m).st ids) ((ρ.put [] [] lo vo).setO J (.tup [.list done,es])) (fun _=>False) a' w'→
  (∀ys,(done++ys).Perm (iW es)→oT ((gI ids p.next q0).pc.ev Φ N) ρ J es (p.aa.map (·.1)) (p.aa.map (·.2)) lo ys done vo=some A7)→done.length+kk=(iW es).length+1→
  Code.roundsIn (FR rd) 0 C.P (.seq (.region i1 p.ops1 false) (.seq (.cond (.tmp p.mo) .skip (.exit p.out)) (.block p.next (.seq (.region i2 p.ops2 false) code)))) (hH C w0 σ0 ids fn s rm wr a none [(p.out,(qS.mask m).kill ids J)] x0) kk a' w':=by
  intro kk
  induction kk with
  |zero=>
   intro done vo a' w' _ fC _ hlen;exfalso;obtain⟨σ,own,hv,h⟩:=fC;have aY:=h.objs J;rw[cU] at aY;obtain⟨kb,mb,arr,clock,ga,idx,h1,h2,h3,ay,h4,h5,h6,h7,h8,h9,lf,lP⟩:=aY;simp only[Env.setO,aK] at h6;injection h6 with h6;injection h6 with wy wz;injection wz with wz _;injection wy with wy;subst wy;subst wz;have hle:idx.length≤arr.size:=by
        have:=List.Nodup.length_le_of_subset h7 (l₂:=List.range arr.size) (fun i hi=>cr.2 (h8 i hi));simpa using this
   simp[gV,iW,D.m] at hlen;omega
  |succ kk ih=>
   intro done vo a' w' jM fC aF hlen;rw[roundsIn_succ];obtain⟨σ,own,hv,h⟩:=fC;have aY:=h.objs J;rw[cU] at aY;obtain⟨kb,mb,arr,clock,ga,idx,h1,h2,h3,ay,h4,h5,h6,h7,h8,h9,lf,lP⟩:=aY;simp only[Env.setO,aK] at h6;injection h6 with h6;injection h6 with wy wz;injection wz with wz _;injection wy with wy;subst wy;subst wz;have gu:=h.regs p.it;rw[eL] at gu;have H6:a'.eval (.tmp p.it)=.pointer (some ⟨kb,0,none⟩):=by
        have:=gu.2 rfl;simp only[Act.eval];rw[this];exact h1
   have rn:a'.tmps.size=n:=jM.size.trans hn;obtain⟨w1,XH,Ip⟩:=ams (P:=C.P) h5 h4 lf h8 o1.type;have DC:Below w'.heap.size w' w1:=by rcases XH with rfl|rfl;exact .refl _ _;exact⟨rfl,rfl,rfl,aX _,fun _ _=>rfl⟩
   have zT:w1.heap=w'.heap:=by rcases XH with rfl|rfl<;>rfl
   have WW:kb<w'.heap.size:=(h.owns kb J h2).2.1;have p7:mb<w'.heap.size:=(h.owns mb J h3).2.1;refine wpIn_seq (wpIn_region ?_);rw[akd];rcases Ip with⟨Nm,af⟩|⟨i,e,nB,wF,af⟩
   ·
        refine Au ka g1 (by rw[q1];rfl) (v:=.tuple #[.bool false]) (w':=w1) (by simp only[execOp,q1,H6];simp[af]) ?_;rw[d1]
        refine Au iO g2 (by rw[q2];rfl) (v:=.bool false) (w':=w1) (by
         have:(a'.put (some p.nx) (.tuple #[.bool false])).eval (.tmp p.nx)=.tuple #[.bool false]:=by simp only[Act.eval];exact AA (by omega)
         simp only[execOp,q2,this];simp[Instr.extract]) ?_
        rw[d2];simp only[wpOpsIn]
        have wS:SameBut (fun t=>t∈ws) a' ((a'.put (some p.nx) (.tuple #[.bool false])).put (some p.mo) (.bool false)):=by
         have s1:=SameBut.put a' (some p.nx) (.tuple #[.bool false]) a'.defers;have s2:=SameBut.put (a'.put (some p.nx) (.tuple #[.bool false])) (some p.mo) (.bool false) (a'.put (some p.nx) (.tuple #[.bool false])).defers;exact(s1.mono fun t e=>by cases e;exact fS o1 (by rw[e1];simp) _ d1).trans (s2.mono fun t e=>by cases e;exact fS o2 (by rw[e1];simp) _ d2)
        generalize Cw:(a'.put (some p.nx) (.tuple #[.bool false])).put (some p.mo) (.bool false)=a1 at wS;have ND:a1.eval (.tmp p.mo)=.bool false:=by
         rw[←Cw];simp only[Act.eval];exact AA (by rw[size_put];omega)
        have oA:a1.defers=a'.defers:=by rw[←Cw,put_defers,put_defers]
        refine wpIn_seq (wpIn_cond_false ND (wpIn_exit ?_));have ajJ:(gV ga idx++[]).Perm (iW (.map ga)):=by
         rw[lK];exact abP h7 (fun i hi=>by rw[h9];exact h8 i hi) (fun i hi=>Nm i (by omega))
        have XG:=aF [] ajJ;simp only[oT,aR] at XG;subst XG;refine⟨_,_,dg,n5,lL.2 rfl,jM.trans (wS.mono Ov),?_⟩;refine⟨σ,own,hv,?_⟩
        refine h.step (S':=((qS.mask m).kill ids J).st ids) (ρ':=ρ.put [] [] lo vo) (A':=fun _=>False) (fun j=>j=J) oA (.refl σ) (h.ok.below DC) (fun _ _ _ hx=>.inl hx) (fun _ _ hx=>.inl hx) (DC.mono h.below.size) ⟨fun _=>aX _,fun _ _=>rfl⟩
         (fun j hj=>⟨by rw[OG,if_neg hj],by simp[Env.setO,bk _ _ hj],rfl,fun b hb=>⟨hb,by rw[zT]⟩⟩) (fun j hj=>?_) (fun b j hb=>?_) (fun _=>id) (fun t=>?_) (fun _ hf=>hf.elim) (fun b hb _=>by rw[zT]) (fun b j hb=>.inl ⟨j,hb⟩) (fun j hj=>?_)
        ·rw[OG,if_pos hj];trivial
        ·obtain⟨b1,b2,b3,b4⟩:=h.owns b j hb;exact⟨b1,by rw[zT];exact b2,b3,b4⟩
        ·by_cases ht:t∈ws
         ·refine .inr ⟨?_,fun gs s' e=>absurd e (Snap.noOpt _ _ t gs s')⟩;have:(((qS.mask m).kill ids J).st ids).r t=.none:=NB t (sS t ht);rw[this];trivial
         ·exact .inl ⟨rfl,wS.get t ht,rfl⟩
        ·rw[OG,if_pos hj];intro e;cases e
   ·
        obtain⟨pd,NW⟩:∃pd,ga[i]?=some pd:=⟨_,bu (by rw[h9];exact(dI.1 nB).1)⟩
        obtain⟨bQ,bx⟩:=lP i e pd nB NW;generalize zU:({w1 with heap:=w1.heap.setIfInBounds kb (.mapIter (some mb) clock (gD arr (idx++[i])) clock)}:World)=w2 at af;have XI:w2.heap[kb]?=some (.mapIter (some mb) clock (gD arr (idx++[i])) clock):=by rw[←zU];simp[zT,WW]
        have zV:∀b,b≠kb→w2.heap[b]?=w'.heap[b]?:=fun b hb=>by rw[←zU];simp only[zT];rw[TN (sf hb)]
        have awq:w2.heap.size=w'.heap.size:=by rw[←zU];simp[zT]
        have XJ:w2.heap[mb]?=some (.map arr clock):=by rw[zV mb (sf ay)];exact h4
        refine Au ka g1 (by rw[q1];rfl) (v:=.tuple #[.bool true,e.key,e.val]) (w':=w2) (by simp only[execOp,q1,H6];simp[af]) ?_;rw[d1]
        refine Au iO g2 (by rw[q2];rfl) (v:=.bool true) (w':=w2) (by
         have:(a'.put (some p.nx) (.tuple #[.bool true,e.key,e.val])).eval (.tmp p.nx)=.tuple #[.bool true,e.key,e.val]:=by simp only[Act.eval];exact AA (by omega)
         simp only[execOp,q2,this];simp[Instr.extract]) ?_
        rw[d2];simp only[wpOpsIn]
        have wS:SameBut (fun t=>t∈ws) a' ((a'.put (some p.nx) (.tuple #[.bool true,e.key,e.val])).put (some p.mo) (.bool true)):=by
         have s1:=SameBut.put a' (some p.nx) (.tuple #[.bool true,e.key,e.val]) a'.defers;have s2:=SameBut.put (a'.put (some p.nx) (.tuple #[.bool true,e.key,e.val])) (some p.mo) (.bool true) (a'.put (some p.nx) (.tuple #[.bool true,e.key,e.val])).defers;exact(s1.mono fun t e=>by cases e;exact fS o1 (by rw[e1];simp) _ d1).trans (s2.mono fun t e=>by cases e;exact fS o2 (by rw[e1];simp) _ d2)
        have WU:(((a'.put (some p.nx) (.tuple #[.bool true,e.key,e.val])).put (some p.mo) (.bool true))).eval (.tmp p.it)=.pointer (some ⟨kb,0,none⟩):=by
         simp only[Act.eval] at H6 ⊢;rw[Jx n2,Jx n1];exact H6
        generalize Cw:(a'.put (some p.nx) (.tuple #[.bool true,e.key,e.val])).put (some p.mo) (.bool true)=a1 at wS WU;have ND:a1.eval (.tmp p.mo)=.bool true:=by
         rw[←Cw];simp only[Act.eval];exact AA (by rw[size_put];omega)
        have oA:a1.defers=a'.defers:=by rw[←Cw,put_defers,put_defers]
        refine wpIn_seq (wpIn_cond_true ND (wpIn_skip ?_));refine wpIn_block (wpIn_seq (wpIn_region ?_));rw[Of];refine Au ho3 g3 (by rw[q3];rfl) (v:=.tuple #[e.key,e.val]) (w':=w2) (by simp only[execOp,q3,WU];simp[afV XI XJ lf nB]) ?_;rw[d3]
        have Ix:SameBut (fun t=>t∈ws) a1 (a1.put (some p.pr) (.tuple #[e.key,e.val])):=
         (SameBut.put a1 (some p.pr) (.tuple #[e.key,e.val]) a1.defers).mono fun t e=>by cases e;exact fl o3 (by rw[e2];simp) _ d3
        have Xy:a1.tmps.size=n:=wS.size.trans rn;refine aau (kv:=e.key) (vv:=e.val) l [] p.aa 1 _ nE (by rw[e2];rfl) (fun x hx=>by rw[Ix.size,Xy];exact ajN _ (ec.2 ⟨x,hx,rfl⟩)) (AA (by rw[Xy];exact qd)) (fun x hx=>by cases hx) (fun a2 eI dM ajH=>?_);have N9:SameBut (fun t=>t∈ws) a' a2:=(wS.trans Ix).trans (eI.mono fun t ⟨o,ho,hd⟩=>fl o ho t hd);have aiw:a2.defers=a'.defers:=by rw[dM,put_defers,oA]
        have akb:Good C w0 σ0 (((qS.mask m).start (p.aa.map (·.1)) (p.aa.map fun x=>bif Nat.beq x.2 0 then kt else et)).st ids) ((ρ.put (p.aa.map (·.1)) ((p.aa.map (·.2)).map (D.tup [pd.1,pd.2]).tget) lo vo).setO J (.tup [.list (gV ga idx++[.tup [pd.1,pd.2]]),.map ga])) (fun _=>False) a2 w2:=by
         have CG:Below w0.heap.size w' w2:=⟨by rw[←zU];exact DC.os,by rw[←zU];exact DC.tape,by rw[←zU];exact DC.output,by omega,fun b hb=>zV b (fun e=>by subst e;have:=(h.owns b J h2).1;omega)⟩
         have jk:σ.ok w2:=by
          refine⟨fun b o v hc=>?_,fun b es hc=>?_⟩
          ·have uo:b≠kb:=fun e=>by subst e;rw[(h.owns b J h2).2.2.1 o] at hc;cases hc
           have:=h.ok.c b o v hc;simp only[World.cell?] at this ⊢;rw[zV b uo];exact this
          ·have uo:b≠kb:=fun e=>by subst e;rw[(h.owns b J h2).2.2.2] at hc;cases hc
           exact(h.ok.m b es hc).keep (zV b uo)
         have gg:∀j,((ρ.put (p.aa.map (·.1)) ((p.aa.map (·.2)).map (D.tup [pd.1,pd.2]).tget) lo vo).setO J (.tup [.list (gV ga idx++[.tup [pd.1,pd.2]]),.map ga])).o j=if j=J then .tup [.list (gV ga idx++[.tup [pd.1,pd.2]]),.map ga] else putL ρ.o lo vo j:=fun j=>by
          simp only[Env.setO,fK];rfl
         refine⟨σ,own,hv,h.step (fun j=>j=J) aiw (.refl σ) jk (fun _ _ _ hx=>.inl hx) (fun _ _ hx=>.inl hx) CG ⟨fun _=>aX _,fun _ _=>rfl⟩
          (fun j hj=>⟨rfl,by rw[gg,if_neg hj];simp[Env.setO,bk _ _ hj,Env.put],rfl,fun b hb=>⟨hb,zV b (fun e=>by subst e;rw[h2] at hb;cases hb;exact hj rfl)⟩⟩) (fun j hj=>?_) (fun b j hb=>?_) (fun _=>id) (fun t=>?_) (fun _ hf=>hf.elim)
          (fun b hb ho=>zV b (fun e=>by subst e;rw[h2] at ho;cases ho)) (fun b j hb=>.inl ⟨j,hb⟩) (fun j hj=>?_)⟩
         ·subst hj;have:(((qS.mask m).start (p.aa.map (·.1)) (p.aa.map fun x=>bif Nat.beq x.2 0 then kt else et)).st ids).o j=.it kt et:=Is;rw[this];refine⟨kb,mb,arr,clock,ga,idx++[i],h1,h2,h3,ay,XJ,XI,by rw[gg,if_pos rfl,abQ ga idx NW],?_,?_,h9,lf,lP⟩
          ·rw[Bh];exact⟨h7,by simp,fun a ha b hb e=>by simp at hb;subst hb;subst e;exact wF ha⟩
          ·intro i' cw;rcases cR.1 cw with h|h
           ·exact h8 i' h
           ·simp at h;subst h;exact(dI.1 nB).1
         ·obtain⟨b1,b2,b3,b4⟩:=h.owns b j hb;exact⟨b1,by omega,b3,b4⟩
         ·have hc:Compat ((qS.mask m).st ids) hv (((qS.mask m).start (p.aa.map (·.1)) (p.aa.map fun x=>bif Nat.beq x.2 0 then kt else et)).st ids) hv:=⟨fun _=>aX _,fun _ _=>rfl⟩
          refine .inr ⟨?_,fun gs s' e=>absurd e (Snap.noOpt _ _ t gs s')⟩;show aE C _ _ σ hv (cQ ((rJ (p.aa.map (·.1)) (p.aa.map fun x=>bif Nat.beq x.2 0 then kt else et) ((qS.mask m).rs.map sP)).getD t .none)) (a2.tmps.getD t undef) (putL ρ.r (p.aa.map (·.1)) ((p.aa.map (·.2)).map (D.tup [pd.1,pd.2]).tget) t);rcases Ro (p.aa.map (·.1)) (p.aa.map fun x=>bif Nat.beq x.2 0 then kt else et) ((qS.mask m).rs.map sP) (by simp) c4 t with e|⟨ze,ub⟩|⟨i',y,ze,ub,Mh⟩
          ·rw[e];trivial
          ·rw[ub,Az _ _ _ _ ze];have e3:((qS.mask m).rs.map sP).getD t .none=sP ((qS.mask m).rs.getD t .none):=by
            simp only[aH,cK];cases(qS.mask m).rs[t]?<;>rfl
           rw[e3];by_cases XB:t∈ws
           ·have zL:=NB t (sS t XB);change cQ ((qS.mask m).rs.getD t .none)=.none at zL;generalize (qS.mask m).rs.getD t .none=s' at zL;cases s'<;>simp[cQ] at zL<;>trivial
           ·have hr:=h.regs t;change aE C _ _ σ hv (cQ ((qS.mask m).rs.getD t .none)) _ (ρ.r t) at hr;rw[N9.get t XB];generalize (qS.mask m).rs.getD t .none=s' at hr;cases s' with
            |yv=>trivial
            |opt gs s=>trivial
            |none=>trivial
            |fclo f c=>exact aE.mono' (.refl σ) hc (fun _ _ e=>by cases e) hr
            |agg l=>exact aE.mono' (.refl σ) hc (fun _ _ e=>by cases e) hr
            |dat t=>exact hr
            |obj j v=>exact aE.mono' (.refl σ) hc (fun _ _ e=>by cases e) hr
            |ptr j v o=>exact aE.mono' (.refl σ) hc (fun _ _ e=>by cases e) hr
            |eptr j v o q=>exact aE.mono' (.refl σ) hc (fun _ _ e=>by cases e) hr
          ·rw[Mh];have aiW:i'<p.aa.length:=by have:=(eE.1 ze).1;simpa using this
           rw[PZ _ (p.aa.map (·.1)) _ i' t (mW c4) (by simp) ze];obtain⟨xa,mO⟩:∃xa,p.aa[i']?=some xa:=⟨_,bu aiW⟩
           simp only[cK,mO,kU,aR] at ze ub;subst ze;subst ub;rw[ajH xa (kl mO)];have hd:((p.aa.map (·.2)).map (D.tup [pd.1,pd.2]).tget).getD i' .none=(D.tup [pd.1,pd.2]).tget xa.2:=by simp[aH,mO]
           rw[hd];have h2x:xa.2≤1:=by
            rcases PO l nE (fun x hx=>by cases hx) xa (kl mO) with h|h
            ·cases h
            ·exact h.1
           rcases(by omega:xa.2=0∨xa.2=1) with e0|e0<;>rw[e0]
           ·exact bQ
           ·exact bx
         ·have:(((qS.mask m).start (p.aa.map (·.1)) (p.aa.map fun x=>bif Nat.beq x.2 0 then kt else et)).st ids).o j=.it kt et:=by rw[hj];exact Is
          rw[this];intro e;cases e
        have ajI:=abQ ga idx NW;obtain⟨rest,uF⟩:∃rest,(gV ga idx++(D.tup [pd.1,pd.2])::rest).Perm (iW (.map ga)):=by
         obtain⟨rest,hr⟩:=aoS (es:=ga) (idx:=idx++[i]) (by rw[Bh];exact⟨h7,by simp,fun a ha b hb e=>by simp at hb;subst hb;subst e;exact wF ha⟩) (fun i' cw=>by
          rcases cR.1 cw with h|h
          ·rw[h9];exact h8 i' h
          ·simp at h;subst h;rw[h9];exact(dI.1 nB).1)
         rw[ajI] at hr;exact⟨rest,by simpa using hr⟩
        have cu:=aF _ uF;simp only[oT] at cu;split at cu
        case h_2=>cases cu
        rename_i ρ2 HR;obtain⟨xi,dX⟩:=UM HR;refine wpIn_mono (ihc rm _ q0 wP rd w0 σ0 wr _ xi a2 w2 gQ hC hY (fun t ht=>Ov t (hwc t ht)) (N9.size.trans rn) akb dX) fun ee a3 w3 gg=>?_;have kA:=UO n6 (tZ code wP) dX HR gg;have conv:∀ee a3 w3,hH C w0 σ0 ids fn s rm wr a2 (gI ids p.next q0).out (gI ids p.next q0).ex (.next ρ2) ee a3 w3→Exit.then (Code.roundsIn (FR rd) 0 C.P (.seq (.region i1 p.ops1 false) (.seq (.cond (.tmp p.mo) .skip (.exit p.out)) (.block p.next (.seq (.region i2 p.ops2 false) code)))) (hH C w0 σ0 ids fn s rm wr a none [(p.out,(qS.mask m).kill ids J)] x0) kk) (hH C w0 σ0 ids fn s rm wr a none [(p.out,(qS.mask m).kill ids J)] x0) ee a3 w3:=by
         intro ee a3 w3 ho;cases ee with
         |normal=>
          obtain⟨ρ3,T,f1,f2,f3,f4⟩:=ho;cases f1;refine ih (gV ga idx++[.tup [pd.1,pd.2]]) (lo.map ρ2.o) a3 w3 (jM.trans ((N9.mono Ov).trans f3)) ?_ (fun ys sV=>?_) (by simp at hlen ⊢;omega)
          ·have sO:Good C w0 σ0 (qS.st ids) ρ2 (fun _=>False) a3 w3:=by
            have:=f4.meet2 (x:=qS)
            rwa [zE T f2] at this
           obtain⟨σ3,xr,Dz,lR⟩:=sO;have M7:=PC.ev_but _ _ _ ρ2 HR rfl;refine⟨σ3,xr,Dz,(lR.maskR m).env (Snap.noOpt _ _) (fun t ht=>?_) (fun j hj=>?_)⟩
           ·have zL:=ajj t ht
            have dq:t∉(gI ids p.next q0).pc.modR:=fun fQ=>by
                 have:=NF.1 t fQ;have h2:au (Nat.lor m (gI ids p.next q0).mr) t=true:=by rw[fN,this,nY]
                 rw[C5,zL] at h2;cases h2
            rw[M7.r t dq]
            have rj:t∉p.aa.map (·.1):=fun aT=>by
                 have:au m t=true:=by
                  refine sS t ?_;obtain⟨xa,mO,rfl⟩:=ec.1 aT;rcases PO l nE (fun x hx=>by cases hx) xa mO with h|⟨_,o,ho,hd⟩
                  ·cases h
                  ·exact fl o (by rw[e2];exact dK _ ho) _ hd
                 rw[zL] at this;cases this
            show ρ.r t=putL ρ.r (p.aa.map (·.1)) _ t;rw[Az _ _ _ _ rj]
           ·have hjd:oL (dY ids qS.os j)=false:=hj;show bV (putL ρ.o lo (lo.map ρ2.o)) J _ j=ρ2.o j;by_cases zH:j=J
            ·subst zH;rw[aK,M7.o j (fun fQ=>Wc (NF.2 j fQ))];simp[Env.setO,aK]
            ·rw[bk _ _ zH,tq];split
             ·rfl
             ·rename_i fD;have dq:j∉(gI ids p.next q0).pc.modO:=fun fQ=>fD (by rw[←wL];exact cS.2 ⟨NF.2 j fQ,by rw[hjd];rfl⟩);rw[M7.o j dq];simp only[Env.setO,bk _ _ zH];exact(P0 _ _ _ _ fD).symm
          ·have:=aF ((D.tup [pd.1,pd.2])::ys) (by simpa using sV);simp only[oT,HR] at this;exact this
         |exit id=>obtain⟨ρ3,T,f1,_⟩:=ho;cases f1
         |ret=>
          cases rm with
          |false=>obtain⟨d,f1,_⟩:=ho;cases f1
          |true=>obtain⟨ρ3,T,f1,_⟩:=ho;cases f1
         |_=>exact ho.elim
        cases ee with
        |exit id=>
         simp only[Exit.inBlock] at kA;show if id=p.next then _ else _;split
         ·rename_i de;rw[if_pos de] at kA;exact conv .normal a3 w3 kA
         ·rename_i de;rw[if_neg de] at kA;exact conv (.exit id) a3 w3 kA
        |normal=>exact conv .normal a3 w3 kA
        |ret=>exact conv .ret a3 w3 kA
        |panic c=>exact gg.elim
        |goto l=>exact gg.elim
        |_=>exact gg.elim
 have hgq:Good C w0 σ0 (qS.st ids) ρ (fun _=>False) a w:=bo hg;obtain⟨σ,own,hv,h⟩:=hgq;have aY:=h.objs J;have:(qS.st ids).o J=.it kt et:=Is;rw[this] at aY;obtain⟨kb,mb,arr,clock,ga,idx,h1,h2,h3,ay,h4,h5,h6,h7,h8,h9,lf,lP⟩:=aY;have hρJ:ρ.o J=.tup [.list [],es]:=by
  rw[h6] at Dc jH;simp[D.tget] at Dc jH;rw[h6,Dc,←jH]
 have wD:(ρ.put [] [] lo (lo.map ρ.o)).setO J (.tup [.list [],es])=ρ:=by
  rw[Env.put_self];show Env.mk _ _=_;have:bV ρ.o J (.tup [.list [],es])=ρ.o:=by
   funext j;rw[fK];split
   ·rename_i e;rw[e];exact hρJ.symm
   ·rfl
  rw[this]
 exact wpIn_loop_rounds _ (key ((iW es).length+1) [] (lo.map ρ.o) a w (.refl _ _) (by rw[wD];exact⟨σ,own,hv,h.maskR m⟩) (fun ys sV=>ah3 ys sV) (by simp))
theorem aeQ {N:Nat}(je:ki C Φ)(hR:La C n ids Φ R):∀(k:Nat) (c:Code),sizeOf c<k→vR C Φ fn s n ids R N c:=by
 intro k;refine Nat.rec (fun c h=>absurd h (Nat.not_lt_zero _)) (fun k IH=>?_) k;intro c hc;cases c with
 |skip=>
  intro rm S r h rd w0 σ0 wr ρ x a w gQ hC hY iT hn hg he;simp only[comp,aR] at h;subst h;simp only[PC.ev,aR] at he;subst he;exact wpIn_skip ⟨ρ,S,rfl,rfl,.refl _ _,hg⟩
 |region id ops draw=>
  intro rm S r h rd w0 σ0 wr ρ x a w gQ hC hY iT hn hg he;simp only[comp,ax] at h;obtain⟨q,hq,rfl⟩:=h;simp only[PC.ev,ax] at he;obtain⟨ρ',hr,rfl⟩:=he;exact hR id ops draw S q hq rd w0 σ0 ρ ρ' a w _ hC hY hn hg hr (fun a' w' qe fC=>⟨ρ',q.1,rfl,rfl,qe.mono (fun t ⟨o,h1,h2⟩=>iT t (tP.2 ⟨o,h1,h2⟩)),fC⟩)
 |seq c1 c2=>
  have uM:=IH c1 (by simp at hc;omega);have mR:=IH c2 (by simp at hc;omega);intro rm S r h rd w0 σ0 wr ρ x a w gQ hC hY iT hn hg he;have fS:∀t,t∈cG c1→wr t:=fun t ht=>iT t (jX _ ht);have fl:∀t,t∈cG c2→wr t:=fun t ht=>iT t (kj _ ht);simp only[comp,ao] at h;obtain⟨q,hq,h⟩:=h;split at h
  ·rename_i kz;cases h;refine wpIn_seq (wpIn_mono (uM rm S _ hq rd w0 σ0 wr ρ x a w gQ hC hY fS hn hg he) fun e a' w' ho=>?_);cases e with
   |normal=>obtain⟨_,_,_,h2,_⟩:=ho;rw[kz] at h2;cases h2
   |_=>exact ho
  ·rename_i S1 kz;simp only[ax] at h;obtain⟨p,hp,rfl⟩:=h;simp only[PC.ev] at he
   have key:∀x1,q.pc.ev Φ N ρ=some x1→(match some x1 with|some (.next ρ')=>p.pc.ev Φ N ρ'|y=>y)=some x→(Code.seq c1 c2).wpIn (FR rd) 0 C.P (hH C w0 σ0 ids fn s rm wr a p.out (q.ex++p.ex) x) a w:=by
      intro x1 h1 h2;refine wpIn_seq (wpIn_mono (uM rm S _ hq rd w0 σ0 wr ρ x1 a w gQ hC hY fS hn hg h1) fun e a' w' ho=>?_);have other:∀{e:Exit},e≠.normal→hH C w0 σ0 ids fn s rm wr a q.out q.ex x1 e a' w'→x1=x→hH C w0 σ0 ids fn s rm wr a p.out (q.ex++p.ex) x e a' w':=by
       intro e ay ho hx;subst hx;exact ho.mono (fun y hy=>jX _ hy) (.refl _ _) (fun e=>absurd e ay)
      cases e with
      |normal=>
       obtain⟨ρ1,S2,e1,e2,eI,db⟩:=ho;subst e1;rw[kz] at e2;cases e2;simp only at h2;refine wpIn_mono (mR rm S1 _ hp rd w0 σ0 wr ρ1 x a' w' gQ hC hY fl (eI.size.trans hn) db h2) fun e a2 w2 iO=>?_;exact iO.mono (fun y hy=>kj _ hy) eI (fun _=>rfl)
      |exit id=>
       refine other (by simp) ho ?_;obtain⟨ρ1,S2,e1,_⟩:=ho;subst e1;simpa using h2
      |ret=>
       refine other (by simp) ho ?_;cases rm with
       |false=>obtain⟨d,e1,_⟩:=ho;subst e1;simpa using h2
       |true=>obtain⟨ρ1,S2,e1,_⟩:=ho;subst e1;simpa using h2
      |_=>exact ho.elim
   cases h1:q.pc.ev Φ N ρ with
   |none=>rw[h1] at he;simp at he
   |some x1=>rw[h1] at he;exact key x1 h1 he
 |cond c c1 c2=>
  have uM:=IH c1 (by simp at hc;omega);have mR:=IH c2 (by simp at hc;omega);intro rm S r h rd w0 σ0 wr ρ x a w gQ hC hY iT hn hg he;have fS:∀t,t∈cG c1→wr t:=fun t ht=>iT t (jX _ ht);have fl:∀t,t∈cG c2→wr t:=fun t ht=>iT t (kj _ ht);simp only[comp] at h;split at h
  case h_2=>cases h;exact absurd he (na _ _ _ _)
  rename_i e hu;simp only[ao,ax] at h;obtain⟨q,hq,p,hp,rfl⟩:=h;have hb:∃b,a.eval c=.bool b∧e.ev ρ=.v (.bool b):=by
   obtain⟨σ,own,hv,hi⟩:=hg;have:=cB (gs:=[]) hi hC rfl hu;generalize a.eval c=v at this;generalize e.ev ρ=d at this;cases this with|bool b=>exact⟨b,rfl,rfl⟩
  obtain⟨b,cu,bn⟩:=hb;have ri:=tZ c1 hq;have C4:=tZ c2 hp;have main:∀(o:Option Snap) (lr lo:List Nat) (rx:Res2),rx=⟨.ite e lr lo q.pc p.pc,o,q.ex++p.ex,Nat.lor q.mr p.mr,jT q.mo p.mo⟩→
        (∀M,o=some M→lr=kH M (Nat.lor q.mr p.mr)∧lo=jO ids M (jT q.mo p.mo))→
        (∀S1 ρ1 a w,q.out=some S1→Good C w0 σ0 (S1.st ids) ρ1 (fun _=>False) a w→∃M,o=some M∧Good C w0 σ0 (M.st ids) ρ1 (fun _=>False) a w)→
        (∀S1 ρ1 a w,p.out=some S1→Good C w0 σ0 (S1.st ids) ρ1 (fun _=>False) a w→∃M,o=some M∧Good C w0 σ0 (M.st ids) ρ1 (fun _=>False) a w)→
        rx.pc.ev Φ N ρ=some x→(Code.cond c c1 c2).wpIn (FR rd) 0 C.P (hH C w0 σ0 ids fn s rm wr a rx.out rx.ex x) a w:=by
   intro o lr lo rx hrx hl rl nE bI;subst hrx;simp only[PC.ev,bn,D.b_bool] at bI;have fin:∀(ci:Code) (qi:Res2) (xi:Out),(∀y,y∈qi.ex→y∈q.ex++p.ex)→(∀t,t∈qi.pc.modR→au (Nat.lor q.mr p.mr) t=true)→(∀j,j∈qi.pc.modO→j∈jT q.mo p.mo)→
    (∀S1 ρ1 a w,qi.out=some S1→Good C w0 σ0 (S1.st ids) ρ1 (fun _=>False) a w→∃M,o=some M∧Good C w0 σ0 (M.st ids) ρ1 (fun _=>False) a w)→
    qi.pc.ev Φ N ρ=some xi→(match some xi with|some (.next ρ')=>some (Out.next (ρ.join lr lo ρ'))|y=>y)=some x→
    ci.wpIn (FR rd) 0 C.P (hH C w0 σ0 ids fn s rm wr a qi.out qi.ex xi) a w→ci.wpIn (FR rd) 0 C.P (hH C w0 σ0 ids fn s rm wr a o (q.ex++p.ex) x) a w:=by
        intro ci qi xi hex jm mL kz dX hx hwp;refine wpIn_mono hwp fun ee a' w' ho=>?_;have other:ee≠.normal→xi=x→hH C w0 σ0 ids fn s rm wr a o (q.ex++p.ex) x ee a' w':=by
         intro ay kC;subst kC;exact ho.mono hex (.refl _ _) (fun e=>absurd e ay)
        cases ee with
        |normal=>
         obtain⟨ρ1,S2,e1,e2,eI,db⟩:=ho;subst e1;simp only[aR] at hx;subst hx;obtain⟨M,hM,sO⟩:=kz S2 ρ1 a' w' e2 db;obtain⟨l1,l2⟩:=hl M hM;subst l1 l2;exact⟨_,M,rfl,hM,eI,sO.joined (PC.ev_but qi.pc ρ _ ρ1 dX rfl) jm mL⟩
        |exit id=>
         refine other (by simp) ?_;obtain⟨ρ1,S2,e1,_⟩:=ho;subst e1;simpa using hx
        |ret=>
         refine other (by simp) ?_;cases rm with
         |false=>obtain⟨d,e1,_⟩:=ho;subst e1;simpa using hx
         |true=>obtain⟨ρ1,S2,e1,_⟩:=ho;subst e1;simpa using hx
        |_=>exact ho.elim
   refine wpIn_cond cu ?_;cases b with
   |true=>
    simp only[cond_true] at bI;cases dX:q.pc.ev Φ N ρ with
    |none=>rw[dX] at bI;simp at bI
    |some xi=>
     rw[dX] at bI;refine fin c1 q xi (fun y hy=>jX _ hy) (fun t ht=>?_) (fun j hj=>ql.2 (.inl (ri.2 j hj))) rl dX bI (uM rm S _ hq rd w0 σ0 wr ρ xi a w gQ hC hY fS hn hg dX);rw[fN,ri.1 t ht];rfl
   |false=>
    simp only[cond_false] at bI;cases dX:p.pc.ev Φ N ρ with
    |none=>rw[dX] at bI;simp at bI
    |some xi=>
     rw[dX] at bI;refine fin c2 p xi (fun y hy=>kj _ hy) (fun t ht=>?_) (fun j hj=>ql.2 (.inr (C4.2 j hj))) nE dX bI (mR rm S _ hp rd w0 σ0 wr ρ xi a w gQ hC hY fl hn hg dX);rw[fN,C4.1 t ht,nY]
  have rl:∀S1 ρ1 a w,q.out=some S1→Good C w0 σ0 (S1.st ids) ρ1 (fun _=>False) a w→∃M,mV q.out p.out=some M∧Good C w0 σ0 (M.st ids) ρ1 (fun _=>False) a w:=by
   intro S1 ρ1 a w e1 g1;rw[e1];obtain⟨M,hM⟩:=@YM S1 p.out;exact⟨M,hM,YK g1 hM⟩
  have nE:∀S1 ρ1 a w,p.out=some S1→Good C w0 σ0 (S1.st ids) ρ1 (fun _=>False) a w→∃M,mV q.out p.out=some M∧Good C w0 σ0 (M.st ids) ρ1 (fun _=>False) a w:=by
   intro S1 ρ1 a w e1 g1;rw[e1];obtain⟨M,hM⟩:=@YN q.out S1;exact⟨M,hM,YL g1 hM⟩
  cases hm:mV q.out p.out with
  |none=>
   rw[hm] at rl nE;simp only[hm] at he ⊢;exact main none [] [] _ rfl (fun M e=>by cases e) rl nE he
  |some M=>
   rw[hm] at rl nE;simp only[hm] at he ⊢;exact main (some M) _ _ _ rfl (fun M' e=>by cases e;exact⟨rfl,rfl⟩) rl nE he
 |block id c1=>
  have uM:=IH c1 (by simp at hc;omega);intro rm S r h rd w0 σ0 wr ρ x a w gQ hC hY iT hn hg he;simp only[comp] at h;cases de:Nat.beq id cZ<;>simp only[de,cond_true,cond_false] at h
  case true=>cases h;exact absurd he (na _ _ _ _)
  have H5:id≠cZ:=fun e=>by subst e;simp at de
  simp only[ax] at h;obtain⟨q,hq,rfl⟩:=h;obtain⟨xi,dX⟩:=UM he;exact wpIn_block (wpIn_mono (uM rm S _ hq rd w0 σ0 wr ρ xi a w gQ hC hY iT hn hg dX) fun e a' w' gg=>UO H5 (tZ c1 hq) dX he gg)
 |loop c1=>
  have uM:=IH c1 (by simp at hc;omega);intro rm S r h rd w0 σ0 wr ρ x a w gQ hC hY iT hn hg he;rw[Vf] at h;split at h
  ·rename_i qb Dj;obtain⟨p,code,ws⟩:=qb;unfold xe at Dj;split at Dj
   case h_2=>cases Dj
   rename_i cx cy ck cz cc;simp only[ax] at Dj;obtain⟨p',aT,ep⟩:=Dj;cases ep;exact al3 aT (IH _ (by simp at hc;omega)) h gQ hC hY iT hn hg he
  split at h
  case h_2=>cases h;exact absurd he (na _ _ _ _)
  rename_i q hq;cases h;obtain⟨hs,zE,bo⟩:=DI (C:=C) (w0:=w0) (σ0:=σ0) (ids:=ids) 8 hq;have ri:=tZ c1 hs;simp only[PC.ev] at he
  have hg0:Good C w0 σ0 (q.1.st ids) (ρ.put (kH q.1 q.2.mr) ((kH q.1 q.2.mr).map ρ.r) (jO ids q.1 q.2.mo) ((jO ids q.1 q.2.mo).map ρ.o)) (fun _=>False) a w:=by
   exact Good.joined (bo hg) (.refl ρ q.2.pc.modR q.2.pc.modO) ri.1 ri.2
  have key:∀(k:Nat) (ρ1:Env) (a':Act) (w:World),SameBut wr a a'→iU (q.2.pc.ev Φ N) ρ (kH q.1 q.2.mr) (jO ids q.1 q.2.mo) k ((kH q.1 q.2.mr).map ρ1.r) ((jO ids q.1 q.2.mo).map ρ1.o)=some x→
        Good C w0 σ0 (q.1.st ids) (ρ.join (kH q.1 q.2.mr) (jO ids q.1 q.2.mo) ρ1) (fun _=>False) a' w→Code.roundsIn (FR rd) 0 C.P c1 (hH C w0 σ0 ids fn s rm wr a none q.2.ex x) k a' w:=by
   intro k
   induction k with
   |zero=>intro ρ1 a' w hn hl hg;simp[iU] at hl
   |succ k ih=>
    intro ρ1 a' w jM hl hg;rw[roundsIn_succ];simp only[iU] at hl;change (match q.2.pc.ev Φ N (ρ.join (kH q.1 q.2.mr) (jO ids q.1 q.2.mo) ρ1) with|some (.next ρ')=>_|y=>y)=some x at hl;cases dX:q.2.pc.ev Φ N (ρ.join (kH q.1 q.2.mr) (jO ids q.1 q.2.mo) ρ1) with
    |none=>rw[dX] at hl;simp at hl
    |some xi=>
     rw[dX] at hl;refine wpIn_mono (uM rm _ _ hs rd w0 σ0 wr _ xi a' w gQ hC hY iT (jM.size.trans hn) hg dX) fun e a2 w' gg=>?_;have other:e≠.normal→xi=x→hH C w0 σ0 ids fn s rm wr a none q.2.ex x e a2 w':=by
         intro ay kC;subst kC;exact gg.mono (fun y hy=>hy) jM (fun e=>absurd e ay)
     cases e with
     |normal=>
      obtain⟨ρ2,S2,e1,e2,eI,db⟩:=gg;subst e1;simp only at hl;refine ih ρ2 a2 w' (jM.trans eI) hl ?_
      have sO:Good C w0 σ0 (q.1.st ids) ρ2 (fun _=>False) a2 w':=by
       have:=db.meet2 (x:=q.1)
       rwa [zE S2 e2] at this
      refine sO.joined (mr':=kH q.1 q.2.mr++q.2.pc.modR) (mo':=jO ids q.1 q.2.mo++q.2.pc.modO) ?_ (fun t ht=>?_) (fun j hj=>?_)
      ·exact((Env.but.join ρ ρ1 _ _).mono (fun t ht=>jX _ ht) (fun t ht=>jX _ ht)).trans
        ((PC.ev_but q.2.pc _ _ ρ2 dX rfl).mono (fun t ht=>kj _ ht) (fun t ht=>kj _ ht))
      ·exact(cR.1 ht).elim I3 (ri.1 t)
      ·exact(cR.1 hj).elim Ab (ri.2 j)
     |exit id=>
      refine other (by simp) ?_;obtain⟨ρ1,S2,e1,_⟩:=gg;subst e1;simpa using hl
     |ret=>
      refine other (by simp) ?_;cases rm with
      |false=>obtain⟨d,e1,_⟩:=gg;subst e1;simpa using hl
      |true=>obtain⟨ρ1,S2,e1,_⟩:=gg;subst e1;simpa using hl
     |_=>exact gg.elim
  exact wpIn_loop_rounds N (key N ρ a w (.refl _ _) he hg0)
 |exit id=>
  intro rm S r h rd w0 σ0 wr ρ x a w gQ hC hY iT hn hg he;simp only[comp] at h;cases de:Nat.beq id cZ<;>simp only[de,cond_true,cond_false] at h
  case true=>cases h;exact absurd he (na _ _ _ _)
  cases h;simp only[PC.ev,aR] at he;subst he;exact wpIn_exit ⟨ρ,S,rfl,fun e=>by subst e;simp at de,by simp,.refl _ _,hg⟩
 |ret=>
  intro rm S r h rd w0 σ0 wr ρ x a w gQ hC hY iT hn hg he;simp only[comp] at h;cases rm<;>simp only[cond_true,cond_false] at h
  case true=>
   cases h;simp only[PC.ev,aR] at he;subst he;exact wpIn_ret ⟨ρ,S,rfl,by simp,.refl _ _,hg⟩
  split at h
  ·rename_i e Dl;cases h;simp only[PC.ev,aR] at he;subst he;obtain⟨σ,own,hv,hi⟩:=hg;exact wpIn_ret ⟨_,rfl,Inv.retD hC (fun _=>rfl) (gQ rfl).2 Dl _ hi rfl,.refl _ _⟩
  ·cases h;exact absurd he (na _ _ _ _)
 |rangeFunc g ps ca cb=>exact an7 je (IH ca (by simp at hc;omega)) (IH cb (by simp at hc;omega))
 |_=>intro rm S r h rd w0 σ0 wr ρ x a w gQ hC hY iT hn hg he;simp only[comp,aR] at h;subst h;exact absurd he (na _ _ _ _)
theorem aeP {N:Nat}(je:ki C Φ)(hR:La C n ids Φ R)(c:Code):vR C Φ fn s n ids R N c:=aeQ je hR _ c (Nat.lt_succ_self _)
end
end Cx
