/-
  Code: sequences, choices, blocks, loops.
-/
import Derived.LoopNIn
import Derived.Test.YtipjidjopglknaaGreatDoorNAE
import Derived.LoopN
set_option linter.unusedSimpArgs false
set_option linter.unusedVariables false
namespace Cx
open Go Go.RowKit
def au (m t:Nat):Bool:= !Nat.beq (Nat.land 1 (Nat.shiftRight m t)) 0
theorem sD (m t:Nat):au m t=m.testBit t:=by
 unfold au Nat.testBit;show(!Nat.beq (1&&& (m>>>t)) 0)=((1&&& (m>>>t))!=0)
 generalize 1&&& (m>>>t)=x;cases x<;>rfl
def dK (t:Nat):Nat:=Nat.shiftLeft 1 t
theorem qT (t:Nat):au (dK t) t=true:=by
 rw[sD];show(1<<<t).testBit t=true;simp[Nat.testBit_shiftLeft]
theorem fp (m k t:Nat):au (Nat.lor m k) t=(au m t||au k t):=by
 simp only[sD];exact Nat.testBit_or m k t
def PI.mask:PI→Nat
 |.setR t _=>dK t|.call _ t _ _=>dK t|.callc _ t _ _=>dK t|_=>0
def JH:List PI→Nat
 |[]=>0
 |p::l=>Nat.lor p.mask (JH l)
def PI.objs:PI→List Nat
 |.setO j _=>[j]|.mcall j _ _=>[j]|_=>[]
def fe (l:List Nat)(x:Nat):Bool:=l.any (Nat.beq x)
def jJ (a b:List Nat):List Nat:=a.foldl (fun acc x=>bif fe acc x then acc else x::acc) b
def aaN (l:List PI):List Nat:=l.foldl (fun acc p=>jJ p.objs acc) []
theorem ql (l:List Nat)(x:Nat):fe l x=true↔x∈l:=by
 unfold fe;rw[vM];constructor
 ·rintro⟨y,hy,h⟩;rw[ay h];exact hy
 ·intro h;exact⟨x,h,gR x⟩
theorem qm {x:Nat}:∀{a b:List Nat},x∈jJ a b↔x∈a∨x∈b
 |[],b=>by simp[jJ]
 |y::a,b=>by
  have ih:=@qm x a (bif fe b y then b else y::b);have e:jJ (y::a) b=jJ a (bif fe b y then b else y::b):=rfl;rw[e,ih];cases hb:fe b y
  ·simp[or_assoc,or_left_comm]
  ·have:=(ql b y).1 hb;simp only[cond_true,cT];constructor
   ·rintro(h|h)
    ·exact .inl (.inr h)
    ·exact .inr h
   ·rintro((h|h)|h)
    ·subst h;exact .inr this
    ·exact .inl h
    ·exact .inr h
theorem apk {x:Nat}(l:List PI)(h:x∈l.flatMap PI.modO):x∈aaN l:=by
 have key:∀(l:List PI) (acc:List Nat),(x∈l.flatMap PI.modO∨x∈acc)→x∈l.foldl (fun acc p=>jJ p.objs acc) acc:=by
  intro l
  induction l with
  |nil=>intro acc h;simpa using h
  |cons p l ih=>
   intro acc h;refine ih _ ?_;rw[vO,dJ] at h;rcases h with(h|h)|h
   ·refine .inr (qm.2 (.inl ?_));cases p<;>simp_all [PI.modO,PI.objs]
   ·exact .inl h
   ·exact .inr (qm.2 (.inr h))
 exact key l [] (.inl h)
theorem aam {t:Nat}:∀(l:List PI),t∈l.flatMap PI.modR→au (JH l) t=true
 |[],h=>by simp at h
 |p::l,h=>by
  rw[vO,dJ] at h;simp only[JH,fp,gg];rcases h with h|h
  ·left;cases p<;>simp[PI.modR] at h<;>subst h<;>exact qT _
  ·exact .inr (aam l h)
structure Res2 where
 pc:PC
 out:Option Snap
 ex:List (Nat×Snap)
 mr:Nat
 mo:List Nat
 deriving Inhabited
def mD:Option Snap→Option Snap→Option Snap
 |none,x=>x
 |x,none=>x
 |some a,some b=>some (a.meet b)
def oJ (id:Nat):List (Nat×Snap)→Option Snap→Option Snap
 |[],acc=>acc
 |x::l,acc=>oJ id l (bif Nat.beq x.1 id then mD acc (some x.2) else acc)
def iter (step:Snap→Option Res2):Nat→Snap→Option (Snap×Res2)
 |0,_=>none
 |k+1,S=>(step S).bind fun r=>
  match r.out with
  |none=>some (S,r)
  |some T=>bif (S.meet T).beq S then some (S,r) else iter step k (S.meet T)
def kz (S:Snap)(m:Nat):List Nat:=(List.range S.rs.length).filter fun t=>au m t&& !isNone (cB (S.rs.getD t .none))
def jE (ids:List Nat)(S:Snap)(l:List Nat):List Nat:=l.filter fun j=> !oF (dw ids S.os j)
def gP:Res2:=⟨.is [Gs],none,[],0,[]⟩
theorem mM (Φ:aL)(N:Nat)(ρ:Env)(x:Out):gP.pc.ev Φ N ρ≠some x:=by
 intro h;simp[gP,PC.ev,PI.runs,PI.run,Gs,PE.ev,D.b_bool] at h
theorem mN:(∀t,t∈gP.pc.modR→au gP.mr t=true)∧∀j,j∈gP.pc.modO→j∈gP.mo:=by
 constructor<;>intro t h<;>simp[gP,PC.modR,PC.modO,PI.modR,PI.modO,Gs] at h
def cu:Code→List Nat
 |.region _ ops _=>ops.toList.filterMap (·.dst)
 |.seq a b=>cu a++cu b
 |.cond _ a b=>cu a++cu b
 |.block _ a=>cu a
 |.loop a=>cu a
 |_=>[]
def xr (l:List Nat):Nat:=l.foldr (fun t m=>Nat.lor (dK t) m) 0
def tl (m:Nat):Nat→List Sh→List Sh
 |_,[]=>[]
 |t,s::l=>(bif au m t then .none else s)::tl m (t+1) l
def Snap.mask (m:Nat)(S:Snap):Snap:=⟨tl m 0 S.rs,S.os⟩
def sT:Sh→Sh
 |.yv=>.none
 |s=>s
def rU:List Nat→List Ty→List Sh→List Sh
 |p::ps,y::ys,l=>rU ps ys (l.set p (.dat y))
 |_,_,l=>l
def Snap.start (ps:List Nat)(ys:List Ty)(S:Snap):Snap:=⟨rU ps ys (S.rs.map sT),S.os⟩
def aae (ids:List Nat)(l:List Snap)(mo:List Nat):List Nat:=mo.filter fun j=>l.any fun S=> !oF (dw ids S.os j)
def arW (wm:Nat)(ra rb:Res2):Res2:=
 let m:=Nat.lor wm (Nat.lor ra.mr rb.mr)
 ⟨.seq ra.pc rb.pc,rb.out.map (Snap.mask m),rb.ex.map (fun x=>(x.1,x.2.mask m)),m,jJ ra.mo rb.mo⟩
def gG (ids:List Nat)(id:Nat)(r:Res2):Res2:=
    match oJ id r.ex r.out with
    |some M=>⟨.block id (kz M r.mr) (jE ids M r.mo) r.pc,some M,r.ex.filter fun x=> !Nat.beq x.1 id,r.mr,r.mo⟩
    |none=>⟨.block id [] [] r.pc,none,r.ex.filter fun x=> !Nat.beq x.1 id,r.mr,r.mo⟩
def uW:List (Nat×Nat)→Nat→Option Nat
 |[],_=>none
 |x::l,t=>bif Nat.beq x.1 t then some x.2 else uW l t
def ld (pr:Nat):List Oper→List (Nat×Nat)→Option (List (Nat×Nat))
 |[],acc=>some acc
 |o::l,acc=>
  match o.dst,o.guard with
  |some d,none=>
   bif Nat.beq d pr||(uW acc d).isSome then none else
   match o.op with
   |.extract (.tmp t) i=>bif Nat.beq t pr&&Nat.ble i 1 then ld pr l (acc++[(d,i)]) else none
   |.assign (.tmp t)=>(uW acc t).bind fun i=>ld pr l (acc++[(d,i)])
   |.move (.tmp t)=>(uW acc t).bind fun i=>ld pr l (acc++[(d,i)])
   |_=>none
  |_,_=>none
structure MP where
 it:Nat
 nx:Nat
 mo:Nat
 out:Nat
 next:Nat
 pr:Nat
 ops1:Array Oper
 ops2:Array Oper
 aa:List (Nat×Nat)
 deriving Inhabited
def AK (x y:Code)(k:Nat)(z:Code):Option MP:=
 match x,y,z with
 |.region _ ops1 false,.cond (.tmp mo) .skip (.exit out),.region _ ops2 false=>
  match ops1.toList,ops2.toList with
  |[o1,o2],o3::l=>
   match o1.dst,o1.guard,o1.op,o2.dst,o2.guard,o2.op,o3.dst,o3.guard,o3.op with
   |some nx,none,.next (.tmp it) false,some mo',none,.extract (.tmp nx') 0,some pr,none,.entry (.tmp ZR)=>
    bif Nat.beq mo mo'&&Nat.beq nx nx'&&Nat.beq it ZR&& !Nat.beq it nx&& !Nat.beq it mo&& !Nat.beq it pr&& !Nat.beq nx mo&& !Nat.beq out cO&& !Nat.beq k cO then
     (ld pr l []).map fun aa=>⟨it,nx,mo,out,k,pr,ops1,ops2,aa⟩
    else none
   |_,_,_,_,_,_,_,_,_=>none
  |_,_=>none
 |_,_,_=>none
def xh:List Nat→Nat→List Ob→List Ob
 |i::is,J,o::os=>(bif Nat.beq i J then .dead else o)::xh is J os
 |_,_,os=>os
def Snap.kill (ids:List Nat)(J:Nat)(S:Snap):Snap:=⟨S.rs,xh ids J S.os⟩
def ZN (J:Nat)(kt et:Ty)(ids:List Nat)(p:MP)(m:Nat)(S:Snap):Bool:=
 Sh.beq (S.rs.getD p.it .none) (.obj J 0)&&Ob.beq (dw ids S.os J) (.it kt et)&& !au m p.it
def AL (ids:List Nat)(n:Nat)(p:MP)(ws:List Nat)(f:Snap→Option Res2)(S:Snap):Option Res2:=
 match cB (S.rs.getD p.it .none) with
 |.obj J 0=>
  match dw ids S.os J with
  |.it kt et=>
   let ps:=p.aa.map (·.1)
   let ys:=p.aa.map fun x=>bif Nat.beq x.2 0 then kt else et
   let m:=xr ws
   match iter (fun S=>(f ((S.mask m).start ps ys)).map (gG ids p.next)) 8 S with
   |some r=>
    bif r.2.ex.isEmpty&& !fe r.2.mo J&&ZN J kt et ids p m r.1&&gM ps&&ps.all (fun t=>Nat.blt t n)&&Nat.blt p.nx n&&Nat.blt p.mo n&&Nat.blt p.pr n&&Nat.beq (Nat.lor m r.2.mr) m then
       some ⟨.seq (.meach J ps (p.aa.map (·.2)) (jE ids r.1 r.2.mo) r.2.pc) (.exit p.out),none,[(p.out,(r.1.mask m).kill ids J)],0,r.2.mo⟩
    else some gP
   |none=>some gP
  |_=>some gP
 |_=>some gP
def comp (C:Ctx)(fn:Func)(s:Sig)(n:Nat)(ids:List Nat)(R:Array Oper→Bool→Snap→Option (Snap×List PI)):Bool→Code→Snap→Option Res2
 |_,.skip,S=>some ⟨.skip,some S,[],0,[]⟩
 |_,.region _ ops draw,S=>(R ops draw S).map fun r=>⟨.is r.2,some r.1,[],JH r.2,aaN r.2⟩
 |rm,.seq a b,S=>(comp C fn s n ids R rm a S).bind fun r=>
  match r.out with
  |none=>some r
  |some S1=>(comp C fn s n ids R rm b S1).map fun q=>⟨.seq r.pc q.pc,q.out,r.ex++q.ex,Nat.lor r.mr q.mr,jJ r.mo q.mo⟩
 |rm,.cond c a b,S=>
  match use C (S.st ids) [] c with
  |some (.bool,e)=>
   (comp C fn s n ids R rm a S).bind fun r=>(comp C fn s n ids R rm b S).map fun q=>
     match mD r.out q.out with
     |some M=>⟨.ite e (kz M (Nat.lor r.mr q.mr)) (jE ids M (jJ r.mo q.mo)) r.pc q.pc,some M,r.ex++q.ex,Nat.lor r.mr q.mr,jJ r.mo q.mo⟩
     |none=>⟨.ite e [] [] r.pc q.pc,none,r.ex++q.ex,Nat.lor r.mr q.mr,jJ r.mo q.mo⟩
  |_=>some gP
 |rm,.block id a,S=>bif Nat.beq id cO then some gP else(comp C fn s n ids R rm a S).map (gG ids id)
 |rm,.loop (.seq x (.seq y (.block k (.seq z code)))),S=>
  (match AK x y k z with
  |some p=>AL ids n p (cu x++(cu y++(cu z++cu code))) (fun S=>comp C fn s n ids R rm code S) S
  |none=>
  match iter (fun S=>comp C fn s n ids R rm (.seq x (.seq y (.block k (.seq z code)))) S) 8 S with
  |some r=>some ⟨.loop (kz r.1 r.2.mr) (jE ids r.1 r.2.mo) r.2.pc,none,r.2.ex,r.2.mr,r.2.mo⟩
  |none=>some gP)
 |rm,.loop a,S=>
  match iter (fun S=>comp C fn s n ids R rm a S) 8 S with
  |some r=>some ⟨.loop (kz r.1 r.2.mr) (jE ids r.1 r.2.mo) r.2.pc,none,r.2.ex,r.2.mr,r.2.mo⟩
  |none=>some gP
 |_,.exit id,S=>bif Nat.beq id cO then some gP else some ⟨.exit id,none,[(id,S)],0,[]⟩
 |rm,.ret,S=>
  bif rm then some ⟨.exit cO,none,[(cO,S)],0,[]⟩ else
  match xZ C fn s (S.st ids) with
  |some e=>some ⟨.ret e,none,[],0,[]⟩
  |none=>some gP
 |rm,.rangeFunc g ps a b,S=>
  match rm,C.yl,use C (S.st ids) [] g with
  |false,none,some (.fn aa r,e)=>
   match jY aa r with
   |some ys=>
    match iter (fun S=>(comp C fn s n ids R true a (S.start ps.toList ys)).bind fun ra=>
          match ra.out,ra.ex with
          |some S1,[]=>(comp C fn s n ids R true b S1).map (arW (xr (ps.toList++cu a++cu b)) ra)
          |_,_=>none) 8 S with
    |some r=>
     bif Nat.beq ys.length ps.size&&gM ps.toList&&ps.toList.all (fun p=>Nat.blt p n)&&Nat.ble r.1.rs.length n then
           some ⟨.seq (.is [.callc [] n e []]) (.each (.r n) ps.toList (aae ids (r.1::r.2.ex.map (·.2)) r.2.mo) ((oJ cO r.2.ex none).bind fun M=>xZ C fn s (M.st ids)) r.2.pc),
            some r.1,r.2.ex.filter (fun x=> !Nat.beq x.1 cO),dK n,r.2.mo⟩
     else some gP
    |none=>some gP
   |none=>some gP
  |_,_,_=>some gP
 |_,_,_=>some gP
termination_by structural _ c=>c
def xp:Code→Option (MP×Code×List Nat)
 |.seq x (.seq y (.block k (.seq z code)))=>(AK x y k z).map fun p=>(p,code,cu x++(cu y++(cu z++cu code)))
 |_=>none
theorem WW (C:Ctx)(fn:Func)(s:Sig)(n:Nat)(ids:List Nat)(R:Array Oper→Bool→Snap→Option (Snap×List PI))(rm:Bool)(a:Code)(S:Snap):comp C fn s n ids R rm (.loop a) S=
 match xp a with
 |some q=>AL ids n q.1 q.2.2 (fun S=>comp C fn s n ids R rm q.2.1 S) S
 |none=>
  match iter (fun S=>comp C fn s n ids R rm a S) 8 S with
  |some r=>some ⟨.loop (kz r.1 r.2.mr) (jE ids r.1 r.2.mo) r.2.pc,none,r.2.ex,r.2.mr,r.2.mo⟩
  |none=>some gP:=by
 by_cases h:∃x y k z code,a=.seq x (.seq y (.block k (.seq z code)))
 ·obtain⟨x,y,k,z,code,rfl⟩:=h
  conv=>lhs;unfold comp
  simp only[xp];cases AK x y k z<;>rfl
 ·have e:xp a=none:=by
   unfold xp;split
   ·rename_i x y k z code;exact absurd ⟨x,y,k,z,code,rfl⟩ h
   ·rfl
  rw[e];rw[comp];intro x y k z code e;exact h ⟨x,y,k,z,code,e⟩
def subs:Code→List Code
 |.seq a b=>.seq a b::(subs a++subs b)
 |.cond c a b=>.cond c a b::(subs a++subs b)
 |.block i a=>.block i a::subs a
 |.loop a=>.loop a::subs a
 |.rangeFunc g ps a b=>.rangeFunc g ps a b::(subs a++subs b)
 |c=>[c]
theorem asv (c:Code):c∈subs c:=by cases c<;>simp[subs]
theorem aAF {a code:Code}{p:MP}{ws:List Nat}(h:xp a=some (p,code,ws)):code∈subs a:=by
 unfold xp at h;split at h
 ·simp only[az] at h;obtain⟨q,_,e⟩:=h;cases e;simp[subs,asv]
 ·cases h
def L8 (C:Ctx)(n:Nat)(ids:List Nat)(Φ:aL)(R:Array Oper→Bool→Snap→Option (Snap×List PI)):Prop:=
 ∀(id:Nat) (ops:Array Oper) (draw:Bool) (S:Snap) (r:Snap×List PI),R ops draw S=some r→
  ∀(rd:Option Nat) (w0:World) (σ0:Base) (ρ ρ':Env) (a:Act) (w:World) (Q:Exit→Act→World→Prop),CtxOK C σ0→pB C Φ w0 σ0→a.tmps.size=n→Good C w0 σ0 (S.st ids) ρ (fun _=>False) a w→PI.runs Φ r.2 ρ=some ρ'→
   (∀a' w',SameBut (qW ops) a a'→Good C w0 σ0 (r.1.st ids) ρ' (fun _=>False) a' w'→Q .normal a' w')→(Code.region id ops draw).wpIn (FR rd) 0 C.P Q a w
section
variable {C:Ctx} {ρ ρ':Env} {σ:Im} {own:Nat→Option Nat} {hv:Nat→Value} {w0:World} {σ0:Base} {A:Nat→Prop} {a:Act} {w:World} {Φ:aL} {n:Nat} {ids:List Nat} {fn:Func} {s:Sig}
 {R:Array Oper→Bool→Snap→Option (Snap×List PI)}
def gT (C:Ctx)(w0:World)(σ0:Base)(ids:List Nat)(fn:Func)(s:Sig)(rm:Bool)(wr:Nat→Prop)(a0:Act)(out:Option Snap)(ex:List (Nat×Snap))(x:Out):Exit→Act→World→Prop
 |.normal,a,w=>∃ρ S,x=.next ρ∧out=some S∧SameBut wr a0 a∧Good C w0 σ0 (S.st ids) ρ (fun _=>False) a w
 |.exit id,a,w=>∃ρ S,x=.exit id ρ∧id≠cO∧(id,S)∈ex∧SameBut wr a0 a∧Good C w0 σ0 (S.st ids) ρ (fun _=>False) a w
 |.ret,a,w=>match rm with
  |false=>∃d,x=.ret d∧qL C w0 σ0 fn s d a.tmps a.defers w∧SameBut wr a0 a
  |true=>∃ρ S,x=.exit cO ρ∧(cO,S)∈ex∧SameBut wr a0 a∧Good C w0 σ0 (S.st ids) ρ (fun _=>False) a w
 |_,_,_=>False
theorem Good.meet1 {x y:Snap}(h:Good C w0 σ0 (x.st ids) ρ A a w):Good C w0 σ0 ((x.meet y).st ids) ρ (fun _=>False) a w:=by
 obtain⟨σ,own,hv,h⟩:=h;exact⟨σ,own,hv,Snap.meet_ok1 h⟩
theorem Good.meet2 {x y:Snap}(h:Good C w0 σ0 (y.st ids) ρ A a w):Good C w0 σ0 ((x.meet y).st ids) ρ (fun _=>False) a w:=by
 obtain⟨σ,own,hv,h⟩:=h;exact⟨σ,own,hv,Snap.meet_ok2 h⟩
theorem aat {x:Snap}{y:Option Snap}{M:Snap}(h:Good C w0 σ0 (x.st ids) ρ (fun _=>False) a w)(hm:mD (some x) y=some M):Good C w0 σ0 (M.st ids) ρ (fun _=>False) a w:=by
 cases y<;>simp[mD] at hm<;>subst hm
 ·exact h
 ·exact h.meet1
theorem aau {x:Option Snap}{y:Snap}{M:Snap}(h:Good C w0 σ0 (y.st ids) ρ (fun _=>False) a w)(hm:mD x (some y)=some M):Good C w0 σ0 (M.st ids) ρ (fun _=>False) a w:=by
 cases x<;>simp[mD] at hm<;>subst hm
 ·exact h
 ·exact h.meet2
theorem aav {x:Snap}{y:Option Snap}:∃M,mD (some x) y=some M:=by cases y<;>simp[mD]
theorem aaw {x:Option Snap}{y:Snap}:∃M,mD x (some y)=some M:=by cases x<;>simp[mD]
theorem JJ {id:Nat}:∀(l:List (Nat×Snap)) {x:Snap},Good C w0 σ0 (x.st ids) ρ (fun _=>False) a w→∃M,oJ id l (some x)=some M∧Good C w0 σ0 (M.st ids) ρ (fun _=>False) a w
 |[],x,h=>⟨x,rfl,h⟩
 |y::l,x,h=>by
  simp only[oJ];cases Nat.beq y.1 id
  ·exact JJ l h
  ·obtain⟨M,hM⟩:=@aav x (some y.2);simp only[cond_true,hM];exact JJ l (aat h hM)
theorem PZ {id:Nat}{S:Snap}(h:Good C w0 σ0 (S.st ids) ρ (fun _=>False) a w):∀(l:List (Nat×Snap)) (x:Option Snap),(id,S)∈l→∃M,oJ id l x=some M∧Good C w0 σ0 (M.st ids) ρ (fun _=>False) a w
 |y::l,x,hm=>by
  simp only[oJ];rcases cT.1 hm with e|hm
  ·subst e;simp only[gR,cond_true];obtain⟨M,hM⟩:=@aaw x S;rw[hM];exact JJ l (aau h hM)
  ·exact PZ h l _ hm
theorem EA {step:Snap→Option Res2}:∀(k:Nat) {S:Snap} {r:Snap×Res2},iter step k S=some r→
 step r.1=some r.2∧(∀T,r.2.out=some T→r.1.meet T=r.1)∧∀{ρ:Env} {a:Act} {w:World},Good C w0 σ0 (S.st ids) ρ (fun _=>False) a w→Good C w0 σ0 (r.1.st ids) ρ (fun _=>False) a w
 |0,S,r,h=>by simp[iter] at h
 |k+1,S,r,h=>by
  simp only[iter,aq] at h;obtain⟨q,hq,h⟩:=h;split at h
  ·rename_i ho;cases h;exact⟨hq,fun T hT=>by simp[ho] at hT,fun g=>g⟩
  ·rename_i T ho;cases hb:(S.meet T).beq S<;>simp only[hb,cond_true,cond_false] at h
   ·obtain⟨h1,h2,h3⟩:=EA k h;exact⟨h1,h2,fun g=>h3 g.meet1⟩
   ·cases h;refine⟨hq,fun T' hT=>?_,fun g=>g⟩;simp only[ho,aS] at hT;subst hT;exact Snap.beq_eq _ _ hb
theorem ZS {step:Snap→Option Res2}{hv:Nat→Value}:∀(k:Nat) {S:Snap} {r:Snap×Res2},iter step k S=some r→Inv C (S.st ids) ρ σ own hv w0 σ0 (fun _=>False) a w→Inv C (r.1.st ids) ρ σ own hv w0 σ0 (fun _=>False) a w
 |0,S,r,h,_=>by simp[iter] at h
 |k+1,S,r,h,i=>by
  simp only[iter,aq] at h;obtain⟨q,hq,h⟩:=h;split at h
  ·cases h;exact i
  ·rename_i T ho;cases hb:(S.meet T).beq S<;>simp only[hb,cond_true,cond_false] at h
   ·exact ZS k h (Snap.meet_ok1 i)
   ·cases h;exact i
theorem Good.joined {M:Snap}{m:Nat}{mo mr' mo':List Nat}(h:Good C w0 σ0 (M.st ids) ρ' (fun _=>False) a w)(hb:ρ.but ρ' mr' mo')(h1:∀t,t∈mr'→au m t=true)(h2:∀j,j∈mo'→j∈mo):
 Good C w0 σ0 (M.st ids) (ρ.join (kz M m) (jE ids M mo) ρ') (fun _=>False) a w:=by
 obtain⟨σ,own,hv,h⟩:=h;refine⟨σ,own,hv,h.env (Snap.noOpt _ _) (fun t ht=>?_) (fun j hj=>?_)⟩
 ·simp only[Env.join,Env.put,tB];split
  ·rfl
  ·rename_i hm;refine(hb.r t fun D6=>hm ?_).symm;have af:t<M.rs.length:=by
        refine VX fun hle=>?_;simp only[Snap.st,aJ,sn hle,Option.getD_none,cB,isNone] at ht;cases ht
   exact dX.2 ⟨bZ.2 af,by rw[h1 t D6];simpa [Snap.st] using ht⟩
 ·simp only[Env.join,Env.put,tB];split
  ·rfl
  ·rename_i hm;refine(hb.o j fun D6=>hm ?_).symm;exact dX.2 ⟨h2 j D6,by simpa [Snap.st] using hj⟩
theorem JK {S:Snap}{m t:Nat}(h:t∈kz S m):au m t=true:=by
 have:=(dX.1 h).2;simp only[ao] at this;exact this.1
theorem AM {S:Snap}{l:List Nat}{j:Nat}(h:j∈jE ids S l):j∈l:=(dX.1 h).1
theorem Wx {id:Nat}{q:Res2}(h:(∀t,t∈q.pc.modR→au q.mr t=true)∧∀j,j∈q.pc.modO→j∈q.mo):(∀t,t∈(gG ids id q).pc.modR→au (gG ids id q).mr t=true)∧∀j,j∈(gG ids id q).pc.modO→j∈(gG ids id q).mo:=by
 unfold gG;cases hm:oJ id q.ex q.out<;>simp only
 ·simpa [PC.modR,PC.modO] using h
 ·refine⟨fun t ht=>?_,fun j hj=>?_⟩
  ·simp only[PC.modR,dJ] at ht;exact ht.elim JK (h.1 t)
  ·simp only[PC.modO,dJ] at hj;exact hj.elim AM (h.2 j)
theorem apd {p:MP}{ws:List Nat}{f:Snap→Option Res2}{S:Snap}{r:Res2}(h:AL ids n p ws f S=some r):(∀t,t∈r.pc.modR→au r.mr t=true)∧∀j,j∈r.pc.modO→j∈r.mo:=by
 unfold AL at h;split at h
 case h_2=>cases h;exact mN
 split at h
 case h_2=>cases h;exact mN
 simp only at h;split at h
 case h_2=>cases h;exact mN
 rw[pq] at h;split at h
 ·cases h;refine⟨fun t ht=>by simp[PC.modR] at ht,fun j hj=>?_⟩;simp only[PC.modO,lz] at hj;exact AM hj
 ·cases h;exact mN
theorem uj:∀(c:Code) {rm:Bool} {S:Snap} {r:Res2},comp C fn s n ids R rm c S=some r→(∀t,t∈r.pc.modR→au r.mr t=true)∧∀j,j∈r.pc.modO→j∈r.mo:=by
 intro c
 induction c with
 |skip=>intro rm S r h;simp only[comp,aS] at h;subst h;simp[PC.modR,PC.modO]
 |region id ops draw=>
  intro rm S r h;simp only[comp,az] at h;obtain⟨q,_,rfl⟩:=h;exact⟨fun t ht=>aam _ ht,fun j hj=>apk _ hj⟩
 |seq x y jD xe=>
  intro rm S r h;simp only[comp,aq] at h;obtain⟨q,hq,h⟩:=h;split at h
  ·cases h;exact jD hq
  ·simp only[az] at h;obtain⟨p,hp,rfl⟩:=h;refine⟨fun t ht=>?_,fun j hj=>?_⟩
   ·simp only[PC.modR,dJ] at ht;rw[fp,gg];exact ht.imp ((jD hq).1 t) ((xe hp).1 t)
   ·simp only[PC.modO,dJ] at hj;rw[qm];exact hj.imp ((jD hq).2 j) ((xe hp).2 j)
 |cond c x y jD xe=>
  intro rm S r h;simp only[comp] at h;split at h
  case h_2=>cases h;exact mN
  rename_i e _;simp only[aq,az] at h;obtain⟨q,hq,p,hp,rfl⟩:=h;cases hm:mD q.out p.out<;>simp only[hm]
  ·refine⟨fun t ht=>?_,fun j hj=>?_⟩
   ·simp only[PC.modR,dJ,tZ] at ht;rw[fp,gg];exact ht.imp ((jD hq).1 t) ((xe hp).1 t)
   ·simp only[PC.modO,dJ,tZ] at hj;rw[qm];exact hj.imp ((jD hq).2 j) ((xe hp).2 j)
  ·refine⟨fun t ht=>?_,fun j hj=>?_⟩
   ·simp only[PC.modR,dJ] at ht;rw[fp,gg];rcases ht with(ht|ht)|ht
    ·have:=JK ht;rw[fp,gg] at this;exact this
    ·exact .inl ((jD hq).1 t ht)
    ·exact .inr ((xe hp).1 t ht)
   ·simp only[PC.modO,dJ] at hj;rcases hj with(hj|hj)|hj
    ·exact AM hj
    ·exact qm.2 (.inl ((jD hq).2 j hj))
    ·exact qm.2 (.inr ((xe hp).2 j hj))
 |block id x jD=>
  intro rm S r h;simp only[comp] at h;cases cE:Nat.beq id cO<;>simp only[cE,cond_true,cond_false] at h
  case true=>cases h;exact mN
  simp only[az] at h;obtain⟨q,hq,rfl⟩:=h;exact Wx (jD hq)
 |loop x jD=>
  intro rm S r h;rw[WW] at h;split at h
  ·exact apd h
  split at h
  case h_2=>cases h;exact mN
  rename_i q hq;cases h;have hs:=(EA (C:=C) (w0:=default) (σ0:=Base.mk0 ⟨fun _ _=>none,fun _=>none⟩ 0) (ids:=ids) 8 hq).1;refine⟨fun t ht=>?_,fun j hj=>?_⟩
  ·simp only[PC.modR,dJ] at ht;exact ht.elim JK ((jD hs).1 t)
  ·simp only[PC.modO,dJ] at hj;exact hj.elim AM ((jD hs).2 j)
 |exit id=>
  intro rm S r h;simp only[comp] at h;cases cE:Nat.beq id cO<;>simp only[cE,cond_true,cond_false] at h<;>cases h
  ·simp[PC.modR,PC.modO]
  ·exact mN
 |ret=>
  intro rm S r h;simp only[comp] at h;cases rm<;>simp only[cond_true,cond_false] at h
  case true=>cases h;simp[PC.modR,PC.modO]
  split at h
  ·cases h;simp[PC.modR,PC.modO]
  ·cases h;exact mN
 |rangeFunc g ps x y _ _=>
  intro rm S r h;simp only[comp] at h;split at h
  case h_2=>cases h;exact mN
  split at h
  case h_2=>cases h;exact mN
  split at h
  case h_2=>cases h;exact mN
  rename_i q hq;rw[pq] at h;split at h
  ·cases h;refine⟨fun t ht=>?_,fun j hj=>?_⟩
   ·simp[PC.modR,PI.modR] at ht;subst ht;exact qT _
   ·simp only[PC.modO,PI.modO,vO,VS,lz,tZ] at hj;exact(dX.1 hj).1
  ·cases h;exact mN
 |_=>intro rm S r h;simp only[comp,aS] at h;subst h;exact mN
theorem gT.mono {rm:Bool}{wr:Nat→Prop}{a0 a1:Act}{out acj:Option Snap}{ex Xp:List (Nat×Snap)}{x:Out}{e:Exit}(h:gT C w0 σ0 ids fn s rm wr a0 out ex x e a w)(he:∀y,y∈ex→y∈Xp)(hs:SameBut wr a1 a0)
 (ho:e=.normal→acj=out):gT C w0 σ0 ids fn s rm wr a1 acj Xp x e a w:=by
 cases e with
 |normal=>obtain⟨ρ,S,h1,h2,h3,h4⟩:=h;exact⟨ρ,S,h1,by rw[ho rfl];exact h2,hs.trans h3,h4⟩
 |exit id=>obtain⟨ρ,S,h1,h2,h3,h4,h5⟩:=h;exact⟨ρ,S,h1,h2,he _ h3,hs.trans h4,h5⟩
 |ret=>
  cases rm with
  |false=>obtain⟨d,h1,h2,h3⟩:=h;exact⟨d,h1,h2,hs.trans h3⟩
  |true=>obtain⟨ρ,S,h1,h3,h4,h5⟩:=h;exact⟨ρ,S,h1,he _ h3,hs.trans h4,h5⟩
 |_=>exact h.elim
theorem Xh {body:Env→Option Out}{ρ:Env}{ps lo:List Nat}{rt:Option PE}{x:Out}:∀{xs vo:List D},iY body ρ ps lo rt xs vo=some x→
 ∃(m:Nat) (mQ:Nat→List D),m≤xs.length∧mQ 0=vo∧
  (∀i,i<m→∃y ρ',xs[i]?=some y∧body (ρ.put ps (partsOf ps y) lo (mQ i))=some (.next ρ')∧lo.map ρ'.o=mQ (i+1))∧
  ((m=xs.length∧x=.next (ρ.put [] [] lo (mQ m)))∨
   (m<xs.length∧∃y id ρ',xs[m]?=some y∧body (ρ.put ps (partsOf ps y) lo (mQ m))=some (.exit id ρ')∧
    ((id≠cO∧x=.exit id (ρ.put [] [] lo (lo.map ρ'.o)))∨(id=cO∧∃e,rt=some e∧x=.ret (e.ev (ρ.put [] [] lo (lo.map ρ'.o)))))))
 |[],vo,h=>by
  simp only[iY,aS] at h;exact⟨0,fun _=>vo,bf _,rfl,fun i hi=>by omega,.inl ⟨rfl,h.symm⟩⟩
 |y::xs,vo,h=>by
  simp only[iY] at h;split at h
  ·rename_i ρ' hb;obtain⟨m,mQ,h1,h2,h3,h4⟩:=Xh h;refine⟨m+1,fun i=>match i with|0=>vo|i+1=>mQ i,by simp;omega,rfl,fun i hi=>?_,?_⟩
   ·cases i with
    |zero=>exact⟨y,ρ',rfl,hb,h2.symm⟩
    |succ i=>simpa using h3 i (by omega)
   ·rcases h4 with⟨e1,e2⟩|⟨e1,z,id,ρ2,e2,e3,e4⟩
    ·exact .inl ⟨by simp[e1],e2⟩
    ·exact .inr ⟨by simp;omega,z,id,ρ2,by simpa using e2,e3,e4⟩
  ·rename_i id ρ' hb;refine⟨0,fun _=>vo,pA _,rfl,fun i hi=>by omega,.inr ⟨by simp,y,id,ρ',rfl,hb,?_⟩⟩;cases cE:Nat.beq id cO<;>simp only[cE,cond_true,cond_false] at h
   ·refine .inl ⟨fun e=>?_,(uc h).symm⟩;subst e;simp at cE
   ·simp only[az] at h;obtain⟨e,he,e2⟩:=h;exact .inr ⟨ay cE,e,he,e2.symm⟩
  ·cases h
theorem Wv {l:List Nat}{t:Nat}(h:t∈l):au (xr l) t=true:=by
 induction l with
 |nil=>cases h
 |cons x l ih=>
  have e:xr (x::l)=Nat.lor (dK x) (xr l):=rfl;rw[e,fp];rcases cT.1 h with e|e
  ·subst e;rw[qT];rfl
  ·rw[ih e];simp
theorem PY (m:Nat):∀(l:List Sh) (k t:Nat),(tl m k l).getD t .none=if au m (k+t)=true then .none else l.getD t .none
 |[],k,t=>by simp[tl]
 |s::l,k,0=>by
  simp only[tl,nJ,iW];cases au m k<;>rfl
 |s::l,k,t+1=>by
  simp only[tl,sm];rw[PY m l (k+1) t,show k+1+t=k+(t+1) by omega]
theorem EJ (m:Nat)(S:Snap)(t:Nat):((S.mask m).st ids).r t=if au m t=true then .none else(S.st ids).r t:=by
 show cB ((tl m 0 S.rs).getD t .none)=if au m t=true then .none else cB (S.rs.getD t .none);rw[PY,gS];split<;>rfl
theorem api {m:Nat}{x S:Snap}{t:Nat}(h:au m t=true):((x.meet (S.mask m)).st ids).r t=.none:=by
 show cB ((List.zipWith jF x.rs (tl m 0 S.rs)).getD t .none)=.none;rcases LQ (f:=jF) x.rs (tl m 0 S.rs) t with h0|⟨s,u,h1,h2,h3⟩
 ·rw[h0];rfl
 ·rw[PY,gS,if_pos h] at h2;subst h2;rw[h3];cases s<;>rfl
theorem Inv.maskR {S:Snap}{hv:Nat→Value}(h:Inv C (S.st ids) ρ σ own hv w0 σ0 A a w)(m:Nat):Inv C ((S.mask m).st ids) ρ σ own hv w0 σ0 (fun _=>False) a w:=by
 have hc:Compat (S.st ids) hv ((S.mask m).st ids) hv:=⟨fun _=>bf _,fun _ _=>rfl⟩
 refine h.weaken (fun t=>?_) (fun j=>?_) (Snap.noOpt _ _) (fun j hj=>⟨hj,rfl⟩)
 ·refine aH.mono' (ρ:=ρ) (.refl σ) hc (Snap.noOpt _ _ t) ?_;rw[EJ];split
  ·trivial
  ·exact h.regs t
 ·exact(h.objs j).mono (.refl σ) hc rfl rfl (fun k hk=>⟨hk,rfl⟩)
theorem SM:∀(ps:List Nat) (ys:List Ty) (l:List Sh),ps.length=ys.length→gM ps=true→∀t,(rU ps ys l).getD t .none=.none∨(t∉ps∧(rU ps ys l).getD t .none=l.getD t .none)∨∃(i:Nat) (y:Ty),ps[i]?=some t∧ys[i]?=some y∧(rU ps ys l).getD t .none=.dat y
 |[],ys,l,_,_,t=>.inr (.inl ⟨by simp,by cases ys<;>rfl⟩)
 |p::ps,[],l,h,_,t=>by simp at h
 |p::ps,y::ys,l,h,hn,t=>by
  have iJ:=lL hn;rw[mU] at iJ;have dh:gM ps=true:=by
   simp only[gM,ao] at hn;exact hn.2
  show(rU ps ys (l.set p (.dat y))).getD t .none=_∨_∨_;rcases SM ps ys (l.set p (.dat y)) (by simpa using h) dh t with e|⟨e1,e2⟩|⟨i,z,e1,e2,e3⟩
  ·exact .inl e
  ·by_cases hp:t=p
   ·subst hp;by_cases af:t<l.length
    ·exact .inr (.inr ⟨0,y,rfl,rfl,by show(rU ps ys (l.set t (.dat y))).getD t .none=_;rw[e2];simp[aJ,af]⟩)
    ·left;rw[e2];simp[aJ,af]
   ·refine .inr (.inl ⟨by simp[hp,e1],?_⟩);show(rU ps ys (l.set p (.dat y))).getD t .none=_;rw[e2];simp only[aJ,B6];rw[if_neg (fun e=>hp e.symm)]
  ·exact .inr (.inr ⟨i+1,z,by simpa using e1,by simpa using e2,e3⟩)
def mJ:List Nat→List Value→Array Value→Array Value
 |p::ps,v::vs,T=>mJ ps vs (T.setIfInBounds p v)
 |_,_,T=>T
theorem asg (ps:Array Nat)(vs:Array Value)(T:Array Value):(ps.zip vs).foldl (fun T x=>T.setIfInBounds x.1 x.2) T=mJ ps.toList vs.toList T:=by
 rw[←Array.foldl_toList,Array.toList_zip];generalize ps.toList=l;generalize vs.toList=k
 induction l generalizing k T with
 |nil=>rfl
 |cons p l ih=>
  cases k with
  |nil=>rfl
  |cons v k=>simpa [mJ] using ih (T.setIfInBounds p v) k
theorem ad8:∀(ps:List Nat) (vs:List Value) (T:Array Value),(mJ ps vs T).size=T.size
 |[],vs,T=>by cases vs<;>rfl
 |p::ps,[],T=>rfl
 |p::ps,v::vs,T=>by simp[mJ,ad8 ps vs]
theorem Lf:∀(ps:List Nat) (vs:List Value) (T:Array Value) (t:Nat),t∉ps→(mJ ps vs T).getD t undef=T.getD t undef
 |[],vs,T,t,_=>by cases vs<;>rfl
 |p::ps,[],T,t,_=>rfl
 |p::ps,v::vs,T,t,h=>by
  simp only[cT,not_or] at h;simp only[mJ];rw[Lf ps vs _ t h.2];simp only[dV,vG];rw[if_neg (fun e=>h.1 e.symm)]
theorem ad7:∀(ps:List Nat) (vs:List Value) (T:Array Value) (i t:Nat),ps.Nodup→ps.length=vs.length→(∀p,p∈ps→p<T.size)→ps[i]?=some t→(mJ ps vs T).getD t undef=vs.getD i undef
 |p::ps,v::vs,T,0,t,hn,hl,af,h=>by
  simp at h;subst h;rw[mU] at hn;simp only[mJ];rw[Lf ps vs _ p hn.1];simp[vG,af p (dB ..)]
 |p::ps,v::vs,T,i+1,t,hn,hl,af,h=>by
  rw[mU] at hn;simp only[mJ];have:=ad7 ps vs (T.setIfInBounds p v) i t hn.2 (by simpa using hl) (fun q hq=>by simpa using af q (dy _ hq)) (by simpa using h);simpa using this
 |p::ps,[],T,i,t,hn,hl,af,h=>by simp at hl
 |[],vs,T,i,t,hn,hl,af,h=>by simp at h
theorem Bd (f:Nat→D):∀(ps:List Nat) (vs:List D) (t:Nat),t∉ps→putL f ps vs t=f t
 |[],vs,t,_=>by cases vs<;>rfl
 |p::ps,[],t,_=>rfl
 |p::ps,v::vs,t,h=>by
  simp only[cT,not_or] at h;simp only[putL,bo _ _ h.1];exact Bd f ps vs t h.2
theorem Q3 (f:Nat→D):∀(ps:List Nat) (vs:List D) (i t:Nat),ps.Nodup→ps.length=vs.length→ps[i]?=some t→putL f ps vs t=vs.getD i .none
 |p::ps,v::vs,0,t,hn,hl,h=>by
  simp at h;subst h;simp[putL,aK]
 |p::ps,v::vs,i+1,t,hn,hl,h=>by
  rw[mU] at hn;have ht:t∈ps:=jM (by simpa using h);have aw:t≠p:=fun e=>hn.1 (e▸ht);simp only[putL,bo _ _ aw];have:=Q3 f ps vs i t hn.2 (by simpa using hl) (by simpa using h);simpa using this
 |p::ps,[],i,t,hn,hl,h=>by simp at hl
 |[],vs,i,t,hn,hl,h=>by simp at h
theorem aqD (ps:List Nat)(ds:List D)(i:Nat)(h:i<ps.length):(partsOf ps (.tup ds)).getD i .none=ds.getD i .none:=by
 simp[partsOf,aJ,h,D.tget]
theorem aqC (ps:List Nat)(x:D):(partsOf ps x).length=ps.length:=by simp[partsOf]
theorem Inv.startR {S:Snap}{hv:Nat→Value}(h:Inv C (S.st ids) ρ σ own hv w0 σ0 A a w){ps:List Nat}{ys:List Ty}{args:List Value}{ds:List D}{lo:List Nat}{vo:List D}(hl:ps.length=ys.length)(bn:gM ps=true)(af:∀p,p∈ps→p<a.tmps.size)(ha:po C σ ys args ds)
 (hρ:ρ=ρ'.put [] [] lo vo):Inv C ((S.start ps ys).st ids) (ρ'.put ps (partsOf ps (.tup ds)) lo vo) σ own hv w0 σ0 (fun _=>False) {tmps:=mJ ps args a.tmps,defers:=[]} w:=by
 obtain⟨a1,a2,a3⟩:=ha;have hn:=lL bn;have hc:Compat (S.st ids) hv ((S.start ps ys).st ids) hv:=⟨fun _=>bf _,fun _ _=>rfl⟩
 have ho:∀j,(ρ'.put ps (partsOf ps (.tup ds)) lo vo).o j=ρ.o j:=fun j=>by rw[hρ];rfl
 refine⟨trivial,h.ok,h.le,h.old,h.newc,h.newm,h.below,h.bw,h.owns,fun t=>?_,fun j=>(h.objs j).mono (.refl σ) hc rfl (ho j) (fun k hk=>⟨hk,rfl⟩),fun t gs s e=>absurd e (Snap.noOpt _ _ t gs s),?_⟩
 ·show aH C _ _ σ hv (cB ((rU ps ys (S.rs.map sT)).getD t .none)) ((mJ ps args a.tmps).getD t undef) (putL ρ'.r ps (partsOf ps (.tup ds)) t);rcases SM ps ys (S.rs.map sT) hl bn t with e|⟨e1,e2⟩|⟨i,y,e1,e2,e3⟩
  ·rw[e];trivial
  ·rw[e2,Lf _ _ _ _ e1,Bd _ _ _ _ e1];have hr:=h.regs t;change aH C _ ρ σ hv (cB (S.rs.getD t .none)) _ _ at hr;have hρr:ρ.r t=ρ'.r t:=by rw[hρ];show putL ρ'.r [] [] t=_;rfl
   rw[hρr] at hr;have e3:(S.rs.map sT).getD t .none=sT (S.rs.getD t .none):=by
        simp only[aJ,ct];cases S.rs[t]?<;>rfl
   rw[e3];generalize S.rs.getD t .none=s at hr;cases s with
   |yv=>trivial
   |opt gs s=>trivial
   |none=>trivial
   |fclo f c=>exact aH.mono' (.refl σ) hc (fun _ _ e=>by cases e) hr
   |agg l=>exact aH.mono' (.refl σ) hc (fun _ _ e=>by cases e) hr
   |dat t=>exact hr
   |obj j v=>exact aH.mono' (.refl σ) hc (fun _ _ e=>by cases e) hr
   |ptr j v o=>exact aH.mono' (.refl σ) hc (fun _ _ e=>by cases e) hr
   |eptr j v o q=>exact aH.mono' (.refl σ) hc (fun _ _ e=>by cases e) hr
  ·rw[e3];have hi:i<ps.length:=(fm.1 e1).1;rw[ad7 ps args a.tmps i t hn (by omega) af e1,Q3 _ ps _ i t hn (by rw[aqC]) e1,aqD _ _ _ hi];exact a3 i y e2
 ·obtain⟨t,fx,cx,h1,h2⟩:=h.frame;exact⟨t,fx,cx,h1,fun j hj=>⟨(h2 j hj).1,by rw[ho j];exact(h2 j hj).2⟩⟩
def vS (C:Ctx)(Φ:aL)(fn:Func)(s:Sig)(n:Nat)(ids:List Nat)(R:Array Oper→Bool→Snap→Option (Snap×List PI))(N:Nat)(c:Code):Prop:=
 ∀(rm:Bool) (S:Snap) (r:Res2),comp C fn s n ids R rm c S=some r→∀(rd:Option Nat) (w0:World) (σ0:Base) (wr:Nat→Prop) (ρ:Env) (x:Out) (a:Act) (w:World),(rm=false→rd=none∧σ0.fin)→CtxOK C σ0→pB C Φ w0 σ0→(∀t,t∈cu c→wr t)→a.tmps.size=n→
  Good C w0 σ0 (S.st ids) ρ (fun _=>False) a w→r.pc.ev Φ N ρ=some x→c.wpIn (FR rd) 0 C.P (gT C w0 σ0 ids fn s rm wr a r.out r.ex x) a w
structure Seg (σ:Im) (own:Nat→Option Nat) (w:World) (σ':Im) (own':Nat→Option Nat) (w':World):Prop where
 le:σ.le σ'
 below:Below 0 w w'
 same:∀k,k<w.heap.size→own k=none→w'.heap[k]?=w.heap[k]?
 ow:∀k j,own' k=some j→(∃i,own k=some i)∨w.heap.size≤k
 imm:∀k,((∃o x,σ'.c k o=some x)∨∃x,σ'.m k=some x)→(∃o x,σ.c k o=some x)∨(∃x,σ.m k=some x)∨(∃i,own k=some i)∨w.heap.size≤k
structure Free (L:Nat) (σ:Im) (own:Nat→Option Nat):Prop where
 own:own L=none
 c:∀o,σ.c L o=none
 m:σ.m L=none
theorem Free.seg {L:Nat}{σ':Im}{own':Nat→Option Nat}{w':World}(h:Free L σ own)(hL:L<w.heap.size)(k:Seg σ own w σ' own' w'):Free L σ' own':=by
 have DT:¬((∃o x,σ'.c L o=some x)∨∃x,σ'.m L=some x):=fun e=>by
  rcases k.imm L e with⟨o,x,e⟩|⟨x,e⟩|⟨i,e⟩|e
  ·rw[h.c o] at e;cases e
  ·rw[h.m] at e;cases e
  ·rw[h.own] at e;cases e
  ·omega
 refine⟨?_,fun o=>?_,?_⟩
 ·cases e:own' L with
  |none=>rfl
  |some j=>
   rcases k.ow L j e with⟨i,e⟩|e
   ·rw[h.own] at e;cases e
   ·omega
 ·cases e:σ'.c L o with
  |none=>rfl
  |some x=>exact absurd (.inl ⟨o,x,e⟩) DT
 ·cases e:σ'.m L with
  |none=>rfl
  |some x=>exact absurd (.inr ⟨x,e⟩) DT
def afP (C:Ctx)(w0:World)(σ0:Base)(ids:List Nat)(wr:Nat→Prop)(a0:Act)(σ:Im)(own:Nat→Option Nat)(w:World)(out:Option Snap)(ex:List (Nat×Snap))(x:Out)(e:Exit)(a':Act)(w':World):Prop:=
 ∃ρ' S' σ' own' hv',Inv C (S'.st ids) ρ' σ' own' hv' w0 σ0 (fun _=>False) a' w'∧Seg σ own w σ' own' w'∧SameBut wr a0 a'∧
  match e with
  |.normal=>x=.next ρ'∧out=some S'
  |.exit id=>x=.exit id ρ'∧id≠cO∧(id,S')∈ex
  |.ret=>x=.exit cO ρ'∧(cO,S')∈ex
  |_=>False
theorem ad2 {N:Nat}{c:Code}(hc:vS C Φ fn s n ids R N c){S:Snap}{r:Res2}(hr:comp C fn s n ids R true c S=some r)(ku:C.yl=none)(hC:CtxOK C σ0){wr:Nat→Prop}{ρ:Env}{x:Out}{hv:Nat→Value}(h:Inv C (S.st ids) ρ σ own hv w0 σ0 (fun _=>False) a w)
 (iN:∀t,t∈cu c→wr t) (hn:a.tmps.size=n) (he:r.pc.ev Φ N ρ=some x) (L:Nat):c.wpIn (FR (some L)) 0 C.P (afP C w0 σ0 ids wr a σ own w r.out r.ex x) a w:=by
 obtain⟨t,fx,cx,db,ht⟩:=h.frame;have h1:=h.toRnd (X:=fun _=>False) ht;refine wpIn_mono (hc true S r hr (some L) w0 (σ0.rnd σ own w t fun _=>False) wr ρ x a w (fun e=>by cases e) (hC.mono h.le) (fun J ys e=>by rw[ku] at e;cases e) iN hn ⟨_,_,_,h1⟩ he) fun e a' w' ho=>?_
 have main:∀{S':Snap} {ρ':Env},SameBut wr a a'→Good C w0 (σ0.rnd σ own w t fun _=>False) (S'.st ids) ρ' (fun _=>False) a' w'→∃σ' own' hv',Inv C (S'.st ids) ρ' σ' own' hv' w0 σ0 (fun _=>False) a' w'∧Seg σ own w σ' own' w'∧SameBut wr a a':=by
  intro S' ρ' hs hg;obtain⟨σ',own',hv',h2⟩:=hg;exact⟨σ',own',hv',h.ofRnd db (fun _ _=>id) h2,⟨h2.le,h.rndBelow h2,fun k hk ho=>Inv.rndSame h.ok h2 hk ho id,fun k j e=>Inv.rndOwn h2 e id,fun k e=>Inv.rndC h2 e id⟩,hs⟩
 cases e with
 |normal=>
  obtain⟨ρ',S',e1,e2,e3,e4⟩:=ho;obtain⟨σ',own',hv',g1,g2,g3⟩:=main e3 e4;exact⟨ρ',S',σ',own',hv',g1,g2,g3,e1,e2⟩
 |exit id=>
  obtain⟨ρ',S',e1,e0,e2,e3,e4⟩:=ho;obtain⟨σ',own',hv',g1,g2,g3⟩:=main e3 e4;exact⟨ρ',S',σ',own',hv',g1,g2,g3,e1,e0,e2⟩
 |ret=>
  obtain⟨ρ',S',e1,e2,e3,e4⟩:=ho;obtain⟨σ',own',hv',g1,g2,g3⟩:=main e3 e4;exact⟨ρ',S',σ',own',hv',g1,g2,g3,e1,e2⟩
 |_=>exact ho.elim
theorem Inv.putL {L:Nat}{hv:Nat→Value}{S:St}{ρ:Env}(h:Inv C S ρ σ own hv w0 σ0 A a w)(hL:w0.heap.size≤L)(hf:Free L σ own)(hx:∀t fx cx,FrOK σ own w0.heap.size σ0 w t fx cx→¬fx L)(o:Obj):Inv C S ρ σ own hv w0 σ0 A a (w.putObj L o):=
 h.keep (X:=fun k=>k≠L) ⟨rfl,rfl,rfl,by simp,fun k hk=>by omega⟩ (fun k hk=>World.putObj_heap_other hk) (fun k hk=>by omega) (fun k j e1 e2=>by subst e2;rw[hf.own] at e1;cases e1) (fun k o v e1 e2=>by subst e2;rw[hf.c] at e1;cases e1)
  (fun k v e1 e2=>by subst e2;rw[hf.m] at e1;cases e1) (fun t fx cx db k hk e=>by subst e;exact hx t fx cx db hk)
theorem avJ {o:Oper}{L:Nat}{x:Operand}{aa:Array Operand}{ts:Array TypeId}{r:Loop}(bQ:o.op=.call {callee:=.value x,args:=aa,argTypes:=ts})(hx:a.eval x=.func (.yield L) #[] #[])(hL:w.heap[L]?=some (.loop r))(hs:aa.size=r.params.size):
 (execOp a.eval o).run C.P w=.ok (.round L r.fn ((r.params.zip (aa.map a.eval)).foldl (fun tmps (t,v)=>tmps.setIfInBounds t v) r.tmps) r.assign r.body) w:=by
 have hy:=run_yield (P:=C.P) (args:=aa.map a.eval) hL (by simpa using hs);simp[execOp,bQ,resolve,hx,Deferred.ofValue,invoke,hy]
theorem arf {g:Operand}{f:Nat}{vs:List Value}{L:Nat}(hf:∃fn,C.P.funcs[f]?=some fn∧fn.body.isSome=true∧(fn.name== "runtime.NumGoroutine")=false)(hg:a.eval g=.func (.func f) #[] vs.toArray):
 (resolve a.eval (rangeCall g L) 0).run C.P w=.ok {target:=.fn (.func f) vs.toArray,args:=#[.func (.yield L) #[] #[]]} w∧
 (invoke (.fn (.func f) vs.toArray) #[.func (.yield L) #[] #[]]).run C.P w=.ok (.enter f (#[.func (.yield L) #[] #[]]++vs.toArray)) w:=by
 obtain⟨fn,h1,h2,h3⟩:=hf;obtain⟨bd,gU⟩:=VY.1 h2;have h4:¬fn.name= "runtime.NumGoroutine" :=by simpa using h3
 constructor
 ·simp only[resolve,hg];simp[go_sem]
 ·simp[invoke,callFunc,h1,gU,h4]
theorem FrOK.enter {hv:Nat→Value}{S:St}{ρ:Env}(h:Inv C S ρ σ own hv w0 σ0 A a w){t:D}{fx cx:Nat→Prop}(hf:FrOK σ own w0.heap.size σ0 w t fx cx)(r:Loop):FrOK (σ.mark w.heap.size) own w0.heap.size σ0 ((w.alloc (.deferred (some []))).alloc (.loop r)) t fx cx:=by
 have hb:=Xj w (.deferred (some [])) (.loop r);have af:=σ0.lt _ _ _ _ hf.F;have bS:=σ0.sub _ _ _ _ hf.F;have wT:∀k x,(σ.mark w.heap.size).m k=some x→σ.m k=some x∨k=w.heap.size:=by
  intro k x e;simp only[Im.mark] at e;split at e
  ·rename_i e2;exact .inr e2
  ·exact .inl e
 refine⟨σ0.keep _ _ _ _ _ hf.F (hb.mono (pA _)) fun k hk=>hb.block k (af k hk),hf.own,hf.c,fun k x e hc=>?_,fun k e hB hk=>?_⟩
 ·rcases wT k x e with e|e
  ·exact hf.m k x e hc
  ·have:=af k (bS k hc);omega
 ·rcases wT k _ e with e|e
  ·exact hf.d k e hB hk
  ·have:=af k hk;omega
structure RSt (C:Ctx) (w0:World) (σR:Base) (ids:List Nat) (ρ1:Env) (lo:List Nat) (aM:Act) (L:Nat) (W1:World) (σ1:Im) (rec:LoopState→Option Code→Loop) (xs:List D) (P:Nat→List D→Snap→LoopState→Option Code→Prop) (t:D) (fx cx:Nat→Prop) (w:World):Prop where
 lt:∀k,fx k→k<w.heap.size
 sub:∀k,cx k→fx k
 old:∀k,k<W1.heap.size→fx k
 ex:∃(i:Nat) (vo:List D) (Sx:Snap) (st:LoopState) (pe:Option Code) (σ:Im) (own:Nat→Option Nat) (hv:Nat→Value),t=.list (xs.take i)∧P i vo Sx st pe∧Inv C (Sx.st ids) (ρ1.put [] [] lo vo) σ own hv w0 σR (fun _=>False) aM w∧
  σ1.le σ∧Free L σ own∧w.heap[L]?=some (.loop (rec st pe))∧(∀k j,own k=some j→fx k)∧(∀k o x,σ.c k o=some x→fx k)∧(∀k x,σ.m k=some x→fx k)∧∀k,cx k↔((∃j,own k=some j)∨k=L)
theorem RSt.keep {σR:Base}{ρ1:Env}{lo:List Nat}{aM:Act}{L:Nat}{W1:World}{σ1:Im}{rec:LoopState→Option Code→Loop}{xs:List D}{P:Nat→List D→Snap→LoopState→Option Code→Prop}{t:D}{fx cx:Nat→Prop}{w w':World}
 (h0:w0.heap.size≤W1.heap.size) (hL:L<W1.heap.size) (hR:∀t f c w,σR.F t f c w→∀k,f k→k<W1.heap.size) (h:RSt C w0 σR ids ρ1 lo aM L W1 σ1 rec xs P t fx cx w) (hb:Below 0 w w') (hs:∀k,fx k→w'.heap[k]?=w.heap[k]?):
 RSt C w0 σR ids ρ1 lo aM L W1 σ1 rec xs P t fx cx w':=by
 obtain⟨i,vo,Sx,st,pe,σ,own,hv,e1,e2,e3,e4,e5,e6,e7,e8,e9,e10⟩:=h.ex;refine⟨fun k hk=>sr (h.lt k hk) hb.size,h.sub,h.old,i,vo,Sx,st,pe,σ,own,hv,e1,e2,?_,e4,e5,(hs L (h.old L hL)).trans e6,e7,e8,e9,e10⟩;exact e3.keep (X:=fx) hb hs (fun k hk=>h.old k (by omega)) e7 e8 e9 (fun t f c hf k hk=>h.old k (hR _ _ _ _ hf.F k hk))
theorem Im.noM_m {σ:Im}{k:Nat}{v:List (Value×Value)}(h:σ.noM.m k=some v):σ.m k=some v∧v≠cD:=by
 simp only[Im.noM] at h;split at h
 ·cases h
 ·rename_i aw;exact⟨h,fun e=>aw (by rw[h,e])⟩
structure SegL (L:Nat) (σ:Im) (own:Nat→Option Nat) (w:World) (σ':Im) (own':Nat→Option Nat) (w':World):Prop where
 le:σ.le σ'
 below:Below 0 w w'
 same:∀k,k<w.heap.size→own k=none→k≠L→w'.heap[k]?=w.heap[k]?
 ow:∀k j,own' k=some j→(∃i,own k=some i)∨w.heap.size≤k
 imm:∀k,((∃o x,σ'.c k o=some x)∨∃x,σ'.m k=some x)→(∃o x,σ.c k o=some x)∨(∃x,σ.m k=some x)∨(∃i,own k=some i)∨w.heap.size≤k
theorem acA (w:World)(L:Nat)(o:Obj):Below 0 w (w.putObj L o):=⟨rfl,rfl,rfl,by simp,fun k hk=>by omega⟩
theorem Seg.round {L:Nat}{σ' σ'':Im}{own' ack:Nat→Option Nat}{w' kH:World}{o o':Obj}(h:Seg σ own w σ' own' w')(k:Seg σ' own' (w'.putObj L o) σ'' ack kH):SegL L σ own w σ'' ack (kH.putObj L o'):=by
 have aE:=h.below.size;have Jq:=k.below.size;simp only[World.putObj_size] at Jq;refine⟨h.le.trans k.le,h.below.trans ((acA _ _ _).trans (k.below.trans (acA _ _ _))),fun q hq ho hL=>?_,fun q j e=>?_,fun q e=>?_⟩
 ·have h1:own' q=none:=by
   cases e:own' q with
   |none=>rfl
   |some j=>
    rcases h.ow q j e with⟨i,e⟩|e
    ·rw[ho] at e;cases e
    ·omega
  rw[World.putObj_heap_other hL,k.same q (by simp;omega) h1,World.putObj_heap_other hL,h.same q hq ho]
 ·rcases k.ow q j e with⟨i,e⟩|e
  ·exact h.ow q i e
  ·simp only[World.putObj_size] at e;exact .inr (by omega)
 ·rcases k.imm q e with e|e|⟨i,e⟩|e
  ·exact h.imm q (.inl e)
  ·exact h.imm q (.inr e)
  ·rcases h.ow q i e with e|e
   ·exact .inr (.inr (.inl e))
   ·exact .inr (.inr (.inr e))
  ·simp only[World.putObj_size] at e;exact .inr (.inr (.inr (by omega)))
theorem Env.put_self (ρ:Env)(lo:List Nat):ρ.put [] [] lo (lo.map ρ.o)=ρ:=by
 have h2:∀u,putL ρ.o lo (lo.map ρ.o) u=ρ.o u:=fun u=>by rw[tB];split<;>rfl
 show Env.mk ρ.r (putL ρ.o lo (lo.map ρ.o))=ρ;rw[funext h2]
theorem arh {N:Nat}(dN:gi C Φ){g:Operand}{ps:Array Tmp}{ca cb:Code}(bC:vS C Φ fn s n ids R N ca)(eC:vS C Φ fn s n ids R N cb):vS C Φ fn s n ids R N (.rangeFunc g ps ca cb):=by
 intro rm S r hr rd w0 σ0 wr ρ x a w gK hC hY iN hn hg he;simp only[comp] at hr;split at hr
 case h_2=>cases hr;exact absurd he (mM _ _ _ _)
 rename_i aa rr e ku hu;split at hr
 case h_2=>cases hr;exact absurd he (mM _ _ _ _)
 rename_i ys xd;split at hr
 case h_2=>cases hr;exact absurd he (mM _ _ _ _)
 rename_i q hq;rw[pq] at hr;split at hr
 case isFalse=>cases hr;exact absurd he (mM _ _ _ _)
 rename_i wG;cases hr;simp only[ao] at wG;obtain⟨⟨⟨hl,bn⟩,af⟩,wX⟩:=wG;have hl:=ay hl;have wX:=jN wX;obtain⟨hrd,m5⟩:=gK rfl;subst hrd;obtain⟨hs,Aj,_⟩:=EA (C:=C) (w0:=w0) (σ0:=σ0) (ids:=ids) 8 hq;simp only[aq] at hs;obtain⟨ra,O1,hs⟩:=hs;split at hs
 case h_2=>cases hs
 rename_i S1 hao Yc;simp only[az] at hs;obtain⟨rb,Zh,jB⟩:=hs;have YM:=uj ca O1;have YN:=uj cb Zh;obtain⟨q1,q2⟩:=q;simp only at O1 jB wX Aj he ⊢;generalize wQ:aae ids (q1::q2.ex.map (·.2)) q2.mo=lo at he;generalize uL:((oJ cO q2.ex none).bind fun M=>xZ C fn s (M.st ids))=rt at he;have Eh:∃f caps d,e.ev ρ=.clo f caps∧Φ f caps=some d∧iY (q2.pc.ev Φ N) (ρ.setR n d) ps.toList lo rt d.l (lo.map ρ.o)=some x:=by
  simp only[PC.ev,PI.runs,PI.run,holds,List.all_nil,cond_true] at he;cases bK:e.ev ρ with
  |clo f caps=>
   rw[bK] at he;simp only[PE.evs,tZ] at he;cases hΦ:Φ f caps with
   |none=>rw[hΦ] at he;simp at he
   |some d=>
    rw[hΦ] at he;simp only[ka,j8,PE.ev,Env.setR,aK] at he;exact⟨f,caps,d,rfl,hΦ,he⟩
  |_=>rw[bK] at he;simp at he
 obtain⟨f,caps,d,bK,hΦ,he⟩:=Eh;obtain⟨σ,own,hv,i⟩:=hg;have hx:=cr (gs:=[]) i hC rfl hu;rw[bK] at hx;generalize Ol:a.eval g=gv at hx;generalize bh:Ty.fn aa rr=ty at hx;cases hx with
 |fn f cs vs ds fy h1 h2 aO=>
 cases bh;obtain⟨hfn,alQ⟩:=dN f cs ys fy xd;obtain⟨xs,rfl,aAm,On⟩:=alQ caps d hΦ;simp only[D.l_list] at he;obtain⟨m,mQ,hm,sY,Jg,kT⟩:=Xh he;have iq0:=ZS 8 hq i
 have iq:Inv C (q1.st ids) (ρ.setR n (.list xs)) σ own hv w0 σ0 (fun _=>False) a w:=by
  refine iq0.env (Snap.noOpt _ _) (fun t ht=>?_) (fun _ _=>rfl);have af:t<q1.rs.length:=by
   refine VX fun hle=>?_;simp only[Snap.st,aJ,sn hle,Option.getD_none,cB,isNone] at ht;cases ht
  simp[Env.setR,bo _ _ (show t≠n by omega)]
 obtain⟨ρ1,hρ1⟩:∃ρ1,ρ.setR n (.list xs)=ρ1:=⟨_,rfl⟩
 rw[hρ1] at he iq Jg kT;have jV:ρ.o=ρ1.o:=by rw[←hρ1];rfl
 rw[jV] at sY;refine wpIn_rangeFunc ?_;intro NG azZ;obtain⟨L,X2⟩:∃L,w.heap.size+1=L:=⟨_,rfl⟩
 obtain⟨rec,gJ⟩:∃rec:LoopState→Option Code→Loop,rec=fun st pe=>{state:=st,pending:=pe,fn:=NG,tmps:=a.tmps,params:=ps,assign:=ca,body:=cb,defers:=w.heap.size}:=⟨_,rfl⟩
 have i1:=iq.enter (rec .ready none);obtain⟨t,fx0,cx0,Ys,Pa⟩:=iq.frame;have alz:=σ0.lt _ _ _ _ Ys.F;have Oh:=FrOK.enter iq Ys (rec .ready none);have aAk:=iq.below.size;have zY:Free L (σ.mark w.heap.size) own:=by
  refine⟨?_,fun o=>?_,?_⟩
  ·cases e:own L with
   |none=>rfl
   |some j=>have:=(iq.owns L j e).2.1;omega
  ·cases e:σ.c L o with
   |none=>exact e
   |some x=>have:=iq.lt e;omega
  ·simp only[Im.mark,show L≠w.heap.size by omega,if_false];cases e:σ.m L with
   |none=>rfl
   |some x=>have:=iq.ltm e;omega
 have lG:σ.le (σ.mark w.heap.size):=by
  refine⟨fun _ _ _ e=>e,fun k x e=>?_⟩;have:k≠w.heap.size:=by have:=iq.ltm e;omega
  simp[Im.mark,this,e]
 have XZ:((w.alloc (.deferred (some []))).alloc (.loop (rec .ready none))).heap[L]?=some (.loop (rec .ready none)):=by
  have:=World.alloc_heap_new (w.alloc (.deferred (some []))) (.loop (rec .ready none));rw[World.size_alloc,X2] at this;exact this
 obtain⟨W1,NU⟩:∃W1,(w.alloc (.deferred (some []))).alloc (.loop (rec .ready none))=W1:=⟨_,rfl⟩
 have azR:W1.heap.size=w.heap.size+2:=by rw[←NU];simp
 rw[NU] at i1 Oh XZ;have Of:(Instr.enterLoop NG a.tmps ps ca cb none).run C.P w=.ok (L,[{target:=.collected w.heap.size,args:=#[]}]) W1:=by
  rw[←NU,gJ,←X2];exact run_enterLoop_outer _ _ _ _ _
 obtain⟨σ1,hσ1⟩:∃σ1,σ.mark w.heap.size=σ1:=⟨_,rfl⟩
 rw[hσ1] at i1 Oh zY lG;obtain⟨aM,NV⟩:∃aM:Act,{a with defers:={target:=.collected w.heap.size,args:=#[]}::a.defers}=aM:=⟨_,rfl⟩
 have DA:aM.tmps=a.tmps:=by rw[←NV]
 rw[NV] at i1;have iR:=i1.toRnd (t:=t) (X:=fun k=>k=L) Pa;obtain⟨σR,hσR⟩:∃σR,σ0.rnd σ1 own W1 t (fun k=>k=L)=σR:=⟨_,rfl⟩
 have uy:∀t' f c w',σR.F t' f c w'→(∀k,f k→k<W1.heap.size∧k≠L)∧∀k,c k→f k∧(∀o,σ1.c k o=none)∧σ1.m k=none:=by
  rw[←hσR];rintro t' f c w' ⟨_,h2,h3,_⟩;exact⟨fun k hk=>⟨((h2 k).1 hk).1,((h2 k).1 hk).2.2.2⟩,fun k hk=>(h3 k).1 hk⟩
 have X5:CtxOK C σR:=by rw[←hσR];exact hC.mono i1.le
 rw[hσR] at iR
 obtain⟨P,hP⟩:∃P:Nat→List D→Snap→LoopState→Option Code→Prop,P=fun i vo Sx st pe=>(i≤m∧vo=mQ i∧Sx=q1∧st=.ready∧pe=none)∨
  (i=m+1∧m<xs.length∧st=.done∧∃y id ρ',xs[m]?=some y∧q2.pc.ev Φ N (ρ1.put ps.toList (partsOf ps.toList y) lo (mQ m))=some (.exit id ρ')∧vo=lo.map ρ'.o∧(id,Sx)∈q2.ex∧((id≠cO∧pe=some (.exit id))∨(id=cO∧pe=some .ret))):=⟨_,rfl⟩
 obtain⟨c1,c2⟩:=arf (C:=C) (w:=W1) (L:=L) hfn Ol;refine⟨L,[{target:=.collected w.heap.size,args:=#[]}],W1,_,W1,f,_,W1,Of,c1,fun _ _=>trivial,c2,(fun e=>by cases e),?_⟩
 refine WE ((On σ1 W1 (.func (.yield L) #[] #[]) vs (RSt C w0 σR ids ρ1 lo aM L W1 σ1 rec xs P) (fun k=>k<W1.heap.size) (fun k=>(∃j,own k=some j)∨k=L) m i1.ok (hC.mono i1.le) ⟨h1,h2,fun j t e=>(aO j t e).mono lG⟩ hm
  (fun t f c w h=>h.lt) (fun t f c w h=>h.sub) (fun t f c w w' h hb hs=>h.keep (by omega) (by omega) (fun t f c w hF k hk=>((uy t f c w hF).1 k hk).1) hb hs) ?_ ?_ ?_ ?_).mono ?_)
 ·refine⟨fun k hk=>hk,fun k hk=>?_,fun k hk=>hk,0,mQ 0,q1,.ready,none,σ1,own,hv,by simp,by rw[hP];exact .inl ⟨pA _,rfl,rfl,rfl,rfl⟩,?_,.refl σ1,zY,XZ,fun k j e=>(iR.owns k j e).2.1,fun k o x e=>iR.lt e,fun k x e=>iR.ltm e,fun k=>.rfl⟩
  ·rcases hk with⟨j,e⟩|e
   ·exact(iR.owns k j e).2.1
   ·show k<W1.heap.size;omega
  ·rw[sY,Env.put_self];exact iR
 ·rintro k o x e (⟨j,hj⟩|rfl)
  ·have:=(iR.owns k j hj).2.2.1 o;rw[e] at this;cases this
  ·rw[zY.c] at e;cases e
 ·rintro k x e (⟨j,hj⟩|rfl)
  ·have:=(iR.owns k j hj).2.2.2;rw[e] at this;cases this
  ·rw[zY.m] at e;cases e
 ·intro i fx cx w1 σx args ds' hi dI hF hσx dD jc m4 da cQ rd' o a' x' aa ts K Q bQ cn Ya hK;have az1:i<xs.length:=(fm.1 dI).1;obtain⟨i',vo,Sx,st,pe,σa,xE,hva,e1,e2,iA,Ja,Dy,IE,OI,Yi,D3,Ah⟩:=hF.ex;have hii:i'=i:=by
   have h9:=congrArg List.length (congrArg D.l e1);simp only[D.l_list,dW] at h9;omega
  subst hii;rw[hP] at e2;rcases e2 with⟨_,rfl,Dz,rfl,rfl⟩|⟨e2,_⟩
  case inr=>omega
  rw[Dz] at iA;have X3:L<w1.heap.size:=hF.lt L (hF.old L (by omega));have IT:cx L:=(Ah L).2 (.inr rfl)
  have ami:∀k o v,σx.c k o=some v→xE k=none:=fun k o v e=>by
   cases e2:xE k with
   |none=>rfl
   |some j=>exact absurd ((Ah k).2 (.inl ⟨j,e2⟩)) (jc k o v e)
  have D8:∀k v,σx.m k=some v→xE k=none:=fun k v e=>by
   cases e2:xE k with
   |none=>rfl
   |some j=>exact absurd ((Ah k).2 (.inl ⟨j,e2⟩)) (m4 k v e)
  have hτok:σx.noM.ok w1:=⟨hσx.c,fun k v e=>hσx.m k v (Im.noM_m e).1,hσx.f⟩
  have iB:=iA.joinIm (τ:=σx.noM) hτok (fun k e=>(Im.noM_m e).2 rfl) ami (fun k v e=>D8 k v (Im.noM_m e).1)
   (fun k o v e=>(da k o v e).imp (fun e=>Ja.c k o v e) fun e=>by omega) (fun k v e=>(cQ k v (Im.noM_m e).1).imp (fun e=>Ja.m k v e) fun e=>by omega)
   (fun t' f c hf=>⟨fun k o v e hc=>by
        obtain⟨g1,g2,g3⟩:=(uy _ _ _ _ hf.F).2 k hc;rcases da k o v e with e|e
        ·rw[g2 o] at e;cases e
        ·have:=((uy _ _ _ _ hf.F).1 k g1).1;omega,fun k v e hc=>by
        obtain⟨g1,g2,g3⟩:=(uy _ _ _ _ hf.F).2 k hc;rcases cQ k v (Im.noM_m e).1 with e|e
        ·rw[g3] at e;cases e
        ·have:=((uy _ _ _ _ hf.F).1 k g1).1;omega⟩)
  have XW:Free L (σa.plus σx.noM) xE:=by
   refine⟨Dy.own,fun o=>?_,?_⟩
   ·cases e:(σa.plus σx.noM).c L o with
    |none=>rfl
    |some v=>
     rcases Im.plus_c e with e|e
     ·rw[Dy.c] at e;cases e
     ·exact absurd IT (jc L o v e)
   ·cases e:(σa.plus σx.noM).m L with
    |none=>rfl
    |some v=>
     rcases Im.plus_m e with e|e
     ·rw[Dy.m] at e;cases e
     ·exact absurd IT (m4 L v (Im.noM_m e).1)
  have sV:ps.toList.length=ys.length:=by rw[B2];exact hl.symm
  have akY:po C (σa.plus σx.noM) ys args ds':=⟨dD.1,dD.2.1,fun j t e=>((dD.2.2 j t e).noM).mono (Im.plus_le2 iA.ok hτok)⟩
  have iC:=iB.startR (ρ':=ρ1) sV bn (fun p hp=>by
   have:=bF.1 af p hp;rw[DA,hn];simpa [iX] using this) akY rfl
  have OW:∃xi,q2.pc.ev Φ N (ρ1.put ps.toList (partsOf ps.toList (.tup ds')) lo (mQ i'))=some xi∧((i'<m∧∃ρ',xi=.next ρ'∧lo.map ρ'.o=mQ (i'+1))∨(i'=m∧m<xs.length∧∃id ρ',xi=.exit id ρ')):=by
   by_cases kS:i'<m
   ·obtain⟨y,ρ',g1,g2,g3⟩:=Jg i' kS;rw[dI] at g1;cases g1;exact⟨_,g2,.inl ⟨kS,ρ',rfl,g3⟩⟩
   ·obtain rfl:i'=m:=by omega
    rcases kT with⟨g1,_⟩|⟨g1,y,id,ρ',g2,g3,_⟩
    ·omega
    ·rw[dI] at g2;cases g2;exact⟨_,g3,.inr ⟨rfl,g1,id,ρ',rfl⟩⟩
  obtain⟨xi,s9,Ps⟩:=OW;have ae:q2.pc=.seq ra.pc rb.pc:=by rw[←jB];rfl
  rw[ae] at s9;have aE:(mJ ps.toList args aM.tmps).size=n:=by rw[ad8,DA,hn]
  refine⟨fun _ _=>trivial,?_⟩;rw[Oper.semAt_eq _ _ _ (fun c e=>by rw[bQ] at e;cases e)];have akZ:aa.size=ps.size:=by
   have:=dD.1;rw[←Ya,eN,B2] at this;omega
  have ah:=avJ (C:=C) bQ cn IE (by rw[gJ];exact akZ);have amK:(rec .ready none).fn=NG∧(rec .ready none).tmps=a.tmps∧(rec .ready none).params=ps∧(rec .ready none).assign=ca∧(rec .ready none).body=cb:=by rw[gJ];exact⟨rfl,rfl,rfl,rfl,rfl⟩
  obtain⟨r1,r2,r3,r4,r5⟩:=amK;rw[r1,r2,r3,r4,r5] at ah
  have qg:(ps.zip (aa.map a'.eval)).foldl (fun tmps (t,v)=>tmps.setIfInBounds t v) a.tmps=mJ ps.toList args aM.tmps:=by
   rw[DA,←Ya,←vH];exact asg ps (aa.map a'.eval) a.tmps
  rw[qg] at ah;rw[ah];refine⟨(fun e=>by cases e),?_⟩;refine roundIn_of_wpIn (F:=FR rd') trivial ?_;show ca.wpIn (FR (some L)) 0 C.P _ _ _;cases mu:ra.pc.ev Φ N (ρ1.put ps.toList (partsOf ps.toList (.tup ds')) lo (mQ i')) with
  |none=>simp only[PC.ev,mu] at s9;cases s9
  |some xa=>
  refine wpIn_mono (ad2 bC O1 ku X5 iC (wr:=fun t=>t∈cu ca) (fun _ h=>h) aE mu L) fun e2 a1 Vr amU=>?_;obtain⟨ρ2,S2,σ2,jk,iL,iD,qh,jh,ko⟩:=amU;cases e2 with
  |normal=>
   obtain⟨rfl,zZ⟩:=ko;rw[hao] at zZ;cases zZ;simp only[PC.ev,mu] at s9;have X0:Vr.heap[L]?=some (.loop (rec .ready none)):=(qh.same L X3 XW.own).trans IE;have NR:=XW.seg X3 qh;have NS:L<Vr.heap.size:=(gD.1 X0).1;have XY:w0.heap.size≤L:=by omega
   refine⟨_,run_beginRound X0 (by rw[gJ]),?_⟩;have iE:=iD.putL XY NR (fun t' f c hf DO=>((uy _ _ _ _ hf.F).1 L DO).2 rfl) (.loop {rec .ready none with state:=.busy});have hL3:(Vr.putObj L (.loop {rec .ready none with state:=.busy})).heap[L]?=some (.loop {rec .ready none with state:=.busy}):=World.putObj_heap_same NS;show cb.wpIn (FR (some L)) 0 C.P _ _ _;refine wpIn_mono (ad2 eC Zh ku X5 iE (wr:=fun t=>t∈cu cb) (fun _ h=>h) (jh.size.trans aE) s9 L) fun e3 a3 w3 amV=>?_;obtain⟨ρ3,S3,σ3,xD,Ep,iF,Jp,amS,oz⟩:=amV;have X1:w3.heap[L]?=some (.loop {rec .ready none with state:=.busy}):=(Jp.same L (by simpa using NS) NR.own).trans hL3;have XV:=NR.seg (by simpa using NS) Jp;have akI:L<w3.heap.size:=(gD.1 X1).1;obtain⟨mk,uF⟩:∃mk,Nat.lor (xr (ps.toList++cu ca++cu cb)) (Nat.lor ra.mr rb.mr)=mk:=⟨_,rfl⟩
   have ama:∀t,au mk t=false→t∉ps.toList∧t∉cu ca∧t∉cu cb∧au ra.mr t=false∧au rb.mr t=false:=by
        intro t ht;rw[←uF,fp,fp,VD,VD] at ht;obtain⟨t1,t2,t3⟩:=ht;have:t∉ps.toList++cu ca++cu cb:=fun hm=>by rw[Wv hm] at t1;cases t1
        simp only[dJ,not_or] at this;exact⟨this.1.1,this.1.2,this.2,t2,t3⟩
   have O2:∀t,au mk t=false→aM.tmps.getD t undef=a3.tmps.getD t undef∧(ρ1.put [] [] lo (lo.map ρ3.o)).r t=ρ3.r t:=by
        intro t ht;obtain⟨t1,t2,t3,t4,t5⟩:=ama t ht;refine⟨?_,?_⟩
        ·rw[amS.get t t3,jh.get t t2];exact(Lf _ _ _ _ t1).symm
        ·have Ad:∀ρ',xi=.next ρ'∨(∃id,xi=.exit id ρ')→ρ'.r t=ρ2.r t:=fun ρ' h=>by
          have wI:xi.env?=some ρ':=by rcases h with h|⟨id,h⟩<;>rw[h]<;>rfl
          exact(PC.ev_but rb.pc _ _ ρ' s9 wI).r t fun hm=>by rw[YN.1 t hm] at t5;cases t5
         have cf:ρ2.r t=putL ρ1.r ps.toList (partsOf ps.toList (.tup ds')) t:=(PC.ev_but ra.pc _ _ ρ2 mu rfl).r t fun hm=>by rw[YM.1 t hm] at t4;cases t4
         rw[Bd _ _ _ _ t1] at cf;show ρ1.r t=ρ3.r t;rw[Ad ρ3 (by
          cases e3 with
          |normal=>exact .inl oz.1
          |exit id=>exact .inr ⟨id,oz.1⟩
          |ret=>exact .inr ⟨_,oz.1⟩
          |_=>exact oz.elim),cf]
   have Oy:q2.mo=jJ ra.mo rb.mo:=by rw[←jB];rfl
   have OM:∀j,j∉q2.mo→ρ3.o j=ρ1.o j:=by
        intro j hj;rw[Oy,qm,not_or] at hj;have wI:xi.env?=some ρ3:=by
         cases e3 with
         |normal=>rw[oz.1];rfl
         |exit id=>rw[oz.1];rfl
         |ret=>rw[oz.1];rfl
         |_=>exact oz.elim
        rw[(PC.ev_but rb.pc _ _ ρ3 s9 wI).o j fun hm=>hj.2 (YN.2 j hm),(PC.ev_but ra.pc _ _ ρ2 mu rfl).o j fun hm=>hj.1 (YM.2 j hm)]
        exact Bd _ _ _ _ fun hm=>by
         rw[←wQ] at hm;have:=(dX.1 hm).1;rw[Oy,qm] at this;exact this.elim hj.1 hj.2
   have OL:∀(S:Snap),S∈(q1::q2.ex.map (·.2))→∀j,oF ((S.st ids).o j)=false→(ρ1.put [] [] lo (lo.map ρ3.o)).o j=ρ3.o j:=by
        intro S hS j hj;show putL ρ1.o lo (lo.map ρ3.o) j=ρ3.o j;rw[tB];split
        ·rfl
        ·rename_i gr;refine(OM j fun uD=>gr ?_).symm;rw[←wQ];exact dX.2 ⟨uD,vM.2 ⟨S,hS,by simpa [Snap.st] using hj⟩⟩
   have fin:∀(jump:Option Code) (Sx:Snap),Inv C (Sx.st ids) (ρ1.put [] [] lo (lo.map ρ3.o)) σ3 xD Ep w0 σR (fun _=>False) aM w3→P (i'+1) (lo.map ρ3.o) Sx (if jump.isNone then .ready else .done) jump→jump.isNone=decide (i'<m)→
        ∃v w',(Instr.endRound L jump).run C.P w3=.ok v w'∧K (a'.put o.dst v) w':=by
        intro jump Sx iG hPn uD;refine⟨_,_,run_endRound jump X1,?_⟩;have amJ:({{rec .ready none with state:=.busy} with state:=if jump.isNone then .ready else .done,pending:=jump}:Loop)=rec (if jump.isNone then .ready else .done) jump:=by rw[gJ]
        rw[amJ];have aO:=qh.round (L:=L) (o':=.loop (rec (if jump.isNone then .ready else .done) jump)) Jp;have iH:=iG.putL XY XV (fun t' f c hf DO=>((uy _ _ _ _ hf.F).1 L DO).2 rfl) (.loop (rec (if jump.isNone then .ready else .done) jump));obtain⟨w4,Po⟩:∃w4,w3.putObj L (.loop (rec (if jump.isNone then .ready else .done) jump))=w4:=⟨_,rfl⟩
        have hL5:w4.heap[L]?=some (.loop (rec (if jump.isNone then .ready else .done) jump)):=by rw[←Po];exact World.putObj_heap_same akI
        have aAp:w4.heap.size=w3.heap.size:=by rw[←Po];simp
        rw[Po] at aO iH ⊢;have azQ:W1.heap.size≤w1.heap.size:=by
         have:=hF.lt (W1.heap.size-1) (hF.old _ (by omega));omega
        have aAl:=aO.below.size
        refine hK _ _ ⟨by rw[uD],aO.below,fun k hk hc=>aO.same k hk (by
         cases e:xE k with
         |none=>rfl
         |some j=>exact absurd ((Ah k).2 (.inl ⟨j,e⟩)) hc) (fun e=>hc (by rw[e];exact IT)),(fun k=>k<w4.heap.size∧(k<W1.heap.size∨(∃j,xD k=some j)∨(∃o x,σ3.c k o=some x)∨∃x,σ3.m k=some x)),(fun k=>(∃j,xD k=some j)∨k=L),?_,?_,?_⟩
        ·refine⟨fun k hk=>hk.1,fun k hk=>?_,fun k hk=>⟨by omega,.inl hk⟩,i'+1,lo.map ρ3.o,Sx,_,jump,σ3,xD,Ep,rfl,hPn,iH,Ja.trans ((Im.plus_le1 _ _).trans aO.le),XV,hL5,fun k j e=>⟨(iH.owns k j e).2.1,.inr (.inl ⟨j,e⟩)⟩,fun k o x e=>⟨iH.lt e,.inr (.inr (.inl ⟨o,x,e⟩))⟩,fun k x e=>⟨iH.ltm e,.inr (.inr (.inr ⟨x,e⟩))⟩,fun k=>.rfl⟩;rcases hk with⟨j,e⟩|e
         ·exact⟨(iH.owns k j e).2.1,.inr (.inl ⟨j,e⟩)⟩
         ·exact⟨by omega,.inl (by omega)⟩
        ·rintro k ⟨_,hk⟩ bu
         have DT:((∃o x,σ3.c k o=some x)∨∃x,σ3.m k=some x)→fx k∨(∃o x,σx.c k o=some x)∨(∃x,σx.m k=some x∧x≠cD):=fun h=>by
          rcases aO.imm k h with⟨o,x,e⟩|⟨x,e⟩|⟨j,e⟩|e
          ·rcases Im.plus_c e with e|e
           ·exact .inl (Yi k o x e)
           ·exact .inr (.inl ⟨o,x,e⟩)
          ·rcases Im.plus_m e with e|e
           ·exact .inl (D3 k x e)
           ·exact .inr (.inr ⟨x,(Im.noM_m e).1,(Im.noM_m e).2⟩)
          ·exact .inl (OI k j e)
          ·omega
         rcases hk with hk|⟨j,e⟩|e|e
         ·exact .inl (hF.old k hk)
         ·rcases aO.ow k j e with⟨j',e⟩|e
          ·exact .inl (OI k j' e)
          ·omega
         ·exact DT (.inl e)
         ·exact DT (.inr e)
        ·rintro k (⟨j,e⟩|e) bu
         ·rcases aO.ow k j e with⟨j',e⟩|e
          ·exact(Ah k).2 (.inl ⟨j',e⟩)
          ·omega
         ·rw[e];exact IT
   have oh:kJ σ3 w0.heap.size aM.defers:=iA.defers.mono ((Im.plus_le1 _ _).trans (qh.le.trans Jp.le));have OX:q2.out=rb.out.map (Snap.mask mk)∧q2.ex=rb.ex.map (fun x=>(x.1,x.2.mask mk)):=by rw[←jB,←uF];exact⟨rfl,rfl⟩
   cases e3 with
   |normal=>
    obtain⟨e4,e5⟩:=oz;have hT:q2.out=some (S3.mask mk):=by rw[OX.1,e5];rfl
    have Yt:=Aj _ hT
    have iG:Inv C (q1.st ids) ρ3 σ3 xD Ep w0 σR (fun _=>False) a3 w3:=by
        have:=Snap.meet_ok2 (x:=q1) (iF.maskR mk)
        rwa [Yt] at this
    have iH:=iG.restore (ρ':=ρ1.put [] [] lo (lo.map ρ3.o)) (a':=aM) (Snap.noOpt _ _) oh (fun t ht=>O2 t (by
        cases e:au mk t with
        |false=>rfl
        |true=>
         have h9:=api (x:=q1) (S:=S3) (ids:=ids) e;rw[Yt] at h9;rw[h9] at ht;cases ht)) (fun j hj=>OL q1 (dB ..) j hj)
    rcases Ps with⟨kS,ρ',e6,e7⟩|⟨_,_,id,ρ',e6⟩
    ·rw[e4] at e6;cases e6;exact fin none q1 iH (by rw[hP];exact .inl ⟨by omega,e7,rfl,rfl,rfl⟩) (by simp[kS])
    ·rw[e4] at e6;cases e6
   |exit id=>
    obtain⟨e4,e5,e6⟩:=oz;have dg:(id,S3.mask mk)∈q2.ex:=by rw[OX.2];exact ei.2 ⟨_,e6,rfl⟩
    have iH:=(iF.maskR mk).restore (ρ':=ρ1.put [] [] lo (lo.map ρ3.o)) (a':=aM) (Snap.noOpt _ _) oh (fun t ht=>O2 t (by
        cases e:au mk t with
        |false=>rfl
        |true=>rw[EJ,if_pos e] at ht;cases ht)) (fun j hj=>OL (S3.mask mk) (dy _ (ei.2 ⟨_,dg,rfl⟩)) j hj)
    rcases Ps with⟨kS,ρ',e7,_⟩|⟨kS,p8,bR,ρ',e7⟩
    ·rw[e4] at e7;cases e7
    ·subst kS;refine fin (some (.exit id)) (S3.mask mk) iH ?_ (by simp);rw[hP];refine .inr ⟨rfl,p8,rfl,_,id,ρ3,dI,?_,rfl,dg,.inl ⟨e5,rfl⟩⟩;rw[ae];simp only[PC.ev,mu];rw[s9,e4]
   |ret=>
    obtain⟨e4,e6⟩:=oz;have dg:(cO,S3.mask mk)∈q2.ex:=by rw[OX.2];exact ei.2 ⟨_,e6,rfl⟩
    have iH:=(iF.maskR mk).restore (ρ':=ρ1.put [] [] lo (lo.map ρ3.o)) (a':=aM) (Snap.noOpt _ _) oh (fun t ht=>O2 t (by
        cases e:au mk t with
        |false=>rfl
        |true=>rw[EJ,if_pos e] at ht;cases ht)) (fun j hj=>OL (S3.mask mk) (dy _ (ei.2 ⟨_,dg,rfl⟩)) j hj)
    rcases Ps with⟨kS,ρ',e7,_⟩|⟨kS,p8,bR,ρ',e7⟩
    ·rw[e4] at e7;cases e7
    ·subst kS;refine fin (some .ret) (S3.mask mk) iH ?_ (by simp);rw[hP];refine .inr ⟨rfl,p8,rfl,_,cO,ρ3,dI,?_,rfl,dg,.inr ⟨rfl,rfl⟩⟩;rw[ae];simp only[PC.ev,mu];rw[s9,e4]
   |_=>exact oz.elim
  |exit id=>obtain⟨_,_,e6⟩:=ko;rw[Yc] at e6;cases e6
  |ret=>obtain⟨_,e6⟩:=ko;rw[Yc] at e6;cases e6
  |_=>exact ko.elim
 ·rintro e' w' ⟨⟨v,rfl⟩,fx,cx,hF⟩;rw[show({tmps:=a.tmps,defers:=[{target:=Target.collected w.heap.size,args:=#[]}]++a.defers}:Act)=aM from NV];obtain⟨i',vo,Sx,st,pe,σa,xE,hva,e1,e2,iA,Ja,Dy,IE,OI,Yi,D3,Ah⟩:=hF.ex;have h9:=congrArg List.length (congrArg D.l e1);simp only[D.l_list,dW] at h9;have cH:(rec st pe).state≠.busy:=by
   rw[hP] at e2;rw[gJ];rcases e2 with⟨_,_,_,e3,_⟩|⟨_,_,e3,_⟩<;>(rw[e3];intro e;cases e)
  have uH:(rec st pe).pending=pe:=by rw[gJ]
  have Og:(Instr.endLoop L).run C.P w'=.ok pe (w'.putObj L (.loop {rec st pe with state:=.exhausted})):=(run_endLoop (P:=C.P) IE cH).trans (congrArg (fun z=>Result.ok z _) uH);have iF:=iA.putL (by omega:w0.heap.size≤L) Dy (fun t' f c hf DO=>((uy _ _ _ _ hf.F).1 L DO).2 rfl) (.loop {rec st pe with state:=.exhausted});rw[←hσR] at iF;have iG:=i1.ofRnd Oh (fun k hk e=>by have:=alz k hk;omega) iF;have kq:SameBut wr a aM:=⟨by rw[DA],fun t _=>by rw[DA]⟩
  refine⟨pe,_,Og,?_⟩;rw[hP] at e2;rcases e2 with⟨e3,rfl,Dz,_,rfl⟩|⟨rfl,p8,_,y,id,ρ',g1,g2,rfl,g4,g5⟩
  ·rcases kT with⟨g1,g2⟩|⟨g1,_⟩
   ·obtain rfl:i'=m:=by omega
    rw[Dz] at iG;exact⟨_,q1,g2,rfl,kq,_,_,_,iG⟩
   ·omega
  ·rcases kT with⟨g6,_⟩|⟨_,y',bR,ρ'',k1,k2,k3⟩
   ·omega
   ·rw[g1] at k1;cases k1;rw[g2] at k2;cases k2;rcases k3 with⟨k3,k4⟩|⟨k3,pe',k4,k5⟩
    ·rcases g5 with⟨_,rfl⟩|⟨g5,_⟩
     ·exact wpIn_exit ⟨_,Sx,k4,k3,dX.2 ⟨g4,by simp[eH k3]⟩,kq,_,_,_,iG⟩
     ·exact absurd g5 k3
    ·rcases g5 with⟨g5,_⟩|⟨_,rfl⟩
     ·exact absurd k3 g5
     ·subst k3;rw[←uL,aq] at k4;obtain⟨M,hM,Ej⟩:=k4;obtain⟨M',X4,sS⟩:=PZ (⟨_,_,_,iG⟩:Good C w0 σ0 (Sx.st ids) _ (fun _=>False) aM _) q2.ex none g4;rw[hM] at X4;cases X4;obtain⟨σm,aBe,Zs,im⟩:=sS;exact wpIn_ret ⟨_,k5,Inv.retD hC (fun _=>rfl) m5 Ej _ im rfl,kq⟩
theorem aaj {arr:Array MapEntry}{clock:Nat}(hb:mT arr clock){idx:List Nat}(hi:∀i,i∈idx→i<arr.size){i:Nat}{e:MapEntry}(he:arr[i]?=some e):(gB arr idx).contains e.born=true↔i∈idx:=by
 simp only[gB,List.contains_toArray,List.contains_iff_mem,ei];constructor
 ·rintro⟨j,hj,h⟩;have af:=hi j hj;rw[fL af] at h;simp only at h;have:=hb.2 j i arr[j] e (fL af) he h;rw[←this];exact hj
 ·intro h;exact⟨i,h,by rw[he]⟩
theorem asd (arr:Array MapEntry)(idx:List Nat){i:Nat}{e:MapEntry}(he:arr[i]?=some e):(gB arr idx).push e.born=gB arr (idx++[i]):=by
 simp[gB,he]
theorem apA {P:Program}{w:World}{k m:Nat}{arr:Array MapEntry}{clock:Nat}{idx:List Nat}(hk:w.heap[k]?=some (.mapIter (some m) clock (gB arr idx) clock))(hm:w.heap[m]?=some (.map arr clock))(hb:mT arr clock)(hi:∀i,i∈idx→i<arr.size)(T:TypeId):
 ∃w1:World,(w1=w∨w1=w.drew)∧(((∀i,i<arr.size→i∈idx)∧(Instr.next (.pointer (some ⟨k,0,none⟩)) false T).run P w=.ok (.tuple #[.bool false]) w1)∨
  ∃i e,arr[i]?=some e∧i∉idx∧(Instr.next (.pointer (some ⟨k,0,none⟩)) false T).run P w=.ok (.tuple #[.bool true,e.key,e.val]) {w1 with heap:=w1.heap.setIfInBounds k (.mapIter (some m) clock (gB arr (idx++[i])) clock)}):=by
 have dg:∀{e:MapEntry},e∈arr→∃i:Nat,arr[i]?=some e:=fun he=>by
  obtain⟨i,hi,rfl⟩:=Array.mem_iff_getElem.1 he;exact⟨i,fL hi⟩
 have hold:∀(l:Array MapEntry),(∀e,e∈l→e.born<clock)→l.filter (fun x=>decide (x.born<clock))=l:=fun l h=>by
  rw[Array.filter_eq_self];intro e he;simpa using h e he
 have lJ:∀(l:Array MapEntry),(∀e,e∈l→e.born<clock)→l.filter (fun x=>decide (x.born≥clock))=#[]:=fun l h=>by
  rw[Array.filter_eq_empty_iff];intro e he;have:=h e he;simp;omega
 have Yf:∀e,e∈arr→e.born<clock:=fun e he=>by obtain⟨i,hi⟩:=dg he;exact hb.1 i e hi
 have ml:(!(gB arr idx).isEmpty&& !arr.isEmpty&&arr.all (fun x=>decide (x.born≥clock)))=false:=by
  cases ha:arr.isEmpty
  ·have aw:arr.size≠0:=by simpa using ha
   have:arr.all (fun x=>decide (x.born≥clock))=false:=by
        rw[VC];intro h;rw[Array.all_eq_true] at h;have h0:=h 0 (by omega);have h1:=Yf arr[0] (VA _);simp at h0;omega
   rw[this,ym]
  ·simp
 let left:=arr.filter fun e=> !(gB arr idx).contains e.born
 have hl:∀e,e∈left→e.born<clock:=fun e he=>Yf e (VB.1 he).1;by_cases hz:left.size=0
 ·refine⟨w,.inl rfl,.inl ⟨fun i af=>?_,?_⟩⟩
  ·by_cases bt:i∈idx
   ·exact bt
   ·exfalso;have Jc:arr[i]∈left:=VB.2 ⟨VA _,by
     have:=aaj hb hi (fL af);cases hc:(gB arr idx).contains arr[i].born with
     |false=>rfl
     |true=>exact absurd (this.1 hc) bt⟩
    have:left=#[]:=LR hz;rw[this] at Jc;simp at Jc
  ·have he:left=#[]:=LR hz;have p5:arr.filter (fun e=> !(gB arr idx).contains e.born)=#[]:=he;simp only[Instr.next,getObj,Sem.run_bind,Sem.run,hk,hm,Result.andThen_ok,ml,p5];simp[Question.forced,Sem.run]
 ·have jS:left.filter (fun x=>decide (x.born<clock))=left:=hold left hl;have kQ:left.filter (fun x=>decide (x.born≥clock))=#[]:=lJ left hl;have hem:left.isEmpty=false:=by simpa using hz
  have key:∀c,c<left.size→∃i e,arr[i]?=some e∧i∉idx∧left[c]?=some e:=fun c hc=>by
   have Jc:left[c]∈left:=VA _;obtain⟨h1,h2⟩:=VB.1 Jc;obtain⟨i,df⟩:=dg h1;refine⟨i,left[c],df,fun bt=>?_,fL hc⟩;rw[(aaj hb hi df).2 bt] at h2;cases h2
  obtain⟨w1,c,jC,hc,mj⟩:∃w1 c,(w1=w∨w1=w.drew)∧c<left.size∧(choose (.mapNext left.size)).run P w=.ok c w1:=by
   by_cases h1:left.size≤1
   ·exact⟨w,0,.inl rfl,by omega,by simp[Question.forced,h1]⟩
   ·exact⟨w.drew,_,.inr rfl,Nat.mod_lt _ (by omega),by simp[Question.forced,h1,Question.cut];rfl⟩
  obtain⟨i,e,h1,h2,h3⟩:=key c hc;refine⟨w1,jC,.inr ⟨i,e,h1,h2,?_⟩⟩;have wP:arr.filter (fun e=> !(gB arr idx).contains e.born)=left:=rfl;have oq:(getObj k).run P w=.ok (.mapIter (some m) clock (gB arr idx) clock) w:=by simp[getObj,Sem.run,hk]
  have gW:(getObj m).run P w=.ok (.map arr clock) w:=by simp[getObj,Sem.run,hm]
  have bu:w1.heap[k]?=some (.mapIter (some m) clock (gB arr idx) clock):=by rcases jC with rfl|rfl<;>exact hk
  have Yu:(setObj k (.mapIter (some m) clock ((gB arr idx).push e.born) clock)).run P w1=.ok () {w1 with heap:=w1.heap.setIfInBounds k (.mapIter (some m) clock ((gB arr idx).push e.born) clock)}:=by simp[setObj,Sem.run,bu]
  have ak4:((if false=true then #[none] else #[])++Array.map some (left++#[]):Array (Option MapEntry))=left.map some:=by simp
  have jc:(left.map some)[c]?=some (some e):=by simp[h3]
  have Yw:∀(Cz:Array (Option MapEntry)) (cc:Nat),(choose (.mapNext Cz.size)).run P w=.ok cc w1→Cz[cc]?=some (some e)→(do
        match Cz[←choose (.mapNext Cz.size)]? with
        |some (some e)=>
         setObj k (.mapIter (some m) clock ((gB arr idx).push e.born) clock)
         pure (.tuple #[.bool true,e.key,e.val])
        |some none=>(pure (.tuple #[.bool false]):Sem Value)
        |none=>stuck "Next: no such candidate" :Sem Value).run P w=.ok (.tuple #[.bool true,e.key,e.val]) {w1 with heap:=w1.heap.setIfInBounds k (.mapIter (some m) clock ((gB arr idx).push e.born) clock)}:=by
   intro Cz cc h4 h5;rw[Sem.run_bind,h4];simp only[Result.andThen_ok,h5];rw[Sem.run_bind,Yu];rfl
  rw[asd arr idx h1] at Yw Yu;have:=Yw (left.map some) c (by rw[Array.size_map];exact mj) jc;simp only[Instr.next];rw[Sem.run_bind,oq];simp only[Result.andThen_ok];rw[Sem.run_bind,gW];simp only[Result.andThen_ok,ml,wP,jS,kQ,hem];rw[ak4,if_neg (by decide)];exact this
theorem aiQ {P:Program}{w:World}{k m:Nat}{arr:Array MapEntry}{clock:Nat}{idx:List Nat}{i:Nat}{e:MapEntry}(hk:w.heap[k]?=some (.mapIter (some m) clock (gB arr (idx++[i])) clock))(hm:w.heap[m]?=some (.map arr clock))(hb:mT arr clock)(he:arr[i]?=some e):
 (Instr.entry (.pointer (some ⟨k,0,none⟩))).run P w=.ok (.tuple #[e.key,e.val]) w:=by
 have ak0:(gB arr (idx++[i])).back?=some e.born:=by simp[gB,he]
 have DP:arr.find? (fun x=>x.born==e.born)=some e:=by
  have af:i<arr.size:=(gD.1 he).1;have hei:arr[i]=e:=(gD.1 he).2;rw[Array.find?_eq_some_iff_getElem];refine⟨by simp,i,af,hei,fun j hj=>?_⟩;have gr:j<arr.size:=by omega
  cases hc:(arr[j].born==e.born) with
  |false=>rfl
  |true=>
   have:=hb.2 j i arr[j] e (fL gr) he (by simpa using hc);omega
 simp[Instr.entry,getObj,Sem.run_bind,Sem.run,hk,hm,ak0,DP]
theorem apc {x y z:Code}{k:Nat}{p:MP}(h:AK x y k z=some p):∃i1 i2 o1 o2 o3 l,x=.region i1 p.ops1 false∧y=.cond (.tmp p.mo) .skip (.exit p.out)∧z=.region i2 p.ops2 false∧p.next=k∧p.ops1.toList=[o1,o2]∧p.ops2.toList=o3::l∧
 o1.dst=some p.nx∧o1.guard=none∧o1.op=.next (.tmp p.it) false∧o2.dst=some p.mo∧o2.guard=none∧o2.op=.extract (.tmp p.nx) 0∧o3.dst=some p.pr∧o3.guard=none∧o3.op=.entry (.tmp p.it)∧ld p.pr l []=some p.aa∧
 p.it≠p.nx∧p.it≠p.mo∧p.it≠p.pr∧p.nx≠p.mo∧p.out≠cO∧k≠cO:=by
 unfold AK at h;split at h
 case h_2=>cases h
 rename_i i1 ops1 mo out i2 ops2;split at h
 case h_2=>cases h
 rename_i o1 o2 o3 l e1 e2;split at h
 case h_2=>cases h
 rename_i nx it mo' nx' pr ZR d1 g1 q1 d2 g2 q2 d3 g3 q3;rw[pq] at h;split at h
 case isFalse=>cases h
 rename_i hc;simp only[az] at h;obtain⟨aa,h4,rfl⟩:=h;simp only[ao,iU] at hc;obtain⟨⟨⟨⟨⟨⟨⟨⟨c1,c2⟩,c3⟩,c4⟩,c5⟩,c6⟩,c7⟩,c8⟩,c9⟩:=hc;have ne:∀{a b:Nat},Nat.beq a b=false→a≠b:=fun h e=>by subst e;simp at h
 obtain rfl:=ay c1;obtain rfl:=ay c2;obtain rfl:=ay c3;exact⟨i1,i2,o1,o2,o3,l,rfl,rfl,rfl,rfl,e1,e2,d1,g1,q1,d2,g2,q2,d3,g3,q3,h4,ne c4,ne c5,ne c6,ne c7,ne c8,ne c9⟩
theorem Kb {pr:Nat}:∀(l:List Oper) {acc aa:List (Nat×Nat)},ld pr l acc=some aa→∀x,x∈acc→x∈aa
 |[],acc,aa,h,x,hx=>by simp only[ld,aS] at h;subst h;exact hx
 |o::l,acc,aa,h,x,hx=>by
  simp only[ld] at h;split at h
  case h_2=>cases h
  rw[pq] at h;split at h
  ·cases h
  split at h
  ·rw[pq] at h;split at h
   ·exact Kb l h x (iu _ hx)
   ·cases h
  ·simp only[aq] at h;obtain⟨i,_,h⟩:=h;exact Kb l h x (iu _ hx)
  ·simp only[aq] at h;obtain⟨i,_,h⟩:=h;exact Kb l h x (iu _ hx)
  ·cases h
theorem EG:∀{l:List (Nat×Nat)} {t i:Nat},uW l t=some i→(t,i)∈l
 |x::l,t,i,h=>by
  simp only[uW] at h;cases hb:Nat.beq x.1 t<;>simp only[hb,cond_true,cond_false] at h
  ·exact dy _ (EG h)
  ·cases h;have:=ay hb;subst this;exact dB ..
theorem aab:∀{l:List (Nat×Nat)} {t:Nat},(uW l t).isSome=false→∀x,x∈l→x.1≠t
 |y::l,t,h,x,hx=>by
  simp only[uW] at h;cases hb:Nat.beq y.1 t<;>simp only[hb,cond_true,cond_false] at h
  ·rcases cT.1 hx with e|hx
   ·subst e;intro e;subst e;simp at hb
   ·exact aab h x hx
  ·cases h
theorem QR {pr:Nat}:∀(l:List Oper) {acc aa:List (Nat×Nat)},ld pr l acc=some aa→(∀x,x∈acc→x.2≤1)→∀x,x∈aa→x∈acc∨(x.2≤1∧∃o,o∈l∧o.dst=some x.1)
 |[],acc,aa,h,_,x,hx=>by simp only[ld,aS] at h;subst h;exact .inl hx
 |o::l,acc,aa,h,ha,x,hx=>by
  simp only[ld] at h;split at h
  case h_2=>cases h
  rename_i d hd km;rw[pq] at h;split at h
  ·cases h
  have go:∀(pt:Nat),pt≤1→ld pr l (acc++[(d,pt)])=some aa→x∈acc∨(x.2≤1∧∃o',o'∈o::l∧o'.dst=some x.1):=by
   intro pt uI hp
   rcases QR l hp (fun y hy=>by
        rcases dJ.1 hy with h|h
        ·exact ha y h
        ·simp at h;subst h;exact uI) x hx with h|⟨h1,o',h2,h3⟩
   ·rcases dJ.1 h with h|h
    ·exact .inl h
    ·simp at h;subst h;exact .inr ⟨uI,o,dB ..,hd⟩
   ·exact .inr ⟨h1,o',dy _ h2,h3⟩
  split at h
  ·rw[pq] at h;split at h
   case isFalse=>cases h
   rename_i jc;simp only[ao] at jc;exact go _ (jN jc.2) h
  ·simp only[aq] at h;obtain⟨i,hi,h⟩:=h;exact go i (ha _ (EG hi)) h
  ·simp only[aq] at h;obtain⟨i,hi,h⟩:=h;exact go i (ha _ (EG hi)) h
  ·cases h
theorem A7 {P:Program}{ops:Array Oper}{i:Nat}{rest:List Nat}{o:Oper}{rd:Option Nat}{a:Act}{w w':World}{Q:Exit→Act→World→Prop}{v:Value}(ho:ops[i]?=some o)(hg:o.guard=none)(bn:oL o.op=true)(hx:(execOp a.eval o).run P w=.ok (.value v) w')
 (k:wpOpsIn (FR rd) 0 P ops Q rest (a.put o.dst v) w'):wpOpsIn (FR rd) 0 P ops Q (i::rest) a w:=by
 simp only[wpOpsIn,ho];rw[if_pos (by simp[Region.wanted,hg])];exact acg bn (by unfold Oper.wp;rw[hx];exact k)
theorem ar5 {ops:Array Oper}{o:Oper}(ho:o∈ops.toList)(a:Act)(v:Value):SameBut (qW ops) a (a.put o.dst v):=by
 have:=SameBut.put a o.dst v a.defers;exact this.mono fun t e=>⟨o,ho,e⟩
theorem Be {a:Act}{d:Nat}{v:Value}(h:d<a.tmps.size):(a.put (some d) v).tmps.getD d undef=v:=by rw[ye];simp[h]
theorem Kk {a:Act}{d t:Nat}{v:Value}(h:t≠d):(a.put (some d) v).tmps.getD t undef=a.tmps.getD t undef:=by rw[ye];simp[h]
theorem put_defers (a:Act)(d:Option Nat)(v:Value):(a.put d v).defers=a.defers:=by cases d<;>rfl
def EU (kv vv:Value)(i:Nat):Value:=if i=0 then kv else vv
theorem acs {P:Program}{ops:Array Oper}{rd:Option Nat}{Q:Exit→Act→World→Prop}{pr:Nat}{kv vv:Value}{w:World}:∀(l:List Oper) (acc aa:List (Nat×Nat)) (i:Nat) (a:Act),ld pr l acc=some aa→ops.toList.drop i=l→(∀x,x∈aa→x.1<a.tmps.size)→a.tmps.getD pr undef=.tuple #[kv,vv]→
 (∀x,x∈acc→a.tmps.getD x.1 undef=EU kv vv x.2)→(∀a',SameBut (qW ops) a a'→a'.defers=a.defers→(∀x,x∈aa→a'.tmps.getD x.1 undef=EU kv vv x.2)→Q .normal a' w)→wpOpsIn (FR rd) 0 P ops Q (List.range' i (ops.size-i)) a w
 |[],acc,aa,i,a,h,hl,af,qe,DB,hQ=>by
  simp only[ld,aS] at h;subst h;have:ops.size-i=0:=by
    have:=VO.1 hl;simp at this;omega
  rw[this];exact hQ a (.refl _ _) rfl DB
 |o::l,acc,aa,i,a,h,hl,af,qe,DB,hQ=>by
  have hi:i<ops.toList.length:=by
   refine VX fun hle=>?_;rw[VO.2 hle] at hl;cases hl
  rw[afF hi] at hl;have ho:ops[i]?=some o:=by
   have:ops.toList[i]=o:=by injection hl
   rw[←this];simp at hi ⊢
  have Aq:ops.toList.drop (i+1)=l:=by injection hl
  have aE:ops.size-i=(ops.size-(i+1))+1:=by simp at hi;omega
  rw[aE,GP];have dg:o∈ops.toList:=by simpa using il ho
  simp only[ld] at h;split at h
  case h_2=>cases h
  rename_i d hd km;rw[pq] at h;split at h
  ·cases h
  rename_i hc;simp only[gg,not_or,Bool.not_eq_true] at hc;have hdp:pr≠d:=fun e=>by subst e;simp at hc
  have N9:∀x,x∈acc→x.1≠d:=aab hc.2;have go:∀(pt:Nat) (v:Value),ld pr l (acc++[(d,pt)])=some aa→oL o.op=true→v=EU kv vv pt→(execOp a.eval o).run P w=.ok (.value v) w→wpOpsIn (FR rd) 0 P ops Q (i::List.range' (i+1) (ops.size-(i+1))) a w:=by
   intro pt v hp bn hv hx;have Oa:d<a.tmps.size:=af _ (Kb l hp (d,pt) (by simp));refine A7 ho km bn hx ?_;have kq:=ar5 dg a v;rw[hd] at kq ⊢;refine acs l _ aa (i+1) _ hp Aq (fun x hx=>by rw[kq.size];exact af x hx) (by rw[Kk hdp];exact qe) (fun x hx=>?_) (fun a' h1 h2 h3=>hQ a' (kq.trans h1) (h2.trans (put_defers _ _ _)) h3);rcases dJ.1 hx with hx|hx
   ·rw[Kk (N9 x hx)];exact DB x hx
   ·simp at hx;subst hx;rw[Be Oa];exact hv
  split at h
  ·rename_i t pt e;rw[pq] at h;split at h
   case isFalse=>cases h
   rename_i jc;simp only[ao] at jc;have ht:=ay jc.1;have uI:=jN jc.2;subst ht;have bK:a.eval (.tmp t)=.tuple #[kv,vv]:=by simpa [Act.eval] using qe
   refine go pt (EU kv vv pt) h (by rw[e];rfl) rfl ?_;rcases(by omega:pt=0∨pt=1) with rfl|rfl<;>simp[execOp,e,bK,Instr.extract,EU]
  ·rename_i t e;simp only[aq] at h;obtain⟨pt,wP,h⟩:=h;have:=DB _ (EG wP);exact go pt (a.eval (.tmp t)) h (by rw[e];rfl) (by simpa [Act.eval] using this) (by simp[execOp,e])
  ·rename_i t e;simp only[aq] at h;obtain⟨pt,wP,h⟩:=h;have:=DB _ (EG wP);exact go pt (a.eval (.tmp t)) h (by rw[e];rfl) (by simpa [Act.eval] using this) (by simp[execOp,e])
  ·cases h
theorem PH (ids:List Nat)(J j:Nat)(S:Snap):((S.kill ids J).st ids).o j=if j=J then .dead else(S.st ids).o j:=by
 show dw ids (xh ids J S.os) j=_;have:∀(is:List Nat) (os:List Ob),dw is (xh is J os) j=if j=J then .dead else dw is os j:=by
  intro is
  induction is with
  |nil=>intro os;simp[xh,dw]
  |cons i is ih=>
   intro os;cases os with
   |nil=>simp[xh,dw]
   |cons o os=>
    simp only[xh,dw];cases hb:Nat.beq i j
    ·simp only[cond_false];exact ih os
    ·have:=ay hb;subst this;simp only[cond_true];by_cases dk:i=J
     ·subst dk;simp
     ·simp[eH dk,dk]
 exact this ids S.os
theorem Wy {N:Nat}{id:Nat}(I2:id≠cO){rm:Bool}{wr:Nat→Prop}{a:Act}{q:Res2}{x xi:Out}(rk:(∀t,t∈q.pc.modR→au q.mr t=true)∧∀j,j∈q.pc.modO→j∈q.mo)(dI:q.pc.ev Φ N ρ=some xi)(bK:(gG ids id q).pc.ev Φ N ρ=some x){e:Exit}{a':Act}{w':World}
 (fU:gT C w0 σ0 ids fn s rm wr a q.out q.ex xi e a' w'):Exit.inBlock id (gT C w0 σ0 ids fn s rm wr a (gG ids id q).out (gG ids id q).ex x) e a' w':=by
 have Yr:∀bR S1,(bR,S1)∈q.ex→bR≠id→(bR,S1)∈q.ex.filter fun x=> !Nat.beq x.1 id:=fun bR S1 hm aw=>dX.2 ⟨hm,by simp[eH aw]⟩;have main:∀(o:Option Snap) (lr lo:List Nat),oJ id q.ex q.out=o→(∀M,o=some M→lr=kz M q.mr∧lo=jE ids M q.mo)→(PC.block id lr lo q.pc).ev Φ N ρ=some x→
        Exit.inBlock id (gT C w0 σ0 ids fn s rm wr a o (q.ex.filter fun x=> !Nat.beq x.1 id) x) e a' w':=by
  intro o lr lo ho hl bK;simp only[PC.ev] at bK;rw[dI] at bK
  have fin:∀{ρ1:Env} {a':Act} {w':World},(∃M,o=some M∧Good C w0 σ0 (M.st ids) ρ1 (fun _=>False) a' w')→xi.env?=some ρ1→x=.next (ρ.join lr lo ρ1)→SameBut wr a a'→
   gT C w0 σ0 ids fn s rm wr a o (q.ex.filter fun x=> !Nat.beq x.1 id) x .normal a' w':=by
        intro ρ1 a' w' hM wI hx eU;obtain⟨M,hM,sS⟩:=hM;obtain⟨l1,l2⟩:=hl M hM;subst l1 l2;exact⟨_,M,hx,hM,eU,sS.joined (PC.ev_but q.pc ρ _ ρ1 dI wI) rk.1 rk.2⟩
  cases e with
  |normal=>
   obtain⟨ρ1,S2,e1,e2,eU,gW⟩:=fU;subst e1;simp only[aS] at bK;refine fin ?_ rfl bK.symm eU;rw[e2] at ho;obtain⟨M,h1,h2⟩:=JJ (id:=id) q.ex gW;rw[ho] at h1;exact⟨M,h1,h2⟩
  |exit bR=>
   obtain⟨ρ1,S2,e1,e0,e2,eU,gW⟩:=fU;subst e1;simp only at bK;show if bR=id then _ else _;by_cases cE:bR=id
   ·subst cE;simp only[gR,cond_true,aS] at bK;simp only[if_true];refine fin ?_ rfl bK.symm eU;rw[←ho];exact PZ gW q.ex q.out e2
   ·simp only[eH cE,cond_false,aS] at bK;subst bK;simp only[cE,if_false];exact⟨ρ1,S2,rfl,e0,Yr _ _ e2 cE,eU,gW⟩
  |ret=>
   cases rm with
   |false=>
    have hy:=fU;obtain⟨d,e1,_⟩:=hy;subst e1;simp only[aS] at bK;subst bK;exact fU
   |true=>
    obtain⟨ρ1,S2,e1,e2,eU,gW⟩:=fU;subst e1;simp only[eH (fun e=>I2 e.symm:cO≠id),cond_false,aS] at bK;subst bK;exact⟨ρ1,S2,rfl,Yr _ _ e2 (fun e=>I2 e.symm),eU,gW⟩
  |_=>exact fU.elim
 unfold gG at bK ⊢;cases hm:oJ id q.ex q.out with
 |none=>
  simp only[hm] at bK ⊢;exact main none [] [] hm (fun M e=>by cases e) bK
 |some M=>
  simp only[hm] at bK ⊢;exact main (some M) _ _ hm (fun M' e=>by cases e;exact⟨rfl,rfl⟩) bK
theorem Ww {N id:Nat}{q:Res2}{x:Out}(bK:(gG ids id q).pc.ev Φ N ρ=some x):∃xi,q.pc.ev Φ N ρ=some xi:=by
 unfold gG at bK;cases hm:oJ id q.ex q.out<;>simp only[hm,PC.ev] at bK<;>cases dI:q.pc.ev Φ N ρ<;>first|exact⟨_,rfl⟩|(rw[dI] at bK;cases bK)
theorem ad0 {es:List (D×D)}{idx:List Nat}(hn:idx.Nodup)(af:∀i,i∈idx→i<es.length)(aO:∀i,i<es.length→i∈idx):(gO es idx).Perm (iQ (.map es)):=by
 have h1:idx.Perm (List.range es.length):=by
  rw[List.perm_ext_iff_of_nodup hn L2];intro i;rw[bZ];exact⟨af i,aO i⟩
 have h2:gO es (List.range es.length)=iQ (.map es):=by
  refine List.ext_getElem (by simp[gO,iQ,D.m]) fun i g1 g2=>?_;have hi:i<es.length:=by simpa [gO] using g1
  simp[gO,iQ,D.m,bA hi]
 rw[←h2];exact h1.map _
theorem ase {es:List (D×D)}{idx:List Nat}(hn:idx.Nodup)(af:∀i,i∈idx→i<es.length):∃rest,(gO es idx++rest).Perm (iQ (.map es)):=by
 refine⟨gO es ((List.range es.length).filter fun i=> !idx.contains i),?_⟩;have e:gO es idx++gO es ((List.range es.length).filter fun i=> !idx.contains i)=gO es (idx++(List.range es.length).filter fun i=> !idx.contains i):=by simp[gO]
 rw[e];refine ad0 ?_ (fun i hi=>?_) (fun i hi=>?_)
 ·rw[B7];refine⟨hn,L2.filter _,fun a ha b hb e=>?_⟩;subst e;have:=(dX.1 hb).2;simp[ha] at this
 ·rcases dJ.1 hi with h|h
  ·exact af i h
  ·exact bZ.1 (dX.1 h).1
 ·by_cases h:i∈idx
  ·exact iu _ h
  ·exact iV _ (dX.2 ⟨bZ.2 hi,by simp[h]⟩)
theorem ad1 (es:List (D×D))(idx:List Nat){i:Nat}{p:D×D}(h:es[i]?=some p):gO es (idx++[i])=gO es idx++[.tup [p.1,p.2]]:=by simp[gO,h]
theorem ape {N:Nat}{x y z code:Code}{k:Nat}{p:MP}(hp:AK x y k z=some p)(ihc:vS C Φ fn s n ids R N code){rm:Bool}{S:Snap}{r:Res2}
 (hr:AL ids n p (cu x++(cu y++(cu z++cu code))) (fun S=>comp C fn s n ids R rm code S) S=some r) {rd:Option Nat} {wr:Nat→Prop} {x0:Out} (gK:rm=false→rd=none∧σ0.fin) (hC:CtxOK C σ0) (hY:pB C Φ w0 σ0)
 (iN:∀t,t∈cu (.loop (.seq x (.seq y (.block k (.seq z code)))))→wr t) (hn:a.tmps.size=n) (hg:Good C w0 σ0 (S.st ids) ρ (fun _=>False) a w) (he:r.pc.ev Φ N ρ=some x0):
 (Code.loop (.seq x (.seq y (.block k (.seq z code))))).wpIn (FR rd) 0 C.P (gT C w0 σ0 ids fn s rm wr a r.out r.ex x0) a w:=by
 obtain⟨i1,i2,o1,o2,o3,l,rfl,rfl,rfl,hk,e1,e2,d1,g1,q1,d2,g2,q2,d3,g3,q3,ng,n1,n2,n3,n4,n5,n6⟩:=apc hp;subst hk;unfold AL at hr;split at hr
 case h_2=>cases hr;exact absurd he (mM _ _ _ _)
 rename_i J hJ;split at hr
 case h_2=>cases hr;exact absurd he (mM _ _ _ _)
 rename_i kt et I7;simp only at hr;split at hr
 case h_2=>cases hr;exact absurd he (mM _ _ _ _)
 rename_i q hq;rw[pq] at hr;split at hr
 case isFalse=>cases hr;exact absurd he (mM _ _ _ _)
 rename_i wG;cases hr;generalize Jt:cu (.region i1 p.ops1 false)++(cu (.cond (.tmp p.mo) .skip (.exit p.out))++(cu (.region i2 p.ops2 false)++cu code))=ws at*;simp only[ao,iU] at wG;obtain⟨⟨⟨⟨⟨⟨⟨⟨c1,c2⟩,c3⟩,c4⟩,c5⟩,c6⟩,c7⟩,c8⟩,c9⟩:=wG;have hex:q.2.ex=[]:=tX.1 c1;have XX:J∉q.2.mo:=fun h=>by rw[(ql _ _).2 h] at c2;cases c2
 simp only[ZN,ao,iU] at c3;obtain⟨⟨c3a,c3b⟩,c3c⟩:=c3;have amM:q.1.rs.getD p.it .none=.obj J 0:=Sh.beq_eq _ _ c3a;have Ji:dw ids q.1.os J=.it kt et:=Ob.beq_eq _ _ c3b;have amD:∀t,t∈p.aa.map (·.1)→t<n:=fun t ht=>by have:=bF.1 c5 t ht;rwa [iX] at this
 have OH:p.nx<n:=by rwa [iX] at c6
 have Oy:p.mo<n:=by rwa [iX] at c7
 have qe:p.pr<n:=by rwa [iX] at c8
 have D6:=ay c9;obtain⟨hs,Aj,bt⟩:=EA (C:=C) (w0:=w0) (σ0:=σ0) (ids:=ids) 8 hq;simp only[az] at hs;obtain⟨q0,wU,jB⟩:=hs;obtain⟨qS,qR⟩:=q;simp only at*;subst jB;generalize hm:xr ws=m at*;generalize wQ:jE ids qS (gG ids p.next q0).mo=lo at*;have OA:=Wx (ids:=ids) (id:=p.next) (uj code wU);have alZ:∀j,j∈lo→j∈(gG ids p.next q0).mo:=fun j hj=>by rw[←wQ] at hj;exact AM hj
 have azO:J∉lo:=fun h=>XX (alZ J h);have Eh:∃BX,Ke ((gG ids p.next q0).pc.ev Φ N) ρ J (p.aa.map (·.1)) (p.aa.map (·.2)) lo BX∧x0=.exit p.out (ρ.put [] [] lo BX):=by
  simp only[PC.ev] at he;cases qe:Kf ((gG ids p.next q0).pc.ev Φ N) ρ J (p.aa.map (·.1)) (p.aa.map (·.2)) lo with
  |none=>rw[qe] at he;cases he
  |some y=>
   obtain⟨BX,h1,rfl⟩:=Bb.1 qe;rw[qe] at he;simp only[aS] at he;exact⟨BX,h1,he.symm⟩
 obtain⟨BX,⟨Ed,akS⟩,hx0⟩:=Eh;generalize jy:(ρ.o J).tget 1=es at*
 have jC:∀o,o∈p.ops1.toList→∀d,o.dst=some d→d∈ws:=fun o ho d hd=>by
  rw[←Jt];exact iu _ (tY.2 ⟨o,ho,hd⟩)
 have dH:∀o,o∈p.ops2.toList→∀d,o.dst=some d→d∈ws:=fun o ho d hd=>by
  rw[←Jt];exact iV _ (iV _ (iu _ (tY.2 ⟨o,ho,hd⟩)))
 have hwc:∀d,d∈cu code→d∈ws:=fun d hd=>by
  rw[←Jt];exact iV _ (iV _ (iV _ hd))
 have Pp:∀t,t∈ws→wr t:=fun t ht=>iN t (by rw[←Jt] at ht;exact ht);have sZ:∀t,t∈ws→au m t=true:=fun t ht=>by rw[←hm];exact Wv ht
 have Ox:∀t,au m t=true→((qS.mask m).st ids).r t=.none:=fun t ht=>by rw[EJ,if_pos ht]
 have al7:∀t,isNone (((qS.mask m).st ids).r t)=false→au m t=false:=fun t ht=>by
  cases hb:au m t with
  |false=>rfl
  |true=>rw[Ox t hb] at ht;cases ht
 have fV:((qS.mask m).st ids).r p.it=.obj J 0:=by
  rw[EJ,c3c];show cB (qS.rs.getD p.it .none)=_;rw[amM];rfl
 have cG:((qS.mask m).st ids).o J=.it kt et:=Ji;have jV:p.ops1[0]?=some o1:=by rw[←B1,e1];rfl
 have eR:p.ops1[1]?=some o2:=by rw[←B1,e1];rfl
 have ho3:p.ops2[0]?=some o3:=by rw[←B1,e2];rfl
 have am7:List.range p.ops1.size=[0,1]:=by
  have:p.ops1.size=2:=by rw[←B2,e1];rfl
  rw[this];rfl
 have Jq:List.range p.ops2.size=0::List.range' 1 (p.ops2.size-1):=by
  have:p.ops2.size=l.length+1:=by rw[←B2,e2];rfl
  rw[this,L3,GP];rfl
 have key:∀(kk:Nat) (done vo:List D) (a':Act) (w':World),SameBut wr a a'→Good C w0 σ0 ((qS.mask m).st ids) ((ρ.put [] [] lo vo).setO J (.tup [.list done,es])) (fun _=>False) a' w'→
  (∀ys,(done++ys).Perm (iQ es)→oO ((gG ids p.next q0).pc.ev Φ N) ρ J es (p.aa.map (·.1)) (p.aa.map (·.2)) lo ys done vo=some BX)→done.length+kk=(iQ es).length+1→
  Code.roundsIn (FR rd) 0 C.P (.seq (.region i1 p.ops1 false) (.seq (.cond (.tmp p.mo) .skip (.exit p.out)) (.block p.next (.seq (.region i2 p.ops2 false) code)))) (gT C w0 σ0 ids fn s rm wr a none [(p.out,(qS.mask m).kill ids J)] x0) kk a' w':=by
  intro kk
  induction kk with
  |zero=>
   intro done vo a' w' _ fT _ hlen;exfalso;obtain⟨σ,own,hv,h⟩:=fT;have aX:=h.objs J;rw[cG] at aX;obtain⟨kb,mb,arr,clock,fO,idx,h1,h2,h3,aw,h4,h5,h6,h7,h8,h9,oe,sP⟩:=aX;simp only[Env.setO,aK] at h6;injection h6 with h6;injection h6 with wB wC;injection wC with wC _;injection wB with wB;subst wB;subst wC;have hle:idx.length≤arr.size:=by
        have:=List.Nodup.length_le_of_subset h7 (l₂:=List.range arr.size) (fun i hi=>bZ.2 (h8 i hi));simpa using this
   simp[gO,iQ,D.m] at hlen;omega
  |succ kk ih=>
   intro done vo a' w' kq fT aO hlen;rw[roundsIn_succ];obtain⟨σ,own,hv,h⟩:=fT;have aX:=h.objs J;rw[cG] at aX;obtain⟨kb,mb,arr,clock,fO,idx,h1,h2,h3,aw,h4,h5,h6,h7,h8,h9,oe,sP⟩:=aX;simp only[Env.setO,aK] at h6;injection h6 with h6;injection h6 with wB wC;injection wC with wC _;injection wB with wB;subst wB;subst wC;have gu:=h.regs p.it;rw[fV] at gu;have I3:a'.eval (.tmp p.it)=.pointer (some ⟨kb,0,none⟩):=by
        have:=gu.2 rfl;simp only[Act.eval];rw[this];exact h1
   have ru:a'.tmps.size=n:=kq.size.trans hn;obtain⟨w1,Zu,Jg⟩:=apA (P:=C.P) h5 h4 oe h8 o1.type;have Es:Below w'.heap.size w' w1:=by rcases Zu with rfl|rfl;exact .refl _ _;exact⟨rfl,rfl,rfl,bf _,fun _ _=>rfl⟩
   have AB:w1.heap=w'.heap:=by rcases Zu with rfl|rfl<;>rfl
   have YH:kb<w'.heap.size:=(h.owns kb J h2).2.1;have p8:mb<w'.heap.size:=(h.owns mb J h3).2.1;refine wpIn_seq (wpIn_region ?_);rw[am7];rcases Jg with⟨Oi,ah⟩|⟨i,e,ot,wK,ah⟩
   ·
        refine A7 jV g1 (by rw[q1];rfl) (v:=.tuple #[.bool false]) (w':=w1) (by simp only[execOp,q1,I3];simp[ah]) ?_;rw[d1]
        refine A7 eR g2 (by rw[q2];rfl) (v:=.bool false) (w':=w1) (by
         have:(a'.put (some p.nx) (.tuple #[.bool false])).eval (.tmp p.nx)=.tuple #[.bool false]:=by simp only[Act.eval];exact Be (by omega)
         simp only[execOp,q2,this];simp[Instr.extract]) ?_
        rw[d2];simp only[wpOpsIn]
        have wY:SameBut (fun t=>t∈ws) a' ((a'.put (some p.nx) (.tuple #[.bool false])).put (some p.mo) (.bool false)):=by
         have s1:=SameBut.put a' (some p.nx) (.tuple #[.bool false]) a'.defers;have s2:=SameBut.put (a'.put (some p.nx) (.tuple #[.bool false])) (some p.mo) (.bool false) (a'.put (some p.nx) (.tuple #[.bool false])).defers;exact(s1.mono fun t e=>by cases e;exact jC o1 (by rw[e1];simp) _ d1).trans (s2.mono fun t e=>by cases e;exact jC o2 (by rw[e1];simp) _ d2)
        generalize wE:(a'.put (some p.nx) (.tuple #[.bool false])).put (some p.mo) (.bool false)=a1 at wY;have Oz:a1.eval (.tmp p.mo)=.bool false:=by
         rw[←wE];simp only[Act.eval];exact Be (by rw[size_put];omega)
        have oh:a1.defers=a'.defers:=by rw[←wE,put_defers,put_defers]
        refine wpIn_seq (wpIn_cond_false Oz (wpIn_exit ?_));have amy:(gO fO idx++[]).Perm (iQ (.map fO)):=by
         rw[lz];exact ad0 h7 (fun i hi=>by rw[h9];exact h8 i hi) (fun i hi=>Oi i (by omega))
        have Zt:=aO [] amy;simp only[oO,aS] at Zt;subst Zt;refine⟨_,_,hx0,n5,sq.2 rfl,kq.trans (wY.mono Pp),?_⟩;refine⟨σ,own,hv,?_⟩
        refine h.step (S':=((qS.mask m).kill ids J).st ids) (ρ':=ρ.put [] [] lo vo) (A':=fun _=>False) (fun j=>j=J) oh (.refl σ) (h.ok.below Es) (fun _ _ _ hx=>.inl hx) (fun _ _ hx=>.inl hx) (Es.mono h.below.size) ⟨fun _=>bf _,fun _ _=>rfl⟩
         (fun j hj=>⟨by rw[PH,if_neg hj],by simp[Env.setO,bo _ _ hj],rfl,fun b hb=>⟨hb,by rw[AB]⟩⟩) (fun j hj=>?_) (fun b j hb=>?_) (fun _=>id) (fun t=>?_) (fun _ hf=>hf.elim) (fun b hb _=>by rw[AB]) (fun b j hb=>.inl ⟨j,hb⟩) (fun j hj=>?_)
        ·rw[PH,if_pos hj];trivial
        ·obtain⟨b1,b2,b3,b4⟩:=h.owns b j hb;exact⟨b1,by rw[AB];exact b2,b3,b4⟩
        ·by_cases ht:t∈ws
         ·refine .inr ⟨?_,fun gs s' e=>absurd e (Snap.noOpt _ _ t gs s')⟩;have:(((qS.mask m).kill ids J).st ids).r t=.none:=Ox t (sZ t ht);rw[this];trivial
         ·exact .inl ⟨rfl,wY.get t ht,rfl⟩
        ·rw[PH,if_pos hj];intro e;cases e
   ·
        obtain⟨pd,OT⟩:∃pd,fO[i]?=some pd:=⟨_,bA (by rw[h9];exact(gD.1 ot).1)⟩
        obtain⟨bu,cm⟩:=sP i e pd ot OT;generalize AD:({w1 with heap:=w1.heap.setIfInBounds kb (.mapIter (some mb) clock (gB arr (idx++[i])) clock)}:World)=w2 at ah;have Zv:w2.heap[kb]?=some (.mapIter (some mb) clock (gB arr (idx++[i])) clock):=by rw[←AD];simp[AB,YH]
        have w9:∀b,b≠kb→w2.heap[b]?=w'.heap[b]?:=fun b hb=>by rw[←AD];simp only[AB];rw[Vz (vQ hb)]
        have aAo:w2.heap.size=w'.heap.size:=by rw[←AD];simp[AB]
        have Zw:w2.heap[mb]?=some (.map arr clock):=by rw[w9 mb (vQ aw)];exact h4
        refine A7 jV g1 (by rw[q1];rfl) (v:=.tuple #[.bool true,e.key,e.val]) (w':=w2) (by simp only[execOp,q1,I3];simp[ah]) ?_;rw[d1]
        refine A7 eR g2 (by rw[q2];rfl) (v:=.bool true) (w':=w2) (by
         have:(a'.put (some p.nx) (.tuple #[.bool true,e.key,e.val])).eval (.tmp p.nx)=.tuple #[.bool true,e.key,e.val]:=by simp only[Act.eval];exact Be (by omega)
         simp only[execOp,q2,this];simp[Instr.extract]) ?_
        rw[d2];simp only[wpOpsIn]
        have wY:SameBut (fun t=>t∈ws) a' ((a'.put (some p.nx) (.tuple #[.bool true,e.key,e.val])).put (some p.mo) (.bool true)):=by
         have s1:=SameBut.put a' (some p.nx) (.tuple #[.bool true,e.key,e.val]) a'.defers;have s2:=SameBut.put (a'.put (some p.nx) (.tuple #[.bool true,e.key,e.val])) (some p.mo) (.bool true) (a'.put (some p.nx) (.tuple #[.bool true,e.key,e.val])).defers;exact(s1.mono fun t e=>by cases e;exact jC o1 (by rw[e1];simp) _ d1).trans (s2.mono fun t e=>by cases e;exact jC o2 (by rw[e1];simp) _ d2)
        have YE:(((a'.put (some p.nx) (.tuple #[.bool true,e.key,e.val])).put (some p.mo) (.bool true))).eval (.tmp p.it)=.pointer (some ⟨kb,0,none⟩):=by
         simp only[Act.eval] at I3 ⊢;rw[Kk n2,Kk n1];exact I3
        generalize wE:(a'.put (some p.nx) (.tuple #[.bool true,e.key,e.val])).put (some p.mo) (.bool true)=a1 at wY YE;have Oz:a1.eval (.tmp p.mo)=.bool true:=by
         rw[←wE];simp only[Act.eval];exact Be (by rw[size_put];omega)
        have oh:a1.defers=a'.defers:=by rw[←wE,put_defers,put_defers]
        refine wpIn_seq (wpIn_cond_true Oz (wpIn_skip ?_));refine wpIn_block (wpIn_seq (wpIn_region ?_));rw[Jq];refine A7 ho3 g3 (by rw[q3];rfl) (v:=.tuple #[e.key,e.val]) (w':=w2) (by simp only[execOp,q3,YE];simp[aiQ Zv Zw oe ot]) ?_;rw[d3]
        have Zk:SameBut (fun t=>t∈ws) a1 (a1.put (some p.pr) (.tuple #[e.key,e.val])):=
         (SameBut.put a1 (some p.pr) (.tuple #[e.key,e.val]) a1.defers).mono fun t e=>by cases e;exact dH o3 (by rw[e2];simp) _ d3
        have Zn:a1.tmps.size=n:=wY.size.trans ru;refine acs (kv:=e.key) (vv:=e.val) l [] p.aa 1 _ ng (by rw[e2];rfl) (fun x hx=>by rw[Zk.size,Zn];exact amD _ (ei.2 ⟨x,hx,rfl⟩)) (Be (by rw[Zn];exact qe)) (fun x hx=>by cases hx) (fun a2 eU ed amw=>?_);have O4:SameBut (fun t=>t∈ws) a' a2:=(wY.trans Zk).trans (eU.mono fun t ⟨o,ho,hd⟩=>dH o ho t hd);have alj:a2.defers=a'.defers:=by rw[ed,put_defers,oh]
        have am4:Good C w0 σ0 (((qS.mask m).start (p.aa.map (·.1)) (p.aa.map fun x=>bif Nat.beq x.2 0 then kt else et)).st ids) ((ρ.put (p.aa.map (·.1)) ((p.aa.map (·.2)).map (D.tup [pd.1,pd.2]).tget) lo vo).setO J (.tup [.list (gO fO idx++[.tup [pd.1,pd.2]]),.map fO])) (fun _=>False) a2 w2:=by
         have DG:Below w0.heap.size w' w2:=⟨by rw[←AD];exact Es.os,by rw[←AD];exact Es.tape,by rw[←AD];exact Es.output,by omega,fun b hb=>w9 b (fun e=>by subst e;have:=(h.owns b J h2).1;omega)⟩
         have je:σ.ok w2:=by
          refine⟨fun b o v hc=>?_,fun b es hc=>?_,h.ok.fz fun b o v hc=>w9 b fun e=>by subst e;rw[(h.owns b J h2).2.2.1 o] at hc;cases hc⟩
          ·have mi:b≠kb:=fun e=>by subst e;rw[(h.owns b J h2).2.2.1 o] at hc;cases hc
           have:=h.ok.c b o v hc;simp only[World.cell?] at this ⊢;rw[w9 b mi];exact this
          ·have mi:b≠kb:=fun e=>by subst e;rw[(h.owns b J h2).2.2.2] at hc;cases hc
           exact(h.ok.m b es hc).keep (w9 b mi)
         have fU:∀j,((ρ.put (p.aa.map (·.1)) ((p.aa.map (·.2)).map (D.tup [pd.1,pd.2]).tget) lo vo).setO J (.tup [.list (gO fO idx++[.tup [pd.1,pd.2]]),.map fO])).o j=if j=J then .tup [.list (gO fO idx++[.tup [pd.1,pd.2]]),.map fO] else putL ρ.o lo vo j:=fun j=>by
          simp only[Env.setO,fj];rfl
         refine⟨σ,own,hv,h.step (fun j=>j=J) alj (.refl σ) je (fun _ _ _ hx=>.inl hx) (fun _ _ hx=>.inl hx) DG ⟨fun _=>bf _,fun _ _=>rfl⟩
          (fun j hj=>⟨rfl,by rw[fU,if_neg hj];simp[Env.setO,bo _ _ hj,Env.put],rfl,fun b hb=>⟨hb,w9 b (fun e=>by subst e;rw[h2] at hb;cases hb;exact hj rfl)⟩⟩) (fun j hj=>?_) (fun b j hb=>?_) (fun _=>id) (fun t=>?_) (fun _ hf=>hf.elim)
          (fun b hb ho=>w9 b (fun e=>by subst e;rw[h2] at ho;cases ho)) (fun b j hb=>.inl ⟨j,hb⟩) (fun j hj=>?_)⟩
         ·subst hj;have:(((qS.mask m).start (p.aa.map (·.1)) (p.aa.map fun x=>bif Nat.beq x.2 0 then kt else et)).st ids).o j=.it kt et:=Ji;rw[this];refine⟨kb,mb,arr,clock,fO,idx++[i],h1,h2,h3,aw,Zw,Zv,by rw[fU,if_pos rfl,ad1 fO idx OT],?_,?_,h9,oe,sP⟩
          ·rw[B7];exact⟨h7,by simp,fun a ha b hb e=>by simp at hb;subst hb;subst e;exact wK ha⟩
          ·intro i' df;rcases dJ.1 df with h|h
           ·exact h8 i' h
           ·simp at h;subst h;exact(gD.1 ot).1
         ·obtain⟨b1,b2,b3,b4⟩:=h.owns b j hb;exact⟨b1,by omega,b3,b4⟩
         ·have hc:Compat ((qS.mask m).st ids) hv (((qS.mask m).start (p.aa.map (·.1)) (p.aa.map fun x=>bif Nat.beq x.2 0 then kt else et)).st ids) hv:=⟨fun _=>bf _,fun _ _=>rfl⟩
          refine .inr ⟨?_,fun gs s' e=>absurd e (Snap.noOpt _ _ t gs s')⟩;show aH C _ _ σ hv (cB ((rU (p.aa.map (·.1)) (p.aa.map fun x=>bif Nat.beq x.2 0 then kt else et) ((qS.mask m).rs.map sT)).getD t .none)) (a2.tmps.getD t undef) (putL ρ.r (p.aa.map (·.1)) ((p.aa.map (·.2)).map (D.tup [pd.1,pd.2]).tget) t);rcases SM (p.aa.map (·.1)) (p.aa.map fun x=>bif Nat.beq x.2 0 then kt else et) ((qS.mask m).rs.map sT) (by simp) c4 t with e|⟨zK,uk⟩|⟨i',y,zK,uk,Ni⟩
          ·rw[e];trivial
          ·rw[uk,Bd _ _ _ _ zK];have e3:((qS.mask m).rs.map sT).getD t .none=sT ((qS.mask m).rs.getD t .none):=by
            simp only[aJ,ct];cases(qS.mask m).rs[t]?<;>rfl
           rw[e3];by_cases Zp:t∈ws
           ·have As:=Ox t (sZ t Zp);change cB ((qS.mask m).rs.getD t .none)=.none at As;generalize (qS.mask m).rs.getD t .none=s' at As;cases s'<;>simp[cB] at As<;>trivial
           ·have hr:=h.regs t;change aH C _ _ σ hv (cB ((qS.mask m).rs.getD t .none)) _ (ρ.r t) at hr;rw[O4.get t Zp];generalize (qS.mask m).rs.getD t .none=s' at hr;cases s' with
            |yv=>trivial
            |opt gs s=>trivial
            |none=>trivial
            |fclo f c=>exact aH.mono' (.refl σ) hc (fun _ _ e=>by cases e) hr
            |agg l=>exact aH.mono' (.refl σ) hc (fun _ _ e=>by cases e) hr
            |dat t=>exact hr
            |obj j v=>exact aH.mono' (.refl σ) hc (fun _ _ e=>by cases e) hr
            |ptr j v o=>exact aH.mono' (.refl σ) hc (fun _ _ e=>by cases e) hr
            |eptr j v o q=>exact aH.mono' (.refl σ) hc (fun _ _ e=>by cases e) hr
          ·rw[Ni];have alI:i'<p.aa.length:=by have:=(fm.1 zK).1;simpa using this
           rw[Q3 _ (p.aa.map (·.1)) _ i' t (lL c4) (by simp) zK];obtain⟨xa,mu⟩:∃xa,p.aa[i']?=some xa:=⟨_,bA alI⟩
           simp only[ct,mu,ka,aS] at zK uk;subst zK;subst uk;rw[amw xa (jM mu)];have hd:((p.aa.map (·.2)).map (D.tup [pd.1,pd.2]).tget).getD i' .none=(D.tup [pd.1,pd.2]).tget xa.2:=by simp[aJ,mu]
           rw[hd];have h2x:xa.2≤1:=by
            rcases QR l ng (fun x hx=>by cases hx) xa (jM mu) with h|h
            ·cases h
            ·exact h.1
           rcases(by omega:xa.2=0∨xa.2=1) with e0|e0<;>rw[e0]
           ·exact bu
           ·exact cm
         ·have:(((qS.mask m).start (p.aa.map (·.1)) (p.aa.map fun x=>bif Nat.beq x.2 0 then kt else et)).st ids).o j=.it kt et:=by rw[hj];exact Ji
          rw[this];intro e;cases e
        have amx:=ad1 fO idx OT;obtain⟨rest,uK⟩:∃rest,(gO fO idx++(D.tup [pd.1,pd.2])::rest).Perm (iQ (.map fO)):=by
         obtain⟨rest,hr⟩:=ase (es:=fO) (idx:=idx++[i]) (by rw[B7];exact⟨h7,by simp,fun a ha b hb e=>by simp at hb;subst hb;subst e;exact wK ha⟩) (fun i' df=>by
          rcases dJ.1 df with h|h
          ·rw[h9];exact h8 i' h
          ·simp at h;subst h;rw[h9];exact(gD.1 ot).1)
         rw[amx] at hr;exact⟨rest,by simpa using hr⟩
        have ec:=aO _ uK;simp only[oO] at ec;split at ec
        case h_2=>cases ec
        rename_i ρ2 IP;obtain⟨xi,dI⟩:=Ww IP;refine wpIn_mono (ihc rm _ q0 wU rd w0 σ0 wr _ xi a2 w2 gK hC hY (fun t ht=>Pp t (hwc t ht)) (O4.size.trans ru) am4 dI) fun ee a3 w3 fU=>?_;have kp:=Wy n6 (uj code wU) dI IP fU;have conv:∀ee a3 w3,gT C w0 σ0 ids fn s rm wr a2 (gG ids p.next q0).out (gG ids p.next q0).ex (.next ρ2) ee a3 w3→Exit.then (Code.roundsIn (FR rd) 0 C.P (.seq (.region i1 p.ops1 false) (.seq (.cond (.tmp p.mo) .skip (.exit p.out)) (.block p.next (.seq (.region i2 p.ops2 false) code)))) (gT C w0 σ0 ids fn s rm wr a none [(p.out,(qS.mask m).kill ids J)] x0) kk) (gT C w0 σ0 ids fn s rm wr a none [(p.out,(qS.mask m).kill ids J)] x0) ee a3 w3:=by
         intro ee a3 w3 ho;cases ee with
         |normal=>
          obtain⟨ρ3,T,f1,f2,f3,f4⟩:=ho;cases f1;refine ih (gO fO idx++[.tup [pd.1,pd.2]]) (lo.map ρ2.o) a3 w3 (kq.trans ((O4.mono Pp).trans f3)) ?_ (fun ys xd=>?_) (by simp at hlen ⊢;omega)
          ·have sS:Good C w0 σ0 (qS.st ids) ρ2 (fun _=>False) a3 w3:=by
            have:=f4.meet2 (x:=qS)
            rwa [Aj T f2] at this
           obtain⟨σ3,xD,Ep,eQ⟩:=sS;have N6:=PC.ev_but _ _ _ ρ2 IP rfl;refine⟨σ3,xD,Ep,(eQ.maskR m).env (Snap.noOpt _ _) (fun t ht=>?_) (fun j hj=>?_)⟩
           ·have As:=al7 t ht
            have cQ:t∉(gG ids p.next q0).pc.modR:=fun dE=>by
                 have:=OA.1 t dE;have h2:au (Nat.lor m (gG ids p.next q0).mr) t=true:=by rw[fp,this,nH]
                 rw[D6,As] at h2;cases h2
            rw[N6.r t cQ]
            have rn:t∉p.aa.map (·.1):=fun aT=>by
                 have:au m t=true:=by
                  refine sZ t ?_;obtain⟨xa,mu,rfl⟩:=ei.1 aT;rcases QR l ng (fun x hx=>by cases hx) xa mu with h|⟨_,o,ho,hd⟩
                  ·cases h
                  ·exact dH o (by rw[e2];exact dy _ ho) _ hd
                 rw[As] at this;cases this
            show ρ.r t=putL ρ.r (p.aa.map (·.1)) _ t;rw[Bd _ _ _ _ rn]
           ·have hjd:oF (dw ids qS.os j)=false:=hj;show bT (putL ρ.o lo (lo.map ρ2.o)) J _ j=ρ2.o j;by_cases Ao:j=J
            ·subst Ao;rw[aK,N6.o j (fun dE=>XX (OA.2 j dE))];simp[Env.setO,aK]
            ·rw[bo _ _ Ao,tB];split
             ·rfl
             ·rename_i gr;have cQ:j∉(gG ids p.next q0).pc.modO:=fun dE=>gr (by rw[←wQ];exact dX.2 ⟨OA.2 j dE,by rw[hjd];rfl⟩);rw[N6.o j cQ];simp only[Env.setO,bo _ _ Ao];exact(Q4 _ _ _ _ gr).symm
          ·have:=aO ((D.tup [pd.1,pd.2])::ys) (by simpa using xd);simp only[oO,IP] at this;exact this
         |exit id=>obtain⟨ρ3,T,f1,_⟩:=ho;cases f1
         |ret=>
          cases rm with
          |false=>obtain⟨d,f1,_⟩:=ho;cases f1
          |true=>obtain⟨ρ3,T,f1,_⟩:=ho;cases f1
         |_=>exact ho.elim
        cases ee with
        |exit id=>
         simp only[Exit.inBlock] at kp;show if id=p.next then _ else _;split
         ·rename_i cE;rw[if_pos cE] at kp;exact conv .normal a3 w3 kp
         ·rename_i cE;rw[if_neg cE] at kp;exact conv (.exit id) a3 w3 kp
        |normal=>exact conv .normal a3 w3 kp
        |ret=>exact conv .ret a3 w3 kp
        |panic c=>exact fU.elim
        |goto l=>exact fU.elim
        |_=>exact fU.elim
 have hgq:Good C w0 σ0 (qS.st ids) ρ (fun _=>False) a w:=bt hg;obtain⟨σ,own,hv,h⟩:=hgq;have aX:=h.objs J;have:(qS.st ids).o J=.it kt et:=Ji;rw[this] at aX;obtain⟨kb,mb,arr,clock,fO,idx,h1,h2,h3,aw,h4,h5,h6,h7,h8,h9,oe,sP⟩:=aX;have hρJ:ρ.o J=.tup [.list [],es]:=by
  rw[h6] at Ed jy;simp[D.tget] at Ed jy;rw[h6,Ed,←jy]
 have wI:(ρ.put [] [] lo (lo.map ρ.o)).setO J (.tup [.list [],es])=ρ:=by
  rw[Env.put_self];show Env.mk _ _=_;have:bT ρ.o J (.tup [.list [],es])=ρ.o:=by
   funext j;rw[fj];split
   ·rename_i e;rw[e];exact hρJ.symm
   ·rfl
  rw[this]
 exact wpIn_loop_rounds _ (key ((iQ es).length+1) [] (lo.map ρ.o) a w (.refl _ _) (by rw[wI];exact⟨σ,own,hv,h.maskR m⟩) (fun ys xd=>akS ys xd) (by simp))
theorem ahD {N:Nat}(dN:gi C Φ)(hR:L8 C n ids Φ R):∀(k:Nat) (c:Code),sizeOf c<k→vS C Φ fn s n ids R N c:=by
 intro k;refine Nat.rec (fun c h=>absurd h (Nat.not_lt_zero _)) (fun k IH=>?_) k;intro c hc;cases c with
 |skip=>
  intro rm S r h rd w0 σ0 wr ρ x a w gK hC hY iN hn hg he;simp only[comp,aS] at h;subst h;simp only[PC.ev,aS] at he;subst he;exact wpIn_skip ⟨ρ,S,rfl,rfl,.refl _ _,hg⟩
 |region id ops draw=>
  intro rm S r h rd w0 σ0 wr ρ x a w gK hC hY iN hn hg he;simp only[comp,az] at h;obtain⟨q,hq,rfl⟩:=h;simp only[PC.ev,az] at he;obtain⟨ρ',hr,rfl⟩:=he;exact hR id ops draw S q hq rd w0 σ0 ρ ρ' a w _ hC hY hn hg hr (fun a' w' eT fT=>⟨ρ',q.1,rfl,rfl,eT.mono (fun t ⟨o,h1,h2⟩=>iN t (tY.2 ⟨o,h1,h2⟩)),fT⟩)
 |seq c1 c2=>
  have uR:=IH c1 (by simp at hc;omega);have mz:=IH c2 (by simp at hc;omega);intro rm S r h rd w0 σ0 wr ρ x a w gK hC hY iN hn hg he;have jC:∀t,t∈cu c1→wr t:=fun t ht=>iN t (iu _ ht);have dH:∀t,t∈cu c2→wr t:=fun t ht=>iN t (iV _ ht);simp only[comp,aq] at h;obtain⟨q,hq,h⟩:=h;split at h
  ·rename_i ko;cases h;refine wpIn_seq (wpIn_mono (uR rm S _ hq rd w0 σ0 wr ρ x a w gK hC hY jC hn hg he) fun e a' w' ho=>?_);cases e with
   |normal=>obtain⟨_,_,_,h2,_⟩:=ho;rw[ko] at h2;cases h2
   |_=>exact ho
  ·rename_i S1 ko;simp only[az] at h;obtain⟨p,hp,rfl⟩:=h;simp only[PC.ev] at he
   have key:∀x1,q.pc.ev Φ N ρ=some x1→(match some x1 with|some (.next ρ')=>p.pc.ev Φ N ρ'|y=>y)=some x→(Code.seq c1 c2).wpIn (FR rd) 0 C.P (gT C w0 σ0 ids fn s rm wr a p.out (q.ex++p.ex) x) a w:=by
      intro x1 h1 h2;refine wpIn_seq (wpIn_mono (uR rm S _ hq rd w0 σ0 wr ρ x1 a w gK hC hY jC hn hg h1) fun e a' w' ho=>?_);have other:∀{e:Exit},e≠.normal→gT C w0 σ0 ids fn s rm wr a q.out q.ex x1 e a' w'→x1=x→gT C w0 σ0 ids fn s rm wr a p.out (q.ex++p.ex) x e a' w':=by
       intro e aw ho hx;subst hx;exact ho.mono (fun y hy=>iu _ hy) (.refl _ _) (fun e=>absurd e aw)
      cases e with
      |normal=>
       obtain⟨ρ1,S2,e1,e2,eU,gW⟩:=ho;subst e1;rw[ko] at e2;cases e2;simp only at h2;refine wpIn_mono (mz rm S1 _ hp rd w0 σ0 wr ρ1 x a' w' gK hC hY dH (eU.size.trans hn) gW h2) fun e a2 w2 eR=>?_;exact eR.mono (fun y hy=>iV _ hy) eU (fun _=>rfl)
      |exit id=>
       refine other (by simp) ho ?_;obtain⟨ρ1,S2,e1,_⟩:=ho;subst e1;simpa using h2
      |ret=>
       refine other (by simp) ho ?_;cases rm with
       |false=>obtain⟨d,e1,_⟩:=ho;subst e1;simpa using h2
       |true=>obtain⟨ρ1,S2,e1,_⟩:=ho;subst e1;simpa using h2
      |_=>exact ho.elim
   cases h1:q.pc.ev Φ N ρ with
   |none=>rw[h1] at he;simp at he
   |some x1=>rw[h1] at he;exact key x1 h1 he
 |cond c c1 c2=>
  have uR:=IH c1 (by simp at hc;omega);have mz:=IH c2 (by simp at hc;omega);intro rm S r h rd w0 σ0 wr ρ x a w gK hC hY iN hn hg he;have jC:∀t,t∈cu c1→wr t:=fun t ht=>iN t (iu _ ht);have dH:∀t,t∈cu c2→wr t:=fun t ht=>iN t (iV _ ht);simp only[comp] at h;split at h
  case h_2=>cases h;exact absurd he (mM _ _ _ _)
  rename_i e hu;simp only[aq,az] at h;obtain⟨q,hq,p,hp,rfl⟩:=h;have hb:∃b,a.eval c=.bool b∧e.ev ρ=.v (.bool b):=by
   obtain⟨σ,own,hv,hi⟩:=hg;have:=cr (gs:=[]) hi hC rfl hu;generalize a.eval c=v at this;generalize e.ev ρ=d at this;cases this with|bool b=>exact⟨b,rfl,rfl⟩
  obtain⟨b,ec,cf⟩:=hb;have rk:=uj c1 hq;have D5:=uj c2 hp;have main:∀(o:Option Snap) (lr lo:List Nat) (rx:Res2),rx=⟨.ite e lr lo q.pc p.pc,o,q.ex++p.ex,Nat.lor q.mr p.mr,jJ q.mo p.mo⟩→
        (∀M,o=some M→lr=kz M (Nat.lor q.mr p.mr)∧lo=jE ids M (jJ q.mo p.mo))→
        (∀S1 ρ1 a w,q.out=some S1→Good C w0 σ0 (S1.st ids) ρ1 (fun _=>False) a w→∃M,o=some M∧Good C w0 σ0 (M.st ids) ρ1 (fun _=>False) a w)→
        (∀S1 ρ1 a w,p.out=some S1→Good C w0 σ0 (S1.st ids) ρ1 (fun _=>False) a w→∃M,o=some M∧Good C w0 σ0 (M.st ids) ρ1 (fun _=>False) a w)→
        rx.pc.ev Φ N ρ=some x→(Code.cond c c1 c2).wpIn (FR rd) 0 C.P (gT C w0 σ0 ids fn s rm wr a rx.out rx.ex x) a w:=by
   intro o lr lo rx hrx hl rq ng bK;subst hrx;simp only[PC.ev,cf,D.b_bool] at bK;have fin:∀(ci:Code) (qi:Res2) (xi:Out),(∀y,y∈qi.ex→y∈q.ex++p.ex)→(∀t,t∈qi.pc.modR→au (Nat.lor q.mr p.mr) t=true)→(∀j,j∈qi.pc.modO→j∈jJ q.mo p.mo)→
    (∀S1 ρ1 a w,qi.out=some S1→Good C w0 σ0 (S1.st ids) ρ1 (fun _=>False) a w→∃M,o=some M∧Good C w0 σ0 (M.st ids) ρ1 (fun _=>False) a w)→
    qi.pc.ev Φ N ρ=some xi→(match some xi with|some (.next ρ')=>some (Out.next (ρ.join lr lo ρ'))|y=>y)=some x→
    ci.wpIn (FR rd) 0 C.P (gT C w0 σ0 ids fn s rm wr a qi.out qi.ex xi) a w→ci.wpIn (FR rd) 0 C.P (gT C w0 σ0 ids fn s rm wr a o (q.ex++p.ex) x) a w:=by
        intro ci qi xi hex jf mq ko dI hx hwp;refine wpIn_mono hwp fun ee a' w' ho=>?_;have other:ee≠.normal→xi=x→gT C w0 σ0 ids fn s rm wr a o (q.ex++p.ex) x ee a' w':=by
         intro aw kr;subst kr;exact ho.mono hex (.refl _ _) (fun e=>absurd e aw)
        cases ee with
        |normal=>
         obtain⟨ρ1,S2,e1,e2,eU,gW⟩:=ho;subst e1;simp only[aS] at hx;subst hx;obtain⟨M,hM,sS⟩:=ko S2 ρ1 a' w' e2 gW;obtain⟨l1,l2⟩:=hl M hM;subst l1 l2;exact⟨_,M,rfl,hM,eU,sS.joined (PC.ev_but qi.pc ρ _ ρ1 dI rfl) jf mq⟩
        |exit id=>
         refine other (by simp) ?_;obtain⟨ρ1,S2,e1,_⟩:=ho;subst e1;simpa using hx
        |ret=>
         refine other (by simp) ?_;cases rm with
         |false=>obtain⟨d,e1,_⟩:=ho;subst e1;simpa using hx
         |true=>obtain⟨ρ1,S2,e1,_⟩:=ho;subst e1;simpa using hx
        |_=>exact ho.elim
   refine wpIn_cond ec ?_;cases b with
   |true=>
    simp only[cond_true] at bK;cases dI:q.pc.ev Φ N ρ with
    |none=>rw[dI] at bK;simp at bK
    |some xi=>
     rw[dI] at bK;refine fin c1 q xi (fun y hy=>iu _ hy) (fun t ht=>?_) (fun j hj=>qm.2 (.inl (rk.2 j hj))) rq dI bK (uR rm S _ hq rd w0 σ0 wr ρ xi a w gK hC hY jC hn hg dI);rw[fp,rk.1 t ht];rfl
   |false=>
    simp only[cond_false] at bK;cases dI:p.pc.ev Φ N ρ with
    |none=>rw[dI] at bK;simp at bK
    |some xi=>
     rw[dI] at bK;refine fin c2 p xi (fun y hy=>iV _ hy) (fun t ht=>?_) (fun j hj=>qm.2 (.inr (D5.2 j hj))) ng dI bK (mz rm S _ hp rd w0 σ0 wr ρ xi a w gK hC hY dH hn hg dI);rw[fp,D5.1 t ht,nH]
  have rq:∀S1 ρ1 a w,q.out=some S1→Good C w0 σ0 (S1.st ids) ρ1 (fun _=>False) a w→∃M,mD q.out p.out=some M∧Good C w0 σ0 (M.st ids) ρ1 (fun _=>False) a w:=by
   intro S1 ρ1 a w e1 g1;rw[e1];obtain⟨M,hM⟩:=@aav S1 p.out;exact⟨M,hM,aat g1 hM⟩
  have ng:∀S1 ρ1 a w,p.out=some S1→Good C w0 σ0 (S1.st ids) ρ1 (fun _=>False) a w→∃M,mD q.out p.out=some M∧Good C w0 σ0 (M.st ids) ρ1 (fun _=>False) a w:=by
   intro S1 ρ1 a w e1 g1;rw[e1];obtain⟨M,hM⟩:=@aaw q.out S1;exact⟨M,hM,aau g1 hM⟩
  cases hm:mD q.out p.out with
  |none=>
   rw[hm] at rq ng;simp only[hm] at he ⊢;exact main none [] [] _ rfl (fun M e=>by cases e) rq ng he
  |some M=>
   rw[hm] at rq ng;simp only[hm] at he ⊢;exact main (some M) _ _ _ rfl (fun M' e=>by cases e;exact⟨rfl,rfl⟩) rq ng he
 |block id c1=>
  have uR:=IH c1 (by simp at hc;omega);intro rm S r h rd w0 σ0 wr ρ x a w gK hC hY iN hn hg he;simp only[comp] at h;cases cE:Nat.beq id cO<;>simp only[cE,cond_true,cond_false] at h
  case true=>cases h;exact absurd he (mM _ _ _ _)
  have I2:id≠cO:=fun e=>by subst e;simp at cE
  simp only[az] at h;obtain⟨q,hq,rfl⟩:=h;obtain⟨xi,dI⟩:=Ww he;exact wpIn_block (wpIn_mono (uR rm S _ hq rd w0 σ0 wr ρ xi a w gK hC hY iN hn hg dI) fun e a' w' fU=>Wy I2 (uj c1 hq) dI he fU)
 |loop c1=>
  have uR:=IH c1 (by simp at hc;omega);intro rm S r h rd w0 σ0 wr ρ x a w gK hC hY iN hn hg he;rw[WW] at h;split at h
  ·rename_i qb Ei;obtain⟨p,code,ws⟩:=qb;unfold xp at Ei;split at Ei
   case h_2=>cases Ei
   rename_i cx cy ck cz cc;simp only[az] at Ei;obtain⟨p',aT,ep⟩:=Ei;cases ep;exact ape aT (IH _ (by simp at hc;omega)) h gK hC hY iN hn hg he
  split at h
  case h_2=>cases h;exact absurd he (mM _ _ _ _)
  rename_i q hq;cases h;obtain⟨hs,Aj,bt⟩:=EA (C:=C) (w0:=w0) (σ0:=σ0) (ids:=ids) 8 hq;have rk:=uj c1 hs;simp only[PC.ev] at he
  have Al:Good C w0 σ0 (q.1.st ids) (ρ.put (kz q.1 q.2.mr) ((kz q.1 q.2.mr).map ρ.r) (jE ids q.1 q.2.mo) ((jE ids q.1 q.2.mo).map ρ.o)) (fun _=>False) a w:=by
   exact Good.joined (bt hg) (.refl ρ q.2.pc.modR q.2.pc.modO) rk.1 rk.2
  have key:∀(k:Nat) (ρ1:Env) (a':Act) (w:World),SameBut wr a a'→iO (q.2.pc.ev Φ N) ρ (kz q.1 q.2.mr) (jE ids q.1 q.2.mo) k ((kz q.1 q.2.mr).map ρ1.r) ((jE ids q.1 q.2.mo).map ρ1.o)=some x→
        Good C w0 σ0 (q.1.st ids) (ρ.join (kz q.1 q.2.mr) (jE ids q.1 q.2.mo) ρ1) (fun _=>False) a' w→Code.roundsIn (FR rd) 0 C.P c1 (gT C w0 σ0 ids fn s rm wr a none q.2.ex x) k a' w:=by
   intro k
   induction k with
   |zero=>intro ρ1 a' w hn hl hg;simp[iO] at hl
   |succ k ih=>
    intro ρ1 a' w kq hl hg;rw[roundsIn_succ];simp only[iO] at hl;change (match q.2.pc.ev Φ N (ρ.join (kz q.1 q.2.mr) (jE ids q.1 q.2.mo) ρ1) with|some (.next ρ')=>_|y=>y)=some x at hl;cases dI:q.2.pc.ev Φ N (ρ.join (kz q.1 q.2.mr) (jE ids q.1 q.2.mo) ρ1) with
    |none=>rw[dI] at hl;simp at hl
    |some xi=>
     rw[dI] at hl;refine wpIn_mono (uR rm _ _ hs rd w0 σ0 wr _ xi a' w gK hC hY iN (kq.size.trans hn) hg dI) fun e a2 w' fU=>?_;have other:e≠.normal→xi=x→gT C w0 σ0 ids fn s rm wr a none q.2.ex x e a2 w':=by
         intro aw kr;subst kr;exact fU.mono (fun y hy=>hy) kq (fun e=>absurd e aw)
     cases e with
     |normal=>
      obtain⟨ρ2,S2,e1,e2,eU,gW⟩:=fU;subst e1;simp only at hl;refine ih ρ2 a2 w' (kq.trans eU) hl ?_
      have sS:Good C w0 σ0 (q.1.st ids) ρ2 (fun _=>False) a2 w':=by
       have:=gW.meet2 (x:=q.1)
       rwa [Aj S2 e2] at this
      refine sS.joined (mr':=kz q.1 q.2.mr++q.2.pc.modR) (mo':=jE ids q.1 q.2.mo++q.2.pc.modO) ?_ (fun t ht=>?_) (fun j hj=>?_)
      ·exact((Env.but.join ρ ρ1 _ _).mono (fun t ht=>iu _ ht) (fun t ht=>iu _ ht)).trans
        ((PC.ev_but q.2.pc _ _ ρ2 dI rfl).mono (fun t ht=>iV _ ht) (fun t ht=>iV _ ht))
      ·exact(dJ.1 ht).elim JK (rk.1 t)
      ·exact(dJ.1 hj).elim AM (rk.2 j)
     |exit id=>
      refine other (by simp) ?_;obtain⟨ρ1,S2,e1,_⟩:=fU;subst e1;simpa using hl
     |ret=>
      refine other (by simp) ?_;cases rm with
      |false=>obtain⟨d,e1,_⟩:=fU;subst e1;simpa using hl
      |true=>obtain⟨ρ1,S2,e1,_⟩:=fU;subst e1;simpa using hl
     |_=>exact fU.elim
  exact wpIn_loop_rounds N (key N ρ a w (.refl _ _) he Al)
 |exit id=>
  intro rm S r h rd w0 σ0 wr ρ x a w gK hC hY iN hn hg he;simp only[comp] at h;cases cE:Nat.beq id cO<;>simp only[cE,cond_true,cond_false] at h
  case true=>cases h;exact absurd he (mM _ _ _ _)
  cases h;simp only[PC.ev,aS] at he;subst he;exact wpIn_exit ⟨ρ,S,rfl,fun e=>by subst e;simp at cE,by simp,.refl _ _,hg⟩
 |ret=>
  intro rm S r h rd w0 σ0 wr ρ x a w gK hC hY iN hn hg he;simp only[comp] at h;cases rm<;>simp only[cond_true,cond_false] at h
  case true=>
   cases h;simp only[PC.ev,aS] at he;subst he;exact wpIn_ret ⟨ρ,S,rfl,by simp,.refl _ _,hg⟩
  split at h
  ·rename_i e Ej;cases h;simp only[PC.ev,aS] at he;subst he;obtain⟨σ,own,hv,hi⟩:=hg;exact wpIn_ret ⟨_,rfl,Inv.retD hC (fun _=>rfl) (gK rfl).2 Ej _ hi rfl,.refl _ _⟩
  ·cases h;exact absurd he (mM _ _ _ _)
 |rangeFunc g ps ca cb=>exact arh dN (IH ca (by simp at hc;omega)) (IH cb (by simp at hc;omega))
 |_=>intro rm S r h rd w0 σ0 wr ρ x a w gK hC hY iN hn hg he;simp only[comp,aS] at h;subst h;exact absurd he (mM _ _ _ _)
theorem ahC {N:Nat}(dN:gi C Φ)(hR:L8 C n ids Φ R)(c:Code):vS C Φ fn s n ids R N c:=ahD dN hR _ c (Nat.lt_succ_self _)
end
end Cx
