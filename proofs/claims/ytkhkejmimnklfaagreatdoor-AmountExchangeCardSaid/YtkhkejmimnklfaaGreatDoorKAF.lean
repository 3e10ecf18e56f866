/-
  Code: sequences, choices, blocks, loops.
-/
import Derived.LoopNIn
import Derived.Test.YtkhkejmimnklfaaGreatDoorKAE
import Derived.LoopN
set_option linter.unusedSimpArgs false
set_option linter.unusedVariables false
namespace Cx
open Go Go.RowKit
def ar (m t:Nat):Bool:= !Nat.beq (Nat.land 1 (Nat.shiftRight m t)) 0
theorem pZ (m t:Nat):ar m t=m.testBit t:=by
 unfold ar Nat.testBit;show(!Nat.beq (1&&& (m>>>t)) 0)=((1&&& (m>>>t))!=0)
 generalize 1&&& (m>>>t)=x;cases x<;>rfl
def dt (t:Nat):Nat:=Nat.shiftLeft 1 t
theorem oC (t:Nat):ar (dt t) t=true:=by
 rw[pZ];show(1<<<t).testBit t=true;simp[Nat.testBit_shiftLeft]
theorem ei (m k t:Nat):ar (Nat.lor m k) t=(ar m t||ar k t):=by
 simp only[pZ];exact Nat.testBit_or m k t
def PI.mask:PI→Nat
 |.setR t _=>dt t|.call _ t _ _=>dt t|.callc _ t _ _=>dt t|_=>0
def Hg:List PI→Nat
 |[]=>0
 |p::l=>Nat.lor p.mask (Hg l)
def PI.objs:PI→List Nat
 |.setO j _=>[j]|.mcall j _ _=>[j]|_=>[]
def eE (l:List Nat)(x:Nat):Bool:=l.any (Nat.beq x)
def gO (a b:List Nat):List Nat:=a.foldl (fun acc x=>bif eE acc x then acc else x::acc) b
def abx (l:List PI):List Nat:=l.foldl (fun acc p=>gO p.objs acc) []
theorem nM (l:List Nat)(x:Nat):eE l x=true↔x∈l:=by
 unfold eE;rw[List.any_eq_true];constructor
 ·rintro⟨y,hy,h⟩;rw[Nat.eq_of_beq_eq_true h];exact hy
 ·intro h;exact⟨x,h,Nat.beq_refl x⟩
theorem nN {x:Nat}:∀{a b:List Nat},x∈gO a b↔x∈a∨x∈b
 |[],b=>by simp[gO]
 |y::a,b=>by
  have ih:=@nN x a (bif eE b y then b else y::b);have e:gO (y::a) b=gO a (bif eE b y then b else y::b):=rfl;rw[e,ih];cases hb:eE b y
  ·simp[or_assoc,or_left_comm]
  ·have:=(nM b y).1 hb;simp only[cond_true,List.mem_cons];constructor
   ·rintro(h|h)
    ·exact .inl (.inr h)
    ·exact .inr h
   ·rintro((h|h)|h)
    ·subst h;exact .inr this
    ·exact .inl h
    ·exact .inr h
theorem auw {x:Nat}(l:List PI)(h:x∈l.flatMap PI.modO):x∈abx l:=by
 have key:∀(l:List PI) (acc:List Nat),(x∈l.flatMap PI.modO∨x∈acc)→x∈l.foldl (fun acc p=>gO p.objs acc) acc:=by
  intro l
  induction l with
  |nil=>intro acc h;simpa using h
  |cons p l ih=>
   intro acc h;refine ih _ ?_;rw[List.flatMap_cons,List.mem_append] at h;rcases h with(h|h)|h
   ·refine .inr (nN.2 (.inl ?_));cases p<;>simp_all [PI.modO,PI.objs]
   ·exact .inl h
   ·exact .inr (nN.2 (.inr h))
 exact key l [] (.inl h)
theorem Zg {t:Nat}:∀(l:List PI),t∈l.flatMap PI.modR→ar (Hg l) t=true
 |[],h=>by simp at h
 |p::l,h=>by
  rw[List.flatMap_cons,List.mem_append] at h;simp only[Hg,ei,Bool.or_eq_true];rcases h with h|h
  ·left;cases p<;>simp[PI.modR] at h<;>subst h<;>exact oC _
  ·exact .inr (Zg l h)
structure Res2 where
 pc:PC
 out:Option Snap
 ex:List (Nat×Snap)
 mr:Nat
 mo:List Nat
 deriving Inhabited
def ky:Option Snap→Option Snap→Option Snap
 |none,x=>x
 |x,none=>x
 |some a,some b=>some (a.meet b)
def mI (id:Nat):List (Nat×Snap)→Option Snap→Option Snap
 |[],acc=>acc
 |x::l,acc=>mI id l (bif Nat.beq x.1 id then ky acc (some x.2) else acc)
def iter (step:Snap→Option Res2):Nat→Snap→Option (Snap×Res2)
 |0,_=>none
 |k+1,S=>(step S).bind fun r=>
  match r.out with
  |none=>some (S,r)
  |some T=>bif (S.meet T).beq S then some (S,r) else iter step k (S.meet T)
def iS (S:Snap)(m:Nat):List Nat:=(List.range S.rs.length).filter fun t=>ar m t&& !isNone (bX (S.rs.getD t .none))
def gI (ids:List Nat)(S:Snap)(l:List Nat):List Nat:=l.filter fun j=> !mF (cS ids S.os j)
def fB:Res2:=⟨.is [Dy],none,[],0,[]⟩
theorem kK (Φ:aR)(N:Nat)(ρ:Env)(x:Out):fB.pc.ev Φ N ρ≠some x:=by
 intro h;simp[fB,PC.ev,PI.runs,PI.run,Dy,PE.ev,D.b_bool] at h
theorem kL:(∀t,t∈fB.pc.modR→ar fB.mr t=true)∧∀j,j∈fB.pc.modO→j∈fB.mo:=by
 constructor<;>intro t h<;>simp[fB,PC.modR,PC.modO,PI.modR,PI.modO,Dy] at h
def bW:Code→List Nat
 |.region _ ops _=>ops.toList.filterMap (·.dst)
 |.seq a b=>bW a++bW b
 |.cond _ a b=>bW a++bW b
 |.block _ a=>bW a
 |.loop a=>bW a
 |_=>[]
def vc (l:List Nat):Nat:=l.foldr (fun t m=>Nat.lor (dt t) m) 0
def qx (m:Nat):Nat→List Sh→List Sh
 |_,[]=>[]
 |t,s::l=>(bif ar m t then .none else s)::qx m (t+1) l
def Snap.mask (m:Nat)(S:Snap):Snap:=⟨qx m 0 S.rs,S.os⟩
def qm:Sh→Sh
 |.yv=>.none
 |s=>s
def pK:List Nat→List Ty→List Sh→List Sh
 |p::ps,y::ys,l=>pK ps ys (l.set p (.dat y))
 |_,_,l=>l
def Snap.start (ps:List Nat)(ys:List Ty)(S:Snap):Snap:=⟨pK ps ys (S.rs.map qm),S.os⟩
def YZ (ids:List Nat)(l:List Snap)(mo:List Nat):List Nat:=mo.filter fun j=>l.any fun S=> !mF (cS ids S.os j)
def awO (wm:Nat)(ra rb:Res2):Res2:=
 let m:=Nat.lor wm (Nat.lor ra.mr rb.mr)
 ⟨.seq ra.pc rb.pc,rb.out.map (Snap.mask m),rb.ex.map (fun x=>(x.1,x.2.mask m)),m,gO ra.mo rb.mo⟩
def fl (ids:List Nat)(id:Nat)(r:Res2):Res2:=
    match mI id r.ex r.out with
    |some M=>⟨.block id (iS M r.mr) (gI ids M r.mo) r.pc,some M,r.ex.filter fun x=> !Nat.beq x.1 id,r.mr,r.mo⟩
    |none=>⟨.block id [] [] r.pc,none,r.ex.filter fun x=> !Nat.beq x.1 id,r.mr,r.mo⟩
def sf:List (Nat×Nat)→Nat→Option Nat
 |[],_=>none
 |x::l,t=>bif Nat.beq x.1 t then some x.2 else sf l t
def jB (pr:Nat):List Oper→List (Nat×Nat)→Option (List (Nat×Nat))
 |[],acc=>some acc
 |o::l,acc=>
  match o.dst,o.guard with
  |some d,none=>
   bif Nat.beq d pr||(sf acc d).isSome then none else
   match o.op with
   |.extract (.tmp t) i=>bif Nat.beq t pr&&Nat.ble i 1 then jB pr l (acc++[(d,i)]) else none
   |.assign (.tmp t)=>(sf acc t).bind fun i=>jB pr l (acc++[(d,i)])
   |.move (.tmp t)=>(sf acc t).bind fun i=>jB pr l (acc++[(d,i)])
   |_=>none
  |_,_=>none
structure MP where
 it:Nat
 nx:Nat
 mo:Nat
 out:Nat
 next:Nat
 pr:Nat
 ops1:Array Oper
 ops2:Array Oper
 aa:List (Nat×Nat)
 deriving Inhabited
def xz (x y:Code)(k:Nat)(z:Code):Option MP:=
 match x,y,z with
 |.region _ ops1 false,.cond (.tmp mo) .skip (.exit out),.region _ ops2 false=>
  match ops1.toList,ops2.toList with
  |[o1,o2],o3::l=>
   match o1.dst,o1.guard,o1.op,o2.dst,o2.guard,o2.op,o3.dst,o3.guard,o3.op with
   |some nx,none,.next (.tmp it) false,some mo',none,.extract (.tmp nx') 0,some pr,none,.entry (.tmp Yt)=>
    bif Nat.beq mo mo'&&Nat.beq nx nx'&&Nat.beq it Yt&& !Nat.beq it nx&& !Nat.beq it mo&& !Nat.beq it pr&& !Nat.beq nx mo&& !Nat.beq out cn&& !Nat.beq k cn then
     (jB pr l []).map fun aa=>⟨it,nx,mo,out,k,pr,ops1,ops2,aa⟩
    else none
   |_,_,_,_,_,_,_,_,_=>none
  |_,_=>none
 |_,_,_=>none
def uW:List Nat→Nat→List Ob→List Ob
 |i::is,J,o::os=>(bif Nat.beq i J then .dead else o)::uW is J os
 |_,_,os=>os
def Snap.kill (ids:List Nat)(J:Nat)(S:Snap):Snap:=⟨S.rs,uW ids J S.os⟩
def Yq (J:Nat)(kt et:Ty)(ids:List Nat)(p:MP)(m:Nat)(S:Snap):Bool:=
 Sh.beq (S.rs.getD p.it .none) (.obj J 0)&&Ob.beq (cS ids S.os J) (.it kt et)&& !ar m p.it
def xA (ids:List Nat)(n:Nat)(p:MP)(ws:List Nat)(f:Snap→Option Res2)(S:Snap):Option Res2:=
 match bX (S.rs.getD p.it .none) with
 |.obj J 0=>
  match cS ids S.os J with
  |.it kt et=>
   let ps:=p.aa.map (·.1)
   let ys:=p.aa.map fun x=>bif Nat.beq x.2 0 then kt else et
   let m:=vc ws
   match iter (fun S=>(f ((S.mask m).start ps ys)).map (fl ids p.next)) 8 S with
   |some r=>
    bif r.2.ex.isEmpty&& !eE r.2.mo J&&Yq J kt et ids p m r.1&&ij ps&&ps.all (fun t=>Nat.blt t n)&&Nat.blt p.nx n&&Nat.blt p.mo n&&Nat.blt p.pr n&&Nat.beq (Nat.lor m r.2.mr) m then
       some ⟨.seq (.meach J ps (p.aa.map (·.2)) (gI ids r.1 r.2.mo) r.2.pc) (.exit p.out),none,[(p.out,(r.1.mask m).kill ids J)],0,r.2.mo⟩
    else some fB
   |none=>some fB
  |_=>some fB
 |_=>some fB
def comp (C:Ctx)(fn:Func)(s:Sig)(n:Nat)(ids:List Nat)(R:Array Oper→Bool→Snap→Option (Snap×List PI)):Bool→Code→Snap→Option Res2
 |_,.skip,S=>some ⟨.skip,some S,[],0,[]⟩
 |_,.region _ ops draw,S=>(R ops draw S).map fun r=>⟨.is r.2,some r.1,[],Hg r.2,abx r.2⟩
 |rm,.seq a b,S=>(comp C fn s n ids R rm a S).bind fun r=>
  match r.out with
  |none=>some r
  |some S1=>(comp C fn s n ids R rm b S1).map fun q=>⟨.seq r.pc q.pc,q.out,r.ex++q.ex,Nat.lor r.mr q.mr,gO r.mo q.mo⟩
 |rm,.cond c a b,S=>
  match use C (S.st ids) [] c with
  |some (.bool,e)=>
   (comp C fn s n ids R rm a S).bind fun r=>(comp C fn s n ids R rm b S).map fun q=>
     match ky r.out q.out with
     |some M=>⟨.ite e (iS M (Nat.lor r.mr q.mr)) (gI ids M (gO r.mo q.mo)) r.pc q.pc,some M,r.ex++q.ex,Nat.lor r.mr q.mr,gO r.mo q.mo⟩
     |none=>⟨.ite e [] [] r.pc q.pc,none,r.ex++q.ex,Nat.lor r.mr q.mr,gO r.mo q.mo⟩
  |_=>some fB
 |rm,.block id a,S=>bif Nat.beq id cn then some fB else(comp C fn s n ids R rm a S).map (fl ids id)
 |rm,.loop (.seq x (.seq y (.block k (.seq z code)))),S=>
  (match xz x y k z with
  |some p=>xA ids n p (bW x++(bW y++(bW z++bW code))) (fun S=>comp C fn s n ids R rm code S) S
  |none=>
  match iter (fun S=>comp C fn s n ids R rm (.seq x (.seq y (.block k (.seq z code)))) S) 8 S with
  |some r=>some ⟨.loop (iS r.1 r.2.mr) (gI ids r.1 r.2.mo) r.2.pc,none,r.2.ex,r.2.mr,r.2.mo⟩
  |none=>some fB)
 |rm,.loop a,S=>
  match iter (fun S=>comp C fn s n ids R rm a S) 8 S with
  |some r=>some ⟨.loop (iS r.1 r.2.mr) (gI ids r.1 r.2.mo) r.2.pc,none,r.2.ex,r.2.mr,r.2.mo⟩
  |none=>some fB
 |_,.exit id,S=>bif Nat.beq id cn then some fB else some ⟨.exit id,none,[(id,S)],0,[]⟩
 |rm,.ret,S=>
  bif rm then some ⟨.exit cn,none,[(cn,S)],0,[]⟩ else
  match vE C fn s (S.st ids) with
  |some e=>some ⟨.ret e,none,[],0,[]⟩
  |none=>some fB
 |rm,.rangeFunc g ps a b,S=>
  match rm,C.yl,use C (S.st ids) [] g with
  |false,none,some (.fn aa r,e)=>
   match ku aa r with
   |some ys=>
    match iter (fun S=>(comp C fn s n ids R true a (S.start ps.toList ys)).bind fun ra=>
          match ra.out,ra.ex with
          |some S1,[]=>(comp C fn s n ids R true b S1).map (awO (vc (ps.toList++bW a++bW b)) ra)
          |_,_=>none) 8 S with
    |some r=>
     bif Nat.beq ys.length ps.size&&ij ps.toList&&ps.toList.all (fun p=>Nat.blt p n)&&Nat.ble r.1.rs.length n then
           some ⟨.seq (.is [.callc [] n e []]) (.each (.r n) ps.toList (YZ ids (r.1::r.2.ex.map (·.2)) r.2.mo) ((mI cn r.2.ex none).bind fun M=>vE C fn s (M.st ids)) r.2.pc),
            some r.1,r.2.ex.filter (fun x=> !Nat.beq x.1 cn),dt n,r.2.mo⟩
     else some fB
    |none=>some fB
   |none=>some fB
  |_,_,_=>some fB
 |_,_,_=>some fB
termination_by structural _ c=>c
def va:Code→Option (MP×Code×List Nat)
 |.seq x (.seq y (.block k (.seq z code)))=>(xz x y k z).map fun p=>(p,code,bW x++(bW y++(bW z++bW code)))
 |_=>none
theorem VV (C:Ctx)(fn:Func)(s:Sig)(n:Nat)(ids:List Nat)(R:Array Oper→Bool→Snap→Option (Snap×List PI))(rm:Bool)(a:Code)(S:Snap):comp C fn s n ids R rm (.loop a) S=
 match va a with
 |some q=>xA ids n q.1 q.2.2 (fun S=>comp C fn s n ids R rm q.2.1 S) S
 |none=>
  match iter (fun S=>comp C fn s n ids R rm a S) 8 S with
  |some r=>some ⟨.loop (iS r.1 r.2.mr) (gI ids r.1 r.2.mo) r.2.pc,none,r.2.ex,r.2.mr,r.2.mo⟩
  |none=>some fB:=by
 by_cases h:∃x y k z code,a=.seq x (.seq y (.block k (.seq z code)))
 ·obtain⟨x,y,k,z,code,rfl⟩:=h
  conv=>lhs;unfold comp
  simp only[va];cases xz x y k z<;>rfl
 ·have e:va a=none:=by
   unfold va;split
   ·rename_i x y k z code;exact absurd ⟨x,y,k,z,code,rfl⟩ h
   ·rfl
  rw[e];rw[comp];intro x y k z code e;exact h ⟨x,y,k,z,code,e⟩
def subs:Code→List Code
 |.seq a b=>.seq a b::(subs a++subs b)
 |.cond c a b=>.cond c a b::(subs a++subs b)
 |.block i a=>.block i a::subs a
 |.loop a=>.loop a::subs a
 |.rangeFunc g ps a b=>.rangeFunc g ps a b::(subs a++subs b)
 |c=>[c]
theorem axl (c:Code):c∈subs c:=by cases c<;>simp[subs]
theorem aF5 {a code:Code}{p:MP}{ws:List Nat}(h:va a=some (p,code,ws)):code∈subs a:=by
 unfold va at h;split at h
 ·simp only[Option.map_eq_some_iff] at h;obtain⟨q,_,e⟩:=h;cases e;simp[subs,axl]
 ·cases h
def LW (C:Ctx)(n:Nat)(ids:List Nat)(Φ:aR)(R:Array Oper→Bool→Snap→Option (Snap×List PI)):Prop:=
 ∀(id:Nat) (ops:Array Oper) (draw:Bool) (S:Snap) (r:Snap×List PI),R ops draw S=some r→
  ∀(rd:Option Nat) (w0:World) (σ0:Base) (ρ ρ':Env) (a:Act) (w:World) (Q:Exit→Act→World→Prop),CtxOK C σ0→m8 C Φ w0 σ0→a.tmps.size=n→Good C w0 σ0 (S.st ids) ρ (fun _=>False) a w→PI.runs Φ r.2 ρ=some ρ'→
   (∀a' w',SameBut (oF ops) a a'→Good C w0 σ0 (r.1.st ids) ρ' (fun _=>False) a' w'→Q .normal a' w')→(Code.region id ops draw).wpIn (FR rd) 0 C.P Q a w
section
variable {C:Ctx} {ρ ρ':Env} {σ:Im} {own:Nat→Option Nat} {hv:Nat→Value} {w0:World} {σ0:Base} {A:Nat→Prop} {a:Act} {w:World} {Φ:aR} {n:Nat} {ids:List Nat} {fn:Func} {s:Sig}
 {R:Array Oper→Bool→Snap→Option (Snap×List PI)}
def fC (C:Ctx)(w0:World)(σ0:Base)(ids:List Nat)(fn:Func)(s:Sig)(rm:Bool)(wr:Nat→Prop)(a0:Act)(out:Option Snap)(ex:List (Nat×Snap))(x:Out):Exit→Act→World→Prop
 |.normal,a,w=>∃ρ S,x=.next ρ∧out=some S∧SameBut wr a0 a∧Good C w0 σ0 (S.st ids) ρ (fun _=>False) a w
 |.exit id,a,w=>∃ρ S,x=.exit id ρ∧id≠cn∧(id,S)∈ex∧SameBut wr a0 a∧Good C w0 σ0 (S.st ids) ρ (fun _=>False) a w
 |.ret,a,w=>match rm with
  |false=>∃d,x=.ret d∧oy C w0 σ0 fn s d a.tmps a.defers w∧SameBut wr a0 a
  |true=>∃ρ S,x=.exit cn ρ∧(cn,S)∈ex∧SameBut wr a0 a∧Good C w0 σ0 (S.st ids) ρ (fun _=>False) a w
 |_,_,_=>False
theorem Good.meet1 {x y:Snap}(h:Good C w0 σ0 (x.st ids) ρ A a w):Good C w0 σ0 ((x.meet y).st ids) ρ (fun _=>False) a w:=by
 obtain⟨σ,own,hv,h⟩:=h;exact⟨σ,own,hv,Snap.meet_ok1 h⟩
theorem Good.meet2 {x y:Snap}(h:Good C w0 σ0 (y.st ids) ρ A a w):Good C w0 σ0 ((x.meet y).st ids) ρ (fun _=>False) a w:=by
 obtain⟨σ,own,hv,h⟩:=h;exact⟨σ,own,hv,Snap.meet_ok2 h⟩
theorem Zo {x:Snap}{y:Option Snap}{M:Snap}(h:Good C w0 σ0 (x.st ids) ρ (fun _=>False) a w)(hm:ky (some x) y=some M):Good C w0 σ0 (M.st ids) ρ (fun _=>False) a w:=by
 cases y<;>simp[ky] at hm<;>subst hm
 ·exact h
 ·exact h.meet1
theorem Zp {x:Option Snap}{y:Snap}{M:Snap}(h:Good C w0 σ0 (y.st ids) ρ (fun _=>False) a w)(hm:ky x (some y)=some M):Good C w0 σ0 (M.st ids) ρ (fun _=>False) a w:=by
 cases x<;>simp[ky] at hm<;>subst hm
 ·exact h
 ·exact h.meet2
theorem Zq {x:Snap}{y:Option Snap}:∃M,ky (some x) y=some M:=by cases y<;>simp[ky]
theorem Zr {x:Option Snap}{y:Snap}:∃M,ky x (some y)=some M:=by cases x<;>simp[ky]
theorem Hh {id:Nat}:∀(l:List (Nat×Snap)) {x:Snap},Good C w0 σ0 (x.st ids) ρ (fun _=>False) a w→∃M,mI id l (some x)=some M∧Good C w0 σ0 (M.st ids) ρ (fun _=>False) a w
 |[],x,h=>⟨x,rfl,h⟩
 |y::l,x,h=>by
  simp only[mI];cases Nat.beq y.1 id
  ·exact Hh l h
  ·obtain⟨M,hM⟩:=@Zq x (some y.2);simp only[cond_true,hM];exact Hh l (Zo h hM)
theorem Py {id:Nat}{S:Snap}(h:Good C w0 σ0 (S.st ids) ρ (fun _=>False) a w):∀(l:List (Nat×Snap)) (x:Option Snap),(id,S)∈l→∃M,mI id l x=some M∧Good C w0 σ0 (M.st ids) ρ (fun _=>False) a w
 |y::l,x,hm=>by
  simp only[mI];rcases List.mem_cons.1 hm with e|hm
  ·subst e;simp only[Nat.beq_refl,cond_true];obtain⟨M,hM⟩:=@Zr x S;rw[hM];exact Hh l (Zp h hM)
  ·exact Py h l _ hm
theorem BY {step:Snap→Option Res2}:∀(k:Nat) {S:Snap} {r:Snap×Res2},iter step k S=some r→
 step r.1=some r.2∧(∀T,r.2.out=some T→r.1.meet T=r.1)∧∀{ρ:Env} {a:Act} {w:World},Good C w0 σ0 (S.st ids) ρ (fun _=>False) a w→Good C w0 σ0 (r.1.st ids) ρ (fun _=>False) a w
 |0,S,r,h=>by simp[iter] at h
 |k+1,S,r,h=>by
  simp only[iter,Option.bind_eq_some_iff] at h;obtain⟨q,hq,h⟩:=h;split at h
  ·rename_i ho;cases h;exact⟨hq,fun T hT=>by simp[ho] at hT,fun g=>g⟩
  ·rename_i T ho;cases hb:(S.meet T).beq S<;>simp only[hb,cond_true,cond_false] at h
   ·obtain⟨h1,h2,h3⟩:=BY k h;exact⟨h1,h2,fun g=>h3 g.meet1⟩
   ·cases h;refine⟨hq,fun T' hT=>?_,fun g=>g⟩;simp only[ho,Option.some.injEq] at hT;subst hT;exact Snap.beq_eq _ _ hb
theorem Yu {step:Snap→Option Res2}{hv:Nat→Value}:∀(k:Nat) {S:Snap} {r:Snap×Res2},iter step k S=some r→Inv C (S.st ids) ρ σ own hv w0 σ0 (fun _=>False) a w→Inv C (r.1.st ids) ρ σ own hv w0 σ0 (fun _=>False) a w
 |0,S,r,h,_=>by simp[iter] at h
 |k+1,S,r,h,i=>by
  simp only[iter,Option.bind_eq_some_iff] at h;obtain⟨q,hq,h⟩:=h;split at h
  ·cases h;exact i
  ·rename_i T ho;cases hb:(S.meet T).beq S<;>simp only[hb,cond_true,cond_false] at h
   ·exact Yu k h (Snap.meet_ok1 i)
   ·cases h;exact i
theorem Good.joined {M:Snap}{m:Nat}{mo mr' mo':List Nat}(h:Good C w0 σ0 (M.st ids) ρ' (fun _=>False) a w)(hb:ρ.but ρ' mr' mo')(h1:∀t,t∈mr'→ar m t=true)(h2:∀j,j∈mo'→j∈mo):
 Good C w0 σ0 (M.st ids) (ρ.join (iS M m) (gI ids M mo) ρ') (fun _=>False) a w:=by
 obtain⟨σ,own,hv,h⟩:=h;refine⟨σ,own,hv,h.env (Snap.noOpt _ _) (fun t ht=>?_) (fun j hj=>?_)⟩
 ·simp only[Env.join,Env.put,qE];split
  ·rfl
  ·rename_i hm;refine(hb.r t fun Bt=>hm ?_).symm;have ah:t<M.rs.length:=by
        refine Nat.lt_of_not_le fun hle=>?_;simp only[Snap.st,List.getD_eq_getElem?_getD,List.getElem?_eq_none hle,Option.getD_none,bX,isNone] at ht;cases ht
   exact List.mem_filter.2 ⟨List.mem_range.2 ah,by rw[h1 t Bt];simpa [Snap.st] using ht⟩
 ·simp only[Env.join,Env.put,qE];split
  ·rfl
  ·rename_i hm;refine(hb.o j fun Bt=>hm ?_).symm;exact List.mem_filter.2 ⟨h2 j Bt,by simpa [Snap.st] using hj⟩
theorem Hi {S:Snap}{m t:Nat}(h:t∈iS S m):ar m t=true:=by
 have:=(List.mem_filter.1 h).2;simp only[Bool.and_eq_true] at this;exact this.1
theorem xC {S:Snap}{l:List Nat}{j:Nat}(h:j∈gI ids S l):j∈l:=(List.mem_filter.1 h).1
theorem Vy {id:Nat}{q:Res2}(h:(∀t,t∈q.pc.modR→ar q.mr t=true)∧∀j,j∈q.pc.modO→j∈q.mo):(∀t,t∈(fl ids id q).pc.modR→ar (fl ids id q).mr t=true)∧∀j,j∈(fl ids id q).pc.modO→j∈(fl ids id q).mo:=by
 unfold fl;cases hm:mI id q.ex q.out<;>simp only
 ·simpa [PC.modR,PC.modO] using h
 ·refine⟨fun t ht=>?_,fun j hj=>?_⟩
  ·simp only[PC.modR,List.mem_append] at ht;exact ht.elim Hi (h.1 t)
  ·simp only[PC.modO,List.mem_append] at hj;exact hj.elim xC (h.2 j)
theorem auq {p:MP}{ws:List Nat}{f:Snap→Option Res2}{S:Snap}{r:Res2}(h:xA ids n p ws f S=some r):(∀t,t∈r.pc.modR→ar r.mr t=true)∧∀j,j∈r.pc.modO→j∈r.mo:=by
 unfold xA at h;split at h
 case h_2=>cases h;exact kL
 split at h
 case h_2=>cases h;exact kL
 simp only at h;split at h
 case h_2=>cases h;exact kL
 rw[Bool.cond_eq_ite] at h;split at h
 ·cases h;refine⟨fun t ht=>by simp[PC.modR] at ht,fun j hj=>?_⟩;simp only[PC.modO,List.append_nil] at hj;exact xC hj
 ·cases h;exact kL
theorem q6:∀(c:Code) {rm:Bool} {S:Snap} {r:Res2},comp C fn s n ids R rm c S=some r→(∀t,t∈r.pc.modR→ar r.mr t=true)∧∀j,j∈r.pc.modO→j∈r.mo:=by
 intro c
 induction c with
 |skip=>intro rm S r h;simp only[comp,Option.some.injEq] at h;subst h;simp[PC.modR,PC.modO]
 |region id ops draw=>
  intro rm S r h;simp only[comp,Option.map_eq_some_iff] at h;obtain⟨q,_,rfl⟩:=h;exact⟨fun t ht=>Zg _ ht,fun j hj=>auw _ hj⟩
 |seq x y gG uR=>
  intro rm S r h;simp only[comp,Option.bind_eq_some_iff] at h;obtain⟨q,hq,h⟩:=h;split at h
  ·cases h;exact gG hq
  ·simp only[Option.map_eq_some_iff] at h;obtain⟨p,hp,rfl⟩:=h;refine⟨fun t ht=>?_,fun j hj=>?_⟩
   ·simp only[PC.modR,List.mem_append] at ht;rw[ei,Bool.or_eq_true];exact ht.imp ((gG hq).1 t) ((uR hp).1 t)
   ·simp only[PC.modO,List.mem_append] at hj;rw[nN];exact hj.imp ((gG hq).2 j) ((uR hp).2 j)
 |cond c x y gG uR=>
  intro rm S r h;simp only[comp] at h;split at h
  case h_2=>cases h;exact kL
  rename_i e _;simp only[Option.bind_eq_some_iff,Option.map_eq_some_iff] at h;obtain⟨q,hq,p,hp,rfl⟩:=h;cases hm:ky q.out p.out<;>simp only[hm]
  ·refine⟨fun t ht=>?_,fun j hj=>?_⟩
   ·simp only[PC.modR,List.mem_append,List.nil_append] at ht;rw[ei,Bool.or_eq_true];exact ht.imp ((gG hq).1 t) ((uR hp).1 t)
   ·simp only[PC.modO,List.mem_append,List.nil_append] at hj;rw[nN];exact hj.imp ((gG hq).2 j) ((uR hp).2 j)
  ·refine⟨fun t ht=>?_,fun j hj=>?_⟩
   ·simp only[PC.modR,List.mem_append] at ht;rw[ei,Bool.or_eq_true];rcases ht with(ht|ht)|ht
    ·have:=Hi ht;rw[ei,Bool.or_eq_true] at this;exact this
    ·exact .inl ((gG hq).1 t ht)
    ·exact .inr ((uR hp).1 t ht)
   ·simp only[PC.modO,List.mem_append] at hj;rcases hj with(hj|hj)|hj
    ·exact xC hj
    ·exact nN.2 (.inl ((gG hq).2 j hj))
    ·exact nN.2 (.inr ((uR hp).2 j hj))
 |block id x gG=>
  intro rm S r h;simp only[comp] at h;cases cf:Nat.beq id cn<;>simp only[cf,cond_true,cond_false] at h
  case true=>cases h;exact kL
  simp only[Option.map_eq_some_iff] at h;obtain⟨q,hq,rfl⟩:=h;exact Vy (gG hq)
 |loop x gG=>
  intro rm S r h;rw[VV] at h;split at h
  ·exact auq h
  split at h
  case h_2=>cases h;exact kL
  rename_i q hq;cases h;have hs:=(BY (C:=C) (w0:=default) (σ0:=Base.mk0 ⟨fun _ _=>none,fun _=>none⟩ 0) (ids:=ids) 8 hq).1;refine⟨fun t ht=>?_,fun j hj=>?_⟩
  ·simp only[PC.modR,List.mem_append] at ht;exact ht.elim Hi ((gG hs).1 t)
  ·simp only[PC.modO,List.mem_append] at hj;exact hj.elim xC ((gG hs).2 j)
 |exit id=>
  intro rm S r h;simp only[comp] at h;cases cf:Nat.beq id cn<;>simp only[cf,cond_true,cond_false] at h<;>cases h
  ·simp[PC.modR,PC.modO]
  ·exact kL
 |ret=>
  intro rm S r h;simp only[comp] at h;cases rm<;>simp only[cond_true,cond_false] at h
  case true=>cases h;simp[PC.modR,PC.modO]
  split at h
  ·cases h;simp[PC.modR,PC.modO]
  ·cases h;exact kL
 |rangeFunc g ps x y _ _=>
  intro rm S r h;simp only[comp] at h;split at h
  case h_2=>cases h;exact kL
  split at h
  case h_2=>cases h;exact kL
  split at h
  case h_2=>cases h;exact kL
  rename_i q hq;rw[Bool.cond_eq_ite] at h;split at h
  ·cases h;refine⟨fun t ht=>?_,fun j hj=>?_⟩
   ·simp[PC.modR,PI.modR] at ht;subst ht;exact oC _
   ·simp only[PC.modO,PI.modO,List.flatMap_cons,List.flatMap_nil,List.append_nil,List.nil_append] at hj;exact(List.mem_filter.1 hj).1
  ·cases h;exact kL
 |_=>intro rm S r h;simp only[comp,Option.some.injEq] at h;subst h;exact kL
theorem fC.mono {rm:Bool}{wr:Nat→Prop}{a0 a1:Act}{out ade:Option Snap}{ex Wo:List (Nat×Snap)}{x:Out}{e:Exit}(h:fC C w0 σ0 ids fn s rm wr a0 out ex x e a w)(he:∀y,y∈ex→y∈Wo)(hs:SameBut wr a1 a0)
 (ho:e=.normal→ade=out):fC C w0 σ0 ids fn s rm wr a1 ade Wo x e a w:=by
 cases e with
 |normal=>obtain⟨ρ,S,h1,h2,h3,h4⟩:=h;exact⟨ρ,S,h1,by rw[ho rfl];exact h2,hs.trans h3,h4⟩
 |exit id=>obtain⟨ρ,S,h1,h2,h3,h4,h5⟩:=h;exact⟨ρ,S,h1,h2,he _ h3,hs.trans h4,h5⟩
 |ret=>
  cases rm with
  |false=>obtain⟨d,h1,h2,h3⟩:=h;exact⟨d,h1,h2,hs.trans h3⟩
  |true=>obtain⟨ρ,S,h1,h3,h4,h5⟩:=h;exact⟨ρ,S,h1,he _ h3,hs.trans h4,h5⟩
 |_=>exact h.elim
theorem Wh {body:Env→Option Out}{ρ:Env}{ps lo:List Nat}{rt:Option PE}{x:Out}:∀{xs vo:List D},gg body ρ ps lo rt xs vo=some x→
 ∃(m:Nat) (kN:Nat→List D),m≤xs.length∧kN 0=vo∧
  (∀i,i<m→∃y ρ',xs[i]?=some y∧body (ρ.put ps (partsOf ps y) lo (kN i))=some (.next ρ')∧lo.map ρ'.o=kN (i+1))∧
  ((m=xs.length∧x=.next (ρ.put [] [] lo (kN m)))∨
   (m<xs.length∧∃y id ρ',xs[m]?=some y∧body (ρ.put ps (partsOf ps y) lo (kN m))=some (.exit id ρ')∧
    ((id≠cn∧x=.exit id (ρ.put [] [] lo (lo.map ρ'.o)))∨(id=cn∧∃e,rt=some e∧x=.ret (e.ev (ρ.put [] [] lo (lo.map ρ'.o)))))))
 |[],vo,h=>by
  simp only[gg,Option.some.injEq] at h;exact⟨0,fun _=>vo,Nat.le_refl _,rfl,fun i hi=>by omega,.inl ⟨rfl,h.symm⟩⟩
 |y::xs,vo,h=>by
  simp only[gg] at h;split at h
  ·rename_i ρ' hb;obtain⟨m,kN,h1,h2,h3,h4⟩:=Wh h;refine⟨m+1,fun i=>match i with|0=>vo|i+1=>kN i,by simp;omega,rfl,fun i hi=>?_,?_⟩
   ·cases i with
    |zero=>exact⟨y,ρ',rfl,hb,h2.symm⟩
    |succ i=>simpa using h3 i (by omega)
   ·rcases h4 with⟨e1,e2⟩|⟨e1,z,id,ρ2,e2,e3,e4⟩
    ·exact .inl ⟨by simp[e1],e2⟩
    ·exact .inr ⟨by simp;omega,z,id,ρ2,by simpa using e2,e3,e4⟩
  ·rename_i id ρ' hb;refine⟨0,fun _=>vo,Nat.zero_le _,rfl,fun i hi=>by omega,.inr ⟨by simp,y,id,ρ',rfl,hb,?_⟩⟩;cases cf:Nat.beq id cn<;>simp only[cf,cond_true,cond_false] at h
   ·refine .inl ⟨fun e=>?_,(Option.some.inj h).symm⟩;subst e;simp at cf
   ·simp only[Option.map_eq_some_iff] at h;obtain⟨e,he,e2⟩:=h;exact .inr ⟨Nat.eq_of_beq_eq_true cf,e,he,e2.symm⟩
  ·cases h
theorem Vv {l:List Nat}{t:Nat}(h:t∈l):ar (vc l) t=true:=by
 induction l with
 |nil=>cases h
 |cons x l ih=>
  have e:vc (x::l)=Nat.lor (dt x) (vc l):=rfl;rw[e,ei];rcases List.mem_cons.1 h with e|e
  ·subst e;rw[oC];rfl
  ·rw[ih e];simp
theorem Pw (m:Nat):∀(l:List Sh) (k t:Nat),(qx m k l).getD t .none=if ar m (k+t)=true then .none else l.getD t .none
 |[],k,t=>by simp[qx]
 |s::l,k,0=>by
  simp only[qx,List.getD_cons_zero,Nat.add_zero];cases ar m k<;>rfl
 |s::l,k,t+1=>by
  simp only[qx,List.getD_cons_succ];rw[Pw m l (k+1) t,show k+1+t=k+(t+1) by omega]
theorem B6 (m:Nat)(S:Snap)(t:Nat):((S.mask m).st ids).r t=if ar m t=true then .none else(S.st ids).r t:=by
 show bX ((qx m 0 S.rs).getD t .none)=if ar m t=true then .none else bX (S.rs.getD t .none);rw[Pw,Nat.zero_add];split<;>rfl
theorem auv {m:Nat}{x S:Snap}{t:Nat}(h:ar m t=true):((x.meet (S.mask m)).st ids).r t=.none:=by
 show bX ((List.zipWith gJ x.rs (qx m 0 S.rs)).getD t .none)=.none;rcases LQ (f:=gJ) x.rs (qx m 0 S.rs) t with h0|⟨s,u,h1,h2,h3⟩
 ·rw[h0];rfl
 ·rw[Pw,Nat.zero_add,if_pos h] at h2;subst h2;rw[h3];cases s<;>rfl
theorem Inv.maskR {S:Snap}{hv:Nat→Value}(h:Inv C (S.st ids) ρ σ own hv w0 σ0 A a w)(m:Nat):Inv C ((S.mask m).st ids) ρ σ own hv w0 σ0 (fun _=>False) a w:=by
 have hc:Compat (S.st ids) hv ((S.mask m).st ids) hv:=⟨fun _=>Nat.le_refl _,fun _ _=>rfl⟩
 refine h.weaken (fun t=>?_) (fun j=>?_) (Snap.noOpt _ _) (fun j hj=>⟨hj,rfl⟩)
 ·refine aI.mono' (ρ:=ρ) (.refl σ) hc (Snap.noOpt _ _ t) ?_;rw[B6];split
  ·trivial
  ·exact h.regs t
 ·exact(h.objs j).mono (.refl σ) hc rfl rfl (fun k hk=>⟨hk,rfl⟩)
theorem Se:∀(ps:List Nat) (ys:List Ty) (l:List Sh),ps.length=ys.length→ij ps=true→∀t,(pK ps ys l).getD t .none=.none∨(t∉ps∧(pK ps ys l).getD t .none=l.getD t .none)∨∃(i:Nat) (y:Ty),ps[i]?=some t∧ys[i]?=some y∧(pK ps ys l).getD t .none=.dat y
 |[],ys,l,_,_,t=>.inr (.inl ⟨by simp,by cases ys<;>rfl⟩)
 |p::ps,[],l,h,_,t=>by simp at h
 |p::ps,y::ys,l,h,hn,t=>by
  have gD:=lS hn;rw[List.nodup_cons] at gD;have cY:ij ps=true:=by
   simp only[ij,Bool.and_eq_true] at hn;exact hn.2
  show(pK ps ys (l.set p (.dat y))).getD t .none=_∨_∨_;rcases Se ps ys (l.set p (.dat y)) (by simpa using h) cY t with e|⟨e1,e2⟩|⟨i,z,e1,e2,e3⟩
  ·exact .inl e
  ·by_cases hp:t=p
   ·subst hp;by_cases ah:t<l.length
    ·exact .inr (.inr ⟨0,y,rfl,rfl,by show(pK ps ys (l.set t (.dat y))).getD t .none=_;rw[e2];simp[List.getD_eq_getElem?_getD,ah]⟩)
    ·left;rw[e2];simp[List.getD_eq_getElem?_getD,ah]
   ·refine .inr (.inl ⟨by simp[hp,e1],?_⟩);show(pK ps ys (l.set p (.dat y))).getD t .none=_;rw[e2];simp only[List.getD_eq_getElem?_getD,List.getElem?_set];rw[if_neg (fun e=>hp e.symm)]
  ·exact .inr (.inr ⟨i+1,z,by simpa using e1,by simpa using e2,e3⟩)
def kI:List Nat→List Value→Array Value→Array Value
 |p::ps,v::vs,T=>kI ps vs (T.setIfInBounds p v)
 |_,_,T=>T
theorem aw6 (ps:Array Nat)(vs:Array Value)(T:Array Value):(ps.zip vs).foldl (fun T x=>T.setIfInBounds x.1 x.2) T=kI ps.toList vs.toList T:=by
 rw[←Array.foldl_toList,Array.toList_zip];generalize ps.toList=l;generalize vs.toList=k
 induction l generalizing k T with
 |nil=>rfl
 |cons p l ih=>
  cases k with
  |nil=>rfl
  |cons v k=>simpa [kI] using ih (T.setIfInBounds p v) k
theorem aeX:∀(ps:List Nat) (vs:List Value) (T:Array Value),(kI ps vs T).size=T.size
 |[],vs,T=>by cases vs<;>rfl
 |p::ps,[],T=>rfl
 |p::ps,v::vs,T=>by simp[kI,aeX ps vs]
theorem Lc:∀(ps:List Nat) (vs:List Value) (T:Array Value) (t:Nat),t∉ps→(kI ps vs T).getD t undef=T.getD t undef
 |[],vs,T,t,_=>by cases vs<;>rfl
 |p::ps,[],T,t,_=>rfl
 |p::ps,v::vs,T,t,h=>by
  simp only[List.mem_cons,not_or] at h;simp only[kI];rw[Lc ps vs _ t h.2];simp only[Array.getD_eq_getD_getElem?,Array.getElem?_setIfInBounds];rw[if_neg (fun e=>h.1 e.symm)]
theorem aeW:∀(ps:List Nat) (vs:List Value) (T:Array Value) (i t:Nat),ps.Nodup→ps.length=vs.length→(∀p,p∈ps→p<T.size)→ps[i]?=some t→(kI ps vs T).getD t undef=vs.getD i undef
 |p::ps,v::vs,T,0,t,hn,hl,ah,h=>by
  simp at h;subst h;rw[List.nodup_cons] at hn;simp only[kI];rw[Lc ps vs _ p hn.1];simp[Array.getElem?_setIfInBounds,ah p (List.mem_cons_self ..)]
 |p::ps,v::vs,T,i+1,t,hn,hl,ah,h=>by
  rw[List.nodup_cons] at hn;simp only[kI];have:=aeW ps vs (T.setIfInBounds p v) i t hn.2 (by simpa using hl) (fun q hq=>by simpa using ah q (List.mem_cons_of_mem _ hq)) (by simpa using h);simpa using this
 |p::ps,[],T,i,t,hn,hl,ah,h=>by simp at hl
 |[],vs,T,i,t,hn,hl,ah,h=>by simp at h
theorem yc (f:Nat→D):∀(ps:List Nat) (vs:List D) (t:Nat),t∉ps→putL f ps vs t=f t
 |[],vs,t,_=>by cases vs<;>rfl
 |p::ps,[],t,_=>rfl
 |p::ps,v::vs,t,h=>by
  simp only[List.mem_cons,not_or] at h;simp only[putL,bf _ _ h.1];exact yc f ps vs t h.2
theorem QL (f:Nat→D):∀(ps:List Nat) (vs:List D) (i t:Nat),ps.Nodup→ps.length=vs.length→ps[i]?=some t→putL f ps vs t=vs.getD i .none
 |p::ps,v::vs,0,t,hn,hl,h=>by
  simp at h;subst h;simp[putL,aP]
 |p::ps,v::vs,i+1,t,hn,hl,h=>by
  rw[List.nodup_cons] at hn;have ht:t∈ps:=List.mem_of_getElem? (by simpa using h);have aC:t≠p:=fun e=>hn.1 (e▸ht);simp only[putL,bf _ _ aC];have:=QL f ps vs i t hn.2 (by simpa using hl) (by simpa using h);simpa using this
 |p::ps,[],i,t,hn,hl,h=>by simp at hl
 |[],vs,i,t,hn,hl,h=>by simp at h
theorem avV (ps:List Nat)(ds:List D)(i:Nat)(h:i<ps.length):(partsOf ps (.tup ds)).getD i .none=ds.getD i .none:=by
 simp[partsOf,List.getD_eq_getElem?_getD,h,D.tget]
theorem avU (ps:List Nat)(x:D):(partsOf ps x).length=ps.length:=by simp[partsOf]
theorem Inv.startR {S:Snap}{hv:Nat→Value}(h:Inv C (S.st ids) ρ σ own hv w0 σ0 A a w){ps:List Nat}{ys:List Ty}{args:List Value}{ds:List D}{lo:List Nat}{vo:List D}(hl:ps.length=ys.length)(bp:ij ps=true)(ah:∀p,p∈ps→p<a.tmps.size)(ha:ou C σ ys args ds)
 (hρ:ρ=ρ'.put [] [] lo vo):Inv C ((S.start ps ys).st ids) (ρ'.put ps (partsOf ps (.tup ds)) lo vo) σ own hv w0 σ0 (fun _=>False) {tmps:=kI ps args a.tmps,defers:=[]} w:=by
 obtain⟨a1,a2,a3⟩:=ha;have hn:=lS bp;have hc:Compat (S.st ids) hv ((S.start ps ys).st ids) hv:=⟨fun _=>Nat.le_refl _,fun _ _=>rfl⟩
 have ho:∀j,(ρ'.put ps (partsOf ps (.tup ds)) lo vo).o j=ρ.o j:=fun j=>by rw[hρ];rfl
 refine⟨trivial,h.ok,h.le,h.old,h.newc,h.newm,h.below,h.bw,h.owns,fun t=>?_,fun j=>(h.objs j).mono (.refl σ) hc rfl (ho j) (fun k hk=>⟨hk,rfl⟩),fun t gs s e=>absurd e (Snap.noOpt _ _ t gs s),?_⟩
 ·show aI C _ _ σ hv (bX ((pK ps ys (S.rs.map qm)).getD t .none)) ((kI ps args a.tmps).getD t undef) (putL ρ'.r ps (partsOf ps (.tup ds)) t);rcases Se ps ys (S.rs.map qm) hl bp t with e|⟨e1,e2⟩|⟨i,y,e1,e2,e3⟩
  ·rw[e];trivial
  ·rw[e2,Lc _ _ _ _ e1,yc _ _ _ _ e1];have hr:=h.regs t;change aI C _ ρ σ hv (bX (S.rs.getD t .none)) _ _ at hr;have hρr:ρ.r t=ρ'.r t:=by rw[hρ];show putL ρ'.r [] [] t=_;rfl
   rw[hρr] at hr;have e3:(S.rs.map qm).getD t .none=qm (S.rs.getD t .none):=by
        simp only[List.getD_eq_getElem?_getD,List.getElem?_map];cases S.rs[t]?<;>rfl
   rw[e3];generalize S.rs.getD t .none=s at hr;cases s with
   |yv=>trivial
   |opt gs s=>trivial
   |none=>trivial
   |fclo f c=>exact aI.mono' (.refl σ) hc (fun _ _ e=>by cases e) hr
   |dat t=>exact hr
   |obj j v=>exact aI.mono' (.refl σ) hc (fun _ _ e=>by cases e) hr
   |ptr j v o=>exact aI.mono' (.refl σ) hc (fun _ _ e=>by cases e) hr
   |eptr j v o q=>exact aI.mono' (.refl σ) hc (fun _ _ e=>by cases e) hr
  ·rw[e3];have hi:i<ps.length:=(List.getElem?_eq_some_iff.1 e1).1;rw[aeW ps args a.tmps i t hn (by omega) ah e1,QL _ ps _ i t hn (by rw[avU]) e1,avV _ _ _ hi];exact a3 i y e2
 ·obtain⟨t,fx,cx,h1,h2⟩:=h.frame;exact⟨t,fx,cx,h1,fun j hj=>⟨(h2 j hj).1,by rw[ho j];exact(h2 j hj).2⟩⟩
def tF (C:Ctx)(Φ:aR)(fn:Func)(s:Sig)(n:Nat)(ids:List Nat)(R:Array Oper→Bool→Snap→Option (Snap×List PI))(N:Nat)(c:Code):Prop:=
 ∀(rm:Bool) (S:Snap) (r:Res2),comp C fn s n ids R rm c S=some r→∀(rd:Option Nat) (w0:World) (σ0:Base) (wr:Nat→Prop) (ρ:Env) (x:Out) (a:Act) (w:World),(rm=false→rd=none∧σ0.fin)→CtxOK C σ0→m8 C Φ w0 σ0→(∀t,t∈bW c→wr t)→a.tmps.size=n→
  Good C w0 σ0 (S.st ids) ρ (fun _=>False) a w→r.pc.ev Φ N ρ=some x→c.wpIn (FR rd) 0 C.P (fC C w0 σ0 ids fn s rm wr a r.out r.ex x) a w
structure Seg (σ:Im) (own:Nat→Option Nat) (w:World) (σ':Im) (own':Nat→Option Nat) (w':World):Prop where
 le:σ.le σ'
 below:Below 0 w w'
 same:∀k,k<w.heap.size→own k=none→w'.heap[k]?=w.heap[k]?
 ow:∀k j,own' k=some j→(∃i,own k=some i)∨w.heap.size≤k
 imm:∀k,((∃o x,σ'.c k o=some x)∨∃x,σ'.m k=some x)→(∃o x,σ.c k o=some x)∨(∃x,σ.m k=some x)∨(∃i,own k=some i)∨w.heap.size≤k
structure Free (L:Nat) (σ:Im) (own:Nat→Option Nat):Prop where
 own:own L=none
 c:∀o,σ.c L o=none
 m:σ.m L=none
theorem Free.seg {L:Nat}{σ':Im}{own':Nat→Option Nat}{w':World}(h:Free L σ own)(hL:L<w.heap.size)(k:Seg σ own w σ' own' w'):Free L σ' own':=by
 have Bi:¬((∃o x,σ'.c L o=some x)∨∃x,σ'.m L=some x):=fun e=>by
  rcases k.imm L e with⟨o,x,e⟩|⟨x,e⟩|⟨i,e⟩|e
  ·rw[h.c o] at e;cases e
  ·rw[h.m] at e;cases e
  ·rw[h.own] at e;cases e
  ·omega
 refine⟨?_,fun o=>?_,?_⟩
 ·cases e:own' L with
  |none=>rfl
  |some j=>
   rcases k.ow L j e with⟨i,e⟩|e
   ·rw[h.own] at e;cases e
   ·omega
 ·cases e:σ'.c L o with
  |none=>rfl
  |some x=>exact absurd (.inl ⟨o,x,e⟩) Bi
 ·cases e:σ'.m L with
  |none=>rfl
  |some x=>exact absurd (.inr ⟨x,e⟩) Bi
def afV (C:Ctx)(w0:World)(σ0:Base)(ids:List Nat)(wr:Nat→Prop)(a0:Act)(σ:Im)(own:Nat→Option Nat)(w:World)(out:Option Snap)(ex:List (Nat×Snap))(x:Out)(e:Exit)(a':Act)(w':World):Prop:=
 ∃ρ' S' σ' own' hv',Inv C (S'.st ids) ρ' σ' own' hv' w0 σ0 (fun _=>False) a' w'∧Seg σ own w σ' own' w'∧SameBut wr a0 a'∧
  match e with
  |.normal=>x=.next ρ'∧out=some S'
  |.exit id=>x=.exit id ρ'∧id≠cn∧(id,S')∈ex
  |.ret=>x=.exit cn ρ'∧(cn,S')∈ex
  |_=>False
theorem aeR {N:Nat}{c:Code}(hc:tF C Φ fn s n ids R N c){S:Snap}{r:Res2}(hr:comp C fn s n ids R true c S=some r)(iO:C.yl=none)(hC:CtxOK C σ0){wr:Nat→Prop}{ρ:Env}{x:Out}{hv:Nat→Value}(h:Inv C (S.st ids) ρ σ own hv w0 σ0 (fun _=>False) a w)
 (fU:∀t,t∈bW c→wr t) (hn:a.tmps.size=n) (he:r.pc.ev Φ N ρ=some x) (L:Nat):c.wpIn (FR (some L)) 0 C.P (afV C w0 σ0 ids wr a σ own w r.out r.ex x) a w:=by
 obtain⟨t,fx,cx,cM,ht⟩:=h.frame;have h1:=h.toRnd (X:=fun _=>False) ht;refine wpIn_mono (hc true S r hr (some L) w0 (σ0.rnd σ own w t fun _=>False) wr ρ x a w (fun e=>by cases e) (hC.mono h.le) (fun J ys e=>by rw[iO] at e;cases e) fU hn ⟨_,_,_,h1⟩ he) fun e a' w' ho=>?_
 have main:∀{S':Snap} {ρ':Env},SameBut wr a a'→Good C w0 (σ0.rnd σ own w t fun _=>False) (S'.st ids) ρ' (fun _=>False) a' w'→∃σ' own' hv',Inv C (S'.st ids) ρ' σ' own' hv' w0 σ0 (fun _=>False) a' w'∧Seg σ own w σ' own' w'∧SameBut wr a a':=by
  intro S' ρ' hs hg;obtain⟨σ',own',hv',h2⟩:=hg;exact⟨σ',own',hv',h.ofRnd cM (fun _ _=>id) h2,⟨h2.le,h.rndBelow h2,fun k hk ho=>Inv.rndSame h.ok h2 hk ho id,fun k j e=>Inv.rndOwn h2 e id,fun k e=>Inv.rndC h2 e id⟩,hs⟩
 cases e with
 |normal=>
  obtain⟨ρ',S',e1,e2,e3,e4⟩:=ho;obtain⟨σ',own',hv',g1,g2,g3⟩:=main e3 e4;exact⟨ρ',S',σ',own',hv',g1,g2,g3,e1,e2⟩
 |exit id=>
  obtain⟨ρ',S',e1,e0,e2,e3,e4⟩:=ho;obtain⟨σ',own',hv',g1,g2,g3⟩:=main e3 e4;exact⟨ρ',S',σ',own',hv',g1,g2,g3,e1,e0,e2⟩
 |ret=>
  obtain⟨ρ',S',e1,e2,e3,e4⟩:=ho;obtain⟨σ',own',hv',g1,g2,g3⟩:=main e3 e4;exact⟨ρ',S',σ',own',hv',g1,g2,g3,e1,e2⟩
 |_=>exact ho.elim
theorem Inv.putL {L:Nat}{hv:Nat→Value}{S:St}{ρ:Env}(h:Inv C S ρ σ own hv w0 σ0 A a w)(hL:w0.heap.size≤L)(hf:Free L σ own)(hx:∀t fx cx,FrOK σ own w0.heap.size σ0 w t fx cx→¬fx L)(o:Obj):Inv C S ρ σ own hv w0 σ0 A a (w.putObj L o):=
 h.keep (X:=fun k=>k≠L) ⟨rfl,rfl,rfl,by simp,fun k hk=>by omega⟩ (fun k hk=>World.putObj_heap_other hk) (fun k hk=>by omega) (fun k j e1 e2=>by subst e2;rw[hf.own] at e1;cases e1) (fun k o v e1 e2=>by subst e2;rw[hf.c] at e1;cases e1)
  (fun k v e1 e2=>by subst e2;rw[hf.m] at e1;cases e1) (fun t fx cx cM k hk e=>by subst e;exact hx t fx cx cM hk)
theorem aAh {o:Oper}{L:Nat}{x:Operand}{aa:Array Operand}{ts:Array TypeId}{r:Loop}(bB:o.op=.call {callee:=.value x,args:=aa,argTypes:=ts})(hx:a.eval x=.func (.yield L) #[] #[])(hL:w.heap[L]?=some (.loop r))(hs:aa.size=r.params.size):
 (execOp a.eval o).run C.P w=.ok (.round L r.fn ((r.params.zip (aa.map a.eval)).foldl (fun tmps (t,v)=>tmps.setIfInBounds t v) r.tmps) r.assign r.body) w:=by
 have hy:=run_yield (P:=C.P) (args:=aa.map a.eval) hL (by simpa using hs);simp[execOp,bB,resolve,hx,Deferred.ofValue,invoke,hy]
theorem awk {g:Operand}{f:Nat}{vs:List Value}{L:Nat}(hf:∃fn,C.P.funcs[f]?=some fn∧fn.body.isSome=true∧(fn.name== "runtime.NumGoroutine")=false)(hg:a.eval g=.func (.func f) #[] vs.toArray):
 (resolve a.eval (rangeCall g L) 0).run C.P w=.ok {target:=.fn (.func f) vs.toArray,args:=#[.func (.yield L) #[] #[]]} w∧
 (invoke (.fn (.func f) vs.toArray) #[.func (.yield L) #[] #[]]).run C.P w=.ok (.enter f (#[.func (.yield L) #[] #[]]++vs.toArray)) w:=by
 obtain⟨fn,h1,h2,h3⟩:=hf;obtain⟨bd,fR⟩:=Option.isSome_iff_exists.1 h2;have h4:¬fn.name= "runtime.NumGoroutine" :=by simpa using h3
 constructor
 ·simp only[resolve,hg];simp[go_sem]
 ·simp[invoke,callFunc,h1,fR,h4]
theorem FrOK.enter {hv:Nat→Value}{S:St}{ρ:Env}(h:Inv C S ρ σ own hv w0 σ0 A a w){t:D}{fx cx:Nat→Prop}(hf:FrOK σ own w0.heap.size σ0 w t fx cx)(r:Loop):FrOK (σ.mark w.heap.size) own w0.heap.size σ0 ((w.alloc (.deferred (some []))).alloc (.loop r)) t fx cx:=by
 have hb:=Wj w (.deferred (some [])) (.loop r);have ah:=σ0.lt _ _ _ _ hf.F;have bZ:=σ0.sub _ _ _ _ hf.F;have uD:∀k x,(σ.mark w.heap.size).m k=some x→σ.m k=some x∨k=w.heap.size:=by
  intro k x e;simp only[Im.mark] at e;split at e
  ·rename_i e2;exact .inr e2
  ·exact .inl e
 refine⟨σ0.keep _ _ _ _ _ hf.F (hb.mono (Nat.zero_le _)) fun k hk=>hb.block k (ah k hk),hf.own,hf.c,fun k x e hc=>?_,fun k e hB hk=>?_⟩
 ·rcases uD k x e with e|e
  ·exact hf.m k x e hc
  ·have:=ah k (bZ k hc);omega
 ·rcases uD k _ e with e|e
  ·exact hf.d k e hB hk
  ·have:=ah k hk;omega
structure RSt (C:Ctx) (w0:World) (σR:Base) (ids:List Nat) (ρ1:Env) (lo:List Nat) (aM:Act) (L:Nat) (W1:World) (σ1:Im) (rec:LoopState→Option Code→Loop) (xs:List D) (P:Nat→List D→Snap→LoopState→Option Code→Prop) (t:D) (fx cx:Nat→Prop) (w:World):Prop where
 lt:∀k,fx k→k<w.heap.size
 sub:∀k,cx k→fx k
 old:∀k,k<W1.heap.size→fx k
 ex:∃(i:Nat) (vo:List D) (Sx:Snap) (st:LoopState) (pe:Option Code) (σ:Im) (own:Nat→Option Nat) (hv:Nat→Value),t=.list (xs.take i)∧P i vo Sx st pe∧Inv C (Sx.st ids) (ρ1.put [] [] lo vo) σ own hv w0 σR (fun _=>False) aM w∧
  σ1.le σ∧Free L σ own∧w.heap[L]?=some (.loop (rec st pe))∧(∀k j,own k=some j→fx k)∧(∀k o x,σ.c k o=some x→fx k)∧(∀k x,σ.m k=some x→fx k)∧∀k,cx k↔((∃j,own k=some j)∨k=L)
theorem RSt.keep {σR:Base}{ρ1:Env}{lo:List Nat}{aM:Act}{L:Nat}{W1:World}{σ1:Im}{rec:LoopState→Option Code→Loop}{xs:List D}{P:Nat→List D→Snap→LoopState→Option Code→Prop}{t:D}{fx cx:Nat→Prop}{w w':World}
 (h0:w0.heap.size≤W1.heap.size) (hL:L<W1.heap.size) (hR:∀t f c w,σR.F t f c w→∀k,f k→k<W1.heap.size) (h:RSt C w0 σR ids ρ1 lo aM L W1 σ1 rec xs P t fx cx w) (hb:Below 0 w w') (hs:∀k,fx k→w'.heap[k]?=w.heap[k]?):
 RSt C w0 σR ids ρ1 lo aM L W1 σ1 rec xs P t fx cx w':=by
 obtain⟨i,vo,Sx,st,pe,σ,own,hv,e1,e2,e3,e4,e5,e6,e7,e8,e9,e10⟩:=h.ex;refine⟨fun k hk=>Nat.lt_of_lt_of_le (h.lt k hk) hb.size,h.sub,h.old,i,vo,Sx,st,pe,σ,own,hv,e1,e2,?_,e4,e5,(hs L (h.old L hL)).trans e6,e7,e8,e9,e10⟩;exact e3.keep (X:=fx) hb hs (fun k hk=>h.old k (by omega)) e7 e8 e9 (fun t f c hf k hk=>h.old k (hR _ _ _ _ hf.F k hk))
theorem Im.noM_m {σ:Im}{k:Nat}{v:List (Value×Value)}(h:σ.noM.m k=some v):σ.m k=some v∧v≠cA:=by
 simp only[Im.noM] at h;split at h
 ·cases h
 ·rename_i aC;exact⟨h,fun e=>aC (by rw[h,e])⟩
structure SegL (L:Nat) (σ:Im) (own:Nat→Option Nat) (w:World) (σ':Im) (own':Nat→Option Nat) (w':World):Prop where
 le:σ.le σ'
 below:Below 0 w w'
 same:∀k,k<w.heap.size→own k=none→k≠L→w'.heap[k]?=w.heap[k]?
 ow:∀k j,own' k=some j→(∃i,own k=some i)∨w.heap.size≤k
 imm:∀k,((∃o x,σ'.c k o=some x)∨∃x,σ'.m k=some x)→(∃o x,σ.c k o=some x)∨(∃x,σ.m k=some x)∨(∃i,own k=some i)∨w.heap.size≤k
theorem adr (w:World)(L:Nat)(o:Obj):Below 0 w (w.putObj L o):=⟨rfl,rfl,rfl,by simp,fun k hk=>by omega⟩
theorem Seg.round {L:Nat}{σ' σ'':Im}{own' adf:Nat→Option Nat}{w' kO:World}{o o':Obj}(h:Seg σ own w σ' own' w')(k:Seg σ' own' (w'.putObj L o) σ'' adf kO):SegL L σ own w σ'' adf (kO.putObj L o'):=by
 have aK:=h.below.size;have GY:=k.below.size;simp only[World.putObj_size] at GY;refine⟨h.le.trans k.le,h.below.trans ((adr _ _ _).trans (k.below.trans (adr _ _ _))),fun q hq ho hL=>?_,fun q j e=>?_,fun q e=>?_⟩
 ·have h1:own' q=none:=by
   cases e:own' q with
   |none=>rfl
   |some j=>
    rcases h.ow q j e with⟨i,e⟩|e
    ·rw[ho] at e;cases e
    ·omega
  rw[World.putObj_heap_other hL,k.same q (by simp;omega) h1,World.putObj_heap_other hL,h.same q hq ho]
 ·rcases k.ow q j e with⟨i,e⟩|e
  ·exact h.ow q i e
  ·simp only[World.putObj_size] at e;exact .inr (by omega)
 ·rcases k.imm q e with e|e|⟨i,e⟩|e
  ·exact h.imm q (.inl e)
  ·exact h.imm q (.inr e)
  ·rcases h.ow q i e with e|e
   ·exact .inr (.inr (.inl e))
   ·exact .inr (.inr (.inr e))
  ·simp only[World.putObj_size] at e;exact .inr (.inr (.inr (by omega)))
theorem Env.put_self (ρ:Env)(lo:List Nat):ρ.put [] [] lo (lo.map ρ.o)=ρ:=by
 have h2:∀u,putL ρ.o lo (lo.map ρ.o) u=ρ.o u:=fun u=>by rw[qE];split<;>rfl
 show Env.mk ρ.r (putL ρ.o lo (lo.map ρ.o))=ρ;rw[funext h2]
theorem awl {N:Nat}(eM:fj C Φ){g:Operand}{ps:Array Tmp}{ca cb:Code}(bo:tF C Φ fn s n ids R N ca)(dE:tF C Φ fn s n ids R N cb):tF C Φ fn s n ids R N (.rangeFunc g ps ca cb):=by
 intro rm S r hr rd w0 σ0 wr ρ x a w fq hC hY fU hn hg he;simp only[comp] at hr;split at hr
 case h_2=>cases hr;exact absurd he (kK _ _ _ _)
 rename_i aa rr e iO hu;split at hr
 case h_2=>cases hr;exact absurd he (kK _ _ _ _)
 rename_i ys uP;split at hr
 case h_2=>cases hr;exact absurd he (kK _ _ _ _)
 rename_i q hq;rw[Bool.cond_eq_ite] at hr;split at hr
 case isFalse=>cases hr;exact absurd he (kK _ _ _ _)
 rename_i uh;cases hr;simp only[Bool.and_eq_true] at uh;obtain⟨⟨⟨hl,bp⟩,ah⟩,uI⟩:=uh;have hl:=Nat.eq_of_beq_eq_true hl;have uI:=Nat.le_of_ble_eq_true uI;obtain⟨hrd,lC⟩:=fq rfl;subst hrd;obtain⟨hs,wU,_⟩:=BY (C:=C) (w0:=w0) (σ0:=σ0) (ids:=ids) 8 hq;simp only[Option.bind_eq_some_iff] at hs;obtain⟨ra,OD,hs⟩:=hs;split at hs
 case h_2=>cases hs
 rename_i S1 hao W7;simp only[Option.map_eq_some_iff] at hs;obtain⟨rb,XY,dX⟩:=hs;have XG:=q6 ca OD;have XH:=q6 cb XY;obtain⟨q1,q2⟩:=q;simp only at OD dX uI wU he ⊢;generalize km:YZ ids (q1::q2.ex.map (·.2)) q2.mo=lo at he;generalize rM:((mI cn q2.ex none).bind fun M=>vE C fn s (M.st ids))=rt at he;have BF:∃f caps d,e.ev ρ=.clo f caps∧Φ f caps=some d∧gg (q2.pc.ev Φ N) (ρ.setR n d) ps.toList lo rt d.l (lo.map ρ.o)=some x:=by
  simp only[PC.ev,PI.runs,PI.run,holds,List.all_nil,cond_true] at he;cases bA:e.ev ρ with
  |clo f caps=>
   rw[bA] at he;simp only[PE.evs,List.nil_append] at he;cases hΦ:Φ f caps with
   |none=>rw[hΦ] at he;simp at he
   |some d=>
    rw[hΦ] at he;simp only[Option.map_some,Option.bind_some,PE.ev,Env.setR,aP] at he;exact⟨f,caps,d,rfl,hΦ,he⟩
  |_=>rw[bA] at he;simp at he
 obtain⟨f,caps,d,bA,hΦ,he⟩:=BF;obtain⟨σ,own,hv,i⟩:=hg;have hx:=bP (gs:=[]) i hC rfl hu;rw[bA] at hx;generalize hgv:a.eval g=gv at hx;generalize aW:Ty.fn aa rr=ty at hx;cases hx with
 |fn f cs vs ds jh h1 h2 aQ=>
 cases aW;obtain⟨hfn,arb⟩:=eM f cs ys jh uP;obtain⟨xs,rfl,aFL,N4⟩:=arb caps d hΦ;simp only[D.l_list] at he;obtain⟨m,kN,hm,ib,GH,ju⟩:=Wh he;have iq0:=Yu 8 hq i
 have iq:Inv C (q1.st ids) (ρ.setR n (.list xs)) σ own hv w0 σ0 (fun _=>False) a w:=by
  refine iq0.env (Snap.noOpt _ _) (fun t ht=>?_) (fun _ _=>rfl);have ah:t<q1.rs.length:=by
   refine Nat.lt_of_not_le fun hle=>?_;simp only[Snap.st,List.getD_eq_getElem?_getD,List.getElem?_eq_none hle,Option.getD_none,bX,isNone] at ht;cases ht
  simp[Env.setR,bf _ _ (show t≠n by omega)]
 obtain⟨ρ1,hρ1⟩:∃ρ1,ρ.setR n (.list xs)=ρ1:=⟨_,rfl⟩
 rw[hρ1] at he iq GH ju;have gZ:ρ.o=ρ1.o:=by rw[←hρ1];rfl
 rw[gZ] at ib;refine wpIn_rangeFunc ?_;intro Nt aFk;obtain⟨L,WY⟩:∃L,w.heap.size+1=L:=⟨_,rfl⟩
 obtain⟨rec,gl⟩:∃rec:LoopState→Option Code→Loop,rec=fun st pe=>{state:=st,pending:=pe,fn:=Nt,tmps:=a.tmps,params:=ps,assign:=ca,body:=cb,defers:=w.heap.size}:=⟨_,rfl⟩
 have i1:=iq.enter (rec .ready none);obtain⟨t,fx0,cx0,Xk,ht0⟩:=iq.frame;have aqP:=σ0.lt _ _ _ _ Xk.F;have NZ:=FrOK.enter iq Xk (rec .ready none);have aFJ:=iq.below.size;have wL:Free L (σ.mark w.heap.size) own:=by
  refine⟨?_,fun o=>?_,?_⟩
  ·cases e:own L with
   |none=>rfl
   |some j=>have:=(iq.owns L j e).2.1;omega
  ·cases e:σ.c L o with
   |none=>exact e
   |some x=>have:=iq.lt e;omega
  ·simp only[Im.mark,show L≠w.heap.size by omega,if_false];cases e:σ.m L with
   |none=>rfl
   |some x=>have:=iq.ltm e;omega
 have kj:σ.le (σ.mark w.heap.size):=by
  refine⟨fun _ _ _ e=>e,fun k x e=>?_⟩;have:k≠w.heap.size:=by have:=iq.ltm e;omega
  simp[Im.mark,this,e]
 have WV:((w.alloc (.deferred (some []))).alloc (.loop (rec .ready none))).heap[L]?=some (.loop (rec .ready none)):=by
  have:=World.alloc_heap_new (w.alloc (.deferred (some []))) (.loop (rec .ready none));rw[World.size_alloc,WY] at this;exact this
 obtain⟨W1,NF⟩:∃W1,(w.alloc (.deferred (some []))).alloc (.loop (rec .ready none))=W1:=⟨_,rfl⟩
 have aE8:W1.heap.size=w.heap.size+2:=by rw[←NF];simp
 rw[NF] at i1 NZ WV;have NX:(Instr.enterLoop Nt a.tmps ps ca cb none).run C.P w=.ok (L,[{target:=.collected w.heap.size,args:=#[]}]) W1:=by
  rw[←NF,gl,←WY];exact run_enterLoop_outer _ _ _ _ _
 obtain⟨σ1,hσ1⟩:∃σ1,σ.mark w.heap.size=σ1:=⟨_,rfl⟩
 rw[hσ1] at i1 NZ wL kj;obtain⟨aM,NG⟩:∃aM:Act,{a with defers:={target:=.collected w.heap.size,args:=#[]}::a.defers}=aM:=⟨_,rfl⟩
 have A2:aM.tmps=a.tmps:=by rw[←NG]
 rw[NG] at i1;have iR:=i1.toRnd (t:=t) (X:=fun k=>k=L) ht0;obtain⟨σR,hσR⟩:∃σR,σ0.rnd σ1 own W1 t (fun k=>k=L)=σR:=⟨_,rfl⟩
 have ry:∀t' f c w',σR.F t' f c w'→(∀k,f k→k<W1.heap.size∧k≠L)∧∀k,c k→f k∧(∀o,σ1.c k o=none)∧σ1.m k=none:=by
  rw[←hσR];rintro t' f c w' ⟨_,h2,h3,_⟩;exact⟨fun k hk=>⟨((h2 k).1 hk).1,((h2 k).1 hk).2.2.2⟩,fun k hk=>(h3 k).1 hk⟩
 have W2:CtxOK C σR:=by rw[←hσR];exact hC.mono i1.le
 rw[hσR] at iR
 obtain⟨P,hP⟩:∃P:Nat→List D→Snap→LoopState→Option Code→Prop,P=fun i vo Sx st pe=>(i≤m∧vo=kN i∧Sx=q1∧st=.ready∧pe=none)∨
  (i=m+1∧m<xs.length∧st=.done∧∃y id ρ',xs[m]?=some y∧q2.pc.ev Φ N (ρ1.put ps.toList (partsOf ps.toList y) lo (kN m))=some (.exit id ρ')∧vo=lo.map ρ'.o∧(id,Sx)∈q2.ex∧((id≠cn∧pe=some (.exit id))∨(id=cn∧pe=some .ret))):=⟨_,rfl⟩
 obtain⟨c1,c2⟩:=awk (C:=C) (w:=W1) (L:=L) hfn hgv;refine⟨L,[{target:=.collected w.heap.size,args:=#[]}],W1,_,W1,f,_,W1,NX,c1,fun _ _=>trivial,c2,(fun e=>by cases e),?_⟩
 refine VG ((N4 σ1 W1 (.func (.yield L) #[] #[]) vs (RSt C w0 σR ids ρ1 lo aM L W1 σ1 rec xs P) (fun k=>k<W1.heap.size) (fun k=>(∃j,own k=some j)∨k=L) m i1.ok (hC.mono i1.le) ⟨h1,h2,fun j t e=>(aQ j t e).mono kj⟩ hm
  (fun t f c w h=>h.lt) (fun t f c w h=>h.sub) (fun t f c w w' h hb hs=>h.keep (by omega) (by omega) (fun t f c w hF k hk=>((ry t f c w hF).1 k hk).1) hb hs) ?_ ?_ ?_ ?_).mono ?_)
 ·refine⟨fun k hk=>hk,fun k hk=>?_,fun k hk=>hk,0,kN 0,q1,.ready,none,σ1,own,hv,by simp,by rw[hP];exact .inl ⟨Nat.zero_le _,rfl,rfl,rfl,rfl⟩,?_,.refl σ1,wL,WV,fun k j e=>(iR.owns k j e).2.1,fun k o x e=>iR.lt e,fun k x e=>iR.ltm e,fun k=>.rfl⟩
  ·rcases hk with⟨j,e⟩|e
   ·exact(iR.owns k j e).2.1
   ·show k<W1.heap.size;omega
  ·rw[ib,Env.put_self];exact iR
 ·rintro k o x e (⟨j,hj⟩|rfl)
  ·have:=(iR.owns k j hj).2.2.1 o;rw[e] at this;cases this
  ·rw[wL.c] at e;cases e
 ·rintro k x e (⟨j,hj⟩|rfl)
  ·have:=(iR.owns k j hj).2.2.2;rw[e] at this;cases this
  ·rw[wL.m] at e;cases e
 ·intro i fx cx w1 σx args ds' hi dj hF hσx gW gi lz cZ cO rd' o a' x' aa ts K Q bB cm W5 hK;have aFm:i<xs.length:=(List.getElem?_eq_some_iff.1 dj).1;obtain⟨i',vo,Sx,st,pe,σa,vk,hva,e1,e2,iA,GC,A0,Gc,Ol,Xa,Br,wR⟩:=hF.ex;have hii:i'=i:=by
   have h9:=congrArg List.length (congrArg D.l e1);simp only[D.l_list,List.length_take] at h9;omega
  subst hii;rw[hP] at e2;rcases e2 with⟨_,rfl,A1,rfl,rfl⟩|⟨e2,_⟩
  case inr=>omega
  rw[A1] at iA;have WZ:L<w1.heap.size:=hF.lt L (hF.old L (by omega));have Gl:cx L:=(wR L).2 (.inr rfl)
  have arA:∀k o v,σx.c k o=some v→vk k=none:=fun k o v e=>by
   cases e2:vk k with
   |none=>rfl
   |some j=>exact absurd ((wR k).2 (.inl ⟨j,e2⟩)) (gi k o v e)
  have Bw:∀k v,σx.m k=some v→vk k=none:=fun k v e=>by
   cases e2:vk k with
   |none=>rfl
   |some j=>exact absurd ((wR k).2 (.inl ⟨j,e2⟩)) (lz k v e)
  have hτok:σx.noM.ok w1:=⟨hσx.c,fun k v e=>hσx.m k v (Im.noM_m e).1⟩
  have iB:=iA.joinIm (τ:=σx.noM) hτok (fun k e=>(Im.noM_m e).2 rfl) arA (fun k v e=>Bw k v (Im.noM_m e).1)
   (fun k o v e=>(cZ k o v e).imp (fun e=>GC.c k o v e) fun e=>by omega) (fun k v e=>(cO k v (Im.noM_m e).1).imp (fun e=>GC.m k v e) fun e=>by omega)
   (fun t' f c hf=>⟨fun k o v e hc=>by
        obtain⟨g1,g2,g3⟩:=(ry _ _ _ _ hf.F).2 k hc;rcases cZ k o v e with e|e
        ·rw[g2 o] at e;cases e
        ·have:=((ry _ _ _ _ hf.F).1 k g1).1;omega,fun k v e hc=>by
        obtain⟨g1,g2,g3⟩:=(ry _ _ _ _ hf.F).2 k hc;rcases cO k v (Im.noM_m e).1 with e|e
        ·rw[g3] at e;cases e
        ·have:=((ry _ _ _ _ hf.F).1 k g1).1;omega⟩)
  have WT:Free L (σa.plus σx.noM) vk:=by
   refine⟨A0.own,fun o=>?_,?_⟩
   ·cases e:(σa.plus σx.noM).c L o with
    |none=>rfl
    |some v=>
     rcases Im.plus_c e with e|e
     ·rw[A0.c] at e;cases e
     ·exact absurd Gl (gi L o v e)
   ·cases e:(σa.plus σx.noM).m L with
    |none=>rfl
    |some v=>
     rcases Im.plus_m e with e|e
     ·rw[A0.m] at e;cases e
     ·exact absurd Gl (lz L v (Im.noM_m e).1)
  have oW:ps.toList.length=ys.length:=by rw[Array.length_toList];exact hl.symm
  have aqi:ou C (σa.plus σx.noM) ys args ds':=⟨gW.1,gW.2.1,fun j t e=>((gW.2.2 j t e).noM).mono (Im.plus_le2 iA.ok hτok)⟩
  have iC:=iB.startR (ρ':=ρ1) oW bp (fun p hp=>by
   have:=List.all_eq_true.1 ah p hp;rw[A2,hn];simpa [Nat.blt_eq] using this) aqi rfl
  have hpu:∃xi,q2.pc.ev Φ N (ρ1.put ps.toList (partsOf ps.toList (.tup ds')) lo (kN i'))=some xi∧((i'<m∧∃ρ',xi=.next ρ'∧lo.map ρ'.o=kN (i'+1))∨(i'=m∧m<xs.length∧∃id ρ',xi=.exit id ρ')):=by
   by_cases jt:i'<m
   ·obtain⟨y,ρ',g1,g2,g3⟩:=GH i' jt;rw[dj] at g1;cases g1;exact⟨_,g2,.inl ⟨jt,ρ',rfl,g3⟩⟩
   ·obtain rfl:i'=m:=by omega
    rcases ju with⟨g1,_⟩|⟨g1,y,id,ρ',g2,g3,_⟩
    ·omega
    ·rw[dj] at g2;cases g2;exact⟨_,g3,.inr ⟨rfl,g1,id,ρ',rfl⟩⟩
  obtain⟨xi,qt,O5⟩:=hpu;have ax:q2.pc=.seq ra.pc rb.pc:=by rw[←dX];rfl
  rw[ax] at qt;have aK:(kI ps.toList args aM.tmps).size=n:=by rw[aeX,A2,hn]
  refine⟨fun _ _=>trivial,?_⟩;rw[Oper.semAt_eq _ _ _ (fun c e=>by rw[bB] at e;cases e)];have aqk:aa.size=ps.size:=by
   have:=gW.1;rw[←W5,List.length_map,Array.length_toList] at this;omega
  have aj:=aAh (C:=C) bB cm Gc (by rw[gl];exact aqk);have ar3:(rec .ready none).fn=Nt∧(rec .ready none).tmps=a.tmps∧(rec .ready none).params=ps∧(rec .ready none).assign=ca∧(rec .ready none).body=cb:=by rw[gl];exact⟨rfl,rfl,rfl,rfl,rfl⟩
  obtain⟨r1,r2,r3,r4,r5⟩:=ar3;rw[r1,r2,r3,r4,r5] at aj
  have nI:(ps.zip (aa.map a'.eval)).foldl (fun tmps (t,v)=>tmps.setIfInBounds t v) a.tmps=kI ps.toList args aM.tmps:=by
   rw[A2,←W5,←Array.toList_map];exact aw6 ps (aa.map a'.eval) a.tmps
  rw[nI] at aj;rw[aj];refine⟨(fun e=>by cases e),?_⟩;refine roundIn_of_wpIn (F:=FR rd') trivial ?_;show ca.wpIn (FR (some L)) 0 C.P _ _ _;cases kp:ra.pc.ev Φ N (ρ1.put ps.toList (partsOf ps.toList (.tup ds')) lo (kN i')) with
  |none=>simp only[PC.ev,kp] at qt;cases qt
  |some xa=>
  refine wpIn_mono (aeR bo OD iO W2 iC (wr:=fun t=>t∈bW ca) (fun _ h=>h) aK kp L) fun e2 a1 UW asb=>?_;obtain⟨ρ2,S2,σ2,gq,fH,iD,jS,gF,iL⟩:=asb;cases e2 with
  |normal=>
   obtain⟨rfl,wM⟩:=iL;rw[hao] at wM;cases wM;simp only[PC.ev,kp] at qt;have WW:UW.heap[L]?=some (.loop (rec .ready none)):=(jS.same L WZ WT.own).trans Gc;have NB:=WT.seg WZ jS;have NC:L<UW.heap.size:=(Array.getElem?_eq_some_iff.1 WW).1;have Gb:w0.heap.size≤L:=by omega
   refine⟨_,run_beginRound WW (by rw[gl]),?_⟩;have iE:=iD.putL Gb NB (fun t' f c hf Bd=>((ry _ _ _ _ hf.F).1 L Bd).2 rfl) (.loop {rec .ready none with state:=.busy});have hL3:(UW.putObj L (.loop {rec .ready none with state:=.busy})).heap[L]?=some (.loop {rec .ready none with state:=.busy}):=World.putObj_heap_same NC;show cb.wpIn (FR (some L)) 0 C.P _ _ _;refine wpIn_mono (aeR dE XY iO W2 iE (wr:=fun t=>t∈bW cb) (fun _ h=>h) (gF.size.trans aK) qt L) fun e3 a3 w3 asc=>?_;obtain⟨ρ3,S3,σ3,vj,BP,iF,GW,ar9,mC⟩:=asc;have WX:w3.heap[L]?=some (.loop {rec .ready none with state:=.busy}):=(GW.same L (by simpa using NC) NB.own).trans hL3;have WS:=NB.seg (by simpa using NC) GW;have ap2:L<w3.heap.size:=(Array.getElem?_eq_some_iff.1 WX).1;obtain⟨mk,w6⟩:∃mk,Nat.lor (vc (ps.toList++bW ca++bW cb)) (Nat.lor ra.mr rb.mr)=mk:=⟨_,rfl⟩
   have aru:∀t,ar mk t=false→t∉ps.toList∧t∉bW ca∧t∉bW cb∧ar ra.mr t=false∧ar rb.mr t=false:=by
        intro t ht;rw[←w6,ei,ei,Bool.or_eq_false_iff,Bool.or_eq_false_iff] at ht;obtain⟨t1,t2,t3⟩:=ht;have:t∉ps.toList++bW ca++bW cb:=fun hm=>by rw[Vv hm] at t1;cases t1
        simp only[List.mem_append,not_or] at this;exact⟨this.1.1,this.1.2,this.2,t2,t3⟩
   have OF:∀t,ar mk t=false→aM.tmps.getD t undef=a3.tmps.getD t undef∧(ρ1.put [] [] lo (lo.map ρ3.o)).r t=ρ3.r t:=by
        intro t ht;obtain⟨t1,t2,t3,t4,t5⟩:=aru t ht;refine⟨?_,?_⟩
        ·rw[ar9.get t t3,gF.get t t2];exact(Lc _ _ _ _ t1).symm
        ·have hb3:∀ρ',xi=.next ρ'∨(∃id,xi=.exit id ρ')→ρ'.r t=ρ2.r t:=fun ρ' h=>by
          have uo:xi.env?=some ρ':=by rcases h with h|⟨id,h⟩<;>rw[h]<;>rfl
          exact(PC.ev_but rb.pc _ _ ρ' qt uo).r t fun hm=>by rw[XH.1 t hm] at t5;cases t5
         have dK:ρ2.r t=putL ρ1.r ps.toList (partsOf ps.toList (.tup ds')) t:=(PC.ev_but ra.pc _ _ ρ2 kp rfl).r t fun hm=>by rw[XG.1 t hm] at t4;cases t4
         rw[yc _ _ _ _ t1] at dK;show ρ1.r t=ρ3.r t;rw[hb3 ρ3 (by
          cases e3 with
          |normal=>exact .inl mC.1
          |exit id=>exact .inr ⟨id,mC.1⟩
          |ret=>exact .inr ⟨_,mC.1⟩
          |_=>exact mC.elim),dK]
   have Od:q2.mo=gO ra.mo rb.mo:=by rw[←dX];rfl
   have Oo:∀j,j∉q2.mo→ρ3.o j=ρ1.o j:=by
        intro j hj;rw[Od,nN,not_or] at hj;have uo:xi.env?=some ρ3:=by
         cases e3 with
         |normal=>rw[mC.1];rfl
         |exit id=>rw[mC.1];rfl
         |ret=>rw[mC.1];rfl
         |_=>exact mC.elim
        rw[(PC.ev_but rb.pc _ _ ρ3 qt uo).o j fun hm=>hj.2 (XH.2 j hm),(PC.ev_but ra.pc _ _ ρ2 kp rfl).o j fun hm=>hj.1 (XG.2 j hm)]
        exact yc _ _ _ _ fun hm=>by
         rw[←km] at hm;have:=(List.mem_filter.1 hm).1;rw[Od,nN] at this;exact this.elim hj.1 hj.2
   have On:∀(S:Snap),S∈(q1::q2.ex.map (·.2))→∀j,mF ((S.st ids).o j)=false→(ρ1.put [] [] lo (lo.map ρ3.o)).o j=ρ3.o j:=by
        intro S hS j hj;show putL ρ1.o lo (lo.map ρ3.o) j=ρ3.o j;rw[qE];split
        ·rfl
        ·rename_i dW;refine(Oo j fun rF=>dW ?_).symm;rw[←km];exact List.mem_filter.2 ⟨rF,List.any_eq_true.2 ⟨S,hS,by simpa [Snap.st] using hj⟩⟩
   have fin:∀(jump:Option Code) (Sx:Snap),Inv C (Sx.st ids) (ρ1.put [] [] lo (lo.map ρ3.o)) σ3 vj BP w0 σR (fun _=>False) aM w3→P (i'+1) (lo.map ρ3.o) Sx (if jump.isNone then .ready else .done) jump→jump.isNone=decide (i'<m)→
        ∃v w',(Instr.endRound L jump).run C.P w3=.ok v w'∧K (a'.put o.dst v) w':=by
        intro jump Sx iG hPn rF;refine⟨_,_,run_endRound jump WX,?_⟩;have ar2:({{rec .ready none with state:=.busy} with state:=if jump.isNone then .ready else .done,pending:=jump}:Loop)=rec (if jump.isNone then .ready else .done) jump:=by rw[gl]
        rw[ar2];have aQ:=jS.round (L:=L) (o':=.loop (rec (if jump.isNone then .ready else .done) jump)) GW;have iH:=iG.putL Gb WS (fun t' f c hf Bd=>((ry _ _ _ _ hf.F).1 L Bd).2 rfl) (.loop (rec (if jump.isNone then .ready else .done) jump));obtain⟨w4,O1⟩:∃w4,w3.putObj L (.loop (rec (if jump.isNone then .ready else .done) jump))=w4:=⟨_,rfl⟩
        have hL5:w4.heap[L]?=some (.loop (rec (if jump.isNone then .ready else .done) jump)):=by rw[←O1];exact World.putObj_heap_same ap2
        have aFO:w4.heap.size=w3.heap.size:=by rw[←O1];simp
        rw[O1] at aQ iH ⊢;have aE7:W1.heap.size≤w1.heap.size:=by
         have:=hF.lt (W1.heap.size-1) (hF.old _ (by omega));omega
        have aFK:=aQ.below.size
        refine hK _ _ ⟨by rw[rF],aQ.below,fun k hk hc=>aQ.same k hk (by
         cases e:vk k with
         |none=>rfl
         |some j=>exact absurd ((wR k).2 (.inl ⟨j,e⟩)) hc) (fun e=>hc (by rw[e];exact Gl)),(fun k=>k<w4.heap.size∧(k<W1.heap.size∨(∃j,vj k=some j)∨(∃o x,σ3.c k o=some x)∨∃x,σ3.m k=some x)),(fun k=>(∃j,vj k=some j)∨k=L),?_,?_,?_⟩
        ·refine⟨fun k hk=>hk.1,fun k hk=>?_,fun k hk=>⟨by omega,.inl hk⟩,i'+1,lo.map ρ3.o,Sx,_,jump,σ3,vj,BP,rfl,hPn,iH,GC.trans ((Im.plus_le1 _ _).trans aQ.le),WS,hL5,fun k j e=>⟨(iH.owns k j e).2.1,.inr (.inl ⟨j,e⟩)⟩,fun k o x e=>⟨iH.lt e,.inr (.inr (.inl ⟨o,x,e⟩))⟩,fun k x e=>⟨iH.ltm e,.inr (.inr (.inr ⟨x,e⟩))⟩,fun k=>.rfl⟩;rcases hk with⟨j,e⟩|e
         ·exact⟨(iH.owns k j e).2.1,.inr (.inl ⟨j,e⟩)⟩
         ·exact⟨by omega,.inl (by omega)⟩
        ·rintro k ⟨_,hk⟩ cr
         have Bi:((∃o x,σ3.c k o=some x)∨∃x,σ3.m k=some x)→fx k∨(∃o x,σx.c k o=some x)∨(∃x,σx.m k=some x∧x≠cA):=fun h=>by
          rcases aQ.imm k h with⟨o,x,e⟩|⟨x,e⟩|⟨j,e⟩|e
          ·rcases Im.plus_c e with e|e
           ·exact .inl (Xa k o x e)
           ·exact .inr (.inl ⟨o,x,e⟩)
          ·rcases Im.plus_m e with e|e
           ·exact .inl (Br k x e)
           ·exact .inr (.inr ⟨x,(Im.noM_m e).1,(Im.noM_m e).2⟩)
          ·exact .inl (Ol k j e)
          ·omega
         rcases hk with hk|⟨j,e⟩|e|e
         ·exact .inl (hF.old k hk)
         ·rcases aQ.ow k j e with⟨j',e⟩|e
          ·exact .inl (Ol k j' e)
          ·omega
         ·exact Bi (.inl e)
         ·exact Bi (.inr e)
        ·rintro k (⟨j,e⟩|e) cr
         ·rcases aQ.ow k j e with⟨j',e⟩|e
          ·exact(wR k).2 (.inl ⟨j',e⟩)
          ·omega
         ·rw[e];exact Gl
   have mq:jb σ3 w0.heap.size aM.defers:=iA.defers.mono ((Im.plus_le1 _ _).trans (jS.le.trans GW.le));have OB:q2.out=rb.out.map (Snap.mask mk)∧q2.ex=rb.ex.map (fun x=>(x.1,x.2.mask mk)):=by rw[←dX,←w6];exact⟨rfl,rfl⟩
   cases e3 with
   |normal=>
    obtain⟨e4,e5⟩:=mC;have hT:q2.out=some (S3.mask mk):=by rw[OB.1,e5];rfl
    have Xl:=wU _ hT
    have iG:Inv C (q1.st ids) ρ3 σ3 vj BP w0 σR (fun _=>False) a3 w3:=by
        have:=Snap.meet_ok2 (x:=q1) (iF.maskR mk)
        rwa [Xl] at this
    have iH:=iG.restore (ρ':=ρ1.put [] [] lo (lo.map ρ3.o)) (a':=aM) (Snap.noOpt _ _) mq (fun t ht=>OF t (by
        cases e:ar mk t with
        |false=>rfl
        |true=>
         have h9:=auv (x:=q1) (S:=S3) (ids:=ids) e;rw[Xl] at h9;rw[h9] at ht;cases ht)) (fun j hj=>On q1 (List.mem_cons_self ..) j hj)
    rcases O5 with⟨jt,ρ',e6,e7⟩|⟨_,_,id,ρ',e6⟩
    ·rw[e4] at e6;cases e6;exact fin none q1 iH (by rw[hP];exact .inl ⟨by omega,e7,rfl,rfl,rfl⟩) (by simp[jt])
    ·rw[e4] at e6;cases e6
   |exit id=>
    obtain⟨e4,e5,e6⟩:=mC;have cI:(id,S3.mask mk)∈q2.ex:=by rw[OB.2];exact List.mem_map.2 ⟨_,e6,rfl⟩
    have iH:=(iF.maskR mk).restore (ρ':=ρ1.put [] [] lo (lo.map ρ3.o)) (a':=aM) (Snap.noOpt _ _) mq (fun t ht=>OF t (by
        cases e:ar mk t with
        |false=>rfl
        |true=>rw[B6,if_pos e] at ht;cases ht)) (fun j hj=>On (S3.mask mk) (List.mem_cons_of_mem _ (List.mem_map.2 ⟨_,cI,rfl⟩)) j hj)
    rcases O5 with⟨jt,ρ',e7,_⟩|⟨jt,qp,bC,ρ',e7⟩
    ·rw[e4] at e7;cases e7
    ·subst jt;refine fin (some (.exit id)) (S3.mask mk) iH ?_ (by simp);rw[hP];refine .inr ⟨rfl,qp,rfl,_,id,ρ3,dj,?_,rfl,cI,.inl ⟨e5,rfl⟩⟩;rw[ax];simp only[PC.ev,kp];rw[qt,e4]
   |ret=>
    obtain⟨e4,e6⟩:=mC;have cI:(cn,S3.mask mk)∈q2.ex:=by rw[OB.2];exact List.mem_map.2 ⟨_,e6,rfl⟩
    have iH:=(iF.maskR mk).restore (ρ':=ρ1.put [] [] lo (lo.map ρ3.o)) (a':=aM) (Snap.noOpt _ _) mq (fun t ht=>OF t (by
        cases e:ar mk t with
        |false=>rfl
        |true=>rw[B6,if_pos e] at ht;cases ht)) (fun j hj=>On (S3.mask mk) (List.mem_cons_of_mem _ (List.mem_map.2 ⟨_,cI,rfl⟩)) j hj)
    rcases O5 with⟨jt,ρ',e7,_⟩|⟨jt,qp,bC,ρ',e7⟩
    ·rw[e4] at e7;cases e7
    ·subst jt;refine fin (some .ret) (S3.mask mk) iH ?_ (by simp);rw[hP];refine .inr ⟨rfl,qp,rfl,_,cn,ρ3,dj,?_,rfl,cI,.inr ⟨rfl,rfl⟩⟩;rw[ax];simp only[PC.ev,kp];rw[qt,e4]
   |_=>exact mC.elim
  |exit id=>obtain⟨_,_,e6⟩:=iL;rw[W7] at e6;cases e6
  |ret=>obtain⟨_,e6⟩:=iL;rw[W7] at e6;cases e6
  |_=>exact iL.elim
 ·rintro e' w' ⟨⟨v,rfl⟩,fx,cx,hF⟩;rw[show({tmps:=a.tmps,defers:=[{target:=Target.collected w.heap.size,args:=#[]}]++a.defers}:Act)=aM from NG];obtain⟨i',vo,Sx,st,pe,σa,vk,hva,e1,e2,iA,GC,A0,Gc,Ol,Xa,Br,wR⟩:=hF.ex;have h9:=congrArg List.length (congrArg D.l e1);simp only[D.l_list,List.length_take] at h9;have cu:(rec st pe).state≠.busy:=by
   rw[hP] at e2;rw[gl];rcases e2 with⟨_,_,_,e3,_⟩|⟨_,_,e3,_⟩<;>(rw[e3];intro e;cases e)
  have rJ:(rec st pe).pending=pe:=by rw[gl]
  have NY:(Instr.endLoop L).run C.P w'=.ok pe (w'.putObj L (.loop {rec st pe with state:=.exhausted})):=(run_endLoop (P:=C.P) Gc cu).trans (congrArg (fun z=>Result.ok z _) rJ);have iF:=iA.putL (by omega:w0.heap.size≤L) A0 (fun t' f c hf Bd=>((ry _ _ _ _ hf.F).1 L Bd).2 rfl) (.loop {rec st pe with state:=.exhausted});rw[←hσR] at iF;have iG:=i1.ofRnd NZ (fun k hk e=>by have:=aqP k hk;omega) iF;have iN:SameBut wr a aM:=⟨by rw[A2],fun t _=>by rw[A2]⟩
  refine⟨pe,_,NY,?_⟩;rw[hP] at e2;rcases e2 with⟨e3,rfl,A1,_,rfl⟩|⟨rfl,qp,_,y,id,ρ',g1,g2,rfl,g4,g5⟩
  ·rcases ju with⟨g1,g2⟩|⟨g1,_⟩
   ·obtain rfl:i'=m:=by omega
    rw[A1] at iG;exact⟨_,q1,g2,rfl,iN,_,_,_,iG⟩
   ·omega
  ·rcases ju with⟨g6,_⟩|⟨_,y',bC,ρ'',k1,k2,k3⟩
   ·omega
   ·rw[g1] at k1;cases k1;rw[g2] at k2;cases k2;rcases k3 with⟨k3,k4⟩|⟨k3,pe',k4,k5⟩
    ·rcases g5 with⟨_,rfl⟩|⟨g5,_⟩
     ·exact wpIn_exit ⟨_,Sx,k4,k3,List.mem_filter.2 ⟨g4,by simp[dU k3]⟩,iN,_,_,_,iG⟩
     ·exact absurd g5 k3
    ·rcases g5 with⟨g5,_⟩|⟨_,rfl⟩
     ·exact absurd k3 g5
     ·subst k3;rw[←rM,Option.bind_eq_some_iff] at k4;obtain⟨M,hM,OE⟩:=k4;obtain⟨M',W0,ql⟩:=Py (⟨_,_,_,iG⟩:Good C w0 σ0 (Sx.st ids) _ (fun _=>False) aM _) q2.ex none g4;rw[hM] at W0;cases W0;obtain⟨σm,aGI,X9,im⟩:=ql;exact wpIn_ret ⟨_,k5,Inv.retD hC (fun _=>rfl) lC OE _ im rfl,iN⟩
theorem Zd {arr:Array MapEntry}{clock:Nat}(hb:kQ arr clock){idx:List Nat}(hi:∀i,i∈idx→i<arr.size){i:Nat}{e:MapEntry}(he:arr[i]?=some e):(fh arr idx).contains e.born=true↔i∈idx:=by
 simp only[fh,List.contains_toArray,List.contains_iff_mem,List.mem_map];constructor
 ·rintro⟨j,hj,h⟩;have ah:=hi j hj;rw[Array.getElem?_eq_getElem ah] at h;simp only at h;have:=hb.2 j i arr[j] e (Array.getElem?_eq_getElem ah) he h;rw[←this];exact hj
 ·intro h;exact⟨i,h,by rw[he]⟩
theorem aw3 (arr:Array MapEntry)(idx:List Nat){i:Nat}{e:MapEntry}(he:arr[i]?=some e):(fh arr idx).push e.born=fh arr (idx++[i]):=by
 simp[fh,he]
theorem auL {P:Program}{w:World}{k m:Nat}{arr:Array MapEntry}{clock:Nat}{idx:List Nat}(hk:w.heap[k]?=some (.mapIter (some m) clock (fh arr idx) clock))(hm:w.heap[m]?=some (.map arr clock))(hb:kQ arr clock)(hi:∀i,i∈idx→i<arr.size)(T:TypeId):
 ∃w1:World,(w1=w∨w1=w.drew)∧(((∀i,i<arr.size→i∈idx)∧(Instr.next (.pointer (some ⟨k,0,none⟩)) false T).run P w=.ok (.tuple #[.bool false]) w1)∨
  ∃i e,arr[i]?=some e∧i∉idx∧(Instr.next (.pointer (some ⟨k,0,none⟩)) false T).run P w=.ok (.tuple #[.bool true,e.key,e.val]) {w1 with heap:=w1.heap.setIfInBounds k (.mapIter (some m) clock (fh arr (idx++[i])) clock)}):=by
 have cI:∀{e:MapEntry},e∈arr→∃i:Nat,arr[i]?=some e:=fun he=>by
  obtain⟨i,hi,rfl⟩:=Array.mem_iff_getElem.1 he;exact⟨i,Array.getElem?_eq_getElem hi⟩
 have hold:∀(l:Array MapEntry),(∀e,e∈l→e.born<clock)→l.filter (fun x=>decide (x.born<clock))=l:=fun l h=>by
  rw[Array.filter_eq_self];intro e he;simpa using h e he
 have jQ:∀(l:Array MapEntry),(∀e,e∈l→e.born<clock)→l.filter (fun x=>decide (x.born≥clock))=#[]:=fun l h=>by
  rw[Array.filter_eq_empty_iff];intro e he;have:=h e he;simp;omega
 have W8:∀e,e∈arr→e.born<clock:=fun e he=>by obtain⟨i,hi⟩:=cI he;exact hb.1 i e hi
 have gA:(!(fh arr idx).isEmpty&& !arr.isEmpty&&arr.all (fun x=>decide (x.born≥clock)))=false:=by
  cases ha:arr.isEmpty
  ·have aC:arr.size≠0:=by simpa using ha
   have:arr.all (fun x=>decide (x.born≥clock))=false:=by
        rw[Bool.eq_false_iff];intro h;rw[Array.all_eq_true] at h;have h0:=h 0 (by omega);have h1:=W8 arr[0] (Array.getElem_mem _);simp at h0;omega
   rw[this,Bool.and_false]
  ·simp
 let left:=arr.filter fun e=> !(fh arr idx).contains e.born
 have hl:∀e,e∈left→e.born<clock:=fun e he=>W8 e (Array.mem_filter.1 he).1;by_cases hz:left.size=0
 ·refine⟨w,.inl rfl,.inl ⟨fun i ah=>?_,?_⟩⟩
  ·by_cases bx:i∈idx
   ·exact bx
   ·exfalso;have GD:arr[i]∈left:=Array.mem_filter.2 ⟨Array.getElem_mem _,by
     have:=Zd hb hi (Array.getElem?_eq_getElem ah);cases hc:(fh arr idx).contains arr[i].born with
     |false=>rfl
     |true=>exact absurd (this.1 hc) bx⟩
    have:left=#[]:=Array.eq_empty_of_size_eq_zero hz;rw[this] at GD;simp at GD
  ·have he:left=#[]:=Array.eq_empty_of_size_eq_zero hz;have jP:arr.filter (fun e=> !(fh arr idx).contains e.born)=#[]:=he;simp only[Instr.next,getObj,Sem.run_bind,Sem.run,hk,hm,Result.andThen_ok,gA,jP];simp[Question.forced,Sem.run]
 ·have gj:left.filter (fun x=>decide (x.born<clock))=left:=hold left hl;have jm:left.filter (fun x=>decide (x.born≥clock))=#[]:=jQ left hl;have hem:left.isEmpty=false:=by simpa using hz
  have key:∀c,c<left.size→∃i e,arr[i]?=some e∧i∉idx∧left[c]?=some e:=fun c hc=>by
   have GD:left[c]∈left:=Array.getElem_mem _;obtain⟨h1,h2⟩:=Array.mem_filter.1 GD;obtain⟨i,dg⟩:=cI h1;refine⟨i,left[c],dg,fun bx=>?_,Array.getElem?_eq_getElem hc⟩;rw[(Zd hb hi dg).2 bx] at h2;cases h2
  obtain⟨w1,c,fI,hc,oQ⟩:∃w1 c,(w1=w∨w1=w.drew)∧c<left.size∧(choose (.mapNext left.size)).run P w=.ok c w1:=by
   by_cases h1:left.size≤1
   ·exact⟨w,0,.inl rfl,by omega,by simp[Question.forced,h1]⟩
   ·exact⟨w.drew,_,.inr rfl,Nat.mod_lt _ (by omega),by simp[Question.forced,h1,Question.cut];rfl⟩
  obtain⟨i,e,h1,h2,h3⟩:=key c hc;refine⟨w1,fI,.inr ⟨i,e,h1,h2,?_⟩⟩;have uz:arr.filter (fun e=> !(fh arr idx).contains e.born)=left:=rfl;have jr:(getObj k).run P w=.ok (.mapIter (some m) clock (fh arr idx) clock) w:=by simp[getObj,Sem.run,hk]
  have fD:(getObj m).run P w=.ok (.map arr clock) w:=by simp[getObj,Sem.run,hm]
  have cr:w1.heap[k]?=some (.mapIter (some m) clock (fh arr idx) clock):=by rcases fI with rfl|rfl<;>exact hk
  have Xm:(setObj k (.mapIter (some m) clock ((fh arr idx).push e.born) clock)).run P w1=.ok () {w1 with heap:=w1.heap.setIfInBounds k (.mapIter (some m) clock ((fh arr idx).push e.born) clock)}:=by simp[setObj,Sem.run,cr]
  have aqp:((if false=true then #[none] else #[])++Array.map some (left++#[]):Array (Option MapEntry))=left.map some:=by simp
  have gi:(left.map some)[c]?=some (some e):=by simp[h3]
  have Xo:∀(zo:Array (Option MapEntry)) (cc:Nat),(choose (.mapNext zo.size)).run P w=.ok cc w1→zo[cc]?=some (some e)→(do
        match zo[←choose (.mapNext zo.size)]? with
        |some (some e)=>
         setObj k (.mapIter (some m) clock ((fh arr idx).push e.born) clock)
         pure (.tuple #[.bool true,e.key,e.val])
        |some none=>(pure (.tuple #[.bool false]):Sem Value)
        |none=>stuck "Next: no such candidate" :Sem Value).run P w=.ok (.tuple #[.bool true,e.key,e.val]) {w1 with heap:=w1.heap.setIfInBounds k (.mapIter (some m) clock ((fh arr idx).push e.born) clock)}:=by
   intro zo cc h4 h5;rw[Sem.run_bind,h4];simp only[Result.andThen_ok,h5];rw[Sem.run_bind,Xm];rfl
  rw[aw3 arr idx h1] at Xo Xm;have:=Xo (left.map some) c (by rw[Array.size_map];exact oQ) gi;simp only[Instr.next];rw[Sem.run_bind,jr];simp only[Result.andThen_ok];rw[Sem.run_bind,fD];simp only[Result.andThen_ok,gA,uz,gj,jm,hem];rw[aqp,if_neg (by decide)];exact this
theorem amI {P:Program}{w:World}{k m:Nat}{arr:Array MapEntry}{clock:Nat}{idx:List Nat}{i:Nat}{e:MapEntry}(hk:w.heap[k]?=some (.mapIter (some m) clock (fh arr (idx++[i])) clock))(hm:w.heap[m]?=some (.map arr clock))(hb:kQ arr clock)(he:arr[i]?=some e):
 (Instr.entry (.pointer (some ⟨k,0,none⟩))).run P w=.ok (.tuple #[e.key,e.val]) w:=by
 have aqn:(fh arr (idx++[i])).back?=some e.born:=by simp[fh,he]
 have Be:arr.find? (fun x=>x.born==e.born)=some e:=by
  have ah:i<arr.size:=(Array.getElem?_eq_some_iff.1 he).1;have hei:arr[i]=e:=(Array.getElem?_eq_some_iff.1 he).2;rw[Array.find?_eq_some_iff_getElem];refine⟨by simp,i,ah,hei,fun j hj=>?_⟩;have dW:j<arr.size:=by omega
  cases hc:(arr[j].born==e.born) with
  |false=>rfl
  |true=>
   have:=hb.2 j i arr[j] e (Array.getElem?_eq_getElem dW) he (by simpa using hc);omega
 simp[Instr.entry,getObj,Sem.run_bind,Sem.run,hk,hm,aqn,Be]
theorem aup {x y z:Code}{k:Nat}{p:MP}(h:xz x y k z=some p):∃i1 i2 o1 o2 o3 l,x=.region i1 p.ops1 false∧y=.cond (.tmp p.mo) .skip (.exit p.out)∧z=.region i2 p.ops2 false∧p.next=k∧p.ops1.toList=[o1,o2]∧p.ops2.toList=o3::l∧
 o1.dst=some p.nx∧o1.guard=none∧o1.op=.next (.tmp p.it) false∧o2.dst=some p.mo∧o2.guard=none∧o2.op=.extract (.tmp p.nx) 0∧o3.dst=some p.pr∧o3.guard=none∧o3.op=.entry (.tmp p.it)∧jB p.pr l []=some p.aa∧
 p.it≠p.nx∧p.it≠p.mo∧p.it≠p.pr∧p.nx≠p.mo∧p.out≠cn∧k≠cn:=by
 unfold xz at h;split at h
 case h_2=>cases h
 rename_i i1 ops1 mo out i2 ops2;split at h
 case h_2=>cases h
 rename_i o1 o2 o3 l e1 e2;split at h
 case h_2=>cases h
 rename_i nx it mo' nx' pr Yt d1 g1 q1 d2 g2 q2 d3 g3 q3;rw[Bool.cond_eq_ite] at h;split at h
 case isFalse=>cases h
 rename_i hc;simp only[Option.map_eq_some_iff] at h;obtain⟨aa,h4,rfl⟩:=h;simp only[Bool.and_eq_true,Bool.not_eq_true'] at hc;obtain⟨⟨⟨⟨⟨⟨⟨⟨c1,c2⟩,c3⟩,c4⟩,c5⟩,c6⟩,c7⟩,c8⟩,c9⟩:=hc;have ne:∀{a b:Nat},Nat.beq a b=false→a≠b:=fun h e=>by subst e;simp at h
 obtain rfl:=Nat.eq_of_beq_eq_true c1;obtain rfl:=Nat.eq_of_beq_eq_true c2;obtain rfl:=Nat.eq_of_beq_eq_true c3;exact⟨i1,i2,o1,o2,o3,l,rfl,rfl,rfl,rfl,e1,e2,d1,g1,q1,d2,g2,q2,d3,g3,q3,h4,ne c4,ne c5,ne c6,ne c7,ne c8,ne c9⟩
theorem HJ {pr:Nat}:∀(l:List Oper) {acc aa:List (Nat×Nat)},jB pr l acc=some aa→∀x,x∈acc→x∈aa
 |[],acc,aa,h,x,hx=>by simp only[jB,Option.some.injEq] at h;subst h;exact hx
 |o::l,acc,aa,h,x,hx=>by
  simp only[jB] at h;split at h
  case h_2=>cases h
  rw[Bool.cond_eq_ite] at h;split at h
  ·cases h
  split at h
  ·rw[Bool.cond_eq_ite] at h;split at h
   ·exact HJ l h x (List.mem_append_left _ hx)
   ·cases h
  ·simp only[Option.bind_eq_some_iff] at h;obtain⟨i,_,h⟩:=h;exact HJ l h x (List.mem_append_left _ hx)
  ·simp only[Option.bind_eq_some_iff] at h;obtain⟨i,_,h⟩:=h;exact HJ l h x (List.mem_append_left _ hx)
  ·cases h
theorem B3:∀{l:List (Nat×Nat)} {t i:Nat},sf l t=some i→(t,i)∈l
 |x::l,t,i,h=>by
  simp only[sf] at h;cases hb:Nat.beq x.1 t<;>simp only[hb,cond_true,cond_false] at h
  ·exact List.mem_cons_of_mem _ (B3 h)
  ·cases h;have:=Nat.eq_of_beq_eq_true hb;subst this;exact List.mem_cons_self ..
theorem YV:∀{l:List (Nat×Nat)} {t:Nat},(sf l t).isSome=false→∀x,x∈l→x.1≠t
 |y::l,t,h,x,hx=>by
  simp only[sf] at h;cases hb:Nat.beq y.1 t<;>simp only[hb,cond_true,cond_false] at h
  ·rcases List.mem_cons.1 hx with e|hx
   ·subst e;intro e;subst e;simp at hb
   ·exact YV h x hx
  ·cases h
theorem QC {pr:Nat}:∀(l:List Oper) {acc aa:List (Nat×Nat)},jB pr l acc=some aa→(∀x,x∈acc→x.2≤1)→∀x,x∈aa→x∈acc∨(x.2≤1∧∃o,o∈l∧o.dst=some x.1)
 |[],acc,aa,h,_,x,hx=>by simp only[jB,Option.some.injEq] at h;subst h;exact .inl hx
 |o::l,acc,aa,h,ha,x,hx=>by
  simp only[jB] at h;split at h
  case h_2=>cases h
  rename_i d hd iI;rw[Bool.cond_eq_ite] at h;split at h
  ·cases h
  have go:∀(pt:Nat),pt≤1→jB pr l (acc++[(d,pt)])=some aa→x∈acc∨(x.2≤1∧∃o',o'∈o::l∧o'.dst=some x.1):=by
   intro pt rK hp
   rcases QC l hp (fun y hy=>by
        rcases List.mem_append.1 hy with h|h
        ·exact ha y h
        ·simp at h;subst h;exact rK) x hx with h|⟨h1,o',h2,h3⟩
   ·rcases List.mem_append.1 h with h|h
    ·exact .inl h
    ·simp at h;subst h;exact .inr ⟨rK,o,List.mem_cons_self ..,hd⟩
   ·exact .inr ⟨h1,o',List.mem_cons_of_mem _ h2,h3⟩
  split at h
  ·rw[Bool.cond_eq_ite] at h;split at h
   case isFalse=>cases h
   rename_i gi;simp only[Bool.and_eq_true] at gi;exact go _ (Nat.le_of_ble_eq_true gi.2) h
  ·simp only[Option.bind_eq_some_iff] at h;obtain⟨i,hi,h⟩:=h;exact go i (ha _ (B3 hi)) h
  ·simp only[Option.bind_eq_some_iff] at h;obtain⟨i,hi,h⟩:=h;exact go i (ha _ (B3 hi)) h
  ·cases h
theorem xZ {P:Program}{ops:Array Oper}{i:Nat}{rest:List Nat}{o:Oper}{rd:Option Nat}{a:Act}{w w':World}{Q:Exit→Act→World→Prop}{v:Value}(ho:ops[i]?=some o)(hg:o.guard=none)(bp:qA o.op=true)(hx:(execOp a.eval o).run P w=.ok (.value v) w')
 (k:wpOpsIn (FR rd) 0 P ops Q rest (a.put o.dst v) w'):wpOpsIn (FR rd) 0 P ops Q (i::rest) a w:=by
 simp only[wpOpsIn,ho];rw[if_pos (by simp[Region.wanted,hg])];exact ada bp (by unfold Oper.wp;rw[hx];exact k)
theorem awY {ops:Array Oper}{o:Oper}(ho:o∈ops.toList)(a:Act)(v:Value):SameBut (oF ops) a (a.put o.dst v):=by
 have:=SameBut.put a o.dst v a.defers;exact this.mono fun t e=>⟨o,ho,e⟩
theorem yd {a:Act}{d:Nat}{v:Value}(h:d<a.tmps.size):(a.put (some d) v).tmps.getD d undef=v:=by rw[DB];simp[h]
theorem J9 {a:Act}{d t:Nat}{v:Value}(h:t≠d):(a.put (some d) v).tmps.getD t undef=a.tmps.getD t undef:=by rw[DB];simp[h]
theorem put_defers (a:Act)(d:Option Nat)(v:Value):(a.put d v).defers=a.defers:=by cases d<;>rfl
def Cm (kv vv:Value)(i:Nat):Value:=if i=0 then kv else vv
theorem adl {P:Program}{ops:Array Oper}{rd:Option Nat}{Q:Exit→Act→World→Prop}{pr:Nat}{kv vv:Value}{w:World}:∀(l:List Oper) (acc aa:List (Nat×Nat)) (i:Nat) (a:Act),jB pr l acc=some aa→ops.toList.drop i=l→(∀x,x∈aa→x.1<a.tmps.size)→a.tmps.getD pr undef=.tuple #[kv,vv]→
 (∀x,x∈acc→a.tmps.getD x.1 undef=Cm kv vv x.2)→(∀a',SameBut (oF ops) a a'→a'.defers=a.defers→(∀x,x∈aa→a'.tmps.getD x.1 undef=Cm kv vv x.2)→Q .normal a' w)→wpOpsIn (FR rd) 0 P ops Q (List.range' i (ops.size-i)) a w
 |[],acc,aa,i,a,h,hl,ah,nG,A3,hQ=>by
  simp only[jB,Option.some.injEq] at h;subst h;have:ops.size-i=0:=by
    have:=List.drop_eq_nil_iff.1 hl;simp at this;omega
  rw[this];exact hQ a (.refl _ _) rfl A3
 |o::l,acc,aa,i,a,h,hl,ah,nG,A3,hQ=>by
  have hi:i<ops.toList.length:=by
   refine Nat.lt_of_not_le fun hle=>?_;rw[List.drop_eq_nil_iff.2 hle] at hl;cases hl
  rw[List.drop_eq_getElem_cons hi] at hl;have ho:ops[i]?=some o:=by
   have:ops.toList[i]=o:=by injection hl
   rw[←this];simp at hi ⊢
  have wZ:ops.toList.drop (i+1)=l:=by injection hl
  have aK:ops.size-i=(ops.size-(i+1))+1:=by simp at hi;omega
  rw[aK,List.range'_succ];have cI:o∈ops.toList:=by simpa using Array.mem_of_getElem? ho
  simp only[jB] at h;split at h
  case h_2=>cases h
  rename_i d hd iI;rw[Bool.cond_eq_ite] at h;split at h
  ·cases h
  rename_i hc;simp only[Bool.or_eq_true,not_or,Bool.not_eq_true] at hc;have hdp:pr≠d:=fun e=>by subst e;simp at hc
  have hda:∀x,x∈acc→x.1≠d:=YV hc.2;have go:∀(pt:Nat) (v:Value),jB pr l (acc++[(d,pt)])=some aa→qA o.op=true→v=Cm kv vv pt→(execOp a.eval o).run P w=.ok (.value v) w→wpOpsIn (FR rd) 0 P ops Q (i::List.range' (i+1) (ops.size-(i+1))) a w:=by
   intro pt v hp bp hv hx;have NT:d<a.tmps.size:=ah _ (HJ l hp (d,pt) (by simp));refine xZ ho iI bp hx ?_;have iN:=awY cI a v;rw[hd] at iN ⊢;refine adl l _ aa (i+1) _ hp wZ (fun x hx=>by rw[iN.size];exact ah x hx) (by rw[J9 hdp];exact nG) (fun x hx=>?_) (fun a' h1 h2 h3=>hQ a' (iN.trans h1) (h2.trans (put_defers _ _ _)) h3);rcases List.mem_append.1 hx with hx|hx
   ·rw[J9 (hda x hx)];exact A3 x hx
   ·simp at hx;subst hx;rw[yd NT];exact hv
  split at h
  ·rename_i t pt e;rw[Bool.cond_eq_ite] at h;split at h
   case isFalse=>cases h
   rename_i gi;simp only[Bool.and_eq_true] at gi;have ht:=Nat.eq_of_beq_eq_true gi.1;have rK:=Nat.le_of_ble_eq_true gi.2;subst ht;have bA:a.eval (.tmp t)=.tuple #[kv,vv]:=by simpa [Act.eval] using nG
   refine go pt (Cm kv vv pt) h (by rw[e];rfl) rfl ?_;rcases(by omega:pt=0∨pt=1) with rfl|rfl<;>simp[execOp,e,bA,Instr.extract,Cm]
  ·rename_i t e;simp only[Option.bind_eq_some_iff] at h;obtain⟨pt,uz,h⟩:=h;have:=A3 _ (B3 uz);exact go pt (a.eval (.tmp t)) h (by rw[e];rfl) (by simpa [Act.eval] using this) (by simp[execOp,e])
  ·rename_i t e;simp only[Option.bind_eq_some_iff] at h;obtain⟨pt,uz,h⟩:=h;have:=A3 _ (B3 uz);exact go pt (a.eval (.tmp t)) h (by rw[e];rfl) (by simpa [Act.eval] using this) (by simp[execOp,e])
  ·cases h
theorem Pe (ids:List Nat)(J j:Nat)(S:Snap):((S.kill ids J).st ids).o j=if j=J then .dead else(S.st ids).o j:=by
 show cS ids (uW ids J S.os) j=_;have:∀(is:List Nat) (os:List Ob),cS is (uW is J os) j=if j=J then .dead else cS is os j:=by
  intro is
  induction is with
  |nil=>intro os;simp[uW,cS]
  |cons i is ih=>
   intro os;cases os with
   |nil=>simp[uW,cS]
   |cons o os=>
    simp only[uW,cS];cases hb:Nat.beq i j
    ·simp only[cond_false];exact ih os
    ·have:=Nat.eq_of_beq_eq_true hb;subst this;simp only[cond_true];by_cases cN:i=J
     ·subst cN;simp
     ·simp[dU cN,cN]
 exact this ids S.os
theorem Vz {N:Nat}{id:Nat}(Gv:id≠cn){rm:Bool}{wr:Nat→Prop}{a:Act}{q:Res2}{x xi:Out}(oS:(∀t,t∈q.pc.modR→ar q.mr t=true)∧∀j,j∈q.pc.modO→j∈q.mo)(dj:q.pc.ev Φ N ρ=some xi)(bA:(fl ids id q).pc.ev Φ N ρ=some x){e:Exit}{a':Act}{w':World}
 (fp:fC C w0 σ0 ids fn s rm wr a q.out q.ex xi e a' w'):Exit.inBlock id (fC C w0 σ0 ids fn s rm wr a (fl ids id q).out (fl ids id q).ex x) e a' w':=by
 have Xj:∀bC S1,(bC,S1)∈q.ex→bC≠id→(bC,S1)∈q.ex.filter fun x=> !Nat.beq x.1 id:=fun bC S1 hm aC=>List.mem_filter.2 ⟨hm,by simp[dU aC]⟩;have main:∀(o:Option Snap) (lr lo:List Nat),mI id q.ex q.out=o→(∀M,o=some M→lr=iS M q.mr∧lo=gI ids M q.mo)→(PC.block id lr lo q.pc).ev Φ N ρ=some x→
        Exit.inBlock id (fC C w0 σ0 ids fn s rm wr a o (q.ex.filter fun x=> !Nat.beq x.1 id) x) e a' w':=by
  intro o lr lo ho hl bA;simp only[PC.ev] at bA;rw[dj] at bA
  have fin:∀{ρ1:Env} {a':Act} {w':World},(∃M,o=some M∧Good C w0 σ0 (M.st ids) ρ1 (fun _=>False) a' w')→xi.env?=some ρ1→x=.next (ρ.join lr lo ρ1)→SameBut wr a a'→
   fC C w0 σ0 ids fn s rm wr a o (q.ex.filter fun x=> !Nat.beq x.1 id) x .normal a' w':=by
        intro ρ1 a' w' hM uo hx dw;obtain⟨M,hM,ql⟩:=hM;obtain⟨l1,l2⟩:=hl M hM;subst l1 l2;exact⟨_,M,hx,hM,dw,ql.joined (PC.ev_but q.pc ρ _ ρ1 dj uo) oS.1 oS.2⟩
  cases e with
  |normal=>
   obtain⟨ρ1,S2,e1,e2,dw,fD⟩:=fp;subst e1;simp only[Option.some.injEq] at bA;refine fin ?_ rfl bA.symm dw;rw[e2] at ho;obtain⟨M,h1,h2⟩:=Hh (id:=id) q.ex fD;rw[ho] at h1;exact⟨M,h1,h2⟩
  |exit bC=>
   obtain⟨ρ1,S2,e1,e0,e2,dw,fD⟩:=fp;subst e1;simp only at bA;show if bC=id then _ else _;by_cases cf:bC=id
   ·subst cf;simp only[Nat.beq_refl,cond_true,Option.some.injEq] at bA;simp only[if_true];refine fin ?_ rfl bA.symm dw;rw[←ho];exact Py fD q.ex q.out e2
   ·simp only[dU cf,cond_false,Option.some.injEq] at bA;subst bA;simp only[cf,if_false];exact⟨ρ1,S2,rfl,e0,Xj _ _ e2 cf,dw,fD⟩
  |ret=>
   cases rm with
   |false=>
    have hy:=fp;obtain⟨d,e1,_⟩:=hy;subst e1;simp only[Option.some.injEq] at bA;subst bA;exact fp
   |true=>
    obtain⟨ρ1,S2,e1,e2,dw,fD⟩:=fp;subst e1;simp only[dU (fun e=>Gv e.symm:cn≠id),cond_false,Option.some.injEq] at bA;subst bA;exact⟨ρ1,S2,rfl,Xj _ _ e2 (fun e=>Gv e.symm),dw,fD⟩
  |_=>exact fp.elim
 unfold fl at bA ⊢;cases hm:mI id q.ex q.out with
 |none=>
  simp only[hm] at bA ⊢;exact main none [] [] hm (fun M e=>by cases e) bA
 |some M=>
  simp only[hm] at bA ⊢;exact main (some M) _ _ hm (fun M' e=>by cases e;exact⟨rfl,rfl⟩) bA
theorem Vx {N id:Nat}{q:Res2}{x:Out}(bA:(fl ids id q).pc.ev Φ N ρ=some x):∃xi,q.pc.ev Φ N ρ=some xi:=by
 unfold fl at bA;cases hm:mI id q.ex q.out<;>simp only[hm,PC.ev] at bA<;>cases dj:q.pc.ev Φ N ρ<;>first|exact⟨_,rfl⟩|(rw[dj] at bA;cases bA)
theorem aeP {es:List (D×D)}{idx:List Nat}(hn:idx.Nodup)(ah:∀i,i∈idx→i<es.length)(aQ:∀i,i<es.length→i∈idx):(fy es idx).Perm (fY (.map es)):=by
 have h1:idx.Perm (List.range es.length):=by
  rw[List.perm_ext_iff_of_nodup hn List.nodup_range];intro i;rw[List.mem_range];exact⟨ah i,aQ i⟩
 have h2:fy es (List.range es.length)=fY (.map es):=by
  refine List.ext_getElem (by simp[fy,fY,D.m]) fun i g1 g2=>?_;have hi:i<es.length:=by simpa [fy] using g1
  simp[fy,fY,D.m,List.getElem?_eq_getElem hi]
 rw[←h2];exact h1.map _
theorem aw4 {es:List (D×D)}{idx:List Nat}(hn:idx.Nodup)(ah:∀i,i∈idx→i<es.length):∃rest,(fy es idx++rest).Perm (fY (.map es)):=by
 refine⟨fy es ((List.range es.length).filter fun i=> !idx.contains i),?_⟩;have e:fy es idx++fy es ((List.range es.length).filter fun i=> !idx.contains i)=fy es (idx++(List.range es.length).filter fun i=> !idx.contains i):=by simp[fy]
 rw[e];refine aeP ?_ (fun i hi=>?_) (fun i hi=>?_)
 ·rw[List.nodup_append];refine⟨hn,List.nodup_range.filter _,fun a ha b hb e=>?_⟩;subst e;have:=(List.mem_filter.1 hb).2;simp[ha] at this
 ·rcases List.mem_append.1 hi with h|h
  ·exact ah i h
  ·exact List.mem_range.1 (List.mem_filter.1 h).1
 ·by_cases h:i∈idx
  ·exact List.mem_append_left _ h
  ·exact List.mem_append_right _ (List.mem_filter.2 ⟨List.mem_range.2 hi,by simp[h]⟩)
theorem aeQ (es:List (D×D))(idx:List Nat){i:Nat}{p:D×D}(h:es[i]?=some p):fy es (idx++[i])=fy es idx++[.tup [p.1,p.2]]:=by simp[fy,h]
theorem aur {N:Nat}{x y z code:Code}{k:Nat}{p:MP}(hp:xz x y k z=some p)(ihc:tF C Φ fn s n ids R N code){rm:Bool}{S:Snap}{r:Res2}
 (hr:xA ids n p (bW x++(bW y++(bW z++bW code))) (fun S=>comp C fn s n ids R rm code S) S=some r) {rd:Option Nat} {wr:Nat→Prop} {x0:Out} (fq:rm=false→rd=none∧σ0.fin) (hC:CtxOK C σ0) (hY:m8 C Φ w0 σ0)
 (fU:∀t,t∈bW (.loop (.seq x (.seq y (.block k (.seq z code)))))→wr t) (hn:a.tmps.size=n) (hg:Good C w0 σ0 (S.st ids) ρ (fun _=>False) a w) (he:r.pc.ev Φ N ρ=some x0):
 (Code.loop (.seq x (.seq y (.block k (.seq z code))))).wpIn (FR rd) 0 C.P (fC C w0 σ0 ids fn s rm wr a r.out r.ex x0) a w:=by
 obtain⟨i1,i2,o1,o2,o3,l,rfl,rfl,rfl,hk,e1,e2,d1,g1,q1,d2,g2,q2,d3,g3,q3,lH,n1,n2,n3,n4,n5,n6⟩:=aup hp;subst hk;unfold xA at hr;split at hr
 case h_2=>cases hr;exact absurd he (kK _ _ _ _)
 rename_i J hJ;split at hr
 case h_2=>cases hr;exact absurd he (kK _ _ _ _)
 rename_i kt et GA;simp only at hr;split at hr
 case h_2=>cases hr;exact absurd he (kK _ _ _ _)
 rename_i q hq;rw[Bool.cond_eq_ite] at hr;split at hr
 case isFalse=>cases hr;exact absurd he (kK _ _ _ _)
 rename_i uh;cases hr;generalize G2:bW (.region i1 p.ops1 false)++(bW (.cond (.tmp p.mo) .skip (.exit p.out))++(bW (.region i2 p.ops2 false)++bW code))=ws at*;simp only[Bool.and_eq_true,Bool.not_eq_true'] at uh;obtain⟨⟨⟨⟨⟨⟨⟨⟨c1,c2⟩,c3⟩,c4⟩,c5⟩,c6⟩,c7⟩,c8⟩,c9⟩:=uh;have hex:q.2.ex=[]:=List.isEmpty_iff.1 c1;have WU:J∉q.2.mo:=fun h=>by rw[(nM _ _).2 h] at c2;cases c2
 simp only[Yq,Bool.and_eq_true,Bool.not_eq_true'] at c3;obtain⟨⟨c3a,c3b⟩,c3c⟩:=c3;have ar5:q.1.rs.getD p.it .none=.obj J 0:=Sh.beq_eq _ _ c3a;have GK:cS ids q.1.os J=.it kt et:=Ob.beq_eq _ _ c3b;have arW:∀t,t∈p.aa.map (·.1)→t<n:=fun t ht=>by have:=List.all_eq_true.1 c5 t ht;rwa [Nat.blt_eq] at this
 have Ok:p.nx<n:=by rwa [Nat.blt_eq] at c6
 have Od:p.mo<n:=by rwa [Nat.blt_eq] at c7
 have nG:p.pr<n:=by rwa [Nat.blt_eq] at c8
 have Bt:=Nat.eq_of_beq_eq_true c9;obtain⟨hs,wU,bx⟩:=BY (C:=C) (w0:=w0) (σ0:=σ0) (ids:=ids) 8 hq;simp only[Option.map_eq_some_iff] at hs;obtain⟨q0,nH,dX⟩:=hs;obtain⟨qS,qR⟩:=q;simp only at*;subst dX;generalize hm:vc ws=m at*;generalize km:gI ids qS (fl ids p.next q0).mo=lo at*;have Of:=Vy (ids:=ids) (id:=p.next) (q6 code nH);have ark:∀j,j∈lo→j∈(fl ids p.next q0).mo:=fun j hj=>by rw[←km] at hj;exact xC hj
 have aE2:J∉lo:=fun h=>WU (ark J h);have BF:∃yQ,J3 ((fl ids p.next q0).pc.ev Φ N) ρ J (p.aa.map (·.1)) (p.aa.map (·.2)) lo yQ∧x0=.exit p.out (ρ.put [] [] lo yQ):=by
  simp only[PC.ev] at he;cases nG:J4 ((fl ids p.next q0).pc.ev Φ N) ρ J (p.aa.map (·.1)) (p.aa.map (·.2)) lo with
  |none=>rw[nG] at he;cases he
  |some y=>
   obtain⟨yQ,h1,rfl⟩:=ya.1 nG;rw[nG] at he;simp only[Option.some.injEq] at he;exact⟨yQ,h1,he.symm⟩
 obtain⟨yQ,⟨BB,aqd⟩,G3⟩:=BF;generalize gC:(ρ.o J).tget 1=es at*
 have fI:∀o,o∈p.ops1.toList→∀d,o.dst=some d→d∈ws:=fun o ho d hd=>by
  rw[←G2];exact List.mem_append_left _ (List.mem_filterMap.2 ⟨o,ho,hd⟩)
 have dY:∀o,o∈p.ops2.toList→∀d,o.dst=some d→d∈ws:=fun o ho d hd=>by
  rw[←G2];exact List.mem_append_right _ (List.mem_append_right _ (List.mem_append_left _ (List.mem_filterMap.2 ⟨o,ho,hd⟩)))
 have hwc:∀d,d∈bW code→d∈ws:=fun d hd=>by
  rw[←G2];exact List.mem_append_right _ (List.mem_append_right _ (List.mem_append_right _ hd))
 have O3:∀t,t∈ws→wr t:=fun t ht=>fU t (by rw[←G2] at ht;exact ht);have qs:∀t,t∈ws→ar m t=true:=fun t ht=>by rw[←hm];exact Vv ht
 have Oc:∀t,ar m t=true→((qS.mask m).st ids).r t=.none:=fun t ht=>by rw[B6,if_pos ht]
 have ars:∀t,isNone (((qS.mask m).st ids).r t)=false→ar m t=false:=fun t ht=>by
  cases hb:ar m t with
  |false=>rfl
  |true=>rw[Oc t hb] at ht;cases ht
 have jv:((qS.mask m).st ids).r p.it=.obj J 0:=by
  rw[B6,c3c];show bX (qS.rs.getD p.it .none)=_;rw[ar5];rfl
 have ct:((qS.mask m).st ids).o J=.it kt et:=GK;have gZ:p.ops1[0]?=some o1:=by rw[←Array.getElem?_toList,e1];rfl
 have iK:p.ops1[1]?=some o2:=by rw[←Array.getElem?_toList,e1];rfl
 have ho3:p.ops2[0]?=some o3:=by rw[←Array.getElem?_toList,e2];rfl
 have aso:List.range p.ops1.size=[0,1]:=by
  have:p.ops1.size=2:=by rw[←Array.length_toList,e1];rfl
  rw[this];rfl
 have GY:List.range p.ops2.size=0::List.range' 1 (p.ops2.size-1):=by
  have:p.ops2.size=l.length+1:=by rw[←Array.length_toList,e2];rfl
  rw[this,List.range_eq_range',List.range'_succ];rfl
 have key:∀(kk:Nat) (done vo:List D) (a':Act) (w':World),SameBut wr a a'→Good C w0 σ0 ((qS.mask m).st ids) ((ρ.put [] [] lo vo).setO J (.tup [.list done,es])) (fun _=>False) a' w'→
  (∀ys,(done++ys).Perm (fY es)→mM ((fl ids p.next q0).pc.ev Φ N) ρ J es (p.aa.map (·.1)) (p.aa.map (·.2)) lo ys done vo=some yQ)→done.length+kk=(fY es).length+1→
  Code.roundsIn (FR rd) 0 C.P (.seq (.region i1 p.ops1 false) (.seq (.cond (.tmp p.mo) .skip (.exit p.out)) (.block p.next (.seq (.region i2 p.ops2 false) code)))) (fC C w0 σ0 ids fn s rm wr a none [(p.out,(qS.mask m).kill ids J)] x0) kk a' w':=by
  intro kk
  induction kk with
  |zero=>
   intro done vo a' w' _ eO _ hlen;exfalso;obtain⟨σ,own,hv,h⟩:=eO;have aZ:=h.objs J;rw[ct] at aZ;obtain⟨kb,mb,arr,clock,fm,idx,h1,h2,h3,aC,h4,h5,h6,h7,h8,h9,gh,qj⟩:=aZ;simp only[Env.setO,aP] at h6;injection h6 with h6;injection h6 with tZ ua;injection ua with ua _;injection tZ with tZ;subst tZ;subst ua;have hle:idx.length≤arr.size:=by
        have:=List.Nodup.length_le_of_subset h7 (l₂:=List.range arr.size) (fun i hi=>List.mem_range.2 (h8 i hi));simpa using this
   simp[fy,fY,D.m] at hlen;omega
  |succ kk ih=>
   intro done vo a' w' iN eO aQ hlen;rw[roundsIn_succ];obtain⟨σ,own,hv,h⟩:=eO;have aZ:=h.objs J;rw[ct] at aZ;obtain⟨kb,mb,arr,clock,fm,idx,h1,h2,h3,aC,h4,h5,h6,h7,h8,h9,gh,qj⟩:=aZ;simp only[Env.setO,aP] at h6;injection h6 with h6;injection h6 with tZ ua;injection ua with ua _;injection tZ with tZ;subst tZ;subst ua;have hZ:=h.regs p.it;rw[jv] at hZ;have Gx:a'.eval (.tmp p.it)=.pointer (some ⟨kb,0,none⟩):=by
        have:=hZ.2 rfl;simp only[Act.eval];rw[this];exact h1
   have pf:a'.tmps.size=n:=iN.size.trans hn;obtain⟨w1,Yb,GH⟩:=auL (P:=C.P) h5 h4 gh h8 o1.type;have BR:Below w'.heap.size w' w1:=by rcases Yb with rfl|rfl;exact .refl _ _;exact⟨rfl,rfl,rfl,Nat.le_refl _,fun _ _=>rfl⟩
   have xj:w1.heap=w'.heap:=by rcases Yb with rfl|rfl<;>rfl
   have Xz:kb<w'.heap.size:=(h.owns kb J h2).2.1;have qp:mb<w'.heap.size:=(h.owns mb J h3).2.1;refine wpIn_seq (wpIn_region ?_);rw[aso];rcases GH with⟨N0,aj⟩|⟨i,e,mw,uv,aj⟩
   ·
        refine xZ gZ g1 (by rw[q1];rfl) (v:=.tuple #[.bool false]) (w':=w1) (by simp only[execOp,q1,Gx];simp[aj]) ?_;rw[d1]
        refine xZ iK g2 (by rw[q2];rfl) (v:=.bool false) (w':=w1) (by
         have:(a'.put (some p.nx) (.tuple #[.bool false])).eval (.tmp p.nx)=.tuple #[.bool false]:=by simp only[Act.eval];exact yd (by omega)
         simp only[execOp,q2,this];simp[Instr.extract]) ?_
        rw[d2];simp only[wpOpsIn]
        have uJ:SameBut (fun t=>t∈ws) a' ((a'.put (some p.nx) (.tuple #[.bool false])).put (some p.mo) (.bool false)):=by
         have s1:=SameBut.put a' (some p.nx) (.tuple #[.bool false]) a'.defers;have s2:=SameBut.put (a'.put (some p.nx) (.tuple #[.bool false])) (some p.mo) (.bool false) (a'.put (some p.nx) (.tuple #[.bool false])).defers;exact(s1.mono fun t e=>by cases e;exact fI o1 (by rw[e1];simp) _ d1).trans (s2.mono fun t e=>by cases e;exact fI o2 (by rw[e1];simp) _ d2)
        generalize uc:(a'.put (some p.nx) (.tuple #[.bool false])).put (some p.mo) (.bool false)=a1 at uJ;have Oe:a1.eval (.tmp p.mo)=.bool false:=by
         rw[←uc];simp only[Act.eval];exact yd (by rw[size_put];omega)
        have mq:a1.defers=a'.defers:=by rw[←uc,put_defers,put_defers]
        refine wpIn_seq (wpIn_cond_false Oe (wpIn_exit ?_));have arS:(fy fm idx++[]).Perm (fY (.map fm)):=by
         rw[List.append_nil];exact aeP h7 (fun i hi=>by rw[h9];exact h8 i hi) (fun i hi=>N0 i (by omega))
        have Ya:=aQ [] arS;simp only[mM,Option.some.injEq] at Ya;subst Ya;refine⟨_,_,G3,n5,List.mem_singleton.2 rfl,iN.trans (uJ.mono O3),?_⟩;refine⟨σ,own,hv,?_⟩
        refine h.step (S':=((qS.mask m).kill ids J).st ids) (ρ':=ρ.put [] [] lo vo) (A':=fun _=>False) (fun j=>j=J) mq (.refl σ) (h.ok.below BR) (fun _ _ _ hx=>.inl hx) (fun _ _ hx=>.inl hx) (BR.mono h.below.size) ⟨fun _=>Nat.le_refl _,fun _ _=>rfl⟩
         (fun j hj=>⟨by rw[Pe,if_neg hj],by simp[Env.setO,bf _ _ hj],rfl,fun b hb=>⟨hb,by rw[xj]⟩⟩) (fun j hj=>?_) (fun b j hb=>?_) (fun _=>id) (fun t=>?_) (fun _ hf=>hf.elim) (fun b hb _=>by rw[xj]) (fun b j hb=>.inl ⟨j,hb⟩) (fun j hj=>?_)
        ·rw[Pe,if_pos hj];trivial
        ·obtain⟨b1,b2,b3,b4⟩:=h.owns b j hb;exact⟨b1,by rw[xj];exact b2,b3,b4⟩
        ·by_cases ht:t∈ws
         ·refine .inr ⟨?_,fun gs s' e=>absurd e (Snap.noOpt _ _ t gs s')⟩;have:(((qS.mask m).kill ids J).st ids).r t=.none:=Oc t (qs t ht);rw[this];trivial
         ·exact .inl ⟨rfl,uJ.get t ht,rfl⟩
        ·rw[Pe,if_pos hj];intro e;cases e
   ·
        obtain⟨pd,Oy⟩:∃pd,fm[i]?=some pd:=⟨_,List.getElem?_eq_getElem (by rw[h9];exact(Array.getElem?_eq_some_iff.1 mw).1)⟩
        obtain⟨cr,cl⟩:=qj i e pd mw Oy;generalize xk:({w1 with heap:=w1.heap.setIfInBounds kb (.mapIter (some mb) clock (fh arr (idx++[i])) clock)}:World)=w2 at aj;have Yc:w2.heap[kb]?=some (.mapIter (some mb) clock (fh arr (idx++[i])) clock):=by rw[←xk];simp[xj,Xz]
        have xl:∀b,b≠kb→w2.heap[b]?=w'.heap[b]?:=fun b hb=>by rw[←xk];simp only[xj];rw[Array.getElem?_setIfInBounds_ne (Ne.symm hb)]
        have aFN:w2.heap.size=w'.heap.size:=by rw[←xk];simp[xj]
        have Yd:w2.heap[mb]?=some (.map arr clock):=by rw[xl mb (Ne.symm aC)];exact h4
        refine xZ gZ g1 (by rw[q1];rfl) (v:=.tuple #[.bool true,e.key,e.val]) (w':=w2) (by simp only[execOp,q1,Gx];simp[aj]) ?_;rw[d1]
        refine xZ iK g2 (by rw[q2];rfl) (v:=.bool true) (w':=w2) (by
         have:(a'.put (some p.nx) (.tuple #[.bool true,e.key,e.val])).eval (.tmp p.nx)=.tuple #[.bool true,e.key,e.val]:=by simp only[Act.eval];exact yd (by omega)
         simp only[execOp,q2,this];simp[Instr.extract]) ?_
        rw[d2];simp only[wpOpsIn]
        have uJ:SameBut (fun t=>t∈ws) a' ((a'.put (some p.nx) (.tuple #[.bool true,e.key,e.val])).put (some p.mo) (.bool true)):=by
         have s1:=SameBut.put a' (some p.nx) (.tuple #[.bool true,e.key,e.val]) a'.defers;have s2:=SameBut.put (a'.put (some p.nx) (.tuple #[.bool true,e.key,e.val])) (some p.mo) (.bool true) (a'.put (some p.nx) (.tuple #[.bool true,e.key,e.val])).defers;exact(s1.mono fun t e=>by cases e;exact fI o1 (by rw[e1];simp) _ d1).trans (s2.mono fun t e=>by cases e;exact fI o2 (by rw[e1];simp) _ d2)
        have Xy:(((a'.put (some p.nx) (.tuple #[.bool true,e.key,e.val])).put (some p.mo) (.bool true))).eval (.tmp p.it)=.pointer (some ⟨kb,0,none⟩):=by
         simp only[Act.eval] at Gx ⊢;rw[J9 n2,J9 n1];exact Gx
        generalize uc:(a'.put (some p.nx) (.tuple #[.bool true,e.key,e.val])).put (some p.mo) (.bool true)=a1 at uJ Xy;have Oe:a1.eval (.tmp p.mo)=.bool true:=by
         rw[←uc];simp only[Act.eval];exact yd (by rw[size_put];omega)
        have mq:a1.defers=a'.defers:=by rw[←uc,put_defers,put_defers]
        refine wpIn_seq (wpIn_cond_true Oe (wpIn_skip ?_));refine wpIn_block (wpIn_seq (wpIn_region ?_));rw[GY];refine xZ ho3 g3 (by rw[q3];rfl) (v:=.tuple #[e.key,e.val]) (w':=w2) (by simp only[execOp,q3,Xy];simp[amI Yc Yd gh mw]) ?_;rw[d3]
        have GU:SameBut (fun t=>t∈ws) a1 (a1.put (some p.pr) (.tuple #[e.key,e.val])):=
         (SameBut.put a1 (some p.pr) (.tuple #[e.key,e.val]) a1.defers).mono fun t e=>by cases e;exact dY o3 (by rw[e2];simp) _ d3
        have X2:a1.tmps.size=n:=uJ.size.trans pf;refine adl (kv:=e.key) (vv:=e.val) l [] p.aa 1 _ lH (by rw[e2];rfl) (fun x hx=>by rw[GU.size,X2];exact arW _ (List.mem_map.2 ⟨x,hx,rfl⟩)) (yd (by rw[X2];exact nG)) (fun x hx=>by cases hx) (fun a2 dw df arQ=>?_);have OI:SameBut (fun t=>t∈ws) a' a2:=(uJ.trans GU).trans (dw.mono fun t ⟨o,ho,hd⟩=>dY o ho t hd);have aqE:a2.defers=a'.defers:=by rw[df,put_defers,mq]
        have asi:Good C w0 σ0 (((qS.mask m).start (p.aa.map (·.1)) (p.aa.map fun x=>bif Nat.beq x.2 0 then kt else et)).st ids) ((ρ.put (p.aa.map (·.1)) ((p.aa.map (·.2)).map (D.tup [pd.1,pd.2]).tget) lo vo).setO J (.tup [.list (fy fm idx++[.tup [pd.1,pd.2]]),.map fm])) (fun _=>False) a2 w2:=by
         have A5:Below w0.heap.size w' w2:=⟨by rw[←xk];exact BR.os,by rw[←xk];exact BR.tape,by rw[←xk];exact BR.output,by omega,fun b hb=>xl b (fun e=>by subst e;have:=(h.owns b J h2).1;omega)⟩
         have hH:σ.ok w2:=by
          refine⟨fun b o v hc=>?_,fun b es hc=>?_⟩
          ·have NM:b≠kb:=fun e=>by subst e;rw[(h.owns b J h2).2.2.1 o] at hc;cases hc
           have:=h.ok.c b o v hc;simp only[World.cell?] at this ⊢;rw[xl b NM];exact this
          ·have NM:b≠kb:=fun e=>by subst e;rw[(h.owns b J h2).2.2.2] at hc;cases hc
           exact(h.ok.m b es hc).keep (xl b NM)
         have fp:∀j,((ρ.put (p.aa.map (·.1)) ((p.aa.map (·.2)).map (D.tup [pd.1,pd.2]).tget) lo vo).setO J (.tup [.list (fy fm idx++[.tup [pd.1,pd.2]]),.map fm])).o j=if j=J then .tup [.list (fy fm idx++[.tup [pd.1,pd.2]]),.map fm] else putL ρ.o lo vo j:=fun j=>by
          simp only[Env.setO,fi];rfl
         refine⟨σ,own,hv,h.step (fun j=>j=J) aqE (.refl σ) hH (fun _ _ _ hx=>.inl hx) (fun _ _ hx=>.inl hx) A5 ⟨fun _=>Nat.le_refl _,fun _ _=>rfl⟩
          (fun j hj=>⟨rfl,by rw[fp,if_neg hj];simp[Env.setO,bf _ _ hj,Env.put],rfl,fun b hb=>⟨hb,xl b (fun e=>by subst e;rw[h2] at hb;cases hb;exact hj rfl)⟩⟩) (fun j hj=>?_) (fun b j hb=>?_) (fun _=>id) (fun t=>?_) (fun _ hf=>hf.elim)
          (fun b hb ho=>xl b (fun e=>by subst e;rw[h2] at ho;cases ho)) (fun b j hb=>.inl ⟨j,hb⟩) (fun j hj=>?_)⟩
         ·subst hj;have:(((qS.mask m).start (p.aa.map (·.1)) (p.aa.map fun x=>bif Nat.beq x.2 0 then kt else et)).st ids).o j=.it kt et:=GK;rw[this];refine⟨kb,mb,arr,clock,fm,idx++[i],h1,h2,h3,aC,Yd,Yc,by rw[fp,if_pos rfl,aeQ fm idx Oy],?_,?_,h9,gh,qj⟩
          ·rw[List.nodup_append];exact⟨h7,by simp,fun a ha b hb e=>by simp at hb;subst hb;subst e;exact uv ha⟩
          ·intro i' dg;rcases List.mem_append.1 dg with h|h
           ·exact h8 i' h
           ·simp at h;subst h;exact(Array.getElem?_eq_some_iff.1 mw).1
         ·obtain⟨b1,b2,b3,b4⟩:=h.owns b j hb;exact⟨b1,by omega,b3,b4⟩
         ·have hc:Compat ((qS.mask m).st ids) hv (((qS.mask m).start (p.aa.map (·.1)) (p.aa.map fun x=>bif Nat.beq x.2 0 then kt else et)).st ids) hv:=⟨fun _=>Nat.le_refl _,fun _ _=>rfl⟩
          refine .inr ⟨?_,fun gs s' e=>absurd e (Snap.noOpt _ _ t gs s')⟩;show aI C _ _ σ hv (bX ((pK (p.aa.map (·.1)) (p.aa.map fun x=>bif Nat.beq x.2 0 then kt else et) ((qS.mask m).rs.map qm)).getD t .none)) (a2.tmps.getD t undef) (putL ρ.r (p.aa.map (·.1)) ((p.aa.map (·.2)).map (D.tup [pd.1,pd.2]).tget) t);rcases Se (p.aa.map (·.1)) (p.aa.map fun x=>bif Nat.beq x.2 0 then kt else et) ((qS.mask m).rs.map qm) (by simp) c4 t with e|⟨wq,q9⟩|⟨i',y,wq,q9,M7⟩
          ·rw[e];trivial
          ·rw[q9,yc _ _ _ _ wq];have e3:((qS.mask m).rs.map qm).getD t .none=qm ((qS.mask m).rs.getD t .none):=by
            simp only[List.getD_eq_getElem?_getD,List.getElem?_map];cases(qS.mask m).rs[t]?<;>rfl
           rw[e3];by_cases X4:t∈ws
           ·have w9:=Oc t (qs t X4);change bX ((qS.mask m).rs.getD t .none)=.none at w9;generalize (qS.mask m).rs.getD t .none=s' at w9;cases s'<;>simp[bX] at w9<;>trivial
           ·have hr:=h.regs t;change aI C _ _ σ hv (bX ((qS.mask m).rs.getD t .none)) _ (ρ.r t) at hr;rw[OI.get t X4];generalize (qS.mask m).rs.getD t .none=s' at hr;cases s' with
            |yv=>trivial
            |opt gs s=>trivial
            |none=>trivial
            |fclo f c=>exact aI.mono' (.refl σ) hc (fun _ _ e=>by cases e) hr
            |dat t=>exact hr
            |obj j v=>exact aI.mono' (.refl σ) hc (fun _ _ e=>by cases e) hr
            |ptr j v o=>exact aI.mono' (.refl σ) hc (fun _ _ e=>by cases e) hr
            |eptr j v o q=>exact aI.mono' (.refl σ) hc (fun _ _ e=>by cases e) hr
          ·rw[M7];have aq2:i'<p.aa.length:=by have:=(List.getElem?_eq_some_iff.1 wq).1;simpa using this
           rw[QL _ (p.aa.map (·.1)) _ i' t (lS c4) (by simp) wq];obtain⟨xa,kp⟩:∃xa,p.aa[i']?=some xa:=⟨_,List.getElem?_eq_getElem aq2⟩
           simp only[List.getElem?_map,kp,Option.map_some,Option.some.injEq] at wq q9;subst wq;subst q9;rw[arQ xa (List.mem_of_getElem? kp)];have hd:((p.aa.map (·.2)).map (D.tup [pd.1,pd.2]).tget).getD i' .none=(D.tup [pd.1,pd.2]).tget xa.2:=by simp[List.getD_eq_getElem?_getD,kp]
           rw[hd];have h2x:xa.2≤1:=by
            rcases QC l lH (fun x hx=>by cases hx) xa (List.mem_of_getElem? kp) with h|h
            ·cases h
            ·exact h.1
           rcases(by omega:xa.2=0∨xa.2=1) with e0|e0<;>rw[e0]
           ·exact cr
           ·exact cl
         ·have:(((qS.mask m).start (p.aa.map (·.1)) (p.aa.map fun x=>bif Nat.beq x.2 0 then kt else et)).st ids).o j=.it kt et:=by rw[hj];exact GK
          rw[this];intro e;cases e
        have arR:=aeQ fm idx Oy;obtain⟨rest,rL⟩:∃rest,(fy fm idx++(D.tup [pd.1,pd.2])::rest).Perm (fY (.map fm)):=by
         obtain⟨rest,hr⟩:=aw4 (es:=fm) (idx:=idx++[i]) (by rw[List.nodup_append];exact⟨h7,by simp,fun a ha b hb e=>by simp at hb;subst hb;subst e;exact uv ha⟩) (fun i' dg=>by
          rcases List.mem_append.1 dg with h|h
          ·rw[h9];exact h8 i' h
          ·simp at h;subst h;rw[h9];exact(Array.getElem?_eq_some_iff.1 mw).1)
         rw[arR] at hr;exact⟨rest,by simpa using hr⟩
        have gX:=aQ _ rL;simp only[mM] at gX;split at gX
        case h_2=>cases gX
        rename_i ρ2 Gj;obtain⟨xi,dj⟩:=Vx Gj;refine wpIn_mono (ihc rm _ q0 nH rd w0 σ0 wr _ xi a2 w2 fq hC hY (fun t ht=>O3 t (hwc t ht)) (OI.size.trans pf) asi dj) fun ee a3 w3 fp=>?_;have iM:=Vz n6 (q6 code nH) dj Gj fp;have conv:∀ee a3 w3,fC C w0 σ0 ids fn s rm wr a2 (fl ids p.next q0).out (fl ids p.next q0).ex (.next ρ2) ee a3 w3→Exit.then (Code.roundsIn (FR rd) 0 C.P (.seq (.region i1 p.ops1 false) (.seq (.cond (.tmp p.mo) .skip (.exit p.out)) (.block p.next (.seq (.region i2 p.ops2 false) code)))) (fC C w0 σ0 ids fn s rm wr a none [(p.out,(qS.mask m).kill ids J)] x0) kk) (fC C w0 σ0 ids fn s rm wr a none [(p.out,(qS.mask m).kill ids J)] x0) ee a3 w3:=by
         intro ee a3 w3 ho;cases ee with
         |normal=>
          obtain⟨ρ3,T,f1,f2,f3,f4⟩:=ho;cases f1;refine ih (fy fm idx++[.tup [pd.1,pd.2]]) (lo.map ρ2.o) a3 w3 (iN.trans ((OI.mono O3).trans f3)) ?_ (fun ys uP=>?_) (by simp at hlen ⊢;omega)
          ·have ql:Good C w0 σ0 (qS.st ids) ρ2 (fun _=>False) a3 w3:=by
            have:=f4.meet2 (x:=qS)
            rwa [wU T f2] at this
           obtain⟨σ3,vj,BP,jO⟩:=ql;have NO:=PC.ev_but _ _ _ ρ2 Gj rfl;refine⟨σ3,vj,BP,(jO.maskR m).env (Snap.noOpt _ _) (fun t ht=>?_) (fun j hj=>?_)⟩
           ·have w9:=ars t ht
            have cO:t∉(fl ids p.next q0).pc.modR:=fun eB=>by
                 have:=Of.1 t eB;have h2:ar (Nat.lor m (fl ids p.next q0).mr) t=true:=by rw[ei,this,Bool.or_true]
                 rw[Bt,w9] at h2;cases h2
            rw[NO.r t cO]
            have oU:t∉p.aa.map (·.1):=fun aT=>by
                 have:ar m t=true:=by
                  refine qs t ?_;obtain⟨xa,kp,rfl⟩:=List.mem_map.1 aT;rcases QC l lH (fun x hx=>by cases hx) xa kp with h|⟨_,o,ho,hd⟩
                  ·cases h
                  ·exact dY o (by rw[e2];exact List.mem_cons_of_mem _ ho) _ hd
                 rw[w9] at this;cases this
            show ρ.r t=putL ρ.r (p.aa.map (·.1)) _ t;rw[yc _ _ _ _ oU]
           ·have hjd:mF (cS ids qS.os j)=false:=hj;show bO (putL ρ.o lo (lo.map ρ2.o)) J _ j=ρ2.o j;by_cases wW:j=J
            ·subst wW;rw[aP,NO.o j (fun eB=>WU (Of.2 j eB))];simp[Env.setO,aP]
            ·rw[bf _ _ wW,qE];split
             ·rfl
             ·rename_i dW;have cO:j∉(fl ids p.next q0).pc.modO:=fun eB=>dW (by rw[←km];exact List.mem_filter.2 ⟨Of.2 j eB,by rw[hjd];rfl⟩);rw[NO.o j cO];simp only[Env.setO,bf _ _ wW];exact(QM _ _ _ _ dW).symm
          ·have:=aQ ((D.tup [pd.1,pd.2])::ys) (by simpa using uP);simp only[mM,Gj] at this;exact this
         |exit id=>obtain⟨ρ3,T,f1,_⟩:=ho;cases f1
         |ret=>
          cases rm with
          |false=>obtain⟨d,f1,_⟩:=ho;cases f1
          |true=>obtain⟨ρ3,T,f1,_⟩:=ho;cases f1
         |_=>exact ho.elim
        cases ee with
        |exit id=>
         simp only[Exit.inBlock] at iM;show if id=p.next then _ else _;split
         ·rename_i cf;rw[if_pos cf] at iM;exact conv .normal a3 w3 iM
         ·rename_i cf;rw[if_neg cf] at iM;exact conv (.exit id) a3 w3 iM
        |normal=>exact conv .normal a3 w3 iM
        |ret=>exact conv .ret a3 w3 iM
        |panic c=>exact fp.elim
        |goto l=>exact fp.elim
        |_=>exact fp.elim
 have hgq:Good C w0 σ0 (qS.st ids) ρ (fun _=>False) a w:=bx hg;obtain⟨σ,own,hv,h⟩:=hgq;have aZ:=h.objs J;have:(qS.st ids).o J=.it kt et:=GK;rw[this] at aZ;obtain⟨kb,mb,arr,clock,fm,idx,h1,h2,h3,aC,h4,h5,h6,h7,h8,h9,gh,qj⟩:=aZ;have hρJ:ρ.o J=.tup [.list [],es]:=by
  rw[h6] at BB gC;simp[D.tget] at BB gC;rw[h6,BB,←gC]
 have uo:(ρ.put [] [] lo (lo.map ρ.o)).setO J (.tup [.list [],es])=ρ:=by
  rw[Env.put_self];show Env.mk _ _=_;have:bO ρ.o J (.tup [.list [],es])=ρ.o:=by
   funext j;rw[fi];split
   ·rename_i e;rw[e];exact hρJ.symm
   ·rfl
  rw[this]
 exact wpIn_loop_rounds _ (key ((fY es).length+1) [] (lo.map ρ.o) a w (.refl _ _) (by rw[uo];exact⟨σ,own,hv,h.maskR m⟩) (fun ys uP=>aqd ys uP) (by simp))
theorem alu {N:Nat}(eM:fj C Φ)(hR:LW C n ids Φ R):∀(k:Nat) (c:Code),sizeOf c<k→tF C Φ fn s n ids R N c:=by
 intro k;refine Nat.rec (fun c h=>absurd h (Nat.not_lt_zero _)) (fun k IH=>?_) k;intro c hc;cases c with
 |skip=>
  intro rm S r h rd w0 σ0 wr ρ x a w fq hC hY fU hn hg he;simp only[comp,Option.some.injEq] at h;subst h;simp only[PC.ev,Option.some.injEq] at he;subst he;exact wpIn_skip ⟨ρ,S,rfl,rfl,.refl _ _,hg⟩
 |region id ops draw=>
  intro rm S r h rd w0 σ0 wr ρ x a w fq hC hY fU hn hg he;simp only[comp,Option.map_eq_some_iff] at h;obtain⟨q,hq,rfl⟩:=h;simp only[PC.ev,Option.map_eq_some_iff] at he;obtain⟨ρ',hr,rfl⟩:=he;exact hR id ops draw S q hq rd w0 σ0 ρ ρ' a w _ hC hY hn hg hr (fun a' w' ia eO=>⟨ρ',q.1,rfl,rfl,ia.mono (fun t ⟨o,h1,h2⟩=>fU t (List.mem_filterMap.2 ⟨o,h1,h2⟩)),eO⟩)
 |seq c1 c2=>
  have rS:=IH c1 (by simp at hc;omega);have kr:=IH c2 (by simp at hc;omega);intro rm S r h rd w0 σ0 wr ρ x a w fq hC hY fU hn hg he;have fI:∀t,t∈bW c1→wr t:=fun t ht=>fU t (List.mem_append_left _ ht);have dY:∀t,t∈bW c2→wr t:=fun t ht=>fU t (List.mem_append_right _ ht);simp only[comp,Option.bind_eq_some_iff] at h;obtain⟨q,hq,h⟩:=h;split at h
  ·rename_i iL;cases h;refine wpIn_seq (wpIn_mono (rS rm S _ hq rd w0 σ0 wr ρ x a w fq hC hY fI hn hg he) fun e a' w' ho=>?_);cases e with
   |normal=>obtain⟨_,_,_,h2,_⟩:=ho;rw[iL] at h2;cases h2
   |_=>exact ho
  ·rename_i S1 iL;simp only[Option.map_eq_some_iff] at h;obtain⟨p,hp,rfl⟩:=h;simp only[PC.ev] at he
   have key:∀x1,q.pc.ev Φ N ρ=some x1→(match some x1 with|some (.next ρ')=>p.pc.ev Φ N ρ'|y=>y)=some x→(Code.seq c1 c2).wpIn (FR rd) 0 C.P (fC C w0 σ0 ids fn s rm wr a p.out (q.ex++p.ex) x) a w:=by
      intro x1 h1 h2;refine wpIn_seq (wpIn_mono (rS rm S _ hq rd w0 σ0 wr ρ x1 a w fq hC hY fI hn hg h1) fun e a' w' ho=>?_);have other:∀{e:Exit},e≠.normal→fC C w0 σ0 ids fn s rm wr a q.out q.ex x1 e a' w'→x1=x→fC C w0 σ0 ids fn s rm wr a p.out (q.ex++p.ex) x e a' w':=by
       intro e aC ho hx;subst hx;exact ho.mono (fun y hy=>List.mem_append_left _ hy) (.refl _ _) (fun e=>absurd e aC)
      cases e with
      |normal=>
       obtain⟨ρ1,S2,e1,e2,dw,fD⟩:=ho;subst e1;rw[iL] at e2;cases e2;simp only at h2;refine wpIn_mono (kr rm S1 _ hp rd w0 σ0 wr ρ1 x a' w' fq hC hY dY (dw.size.trans hn) fD h2) fun e a2 w2 iK=>?_;exact iK.mono (fun y hy=>List.mem_append_right _ hy) dw (fun _=>rfl)
      |exit id=>
       refine other (by simp) ho ?_;obtain⟨ρ1,S2,e1,_⟩:=ho;subst e1;simpa using h2
      |ret=>
       refine other (by simp) ho ?_;cases rm with
       |false=>obtain⟨d,e1,_⟩:=ho;subst e1;simpa using h2
       |true=>obtain⟨ρ1,S2,e1,_⟩:=ho;subst e1;simpa using h2
      |_=>exact ho.elim
   cases h1:q.pc.ev Φ N ρ with
   |none=>rw[h1] at he;simp at he
   |some x1=>rw[h1] at he;exact key x1 h1 he
 |cond c c1 c2=>
  have rS:=IH c1 (by simp at hc;omega);have kr:=IH c2 (by simp at hc;omega);intro rm S r h rd w0 σ0 wr ρ x a w fq hC hY fU hn hg he;have fI:∀t,t∈bW c1→wr t:=fun t ht=>fU t (List.mem_append_left _ ht);have dY:∀t,t∈bW c2→wr t:=fun t ht=>fU t (List.mem_append_right _ ht);simp only[comp] at h;split at h
  case h_2=>cases h;exact absurd he (kK _ _ _ _)
  rename_i e hu;simp only[Option.bind_eq_some_iff,Option.map_eq_some_iff] at h;obtain⟨q,hq,p,hp,rfl⟩:=h;have hb:∃b,a.eval c=.bool b∧e.ev ρ=.v (.bool b):=by
   obtain⟨σ,own,hv,hi⟩:=hg;have:=bP (gs:=[]) hi hC rfl hu;generalize a.eval c=v at this;generalize e.ev ρ=d at this;cases this with|bool b=>exact⟨b,rfl,rfl⟩
  obtain⟨b,gX,dK⟩:=hb;have oS:=q6 c1 hq;have Bs:=q6 c2 hp;have main:∀(o:Option Snap) (lr lo:List Nat) (rx:Res2),rx=⟨.ite e lr lo q.pc p.pc,o,q.ex++p.ex,Nat.lor q.mr p.mr,gO q.mo p.mo⟩→
        (∀M,o=some M→lr=iS M (Nat.lor q.mr p.mr)∧lo=gI ids M (gO q.mo p.mo))→
        (∀S1 ρ1 a w,q.out=some S1→Good C w0 σ0 (S1.st ids) ρ1 (fun _=>False) a w→∃M,o=some M∧Good C w0 σ0 (M.st ids) ρ1 (fun _=>False) a w)→
        (∀S1 ρ1 a w,p.out=some S1→Good C w0 σ0 (S1.st ids) ρ1 (fun _=>False) a w→∃M,o=some M∧Good C w0 σ0 (M.st ids) ρ1 (fun _=>False) a w)→
        rx.pc.ev Φ N ρ=some x→(Code.cond c c1 c2).wpIn (FR rd) 0 C.P (fC C w0 σ0 ids fn s rm wr a rx.out rx.ex x) a w:=by
   intro o lr lo rx hrx hl oX lH bA;subst hrx;simp only[PC.ev,dK,D.b_bool] at bA;have fin:∀(ci:Code) (qi:Res2) (xi:Out),(∀y,y∈qi.ex→y∈q.ex++p.ex)→(∀t,t∈qi.pc.modR→ar (Nat.lor q.mr p.mr) t=true)→(∀j,j∈qi.pc.modO→j∈gO q.mo p.mo)→
    (∀S1 ρ1 a w,qi.out=some S1→Good C w0 σ0 (S1.st ids) ρ1 (fun _=>False) a w→∃M,o=some M∧Good C w0 σ0 (M.st ids) ρ1 (fun _=>False) a w)→
    qi.pc.ev Φ N ρ=some xi→(match some xi with|some (.next ρ')=>some (Out.next (ρ.join lr lo ρ'))|y=>y)=some x→
    ci.wpIn (FR rd) 0 C.P (fC C w0 σ0 ids fn s rm wr a qi.out qi.ex xi) a w→ci.wpIn (FR rd) 0 C.P (fC C w0 σ0 ids fn s rm wr a o (q.ex++p.ex) x) a w:=by
        intro ci qi xi hex gk oY iL dj hx hwp;refine wpIn_mono hwp fun ee a' w' ho=>?_;have other:ee≠.normal→xi=x→fC C w0 σ0 ids fn s rm wr a o (q.ex++p.ex) x ee a' w':=by
         intro aC eD;subst eD;exact ho.mono hex (.refl _ _) (fun e=>absurd e aC)
        cases ee with
        |normal=>
         obtain⟨ρ1,S2,e1,e2,dw,fD⟩:=ho;subst e1;simp only[Option.some.injEq] at hx;subst hx;obtain⟨M,hM,ql⟩:=iL S2 ρ1 a' w' e2 fD;obtain⟨l1,l2⟩:=hl M hM;subst l1 l2;exact⟨_,M,rfl,hM,dw,ql.joined (PC.ev_but qi.pc ρ _ ρ1 dj rfl) gk oY⟩
        |exit id=>
         refine other (by simp) ?_;obtain⟨ρ1,S2,e1,_⟩:=ho;subst e1;simpa using hx
        |ret=>
         refine other (by simp) ?_;cases rm with
         |false=>obtain⟨d,e1,_⟩:=ho;subst e1;simpa using hx
         |true=>obtain⟨ρ1,S2,e1,_⟩:=ho;subst e1;simpa using hx
        |_=>exact ho.elim
   refine wpIn_cond gX ?_;cases b with
   |true=>
    simp only[cond_true] at bA;cases dj:q.pc.ev Φ N ρ with
    |none=>rw[dj] at bA;simp at bA
    |some xi=>
     rw[dj] at bA;refine fin c1 q xi (fun y hy=>List.mem_append_left _ hy) (fun t ht=>?_) (fun j hj=>nN.2 (.inl (oS.2 j hj))) oX dj bA (rS rm S _ hq rd w0 σ0 wr ρ xi a w fq hC hY fI hn hg dj);rw[ei,oS.1 t ht];rfl
   |false=>
    simp only[cond_false] at bA;cases dj:p.pc.ev Φ N ρ with
    |none=>rw[dj] at bA;simp at bA
    |some xi=>
     rw[dj] at bA;refine fin c2 p xi (fun y hy=>List.mem_append_right _ hy) (fun t ht=>?_) (fun j hj=>nN.2 (.inr (Bs.2 j hj))) lH dj bA (kr rm S _ hp rd w0 σ0 wr ρ xi a w fq hC hY dY hn hg dj);rw[ei,Bs.1 t ht,Bool.or_true]
  have oX:∀S1 ρ1 a w,q.out=some S1→Good C w0 σ0 (S1.st ids) ρ1 (fun _=>False) a w→∃M,ky q.out p.out=some M∧Good C w0 σ0 (M.st ids) ρ1 (fun _=>False) a w:=by
   intro S1 ρ1 a w e1 g1;rw[e1];obtain⟨M,hM⟩:=@Zq S1 p.out;exact⟨M,hM,Zo g1 hM⟩
  have lH:∀S1 ρ1 a w,p.out=some S1→Good C w0 σ0 (S1.st ids) ρ1 (fun _=>False) a w→∃M,ky q.out p.out=some M∧Good C w0 σ0 (M.st ids) ρ1 (fun _=>False) a w:=by
   intro S1 ρ1 a w e1 g1;rw[e1];obtain⟨M,hM⟩:=@Zr q.out S1;exact⟨M,hM,Zp g1 hM⟩
  cases hm:ky q.out p.out with
  |none=>
   rw[hm] at oX lH;simp only[hm] at he ⊢;exact main none [] [] _ rfl (fun M e=>by cases e) oX lH he
  |some M=>
   rw[hm] at oX lH;simp only[hm] at he ⊢;exact main (some M) _ _ _ rfl (fun M' e=>by cases e;exact⟨rfl,rfl⟩) oX lH he
 |block id c1=>
  have rS:=IH c1 (by simp at hc;omega);intro rm S r h rd w0 σ0 wr ρ x a w fq hC hY fU hn hg he;simp only[comp] at h;cases cf:Nat.beq id cn<;>simp only[cf,cond_true,cond_false] at h
  case true=>cases h;exact absurd he (kK _ _ _ _)
  have Gv:id≠cn:=fun e=>by subst e;simp at cf
  simp only[Option.map_eq_some_iff] at h;obtain⟨q,hq,rfl⟩:=h;obtain⟨xi,dj⟩:=Vx he;exact wpIn_block (wpIn_mono (rS rm S _ hq rd w0 σ0 wr ρ xi a w fq hC hY fU hn hg dj) fun e a' w' fp=>Vz Gv (q6 c1 hq) dj he fp)
 |loop c1=>
  have rS:=IH c1 (by simp at hc;omega);intro rm S r h rd w0 σ0 wr ρ x a w fq hC hY fU hn hg he;rw[VV] at h;split at h
  ·rename_i qb BG;obtain⟨p,code,ws⟩:=qb;unfold va at BG;split at BG
   case h_2=>cases BG
   rename_i cx cy ck cz cc;simp only[Option.map_eq_some_iff] at BG;obtain⟨p',aT,ep⟩:=BG;cases ep;exact aur aT (IH _ (by simp at hc;omega)) h fq hC hY fU hn hg he
  split at h
  case h_2=>cases h;exact absurd he (kK _ _ _ _)
  rename_i q hq;cases h;obtain⟨hs,wU,bx⟩:=BY (C:=C) (w0:=w0) (σ0:=σ0) (ids:=ids) 8 hq;have oS:=q6 c1 hs;simp only[PC.ev] at he
  have ur:Good C w0 σ0 (q.1.st ids) (ρ.put (iS q.1 q.2.mr) ((iS q.1 q.2.mr).map ρ.r) (gI ids q.1 q.2.mo) ((gI ids q.1 q.2.mo).map ρ.o)) (fun _=>False) a w:=by
   exact Good.joined (bx hg) (.refl ρ q.2.pc.modR q.2.pc.modO) oS.1 oS.2
  have key:∀(k:Nat) (ρ1:Env) (a':Act) (w:World),SameBut wr a a'→fW (q.2.pc.ev Φ N) ρ (iS q.1 q.2.mr) (gI ids q.1 q.2.mo) k ((iS q.1 q.2.mr).map ρ1.r) ((gI ids q.1 q.2.mo).map ρ1.o)=some x→
        Good C w0 σ0 (q.1.st ids) (ρ.join (iS q.1 q.2.mr) (gI ids q.1 q.2.mo) ρ1) (fun _=>False) a' w→Code.roundsIn (FR rd) 0 C.P c1 (fC C w0 σ0 ids fn s rm wr a none q.2.ex x) k a' w:=by
   intro k
   induction k with
   |zero=>intro ρ1 a' w hn hl hg;simp[fW] at hl
   |succ k ih=>
    intro ρ1 a' w iN hl hg;rw[roundsIn_succ];simp only[fW] at hl;change (match q.2.pc.ev Φ N (ρ.join (iS q.1 q.2.mr) (gI ids q.1 q.2.mo) ρ1) with|some (.next ρ')=>_|y=>y)=some x at hl;cases dj:q.2.pc.ev Φ N (ρ.join (iS q.1 q.2.mr) (gI ids q.1 q.2.mo) ρ1) with
    |none=>rw[dj] at hl;simp at hl
    |some xi=>
     rw[dj] at hl;refine wpIn_mono (rS rm _ _ hs rd w0 σ0 wr _ xi a' w fq hC hY fU (iN.size.trans hn) hg dj) fun e a2 w' fp=>?_;have other:e≠.normal→xi=x→fC C w0 σ0 ids fn s rm wr a none q.2.ex x e a2 w':=by
         intro aC eD;subst eD;exact fp.mono (fun y hy=>hy) iN (fun e=>absurd e aC)
     cases e with
     |normal=>
      obtain⟨ρ2,S2,e1,e2,dw,fD⟩:=fp;subst e1;simp only at hl;refine ih ρ2 a2 w' (iN.trans dw) hl ?_
      have ql:Good C w0 σ0 (q.1.st ids) ρ2 (fun _=>False) a2 w':=by
       have:=fD.meet2 (x:=q.1)
       rwa [wU S2 e2] at this
      refine ql.joined (mr':=iS q.1 q.2.mr++q.2.pc.modR) (mo':=gI ids q.1 q.2.mo++q.2.pc.modO) ?_ (fun t ht=>?_) (fun j hj=>?_)
      ·exact((Env.but.join ρ ρ1 _ _).mono (fun t ht=>List.mem_append_left _ ht) (fun t ht=>List.mem_append_left _ ht)).trans
        ((PC.ev_but q.2.pc _ _ ρ2 dj rfl).mono (fun t ht=>List.mem_append_right _ ht) (fun t ht=>List.mem_append_right _ ht))
      ·exact(List.mem_append.1 ht).elim Hi (oS.1 t)
      ·exact(List.mem_append.1 hj).elim xC (oS.2 j)
     |exit id=>
      refine other (by simp) ?_;obtain⟨ρ1,S2,e1,_⟩:=fp;subst e1;simpa using hl
     |ret=>
      refine other (by simp) ?_;cases rm with
      |false=>obtain⟨d,e1,_⟩:=fp;subst e1;simpa using hl
      |true=>obtain⟨ρ1,S2,e1,_⟩:=fp;subst e1;simpa using hl
     |_=>exact fp.elim
  exact wpIn_loop_rounds N (key N ρ a w (.refl _ _) he ur)
 |exit id=>
  intro rm S r h rd w0 σ0 wr ρ x a w fq hC hY fU hn hg he;simp only[comp] at h;cases cf:Nat.beq id cn<;>simp only[cf,cond_true,cond_false] at h
  case true=>cases h;exact absurd he (kK _ _ _ _)
  cases h;simp only[PC.ev,Option.some.injEq] at he;subst he;exact wpIn_exit ⟨ρ,S,rfl,fun e=>by subst e;simp at cf,by simp,.refl _ _,hg⟩
 |ret=>
  intro rm S r h rd w0 σ0 wr ρ x a w fq hC hY fU hn hg he;simp only[comp] at h;cases rm<;>simp only[cond_true,cond_false] at h
  case true=>
   cases h;simp only[PC.ev,Option.some.injEq] at he;subst he;exact wpIn_ret ⟨ρ,S,rfl,by simp,.refl _ _,hg⟩
  split at h
  ·rename_i e OE;cases h;simp only[PC.ev,Option.some.injEq] at he;subst he;obtain⟨σ,own,hv,hi⟩:=hg;exact wpIn_ret ⟨_,rfl,Inv.retD hC (fun _=>rfl) (fq rfl).2 OE _ hi rfl,.refl _ _⟩
  ·cases h;exact absurd he (kK _ _ _ _)
 |rangeFunc g ps ca cb=>exact awl eM (IH ca (by simp at hc;omega)) (IH cb (by simp at hc;omega))
 |_=>intro rm S r h rd w0 σ0 wr ρ x a w fq hC hY fU hn hg he;simp only[comp,Option.some.injEq] at h;subst h;exact absurd he (kK _ _ _ _)
theorem als {N:Nat}(eM:fj C Φ)(hR:LW C n ids Φ R)(c:Code):tF C Φ fn s n ids R N c:=alu eM hR _ c (Nat.lt_succ_self _)
end
end Cx
