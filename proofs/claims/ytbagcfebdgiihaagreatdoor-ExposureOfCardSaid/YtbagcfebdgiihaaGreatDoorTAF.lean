/-
  Code: sequences, choices, blocks, loops.
-/
import Derived.LoopNIn
import Derived.Test.YtbagcfebdgiihaaGreatDoorTAE
import Derived.LoopN
set_option linter.unusedSimpArgs false
set_option linter.unusedVariables false
namespace Cx
open Go Go.RowKit
def aN (m t:Nat):Bool:= !Nat.beq (Nat.land 1 (Nat.shiftRight m t)) 0
theorem tC (m t:Nat):aN m t=m.testBit t:=by
 unfold aN Nat.testBit;show(!Nat.beq (1&&& (m>>>t)) 0)=((1&&& (m>>>t))!=0)
 generalize 1&&& (m>>>t)=x;cases x<;>rfl
def fO (t:Nat):Nat:=Nat.shiftLeft 1 t
theorem og (t:Nat):aN (fO t) t=true:=by
 rw[tC];show(1<<<t).testBit t=true;simp[Nat.testBit_shiftLeft]
theorem fq (m k t:Nat):aN (Nat.lor m k) t=(aN m t||aN k t):=by
 simp only[tC];exact Nat.testBit_or m k t
def PI.mask:PI→Nat
 |.setR t _=>fO t|.call _ t _ _=>fO t|.callc _ t _ _=>fO t|_=>0
def G8:List PI→Nat
 |[]=>0
 |p::l=>Nat.lor p.mask (G8 l)
def PI.objs:PI→List Nat
 |.setO j _=>[j]|.mcall j _ _=>[j]|_=>[]
def eE (l:List Nat)(x:Nat):Bool:=l.any (Nat.beq x)
def gU (a b:List Nat):List Nat:=a.foldl (fun acc x=>bif eE acc x then acc else x::acc) b
def XE (l:List PI):List Nat:=l.foldl (fun acc p=>gU p.objs acc) []
theorem nv (l:List Nat)(x:Nat):eE l x=true↔x∈l:=by
 unfold eE;rw[zD];constructor
 ·rintro⟨y,hy,h⟩;rw[aw h];exact hy
 ·intro h;exact⟨x,h,jn x⟩
theorem nw {x:Nat}:∀{a b:List Nat},x∈gU a b↔x∈a∨x∈b
 |[],b=>by simp[gU]
 |y::a,b=>by
  have ih:=@nw x a (bif eE b y then b else y::b);have e:gU (y::a) b=gU a (bif eE b y then b else y::b):=rfl;rw[e,ih];cases hb:eE b y
  ·simp[or_assoc,or_left_comm]
  ·have:=(nv b y).1 hb;simp only[cond_true,cG];constructor
   ·rintro(h|h)
    ·exact .inl (.inr h)
    ·exact .inr h
   ·rintro((h|h)|h)
    ·subst h;exact .inr this
    ·exact .inl h
    ·exact .inr h
theorem ami {x:Nat}(l:List PI)(h:x∈l.flatMap PI.modO):x∈XE l:=by
 have key:∀(l:List PI) (acc:List Nat),(x∈l.flatMap PI.modO∨x∈acc)→x∈l.foldl (fun acc p=>gU p.objs acc) acc:=by
  intro l
  induction l with
  |nil=>intro acc h;simpa using h
  |cons p l ih=>
   intro acc h;refine ih _ ?_;rw[zE,cS] at h;rcases h with(h|h)|h
   ·refine .inr (nw.2 (.inl ?_));cases p<;>simp_all [PI.modO,PI.objs]
   ·exact .inl h
   ·exact .inr (nw.2 (.inr h))
 exact key l [] (.inl h)
theorem Xf {t:Nat}:∀(l:List PI),t∈l.flatMap PI.modR→aN (G8 l) t=true
 |[],h=>by simp at h
 |p::l,h=>by
  rw[zE,cS] at h;simp only[G8,fq,jh];rcases h with h|h
  ·left;cases p<;>simp[PI.modR] at h<;>subst h<;>exact og _
  ·exact .inr (Xf l h)
structure Res2 where
 pc:PC
 out:Option Snap
 ex:List (Nat×Snap)
 mr:Nat
 mo:List Nat
 deriving Inhabited
def kE:Option Snap→Option Snap→Option Snap
 |none,x=>x
 |x,none=>x
 |some a,some b=>some (a.meet b)
def mh (id:Nat):List (Nat×Snap)→Option Snap→Option Snap
 |[],acc=>acc
 |x::l,acc=>mh id l (bif Nat.beq x.1 id then kE acc (some x.2) else acc)
def iter (step:Snap→Option Res2):Nat→Snap→Option (Snap×Res2)
 |0,_=>none
 |k+1,S=>(step S).bind fun r=>
  match r.out with
  |none=>some (S,r)
  |some T=>bif (S.meet T).beq S then some (S,r) else iter step k (S.meet T)
def iY (S:Snap)(m:Nat):List Nat:=(List.range S.rs.length).filter fun t=>aN m t&& !isNone (cq (S.rs.getD t .none))
def gP (ids:List Nat)(S:Snap)(l:List Nat):List Nat:=l.filter fun j=> !mf (cU ids S.os j)
def fJ:Res2:=⟨.is [DE],none,[],0,[]⟩
theorem kN (Φ:aJ)(N:Nat)(ρ:Env)(x:Out):fJ.pc.ev Φ N ρ≠some x:=by
 intro h;simp[fJ,PC.ev,PI.runs,PI.run,DE,PE.ev,D.b_bool] at h
theorem kO:(∀t,t∈fJ.pc.modR→aN fJ.mr t=true)∧∀j,j∈fJ.pc.modO→j∈fJ.mo:=by
 constructor<;>intro t h<;>simp[fJ,PC.modR,PC.modO,PI.modR,PI.modO,DE] at h
def cg:Code→List Nat
 |.region _ ops _=>ops.toList.filterMap (·.dst)
 |.seq a b=>cg a++cg b
 |.cond _ a b=>cg a++cg b
 |.block _ a=>cg a
 |.loop a=>cg a
 |_=>[]
def uX (l:List Nat):Nat:=l.foldr (fun t m=>Nat.lor (fO t) m) 0
def qG (m:Nat):Nat→List Sh→List Sh
 |_,[]=>[]
 |t,s::l=>(bif aN m t then .none else s)::qG m (t+1) l
def Snap.mask (m:Nat)(S:Snap):Snap:=⟨qG m 0 S.rs,S.os⟩
def qw:Sh→Sh
 |.yv=>.none
 |s=>s
def py:List Nat→List Ty→List Sh→List Sh
 |p::ps,y::ys,l=>py ps ys (l.set p (.dat y))
 |_,_,l=>l
def Snap.start (ps:List Nat)(ys:List Ty)(S:Snap):Snap:=⟨py ps ys (S.rs.map qw),S.os⟩
def W8 (ids:List Nat)(l:List Snap)(mo:List Nat):List Nat:=mo.filter fun j=>l.any fun S=> !mf (cU ids S.os j)
def aov (wm:Nat)(ra rb:Res2):Res2:=
 let m:=Nat.lor wm (Nat.lor ra.mr rb.mr)
 ⟨.seq ra.pc rb.pc,rb.out.map (Snap.mask m),rb.ex.map (fun x=>(x.1,x.2.mask m)),m,gU ra.mo rb.mo⟩
def fu (ids:List Nat)(id:Nat)(r:Res2):Res2:=
    match mh id r.ex r.out with
    |some M=>⟨.block id (iY M r.mr) (gP ids M r.mo) r.pc,some M,r.ex.filter fun x=> !Nat.beq x.1 id,r.mr,r.mo⟩
    |none=>⟨.block id [] [] r.pc,none,r.ex.filter fun x=> !Nat.beq x.1 id,r.mr,r.mo⟩
def sr:List (Nat×Nat)→Nat→Option Nat
 |[],_=>none
 |x::l,t=>bif Nat.beq x.1 t then some x.2 else sr l t
def jG (pr:Nat):List Oper→List (Nat×Nat)→Option (List (Nat×Nat))
 |[],acc=>some acc
 |o::l,acc=>
  match o.dst,o.guard with
  |some d,none=>
   bif Nat.beq d pr||(sr acc d).isSome then none else
   match o.op with
   |.extract (.tmp t) i=>bif Nat.beq t pr&&Nat.ble i 1 then jG pr l (acc++[(d,i)]) else none
   |.assign (.tmp t)=>(sr acc t).bind fun i=>jG pr l (acc++[(d,i)])
   |.move (.tmp t)=>(sr acc t).bind fun i=>jG pr l (acc++[(d,i)])
   |_=>none
  |_,_=>none
structure MP where
 it:Nat
 nx:Nat
 mo:Nat
 out:Nat
 next:Nat
 pr:Nat
 ops1:Array Oper
 ops2:Array Oper
 aa:List (Nat×Nat)
 deriving Inhabited
def yz (x y:Code)(k:Nat)(z:Code):Option MP:=
 match x,y,z with
 |.region _ ops1 false,.cond (.tmp mo) .skip (.exit out),.region _ ops2 false=>
  match ops1.toList,ops2.toList with
  |[o1,o2],o3::l=>
   match o1.dst,o1.guard,o1.op,o2.dst,o2.guard,o2.op,o3.dst,o3.guard,o3.op with
   |some nx,none,.next (.tmp it) false,some mo',none,.extract (.tmp XB) 0,some pr,none,.entry (.tmp Wy)=>
    bif Nat.beq mo mo'&&Nat.beq nx XB&&Nat.beq it Wy&& !Nat.beq it nx&& !Nat.beq it mo&& !Nat.beq it pr&& !Nat.beq nx mo&& !Nat.beq out cD&& !Nat.beq k cD then
     (jG pr l []).map fun aa=>⟨it,nx,mo,out,k,pr,ops1,ops2,aa⟩
    else none
   |_,_,_,_,_,_,_,_,_=>none
  |_,_=>none
 |_,_,_=>none
def uQ:List Nat→Nat→List Ob→List Ob
 |i::is,J,o::os=>(bif Nat.beq i J then .dead else o)::uQ is J os
 |_,_,os=>os
def Snap.kill (ids:List Nat)(J:Nat)(S:Snap):Snap:=⟨S.rs,uQ ids J S.os⟩
def Wv (J:Nat)(kt et:Ty)(ids:List Nat)(p:MP)(m:Nat)(S:Snap):Bool:=
 Sh.beq (S.rs.getD p.it .none) (.obj J 0)&&Ob.beq (cU ids S.os J) (.it kt et)&& !aN m p.it
def yA (ids:List Nat)(n:Nat)(p:MP)(ws:List Nat)(f:Snap→Option Res2)(S:Snap):Option Res2:=
 match cq (S.rs.getD p.it .none) with
 |.obj J 0=>
  match cU ids S.os J with
  |.it kt et=>
   let ps:=p.aa.map (·.1)
   let ys:=p.aa.map fun x=>bif Nat.beq x.2 0 then kt else et
   let m:=uX ws
   match iter (fun S=>(f ((S.mask m).start ps ys)).map (fu ids p.next)) 8 S with
   |some r=>
    bif r.2.ex.isEmpty&& !eE r.2.mo J&&Wv J kt et ids p m r.1&&iI ps&&ps.all (fun t=>Nat.blt t n)&&Nat.blt p.nx n&&Nat.blt p.mo n&&Nat.blt p.pr n&&Nat.beq (Nat.lor m r.2.mr) m then
       some ⟨.seq (.meach J ps (p.aa.map (·.2)) (gP ids r.1 r.2.mo) r.2.pc) (.exit p.out),none,[(p.out,(r.1.mask m).kill ids J)],0,r.2.mo⟩
    else some fJ
   |none=>some fJ
  |_=>some fJ
 |_=>some fJ
def comp (C:Ctx)(fn:Func)(s:Sig)(n:Nat)(ids:List Nat)(R:Array Oper→Bool→Snap→Option (Snap×List PI)):Bool→Code→Snap→Option Res2
 |_,.skip,S=>some ⟨.skip,some S,[],0,[]⟩
 |_,.region _ ops draw,S=>(R ops draw S).map fun r=>⟨.is r.2,some r.1,[],G8 r.2,XE r.2⟩
 |rm,.seq a b,S=>(comp C fn s n ids R rm a S).bind fun r=>
  match r.out with
  |none=>some r
  |some S1=>(comp C fn s n ids R rm b S1).map fun q=>⟨.seq r.pc q.pc,q.out,r.ex++q.ex,Nat.lor r.mr q.mr,gU r.mo q.mo⟩
 |rm,.cond c a b,S=>
  match use C (S.st ids) [] c with
  |some (.bool,e)=>
   (comp C fn s n ids R rm a S).bind fun r=>(comp C fn s n ids R rm b S).map fun q=>
     match kE r.out q.out with
     |some M=>⟨.ite e (iY M (Nat.lor r.mr q.mr)) (gP ids M (gU r.mo q.mo)) r.pc q.pc,some M,r.ex++q.ex,Nat.lor r.mr q.mr,gU r.mo q.mo⟩
     |none=>⟨.ite e [] [] r.pc q.pc,none,r.ex++q.ex,Nat.lor r.mr q.mr,gU r.mo q.mo⟩
  |_=>some fJ
 |rm,.block id a,S=>bif Nat.beq id cD then some fJ else(comp C fn s n ids R rm a S).map (fu ids id)
 |rm,.loop (.seq x (.seq y (.block k (.seq z code)))),S=>
  (match yz x y k z with
  |some p=>yA ids n p (cg x++(cg y++(cg z++cg code))) (fun S=>comp C fn s n ids R rm code S) S
  |none=>
  match iter (fun S=>comp C fn s n ids R rm (.seq x (.seq y (.block k (.seq z code)))) S) 8 S with
  |some r=>some ⟨.loop (iY r.1 r.2.mr) (gP ids r.1 r.2.mo) r.2.pc,none,r.2.ex,r.2.mr,r.2.mo⟩
  |none=>some fJ)
 |rm,.loop a,S=>
  match iter (fun S=>comp C fn s n ids R rm a S) 8 S with
  |some r=>some ⟨.loop (iY r.1 r.2.mr) (gP ids r.1 r.2.mo) r.2.pc,none,r.2.ex,r.2.mr,r.2.mo⟩
  |none=>some fJ
 |_,.exit id,S=>bif Nat.beq id cD then some fJ else some ⟨.exit id,none,[(id,S)],0,[]⟩
 |rm,.ret,S=>
  bif rm then some ⟨.exit cD,none,[(cD,S)],0,[]⟩ else
  match vE C fn s (S.st ids) with
  |some e=>some ⟨.ret e,none,[],0,[]⟩
  |none=>some fJ
 |rm,.rangeFunc g ps a b,S=>
  match rm,C.yl,use C (S.st ids) [] g with
  |false,none,some (.fn aa r,e)=>
   match lE aa r with
   |some ys=>
    match iter (fun S=>(comp C fn s n ids R true a (S.start ps.toList ys)).bind fun ra=>
          match ra.out,ra.ex with
          |some S1,[]=>(comp C fn s n ids R true b S1).map (aov (uX (ps.toList++cg a++cg b)) ra)
          |_,_=>none) 8 S with
    |some r=>
     bif Nat.beq ys.length ps.size&&iI ps.toList&&ps.toList.all (fun p=>Nat.blt p n)&&Nat.ble r.1.rs.length n then
           some ⟨.seq (.is [.callc [] n e []]) (.each (.r n) ps.toList (W8 ids (r.1::r.2.ex.map (·.2)) r.2.mo) ((mh cD r.2.ex none).bind fun M=>vE C fn s (M.st ids)) r.2.pc),
            some r.1,r.2.ex.filter (fun x=> !Nat.beq x.1 cD),fO n,r.2.mo⟩
     else some fJ
    |none=>some fJ
   |none=>some fJ
  |_,_,_=>some fJ
 |_,_,_=>some fJ
termination_by structural _ c=>c
def uV:Code→Option (MP×Code×List Nat)
 |.seq x (.seq y (.block k (.seq z code)))=>(yz x y k z).map fun p=>(p,code,cg x++(cg y++(cg z++cg code)))
 |_=>none
theorem T2 (C:Ctx)(fn:Func)(s:Sig)(n:Nat)(ids:List Nat)(R:Array Oper→Bool→Snap→Option (Snap×List PI))(rm:Bool)(a:Code)(S:Snap):comp C fn s n ids R rm (.loop a) S=
 match uV a with
 |some q=>yA ids n q.1 q.2.2 (fun S=>comp C fn s n ids R rm q.2.1 S) S
 |none=>
  match iter (fun S=>comp C fn s n ids R rm a S) 8 S with
  |some r=>some ⟨.loop (iY r.1 r.2.mr) (gP ids r.1 r.2.mo) r.2.pc,none,r.2.ex,r.2.mr,r.2.mo⟩
  |none=>some fJ:=by
 by_cases h:∃x y k z code,a=.seq x (.seq y (.block k (.seq z code)))
 ·obtain⟨x,y,k,z,code,rfl⟩:=h
  conv=>lhs;unfold comp
  simp only[uV];cases yz x y k z<;>rfl
 ·have e:uV a=none:=by
   unfold uV;split
   ·rename_i x y k z code;exact absurd ⟨x,y,k,z,code,rfl⟩ h
   ·rfl
  rw[e];rw[comp];intro x y k z code e;exact h ⟨x,y,k,z,code,e⟩
def subs:Code→List Code
 |.seq a b=>.seq a b::(subs a++subs b)
 |.cond c a b=>.cond c a b::(subs a++subs b)
 |.block i a=>.block i a::subs a
 |.loop a=>.loop a::subs a
 |.rangeFunc g ps a b=>.rangeFunc g ps a b::(subs a++subs b)
 |c=>[c]
theorem ao7 (c:Code):c∈subs c:=by cases c<;>simp[subs]
theorem axq {a code:Code}{p:MP}{ws:List Nat}(h:uV a=some (p,code,ws)):code∈subs a:=by
 unfold uV at h;split at h
 ·simp only[ax] at h;obtain⟨q,_,e⟩:=h;cases e;simp[subs,ao7]
 ·cases h
def JB (C:Ctx)(n:Nat)(ids:List Nat)(Φ:aJ)(R:Array Oper→Bool→Snap→Option (Snap×List PI)):Prop:=
 ∀(id:Nat) (ops:Array Oper) (draw:Bool) (S:Snap) (r:Snap×List PI),R ops draw S=some r→
  ∀(rd:Option Nat) (w0:World) (σ0:Base) (ρ ρ':Env) (a:Act) (w:World) (Q:Exit→Act→World→Prop),CtxOK C σ0→pM C Φ w0 σ0→a.tmps.size=n→Good C w0 σ0 (S.st ids) ρ (fun _=>False) a w→PI.runs Φ r.2 ρ=some ρ'→
   (∀a' w',SameBut (xw ops) a a'→Good C w0 σ0 (r.1.st ids) ρ' (fun _=>False) a' w'→Q .normal a' w')→(Code.region id ops draw).wpIn (FR rd) 0 C.P Q a w
section
variable {C:Ctx} {ρ ρ':Env} {σ:Im} {own:Nat→Option Nat} {hv:Nat→Value} {w0:World} {σ0:Base} {A:Nat→Prop} {a:Act} {w:World} {Φ:aJ} {n:Nat} {ids:List Nat} {fn:Func} {s:Sig}
 {R:Array Oper→Bool→Snap→Option (Snap×List PI)}
def fM (C:Ctx)(w0:World)(σ0:Base)(ids:List Nat)(fn:Func)(s:Sig)(rm:Bool)(wr:Nat→Prop)(a0:Act)(out:Option Snap)(ex:List (Nat×Snap))(x:Out):Exit→Act→World→Prop
 |.normal,a,w=>∃ρ S,x=.next ρ∧out=some S∧SameBut wr a0 a∧Good C w0 σ0 (S.st ids) ρ (fun _=>False) a w
 |.exit id,a,w=>∃ρ S,x=.exit id ρ∧id≠cD∧(id,S)∈ex∧SameBut wr a0 a∧Good C w0 σ0 (S.st ids) ρ (fun _=>False) a w
 |.ret,a,w=>match rm with
  |false=>∃d,x=.ret d∧nZ C w0 σ0 fn s d a.tmps a.defers w∧SameBut wr a0 a
  |true=>∃ρ S,x=.exit cD ρ∧(cD,S)∈ex∧SameBut wr a0 a∧Good C w0 σ0 (S.st ids) ρ (fun _=>False) a w
 |_,_,_=>False
theorem Good.meet1 {x y:Snap}(h:Good C w0 σ0 (x.st ids) ρ A a w):Good C w0 σ0 ((x.meet y).st ids) ρ (fun _=>False) a w:=by
 obtain⟨σ,own,hv,h⟩:=h;exact⟨σ,own,hv,Snap.meet_ok1 h⟩
theorem Good.meet2 {x y:Snap}(h:Good C w0 σ0 (y.st ids) ρ A a w):Good C w0 σ0 ((x.meet y).st ids) ρ (fun _=>False) a w:=by
 obtain⟨σ,own,hv,h⟩:=h;exact⟨σ,own,hv,Snap.meet_ok2 h⟩
theorem Xm {x:Snap}{y:Option Snap}{M:Snap}(h:Good C w0 σ0 (x.st ids) ρ (fun _=>False) a w)(hm:kE (some x) y=some M):Good C w0 σ0 (M.st ids) ρ (fun _=>False) a w:=by
 cases y<;>simp[kE] at hm<;>subst hm
 ·exact h
 ·exact h.meet1
theorem Xn {x:Option Snap}{y:Snap}{M:Snap}(h:Good C w0 σ0 (y.st ids) ρ (fun _=>False) a w)(hm:kE x (some y)=some M):Good C w0 σ0 (M.st ids) ρ (fun _=>False) a w:=by
 cases x<;>simp[kE] at hm<;>subst hm
 ·exact h
 ·exact h.meet2
theorem Xo {x:Snap}{y:Option Snap}:∃M,kE (some x) y=some M:=by cases y<;>simp[kE]
theorem Xp {x:Option Snap}{y:Snap}:∃M,kE x (some y)=some M:=by cases x<;>simp[kE]
theorem G9 {id:Nat}:∀(l:List (Nat×Snap)) {x:Snap},Good C w0 σ0 (x.st ids) ρ (fun _=>False) a w→∃M,mh id l (some x)=some M∧Good C w0 σ0 (M.st ids) ρ (fun _=>False) a w
 |[],x,h=>⟨x,rfl,h⟩
 |y::l,x,h=>by
  simp only[mh];cases Nat.beq y.1 id
  ·exact G9 l h
  ·obtain⟨M,hM⟩:=@Xo x (some y.2);simp only[cond_true,hM];exact G9 l (Xm h hM)
theorem Nq {id:Nat}{S:Snap}(h:Good C w0 σ0 (S.st ids) ρ (fun _=>False) a w):∀(l:List (Nat×Snap)) (x:Option Snap),(id,S)∈l→∃M,mh id l x=some M∧Good C w0 σ0 (M.st ids) ρ (fun _=>False) a w
 |y::l,x,hm=>by
  simp only[mh];rcases cG.1 hm with e|hm
  ·subst e;simp only[jn,cond_true];obtain⟨M,hM⟩:=@Xp x S;rw[hM];exact G9 l (Xn h hM)
  ·exact Nq h l _ hm
theorem Ca {step:Snap→Option Res2}:∀(k:Nat) {S:Snap} {r:Snap×Res2},iter step k S=some r→
 step r.1=some r.2∧(∀T,r.2.out=some T→r.1.meet T=r.1)∧∀{ρ:Env} {a:Act} {w:World},Good C w0 σ0 (S.st ids) ρ (fun _=>False) a w→Good C w0 σ0 (r.1.st ids) ρ (fun _=>False) a w
 |0,S,r,h=>by simp[iter] at h
 |k+1,S,r,h=>by
  simp only[iter,au] at h;obtain⟨q,hq,h⟩:=h;split at h
  ·rename_i ho;cases h;exact⟨hq,fun T hT=>by simp[ho] at hT,fun g=>g⟩
  ·rename_i T ho;cases hb:(S.meet T).beq S<;>simp only[hb,cond_true,cond_false] at h
   ·obtain⟨h1,h2,h3⟩:=Ca k h;exact⟨h1,h2,fun g=>h3 g.meet1⟩
   ·cases h;refine⟨hq,fun T' hT=>?_,fun g=>g⟩;simp only[ho,aS] at hT;subst hT;exact Snap.beq_eq _ _ hb
theorem Wz {step:Snap→Option Res2}{hv:Nat→Value}:∀(k:Nat) {S:Snap} {r:Snap×Res2},iter step k S=some r→Inv C (S.st ids) ρ σ own hv w0 σ0 (fun _=>False) a w→Inv C (r.1.st ids) ρ σ own hv w0 σ0 (fun _=>False) a w
 |0,S,r,h,_=>by simp[iter] at h
 |k+1,S,r,h,i=>by
  simp only[iter,au] at h;obtain⟨q,hq,h⟩:=h;split at h
  ·cases h;exact i
  ·rename_i T ho;cases hb:(S.meet T).beq S<;>simp only[hb,cond_true,cond_false] at h
   ·exact Wz k h (Snap.meet_ok1 i)
   ·cases h;exact i
theorem Good.joined {M:Snap}{m:Nat}{mo mr' mo':List Nat}(h:Good C w0 σ0 (M.st ids) ρ' (fun _=>False) a w)(hb:ρ.but ρ' mr' mo')(h1:∀t,t∈mr'→aN m t=true)(h2:∀j,j∈mo'→j∈mo):
 Good C w0 σ0 (M.st ids) (ρ.join (iY M m) (gP ids M mo) ρ') (fun _=>False) a w:=by
 obtain⟨σ,own,hv,h⟩:=h;refine⟨σ,own,hv,h.env (Snap.noOpt _ _) (fun t ht=>?_) (fun j hj=>?_)⟩
 ·simp only[Env.join,Env.put,qP];split
  ·rfl
  ·rename_i hm;refine(hb.r t fun BC=>hm ?_).symm;have af:t<M.rs.length:=by
        refine S5 fun hle=>?_;simp only[Snap.st,aI,kU hle,Option.getD_none,cq,isNone] at ht;cases ht
   exact fa.2 ⟨fp.2 af,by rw[h1 t BC];simpa [Snap.st] using ht⟩
 ·simp only[Env.join,Env.put,qP];split
  ·rfl
  ·rename_i hm;refine(hb.o j fun BC=>hm ?_).symm;exact fa.2 ⟨h2 j BC,by simpa [Snap.st] using hj⟩
theorem Ha {S:Snap}{m t:Nat}(h:t∈iY S m):aN m t=true:=by
 have:=(fa.1 h).2;simp only[aq] at this;exact this.1
theorem yB {S:Snap}{l:List Nat}{j:Nat}(h:j∈gP ids S l):j∈l:=(fa.1 h).1
theorem TE {id:Nat}{q:Res2}(h:(∀t,t∈q.pc.modR→aN q.mr t=true)∧∀j,j∈q.pc.modO→j∈q.mo):(∀t,t∈(fu ids id q).pc.modR→aN (fu ids id q).mr t=true)∧∀j,j∈(fu ids id q).pc.modO→j∈(fu ids id q).mo:=by
 unfold fu;cases hm:mh id q.ex q.out<;>simp only
 ·simpa [PC.modR,PC.modO] using h
 ·refine⟨fun t ht=>?_,fun j hj=>?_⟩
  ·simp only[PC.modR,cS] at ht;exact ht.elim Ha (h.1 t)
  ·simp only[PC.modO,cS] at hj;exact hj.elim yB (h.2 j)
theorem al6 {p:MP}{ws:List Nat}{f:Snap→Option Res2}{S:Snap}{r:Res2}(h:yA ids n p ws f S=some r):(∀t,t∈r.pc.modR→aN r.mr t=true)∧∀j,j∈r.pc.modO→j∈r.mo:=by
 unfold yA at h;split at h
 case h_2=>cases h;exact kO
 split at h
 case h_2=>cases h;exact kO
 simp only at h;split at h
 case h_2=>cases h;exact kO
 rw[mJ] at h;split at h
 ·cases h;refine⟨fun t ht=>by simp[PC.modR] at ht,fun j hj=>?_⟩;simp only[PC.modO,rf] at hj;exact yB hj
 ·cases h;exact kO
theorem rz:∀(c:Code) {rm:Bool} {S:Snap} {r:Res2},comp C fn s n ids R rm c S=some r→(∀t,t∈r.pc.modR→aN r.mr t=true)∧∀j,j∈r.pc.modO→j∈r.mo:=by
 intro c
 induction c with
 |skip=>intro rm S r h;simp only[comp,aS] at h;subst h;simp[PC.modR,PC.modO]
 |region id ops draw=>
  intro rm S r h;simp only[comp,ax] at h;obtain⟨q,_,rfl⟩:=h;exact⟨fun t ht=>Xf _ ht,fun j hj=>ami _ hj⟩
 |seq x y gN uN=>
  intro rm S r h;simp only[comp,au] at h;obtain⟨q,hq,h⟩:=h;split at h
  ·cases h;exact gN hq
  ·simp only[ax] at h;obtain⟨p,hp,rfl⟩:=h;refine⟨fun t ht=>?_,fun j hj=>?_⟩
   ·simp only[PC.modR,cS] at ht;rw[fq,jh];exact ht.imp ((gN hq).1 t) ((uN hp).1 t)
   ·simp only[PC.modO,cS] at hj;rw[nw];exact hj.imp ((gN hq).2 j) ((uN hp).2 j)
 |cond c x y gN uN=>
  intro rm S r h;simp only[comp] at h;split at h
  case h_2=>cases h;exact kO
  rename_i e _;simp only[au,ax] at h;obtain⟨q,hq,p,hp,rfl⟩:=h;cases hm:kE q.out p.out<;>simp only[hm]
  ·refine⟨fun t ht=>?_,fun j hj=>?_⟩
   ·simp only[PC.modR,cS,tn] at ht;rw[fq,jh];exact ht.imp ((gN hq).1 t) ((uN hp).1 t)
   ·simp only[PC.modO,cS,tn] at hj;rw[nw];exact hj.imp ((gN hq).2 j) ((uN hp).2 j)
  ·refine⟨fun t ht=>?_,fun j hj=>?_⟩
   ·simp only[PC.modR,cS] at ht;rw[fq,jh];rcases ht with(ht|ht)|ht
    ·have:=Ha ht;rw[fq,jh] at this;exact this
    ·exact .inl ((gN hq).1 t ht)
    ·exact .inr ((uN hp).1 t ht)
   ·simp only[PC.modO,cS] at hj;rcases hj with(hj|hj)|hj
    ·exact yB hj
    ·exact nw.2 (.inl ((gN hq).2 j hj))
    ·exact nw.2 (.inr ((uN hp).2 j hj))
 |block id x gN=>
  intro rm S r h;simp only[comp] at h;cases ct:Nat.beq id cD<;>simp only[ct,cond_true,cond_false] at h
  case true=>cases h;exact kO
  simp only[ax] at h;obtain⟨q,hq,rfl⟩:=h;exact TE (gN hq)
 |loop x gN=>
  intro rm S r h;rw[T2] at h;split at h
  ·exact al6 h
  split at h
  case h_2=>cases h;exact kO
  rename_i q hq;cases h;have hs:=(Ca (C:=C) (w0:=default) (σ0:=Base.mk0 ⟨fun _ _=>none,fun _=>none⟩ 0) (ids:=ids) 8 hq).1;refine⟨fun t ht=>?_,fun j hj=>?_⟩
  ·simp only[PC.modR,cS] at ht;exact ht.elim Ha ((gN hs).1 t)
  ·simp only[PC.modO,cS] at hj;exact hj.elim yB ((gN hs).2 j)
 |exit id=>
  intro rm S r h;simp only[comp] at h;cases ct:Nat.beq id cD<;>simp only[ct,cond_true,cond_false] at h<;>cases h
  ·simp[PC.modR,PC.modO]
  ·exact kO
 |ret=>
  intro rm S r h;simp only[comp] at h;cases rm<;>simp only[cond_true,cond_false] at h
  case true=>cases h;simp[PC.modR,PC.modO]
  split at h
  ·cases h;simp[PC.modR,PC.modO]
  ·cases h;exact kO
 |rangeFunc g ps x y _ _=>
  intro rm S r h;simp only[comp] at h;split at h
  case h_2=>cases h;exact kO
  split at h
  case h_2=>cases h;exact kO
  split at h
  case h_2=>cases h;exact kO
  rename_i q hq;rw[mJ] at h;split at h
  ·cases h;refine⟨fun t ht=>?_,fun j hj=>?_⟩
   ·simp[PC.modR,PI.modR] at ht;subst ht;exact og _
   ·simp only[PC.modO,PI.modO,zE,List.flatMap_nil,rf,tn] at hj;exact(fa.1 hj).1
  ·cases h;exact kO
 |_=>intro rm S r h;simp only[comp,aS] at h;subst h;exact kO
theorem fM.mono {rm:Bool}{wr:Nat→Prop}{a0 a1:Act}{out Zc:Option Snap}{ex Ur:List (Nat×Snap)}{x:Out}{e:Exit}(h:fM C w0 σ0 ids fn s rm wr a0 out ex x e a w)(he:∀y,y∈ex→y∈Ur)(hs:SameBut wr a1 a0)
 (ho:e=.normal→Zc=out):fM C w0 σ0 ids fn s rm wr a1 Zc Ur x e a w:=by
 cases e with
 |normal=>obtain⟨ρ,S,h1,h2,h3,h4⟩:=h;exact⟨ρ,S,h1,by rw[ho rfl];exact h2,hs.trans h3,h4⟩
 |exit id=>obtain⟨ρ,S,h1,h2,h3,h4,h5⟩:=h;exact⟨ρ,S,h1,h2,he _ h3,hs.trans h4,h5⟩
 |ret=>
  cases rm with
  |false=>obtain⟨d,h1,h2,h3⟩:=h;exact⟨d,h1,h2,hs.trans h3⟩
  |true=>obtain⟨ρ,S,h1,h3,h4,h5⟩:=h;exact⟨ρ,S,h1,he _ h3,hs.trans h4,h5⟩
 |_=>exact h.elim
theorem Uh {body:Env→Option Out}{ρ:Env}{ps lo:List Nat}{rt:Option PE}{x:Out}:∀{xs vo:List D},fw body ρ ps lo rt xs vo=some x→
 ∃(m:Nat) (kR:Nat→List D),m≤xs.length∧kR 0=vo∧
  (∀i,i<m→∃y ρ',xs[i]?=some y∧body (ρ.put ps (partsOf ps y) lo (kR i))=some (.next ρ')∧lo.map ρ'.o=kR (i+1))∧
  ((m=xs.length∧x=.next (ρ.put [] [] lo (kR m)))∨
   (m<xs.length∧∃y id ρ',xs[m]?=some y∧body (ρ.put ps (partsOf ps y) lo (kR m))=some (.exit id ρ')∧
    ((id≠cD∧x=.exit id (ρ.put [] [] lo (lo.map ρ'.o)))∨(id=cD∧∃e,rt=some e∧x=.ret (e.ev (ρ.put [] [] lo (lo.map ρ'.o)))))))
 |[],vo,h=>by
  simp only[fw,aS] at h;exact⟨0,fun _=>vo,aU _,rfl,fun i hi=>by omega,.inl ⟨rfl,h.symm⟩⟩
 |y::xs,vo,h=>by
  simp only[fw] at h;split at h
  ·rename_i ρ' hb;obtain⟨m,kR,h1,h2,h3,h4⟩:=Uh h;refine⟨m+1,fun i=>match i with|0=>vo|i+1=>kR i,by simp;omega,rfl,fun i hi=>?_,?_⟩
   ·cases i with
    |zero=>exact⟨y,ρ',rfl,hb,h2.symm⟩
    |succ i=>simpa using h3 i (by omega)
   ·rcases h4 with⟨e1,e2⟩|⟨e1,z,id,ρ2,e2,e3,e4⟩
    ·exact .inl ⟨by simp[e1],e2⟩
    ·exact .inr ⟨by simp;omega,z,id,ρ2,by simpa using e2,e3,e4⟩
  ·rename_i id ρ' hb;refine⟨0,fun _=>vo,mQ _,rfl,fun i hi=>by omega,.inr ⟨by simp,y,id,ρ',rfl,hb,?_⟩⟩;cases ct:Nat.beq id cD<;>simp only[ct,cond_true,cond_false] at h
   ·refine .inl ⟨fun e=>?_,(zI h).symm⟩;subst e;simp at ct
   ·simp only[ax] at h;obtain⟨e,he,e2⟩:=h;exact .inr ⟨aw ct,e,he,e2.symm⟩
  ·cases h
theorem TC {l:List Nat}{t:Nat}(h:t∈l):aN (uX l) t=true:=by
 induction l with
 |nil=>cases h
 |cons x l ih=>
  have e:uX (x::l)=Nat.lor (fO x) (uX l):=rfl;rw[e,fq];rcases cG.1 h with e|e
  ·subst e;rw[og];rfl
  ·rw[ih e];simp
theorem Nn (m:Nat):∀(l:List Sh) (k t:Nat),(qG m k l).getD t .none=if aN m (k+t)=true then .none else l.getD t .none
 |[],k,t=>by simp[qG]
 |s::l,k,0=>by
  simp only[qG,rh,lU];cases aN m k<;>rfl
 |s::l,k,t+1=>by
  simp only[qG,DW];rw[Nn m l (k+1) t,show k+1+t=k+(t+1) by omega]
theorem Ch (m:Nat)(S:Snap)(t:Nat):((S.mask m).st ids).r t=if aN m t=true then .none else(S.st ids).r t:=by
 show cq ((qG m 0 S.rs).getD t .none)=if aN m t=true then .none else cq (S.rs.getD t .none);rw[Nn,jo];split<;>rfl
theorem amd {m:Nat}{x S:Snap}{t:Nat}(h:aN m t=true):((x.meet (S.mask m)).st ids).r t=.none:=by
 show cq ((List.zipWith gQ x.rs (qG m 0 S.rs)).getD t .none)=.none;rcases Jo (f:=gQ) x.rs (qG m 0 S.rs) t with h0|⟨s,u,h1,h2,h3⟩
 ·rw[h0];rfl
 ·rw[Nn,jo,if_pos h] at h2;subst h2;rw[h3];cases s<;>rfl
theorem Inv.maskR {S:Snap}{hv:Nat→Value}(h:Inv C (S.st ids) ρ σ own hv w0 σ0 A a w)(m:Nat):Inv C ((S.mask m).st ids) ρ σ own hv w0 σ0 (fun _=>False) a w:=by
 have hc:Compat (S.st ids) hv ((S.mask m).st ids) hv:=⟨fun _=>aU _,fun _ _=>rfl⟩
 refine h.weaken (fun t=>?_) (fun j=>?_) (Snap.noOpt _ _) (fun j hj=>⟨hj,rfl⟩)
 ·refine aF.mono' (ρ:=ρ) (.refl σ) hc (Snap.noOpt _ _ t) ?_;rw[Ch];split
  ·trivial
  ·exact h.regs t
 ·exact(h.objs j).mono (.refl σ) hc rfl rfl (fun k hk=>⟨hk,rfl⟩)
theorem P7:∀(ps:List Nat) (ys:List Ty) (l:List Sh),ps.length=ys.length→iI ps=true→∀t,(py ps ys l).getD t .none=.none∨(t∉ps∧(py ps ys l).getD t .none=l.getD t .none)∨∃(i:Nat) (y:Ty),ps[i]?=some t∧ys[i]?=some y∧(py ps ys l).getD t .none=.dat y
 |[],ys,l,_,_,t=>.inr (.inl ⟨by simp,by cases ys<;>rfl⟩)
 |p::ps,[],l,h,_,t=>by simp at h
 |p::ps,y::ys,l,h,hn,t=>by
  have jZ:=nz hn;rw[mM] at jZ;have dI:iI ps=true:=by
   simp only[iI,aq] at hn;exact hn.2
  show(py ps ys (l.set p (.dat y))).getD t .none=_∨_∨_;rcases P7 ps ys (l.set p (.dat y)) (by simpa using h) dI t with e|⟨e1,e2⟩|⟨i,z,e1,e2,e3⟩
  ·exact .inl e
  ·by_cases hp:t=p
   ·subst hp;by_cases af:t<l.length
    ·exact .inr (.inr ⟨0,y,rfl,rfl,by show(py ps ys (l.set t (.dat y))).getD t .none=_;rw[e2];simp[aI,af]⟩)
    ·left;rw[e2];simp[aI,af]
   ·refine .inr (.inl ⟨by simp[hp,e1],?_⟩);show(py ps ys (l.set p (.dat y))).getD t .none=_;rw[e2];simp only[aI,zF];rw[if_neg (fun e=>hp e.symm)]
  ·exact .inr (.inr ⟨i+1,z,by simpa using e1,by simpa using e2,e3⟩)
def kL:List Nat→List Value→Array Value→Array Value
 |p::ps,v::vs,T=>kL ps vs (T.setIfInBounds p v)
 |_,_,T=>T
theorem aoO (ps:Array Nat)(vs:Array Value)(T:Array Value):(ps.zip vs).foldl (fun T x=>T.setIfInBounds x.1 x.2) T=kL ps.toList vs.toList T:=by
 rw[←Array.foldl_toList,Array.toList_zip];generalize ps.toList=l;generalize vs.toList=k
 induction l generalizing k T with
 |nil=>rfl
 |cons p l ih=>
  cases k with
  |nil=>rfl
  |cons v k=>simpa [kL] using ih (T.setIfInBounds p v) k
theorem aaT:∀(ps:List Nat) (vs:List Value) (T:Array Value),(kL ps vs T).size=T.size
 |[],vs,T=>by cases vs<;>rfl
 |p::ps,[],T=>rfl
 |p::ps,v::vs,T=>by simp[kL,aaT ps vs]
theorem IQ:∀(ps:List Nat) (vs:List Value) (T:Array Value) (t:Nat),t∉ps→(kL ps vs T).getD t undef=T.getD t undef
 |[],vs,T,t,_=>by cases vs<;>rfl
 |p::ps,[],T,t,_=>rfl
 |p::ps,v::vs,T,t,h=>by
  simp only[cG,not_or] at h;simp only[kL];rw[IQ ps vs _ t h.2];simp only[eY,zx];rw[if_neg (fun e=>h.1 e.symm)]
theorem aaS:∀(ps:List Nat) (vs:List Value) (T:Array Value) (i t:Nat),ps.Nodup→ps.length=vs.length→(∀p,p∈ps→p<T.size)→ps[i]?=some t→(kL ps vs T).getD t undef=vs.getD i undef
 |p::ps,v::vs,T,0,t,hn,hl,af,h=>by
  simp at h;subst h;rw[mM] at hn;simp only[kL];rw[IQ ps vs _ p hn.1];simp[zx,af p (ej ..)]
 |p::ps,v::vs,T,i+1,t,hn,hl,af,h=>by
  rw[mM] at hn;simp only[kL];have:=aaS ps vs (T.setIfInBounds p v) i t hn.2 (by simpa using hl) (fun q hq=>by simpa using af q (dY _ hq)) (by simpa using h);simpa using this
 |p::ps,[],T,i,t,hn,hl,af,h=>by simp at hl
 |[],vs,T,i,t,hn,hl,af,h=>by simp at h
theorem yN (f:Nat→D):∀(ps:List Nat) (vs:List D) (t:Nat),t∉ps→putL f ps vs t=f t
 |[],vs,t,_=>by cases vs<;>rfl
 |p::ps,[],t,_=>rfl
 |p::ps,v::vs,t,h=>by
  simp only[cG,not_or] at h;simp only[putL,bp _ _ h.1];exact yN f ps vs t h.2
theorem OD (f:Nat→D):∀(ps:List Nat) (vs:List D) (i t:Nat),ps.Nodup→ps.length=vs.length→ps[i]?=some t→putL f ps vs t=vs.getD i .none
 |p::ps,v::vs,0,t,hn,hl,h=>by
  simp at h;subst h;simp[putL,aK]
 |p::ps,v::vs,i+1,t,hn,hl,h=>by
  rw[mM] at hn;have ht:t∈ps:=jm (by simpa using h);have az:t≠p:=fun e=>hn.1 (e▸ht);simp only[putL,bp _ _ az];have:=OD f ps vs i t hn.2 (by simpa using hl) (by simpa using h);simpa using this
 |p::ps,[],i,t,hn,hl,h=>by simp at hl
 |[],vs,i,t,hn,hl,h=>by simp at h
theorem anl (ps:List Nat)(ds:List D)(i:Nat)(h:i<ps.length):(partsOf ps (.tup ds)).getD i .none=ds.getD i .none:=by
 simp[partsOf,aI,h,D.tget]
theorem ank (ps:List Nat)(x:D):(partsOf ps x).length=ps.length:=by simp[partsOf]
theorem Inv.startR {S:Snap}{hv:Nat→Value}(h:Inv C (S.st ids) ρ σ own hv w0 σ0 A a w){ps:List Nat}{ys:List Ty}{args:List Value}{ds:List D}{lo:List Nat}{vo:List D}(hl:ps.length=ys.length)(bm:iI ps=true)(af:∀p,p∈ps→p<a.tmps.size)(ha:mH C σ ys args ds)
 (hρ:ρ=ρ'.put [] [] lo vo):Inv C ((S.start ps ys).st ids) (ρ'.put ps (partsOf ps (.tup ds)) lo vo) σ own hv w0 σ0 (fun _=>False) {tmps:=kL ps args a.tmps,defers:=[]} w:=by
 obtain⟨a1,a2,a3⟩:=ha;have hn:=nz bm;have hc:Compat (S.st ids) hv ((S.start ps ys).st ids) hv:=⟨fun _=>aU _,fun _ _=>rfl⟩
 have ho:∀j,(ρ'.put ps (partsOf ps (.tup ds)) lo vo).o j=ρ.o j:=fun j=>by rw[hρ];rfl
 refine⟨trivial,h.ok,h.le,h.old,h.newc,h.newm,h.below,h.bw,h.owns,fun t=>?_,fun j=>(h.objs j).mono (.refl σ) hc rfl (ho j) (fun k hk=>⟨hk,rfl⟩),fun t gs s e=>absurd e (Snap.noOpt _ _ t gs s),?_⟩
 ·show aF C _ _ σ hv (cq ((py ps ys (S.rs.map qw)).getD t .none)) ((kL ps args a.tmps).getD t undef) (putL ρ'.r ps (partsOf ps (.tup ds)) t);rcases P7 ps ys (S.rs.map qw) hl bm t with e|⟨e1,e2⟩|⟨i,y,e1,e2,e3⟩
  ·rw[e];trivial
  ·rw[e2,IQ _ _ _ _ e1,yN _ _ _ _ e1];have hr:=h.regs t;change aF C _ ρ σ hv (cq (S.rs.getD t .none)) _ _ at hr;have hρr:ρ.r t=ρ'.r t:=by rw[hρ];show putL ρ'.r [] [] t=_;rfl
   rw[hρr] at hr;have e3:(S.rs.map qw).getD t .none=qw (S.rs.getD t .none):=by
        simp only[aI,cf];cases S.rs[t]?<;>rfl
   rw[e3];generalize S.rs.getD t .none=s at hr;cases s with
   |yv=>trivial
   |opt gs s=>trivial
   |none=>trivial
   |fclo f c=>exact aF.mono' (.refl σ) hc (fun _ _ e=>by cases e) hr
   |agg l=>exact aF.mono' (.refl σ) hc (fun _ _ e=>by cases e) hr
   |dat t=>exact hr
   |obj j v=>exact aF.mono' (.refl σ) hc (fun _ _ e=>by cases e) hr
   |ptr j v o=>exact aF.mono' (.refl σ) hc (fun _ _ e=>by cases e) hr
   |eptr j v o q=>exact aF.mono' (.refl σ) hc (fun _ _ e=>by cases e) hr
  ·rw[e3];have hi:i<ps.length:=(dX.1 e1).1;rw[aaS ps args a.tmps i t hn (by omega) af e1,OD _ ps _ i t hn (by rw[ank]) e1,anl _ _ _ hi];exact a3 i y e2
 ·obtain⟨t,fx,cx,h1,h2⟩:=h.frame;exact⟨t,fx,cx,h1,fun j hj=>⟨(h2 j hj).1,by rw[ho j];exact(h2 j hj).2⟩⟩
def tu (C:Ctx)(Φ:aJ)(fn:Func)(s:Sig)(n:Nat)(ids:List Nat)(R:Array Oper→Bool→Snap→Option (Snap×List PI))(N:Nat)(c:Code):Prop:=
 ∀(rm:Bool) (S:Snap) (r:Res2),comp C fn s n ids R rm c S=some r→∀(rd:Option Nat) (w0:World) (σ0:Base) (wr:Nat→Prop) (ρ:Env) (x:Out) (a:Act) (w:World),(rm=false→rd=none∧σ0.fin)→CtxOK C σ0→pM C Φ w0 σ0→(∀t,t∈cg c→wr t)→a.tmps.size=n→
  Good C w0 σ0 (S.st ids) ρ (fun _=>False) a w→r.pc.ev Φ N ρ=some x→c.wpIn (FR rd) 0 C.P (fM C w0 σ0 ids fn s rm wr a r.out r.ex x) a w
structure Seg (σ:Im) (own:Nat→Option Nat) (w:World) (σ':Im) (own':Nat→Option Nat) (w':World):Prop where
 le:σ.le σ'
 below:Below 0 w w'
 same:∀k,k<w.heap.size→own k=none→w'.heap[k]?=w.heap[k]?
 ow:∀k j,own' k=some j→(∃i,own k=some i)∨w.heap.size≤k
 imm:∀k,((∃o x,σ'.c k o=some x)∨∃x,σ'.m k=some x)→(∃o x,σ.c k o=some x)∨(∃x,σ.m k=some x)∨(∃i,own k=some i)∨w.heap.size≤k
structure Free (L:Nat) (σ:Im) (own:Nat→Option Nat):Prop where
 own:own L=none
 c:∀o,σ.c L o=none
 m:σ.m L=none
theorem Free.seg {L:Nat}{σ':Im}{own':Nat→Option Nat}{w':World}(h:Free L σ own)(hL:L<w.heap.size)(k:Seg σ own w σ' own' w'):Free L σ' own':=by
 have Bq:¬((∃o x,σ'.c L o=some x)∨∃x,σ'.m L=some x):=fun e=>by
  rcases k.imm L e with⟨o,x,e⟩|⟨x,e⟩|⟨i,e⟩|e
  ·rw[h.c o] at e;cases e
  ·rw[h.m] at e;cases e
  ·rw[h.own] at e;cases e
  ·omega
 refine⟨?_,fun o=>?_,?_⟩
 ·cases e:own' L with
  |none=>rfl
  |some j=>
   rcases k.ow L j e with⟨i,e⟩|e
   ·rw[h.own] at e;cases e
   ·omega
 ·cases e:σ'.c L o with
  |none=>rfl
  |some x=>exact absurd (.inl ⟨o,x,e⟩) Bq
 ·cases e:σ'.m L with
  |none=>rfl
  |some x=>exact absurd (.inr ⟨x,e⟩) Bq
def abR (C:Ctx)(w0:World)(σ0:Base)(ids:List Nat)(wr:Nat→Prop)(a0:Act)(σ:Im)(own:Nat→Option Nat)(w:World)(out:Option Snap)(ex:List (Nat×Snap))(x:Out)(e:Exit)(a':Act)(w':World):Prop:=
 ∃ρ' S' σ' own' hv',Inv C (S'.st ids) ρ' σ' own' hv' w0 σ0 (fun _=>False) a' w'∧Seg σ own w σ' own' w'∧SameBut wr a0 a'∧
  match e with
  |.normal=>x=.next ρ'∧out=some S'
  |.exit id=>x=.exit id ρ'∧id≠cD∧(id,S')∈ex
  |.ret=>x=.exit cD ρ'∧(cD,S')∈ex
  |_=>False
theorem aaN {N:Nat}{c:Code}(hc:tu C Φ fn s n ids R N c){S:Snap}{r:Res2}(hr:comp C fn s n ids R true c S=some r)(j5:C.yl=none)(hC:CtxOK C σ0){wr:Nat→Prop}{ρ:Env}{x:Out}{hv:Nat→Value}(h:Inv C (S.st ids) ρ σ own hv w0 σ0 (fun _=>False) a w)
 (gj:∀t,t∈cg c→wr t) (hn:a.tmps.size=n) (he:r.pc.ev Φ N ρ=some x) (L:Nat):c.wpIn (FR (some L)) 0 C.P (abR C w0 σ0 ids wr a σ own w r.out r.ex x) a w:=by
 obtain⟨t,fx,cx,dx,ht⟩:=h.frame;have h1:=h.toRnd (X:=fun _=>False) ht;refine wpIn_mono (hc true S r hr (some L) w0 (σ0.rnd σ own w t fun _=>False) wr ρ x a w (fun e=>by cases e) (hC.mono h.le) (fun J ys e=>by rw[j5] at e;cases e) gj hn ⟨_,_,_,h1⟩ he) fun e a' w' ho=>?_
 have main:∀{S':Snap} {ρ':Env},SameBut wr a a'→Good C w0 (σ0.rnd σ own w t fun _=>False) (S'.st ids) ρ' (fun _=>False) a' w'→∃σ' own' hv',Inv C (S'.st ids) ρ' σ' own' hv' w0 σ0 (fun _=>False) a' w'∧Seg σ own w σ' own' w'∧SameBut wr a a':=by
  intro S' ρ' hs hg;obtain⟨σ',own',hv',h2⟩:=hg;exact⟨σ',own',hv',h.ofRnd dx (fun _ _=>id) h2,⟨h2.le,h.rndBelow h2,fun k hk ho=>Inv.rndSame h.ok h2 hk ho id,fun k j e=>Inv.rndOwn h2 e id,fun k e=>Inv.rndC h2 e id⟩,hs⟩
 cases e with
 |normal=>
  obtain⟨ρ',S',e1,e2,e3,e4⟩:=ho;obtain⟨σ',own',hv',g1,g2,g3⟩:=main e3 e4;exact⟨ρ',S',σ',own',hv',g1,g2,g3,e1,e2⟩
 |exit id=>
  obtain⟨ρ',S',e1,e0,e2,e3,e4⟩:=ho;obtain⟨σ',own',hv',g1,g2,g3⟩:=main e3 e4;exact⟨ρ',S',σ',own',hv',g1,g2,g3,e1,e0,e2⟩
 |ret=>
  obtain⟨ρ',S',e1,e2,e3,e4⟩:=ho;obtain⟨σ',own',hv',g1,g2,g3⟩:=main e3 e4;exact⟨ρ',S',σ',own',hv',g1,g2,g3,e1,e2⟩
 |_=>exact ho.elim
theorem Inv.putL {L:Nat}{hv:Nat→Value}{S:St}{ρ:Env}(h:Inv C S ρ σ own hv w0 σ0 A a w)(hL:w0.heap.size≤L)(hf:Free L σ own)(hx:∀t fx cx,FrOK σ own w0.heap.size σ0 w t fx cx→¬fx L)(o:Obj):Inv C S ρ σ own hv w0 σ0 A a (w.putObj L o):=
 h.keep (X:=fun k=>k≠L) ⟨rfl,rfl,rfl,by simp,fun k hk=>by omega⟩ (fun k hk=>World.putObj_heap_other hk) (fun k hk=>by omega) (fun k j e1 e2=>by subst e2;rw[hf.own] at e1;cases e1) (fun k o v e1 e2=>by subst e2;rw[hf.c] at e1;cases e1)
  (fun k v e1 e2=>by subst e2;rw[hf.m] at e1;cases e1) (fun t fx cx dx k hk e=>by subst e;exact hx t fx cx dx hk)
theorem arR {o:Oper}{L:Nat}{x:Operand}{aa:Array Operand}{ts:Array TypeId}{r:Loop}(dA:o.op=.call {callee:=.value x,args:=aa,argTypes:=ts})(hx:a.eval x=.func (.yield L) #[] #[])(hL:w.heap[L]?=some (.loop r))(hs:aa.size=r.params.size):
 (execOp a.eval o).run C.P w=.ok (.round L r.fn ((r.params.zip (aa.map a.eval)).foldl (fun tmps (t,v)=>tmps.setIfInBounds t v) r.tmps) r.assign r.body) w:=by
 have hy:=run_yield (P:=C.P) (args:=aa.map a.eval) hL (by simpa using hs);simp[execOp,dA,resolve,hx,Deferred.ofValue,invoke,hy]
theorem anL {g:Operand}{f:Nat}{vs:List Value}{L:Nat}(hf:∃fn,C.P.funcs[f]?=some fn∧fn.body.isSome=true∧(fn.name== "runtime.NumGoroutine")=false)(hg:a.eval g=.func (.func f) #[] vs.toArray):
 (resolve a.eval (rangeCall g L) 0).run C.P w=.ok {target:=.fn (.func f) vs.toArray,args:=#[.func (.yield L) #[] #[]]} w∧
 (invoke (.fn (.func f) vs.toArray) #[.func (.yield L) #[] #[]]).run C.P w=.ok (.enter f (#[.func (.yield L) #[] #[]]++vs.toArray)) w:=by
 obtain⟨fn,h1,h2,h3⟩:=hf;obtain⟨bd,jU⟩:=S7.1 h2;have h4:¬fn.name= "runtime.NumGoroutine" :=by simpa using h3
 constructor
 ·simp only[resolve,hg];simp[go_sem]
 ·simp[invoke,callFunc,h1,jU,h4]
theorem FrOK.enter {hv:Nat→Value}{S:St}{ρ:Env}(h:Inv C S ρ σ own hv w0 σ0 A a w){t:D}{fx cx:Nat→Prop}(hf:FrOK σ own w0.heap.size σ0 w t fx cx)(r:Loop):FrOK (σ.mark w.heap.size) own w0.heap.size σ0 ((w.alloc (.deferred (some []))).alloc (.loop r)) t fx cx:=by
 have hb:=Uk w (.deferred (some [])) (.loop r);have af:=σ0.lt _ _ _ _ hf.F;have cj:=σ0.sub _ _ _ _ hf.F;have uA:∀k x,(σ.mark w.heap.size).m k=some x→σ.m k=some x∨k=w.heap.size:=by
  intro k x e;simp only[Im.mark] at e;split at e
  ·rename_i e2;exact .inr e2
  ·exact .inl e
 refine⟨σ0.keep _ _ _ _ _ hf.F (hb.mono (mQ _)) fun k hk=>hb.block k (af k hk),hf.own,hf.c,fun k x e hc=>?_,fun k e hB hk=>?_⟩
 ·rcases uA k x e with e|e
  ·exact hf.m k x e hc
  ·have:=af k (cj k hc);omega
 ·rcases uA k _ e with e|e
  ·exact hf.d k e hB hk
  ·have:=af k hk;omega
structure RSt (C:Ctx) (w0:World) (σR:Base) (ids:List Nat) (ρ1:Env) (lo:List Nat) (aM:Act) (L:Nat) (W1:World) (σ1:Im) (rec:LoopState→Option Code→Loop) (xs:List D) (P:Nat→List D→Snap→LoopState→Option Code→Prop) (t:D) (fx cx:Nat→Prop) (w:World):Prop where
 lt:∀k,fx k→k<w.heap.size
 sub:∀k,cx k→fx k
 old:∀k,k<W1.heap.size→fx k
 ex:∃(i:Nat) (vo:List D) (Sx:Snap) (st:LoopState) (pe:Option Code) (σ:Im) (own:Nat→Option Nat) (hv:Nat→Value),t=.list (xs.take i)∧P i vo Sx st pe∧Inv C (Sx.st ids) (ρ1.put [] [] lo vo) σ own hv w0 σR (fun _=>False) aM w∧
  σ1.le σ∧Free L σ own∧w.heap[L]?=some (.loop (rec st pe))∧(∀k j,own k=some j→fx k)∧(∀k o x,σ.c k o=some x→fx k)∧(∀k x,σ.m k=some x→fx k)∧∀k,cx k↔((∃j,own k=some j)∨k=L)
theorem RSt.keep {σR:Base}{ρ1:Env}{lo:List Nat}{aM:Act}{L:Nat}{W1:World}{σ1:Im}{rec:LoopState→Option Code→Loop}{xs:List D}{P:Nat→List D→Snap→LoopState→Option Code→Prop}{t:D}{fx cx:Nat→Prop}{w w':World}
 (h0:w0.heap.size≤W1.heap.size) (hL:L<W1.heap.size) (hR:∀t f c w,σR.F t f c w→∀k,f k→k<W1.heap.size) (h:RSt C w0 σR ids ρ1 lo aM L W1 σ1 rec xs P t fx cx w) (hb:Below 0 w w') (hs:∀k,fx k→w'.heap[k]?=w.heap[k]?):
 RSt C w0 σR ids ρ1 lo aM L W1 σ1 rec xs P t fx cx w':=by
 obtain⟨i,vo,Sx,st,pe,σ,own,hv,e1,e2,e3,e4,e5,e6,e7,e8,e9,e10⟩:=h.ex;refine⟨fun k hk=>pH (h.lt k hk) hb.size,h.sub,h.old,i,vo,Sx,st,pe,σ,own,hv,e1,e2,?_,e4,e5,(hs L (h.old L hL)).trans e6,e7,e8,e9,e10⟩;exact e3.keep (X:=fx) hb hs (fun k hk=>h.old k (by omega)) e7 e8 e9 (fun t f c hf k hk=>h.old k (hR _ _ _ _ hf.F k hk))
theorem Im.noM_m {σ:Im}{k:Nat}{v:List (Value×Value)}(h:σ.noM.m k=some v):σ.m k=some v∧v≠cL:=by
 simp only[Im.noM] at h;split at h
 ·cases h
 ·rename_i az;exact⟨h,fun e=>az (by rw[h,e])⟩
structure SegL (L:Nat) (σ:Im) (own:Nat→Option Nat) (w:World) (σ':Im) (own':Nat→Option Nat) (w':World):Prop where
 le:σ.le σ'
 below:Below 0 w w'
 same:∀k,k<w.heap.size→own k=none→k≠L→w'.heap[k]?=w.heap[k]?
 ow:∀k j,own' k=some j→(∃i,own k=some i)∨w.heap.size≤k
 imm:∀k,((∃o x,σ'.c k o=some x)∨∃x,σ'.m k=some x)→(∃o x,σ.c k o=some x)∨(∃x,σ.m k=some x)∨(∃i,own k=some i)∨w.heap.size≤k
theorem Zo (w:World)(L:Nat)(o:Obj):Below 0 w (w.putObj L o):=⟨rfl,rfl,rfl,by simp,fun k hk=>by omega⟩
theorem Seg.round {L:Nat}{σ' σ'':Im}{own' Zd:Nat→Option Nat}{w' je:World}{o o':Obj}(h:Seg σ own w σ' own' w')(k:Seg σ' own' (w'.putObj L o) σ'' Zd je):SegL L σ own w σ'' Zd (je.putObj L o'):=by
 have aL:=h.below.size;have GQ:=k.below.size;simp only[World.putObj_size] at GQ;refine⟨h.le.trans k.le,h.below.trans ((Zo _ _ _).trans (k.below.trans (Zo _ _ _))),fun q hq ho hL=>?_,fun q j e=>?_,fun q e=>?_⟩
 ·have h1:own' q=none:=by
   cases e:own' q with
   |none=>rfl
   |some j=>
    rcases h.ow q j e with⟨i,e⟩|e
    ·rw[ho] at e;cases e
    ·omega
  rw[World.putObj_heap_other hL,k.same q (by simp;omega) h1,World.putObj_heap_other hL,h.same q hq ho]
 ·rcases k.ow q j e with⟨i,e⟩|e
  ·exact h.ow q i e
  ·simp only[World.putObj_size] at e;exact .inr (by omega)
 ·rcases k.imm q e with e|e|⟨i,e⟩|e
  ·exact h.imm q (.inl e)
  ·exact h.imm q (.inr e)
  ·rcases h.ow q i e with e|e
   ·exact .inr (.inr (.inl e))
   ·exact .inr (.inr (.inr e))
  ·simp only[World.putObj_size] at e;exact .inr (.inr (.inr (by omega)))
theorem Env.put_self (ρ:Env)(lo:List Nat):ρ.put [] [] lo (lo.map ρ.o)=ρ:=by
 have h2:∀u,putL ρ.o lo (lo.map ρ.o) u=ρ.o u:=fun u=>by rw[qP];split<;>rfl
 show Env.mk ρ.r (putL ρ.o lo (lo.map ρ.o))=ρ;rw[funext h2]
theorem anM {N:Nat}(dO:fm C Φ){g:Operand}{ps:Array Tmp}{ca cb:Code}(aX:tu C Φ fn s n ids R N ca)(cZ:tu C Φ fn s n ids R N cb):tu C Φ fn s n ids R N (.rangeFunc g ps ca cb):=by
 intro rm S r hr rd w0 σ0 wr ρ x a w fE hC hY gj hn hg he;simp only[comp] at hr;split at hr
 case h_2=>cases hr;exact absurd he (kN _ _ _ _)
 rename_i aa rr e j5 hu;split at hr
 case h_2=>cases hr;exact absurd he (kN _ _ _ _)
 rename_i ys uL;split at hr
 case h_2=>cases hr;exact absurd he (kN _ _ _ _)
 rename_i q hq;rw[mJ] at hr;split at hr
 case isFalse=>cases hr;exact absurd he (kN _ _ _ _)
 rename_i um;cases hr;simp only[aq] at um;obtain⟨⟨⟨hl,bm⟩,af⟩,uD⟩:=um;have hl:=aw hl;have uD:=jQ uD;obtain⟨hrd,lj⟩:=fE rfl;subst hrd;obtain⟨hs,xU,_⟩:=Ca (C:=C) (w0:=w0) (σ0:=σ0) (ids:=ids) 8 hq;simp only[au] at hs;obtain⟨ra,Ml,hs⟩:=hs;split at hs
 case h_2=>cases hs
 rename_i S1 hao Vg;simp only[ax] at hs;obtain⟨rb,V1,gM⟩:=hs;have VJ:=rz ca Ml;have VK:=rz cb V1;obtain⟨q1,q2⟩:=q;simp only at Ml gM uD xU he ⊢;generalize ux:W8 ids (q1::q2.ex.map (·.2)) q2.mo=lo at he;generalize rU:((mh cD q2.ex none).bind fun M=>vE C fn s (M.st ids))=rt at he;have BM:∃f caps d,e.ev ρ=.clo f caps∧Φ f caps=some d∧fw (q2.pc.ev Φ N) (ρ.setR n d) ps.toList lo rt d.l (lo.map ρ.o)=some x:=by
  simp only[PC.ev,PI.runs,PI.run,holds,List.all_nil,cond_true] at he;cases bK:e.ev ρ with
  |clo f caps=>
   rw[bK] at he;simp only[PE.evs,tn] at he;cases hΦ:Φ f caps with
   |none=>rw[hΦ] at he;simp at he
   |some d=>
    rw[hΦ] at he;simp only[jq,nY,PE.ev,Env.setR,aK] at he;exact⟨f,caps,d,rfl,hΦ,he⟩
  |_=>rw[bK] at he;simp at he
 obtain⟨f,caps,d,bK,hΦ,he⟩:=BM;obtain⟨σ,own,hv,i⟩:=hg;have hx:=bW (gs:=[]) i hC rfl hu;rw[bK] at hx;generalize hgv:a.eval g=gv at hx;generalize aT:Ty.fn aa rr=ty at hx;cases hx with
 |fn f cs vs ds ew h1 h2 aP=>
 cases aT;obtain⟨hfn,ahZ⟩:=dO f cs ys ew uL;obtain⟨xs,rfl,aw7,LL⟩:=ahZ caps d hΦ;simp only[D.l_list] at he;obtain⟨m,kR,hm,nq,GF,jy⟩:=Uh he;have iq0:=Wz 8 hq i
 have iq:Inv C (q1.st ids) (ρ.setR n (.list xs)) σ own hv w0 σ0 (fun _=>False) a w:=by
  refine iq0.env (Snap.noOpt _ _) (fun t ht=>?_) (fun _ _=>rfl);have af:t<q1.rs.length:=by
   refine S5 fun hle=>?_;simp only[Snap.st,aI,kU hle,Option.getD_none,cq,isNone] at ht;cases ht
  simp[Env.setR,bp _ _ (show t≠n by omega)]
 obtain⟨ρ1,hρ1⟩:∃ρ1,ρ.setR n (.list xs)=ρ1:=⟨_,rfl⟩
 rw[hρ1] at he iq GF jy;have iv:ρ.o=ρ1.o:=by rw[←hρ1];rfl
 rw[iv] at nq;refine wpIn_rangeFunc ?_;intro K6 awH;obtain⟨L,U3⟩:∃L,w.heap.size+1=L:=⟨_,rfl⟩
 obtain⟨rec,gy⟩:∃rec:LoopState→Option Code→Loop,rec=fun st pe=>{state:=st,pending:=pe,fn:=K6,tmps:=a.tmps,params:=ps,assign:=ca,body:=cb,defers:=w.heap.size}:=⟨_,rfl⟩
 have i1:=iq.enter (rec .ready none);obtain⟨t,fx0,cx0,Vu,ht0⟩:=iq.frame;have ahH:=σ0.lt _ _ _ _ Vu.F;have LD:=FrOK.enter iq Vu (rec .ready none);have aw5:=iq.below.size;have xL:Free L (σ.mark w.heap.size) own:=by
  refine⟨?_,fun o=>?_,?_⟩
  ·cases e:own L with
   |none=>rfl
   |some j=>have:=(iq.owns L j e).2.1;omega
  ·cases e:σ.c L o with
   |none=>exact e
   |some x=>have:=iq.lt e;omega
  ·simp only[Im.mark,show L≠w.heap.size by omega,if_false];cases e:σ.m L with
   |none=>rfl
   |some x=>have:=iq.ltm e;omega
 have ku:σ.le (σ.mark w.heap.size):=by
  refine⟨fun _ _ _ e=>e,fun k x e=>?_⟩;have:k≠w.heap.size:=by have:=iq.ltm e;omega
  simp[Im.mark,this,e]
 have U0:((w.alloc (.deferred (some []))).alloc (.loop (rec .ready none))).heap[L]?=some (.loop (rec .ready none)):=by
  have:=World.alloc_heap_new (w.alloc (.deferred (some []))) (.loop (rec .ready none));rw[World.size_alloc,U3] at this;exact this
 obtain⟨W1,Ll⟩:∃W1,(w.alloc (.deferred (some []))).alloc (.loop (rec .ready none))=W1:=⟨_,rfl⟩
 have awA:W1.heap.size=w.heap.size+2:=by rw[←Ll];simp
 rw[Ll] at i1 LD U0;have Lz:(Instr.enterLoop K6 a.tmps ps ca cb none).run C.P w=.ok (L,[{target:=.collected w.heap.size,args:=#[]}]) W1:=by
  rw[←Ll,gy,←U3];exact run_enterLoop_outer _ _ _ _ _
 obtain⟨σ1,hσ1⟩:∃σ1,σ.mark w.heap.size=σ1:=⟨_,rfl⟩
 rw[hσ1] at i1 LD xL ku;obtain⟨aM,Lm⟩:∃aM:Act,{a with defers:={target:=.collected w.heap.size,args:=#[]}::a.defers}=aM:=⟨_,rfl⟩
 have A6:aM.tmps=a.tmps:=by rw[←Lm]
 rw[Lm] at i1;have iR:=i1.toRnd (t:=t) (X:=fun k=>k=L) ht0;obtain⟨σR,hσR⟩:∃σR,σ0.rnd σ1 own W1 t (fun k=>k=L)=σR:=⟨_,rfl⟩
 have rG:∀t' f c w',σR.F t' f c w'→(∀k,f k→k<W1.heap.size∧k≠L)∧∀k,c k→f k∧(∀o,σ1.c k o=none)∧σ1.m k=none:=by
  rw[←hσR];rintro t' f c w' ⟨_,h2,h3,_⟩;exact⟨fun k hk=>⟨((h2 k).1 hk).1,((h2 k).1 hk).2.2.2⟩,fun k hk=>(h3 k).1 hk⟩
 have U6:CtxOK C σR:=by rw[←hσR];exact hC.mono i1.le
 rw[hσR] at iR
 obtain⟨P,hP⟩:∃P:Nat→List D→Snap→LoopState→Option Code→Prop,P=fun i vo Sx st pe=>(i≤m∧vo=kR i∧Sx=q1∧st=.ready∧pe=none)∨
  (i=m+1∧m<xs.length∧st=.done∧∃y id ρ',xs[m]?=some y∧q2.pc.ev Φ N (ρ1.put ps.toList (partsOf ps.toList y) lo (kR m))=some (.exit id ρ')∧vo=lo.map ρ'.o∧(id,Sx)∈q2.ex∧((id≠cD∧pe=some (.exit id))∨(id=cD∧pe=some .ret))):=⟨_,rfl⟩
 obtain⟨c1,c2⟩:=anL (C:=C) (w:=W1) (L:=L) hfn hgv;refine⟨L,[{target:=.collected w.heap.size,args:=#[]}],W1,_,W1,f,_,W1,Lz,c1,fun _ _=>trivial,c2,(fun e=>by cases e),?_⟩
 refine TL ((LL σ1 W1 (.func (.yield L) #[] #[]) vs (RSt C w0 σR ids ρ1 lo aM L W1 σ1 rec xs P) (fun k=>k<W1.heap.size) (fun k=>(∃j,own k=some j)∨k=L) m i1.ok (hC.mono i1.le) ⟨h1,h2,fun j t e=>(aP j t e).mono ku⟩ hm
  (fun t f c w h=>h.lt) (fun t f c w h=>h.sub) (fun t f c w w' h hb hs=>h.keep (by omega) (by omega) (fun t f c w hF k hk=>((rG t f c w hF).1 k hk).1) hb hs) ?_ ?_ ?_ ?_).mono ?_)
 ·refine⟨fun k hk=>hk,fun k hk=>?_,fun k hk=>hk,0,kR 0,q1,.ready,none,σ1,own,hv,by simp,by rw[hP];exact .inl ⟨mQ _,rfl,rfl,rfl,rfl⟩,?_,.refl σ1,xL,U0,fun k j e=>(iR.owns k j e).2.1,fun k o x e=>iR.lt e,fun k x e=>iR.ltm e,fun k=>.rfl⟩
  ·rcases hk with⟨j,e⟩|e
   ·exact(iR.owns k j e).2.1
   ·show k<W1.heap.size;omega
  ·rw[nq,Env.put_self];exact iR
 ·rintro k o x e (⟨j,hj⟩|rfl)
  ·have:=(iR.owns k j hj).2.2.1 o;rw[e] at this;cases this
  ·rw[xL.c] at e;cases e
 ·rintro k x e (⟨j,hj⟩|rfl)
  ·have:=(iR.owns k j hj).2.2.2;rw[e] at this;cases this
  ·rw[xL.m] at e;cases e
 ·intro i fx cx w1 σx args ds' hi di hF hσx gu gw lg dv cP rd' o a' x' aa ts K Q dA bY Ve hK;have awK:i<xs.length:=(dX.1 di).1;obtain⟨i',vo,Sx,st,pe,σa,vg,hva,e1,e2,iA,Gy,A4,F6,L4,Vl,BA,xS⟩:=hF.ex;have hii:i'=i:=by
   have h9:=congrArg List.length (congrArg D.l e1);simp only[D.l_list,gp] at h9;omega
  subst hii;rw[hP] at e2;rcases e2 with⟨_,rfl,A5,rfl,rfl⟩|⟨e2,_⟩
  case inr=>omega
  rw[A5] at iA;have U4:L<w1.heap.size:=hF.lt L (hF.old L (by omega));have Gg:cx L:=(xS L).2 (.inr rfl)
  have aio:∀k o v,σx.c k o=some v→vg k=none:=fun k o v e=>by
   cases e2:vg k with
   |none=>rfl
   |some j=>exact absurd ((xS k).2 (.inl ⟨j,e2⟩)) (gw k o v e)
  have BE:∀k v,σx.m k=some v→vg k=none:=fun k v e=>by
   cases e2:vg k with
   |none=>rfl
   |some j=>exact absurd ((xS k).2 (.inl ⟨j,e2⟩)) (lg k v e)
  have hτok:σx.noM.ok w1:=⟨hσx.c,fun k v e=>hσx.m k v (Im.noM_m e).1⟩
  have iB:=iA.joinIm (τ:=σx.noM) hτok (fun k e=>(Im.noM_m e).2 rfl) aio (fun k v e=>BE k v (Im.noM_m e).1)
   (fun k o v e=>(dv k o v e).imp (fun e=>Gy.c k o v e) fun e=>by omega) (fun k v e=>(cP k v (Im.noM_m e).1).imp (fun e=>Gy.m k v e) fun e=>by omega)
   (fun t' f c hf=>⟨fun k o v e hc=>by
        obtain⟨g1,g2,g3⟩:=(rG _ _ _ _ hf.F).2 k hc;rcases dv k o v e with e|e
        ·rw[g2 o] at e;cases e
        ·have:=((rG _ _ _ _ hf.F).1 k g1).1;omega,fun k v e hc=>by
        obtain⟨g1,g2,g3⟩:=(rG _ _ _ _ hf.F).2 k hc;rcases cP k v (Im.noM_m e).1 with e|e
        ·rw[g3] at e;cases e
        ·have:=((rG _ _ _ _ hf.F).1 k g1).1;omega⟩)
  have UW:Free L (σa.plus σx.noM) vg:=by
   refine⟨A4.own,fun o=>?_,?_⟩
   ·cases e:(σa.plus σx.noM).c L o with
    |none=>rfl
    |some v=>
     rcases Im.plus_c e with e|e
     ·rw[A4.c] at e;cases e
     ·exact absurd Gg (gw L o v e)
   ·cases e:(σa.plus σx.noM).m L with
    |none=>rfl
    |some v=>
     rcases Im.plus_m e with e|e
     ·rw[A4.m] at e;cases e
     ·exact absurd Gg (lg L v (Im.noM_m e).1)
  have qz:ps.toList.length=ys.length:=by rw[zz];exact hl.symm
  have ag5:mH C (σa.plus σx.noM) ys args ds':=⟨gu.1,gu.2.1,fun j t e=>((gu.2.2 j t e).noM).mono (Im.plus_le2 iA.ok hτok)⟩
  have iC:=iB.startR (ρ':=ρ1) qz bm (fun p hp=>by
   have:=db.1 af p hp;rw[A6,hn];simpa [nX] using this) ag5 rfl
  have Mg:∃xi,q2.pc.ev Φ N (ρ1.put ps.toList (partsOf ps.toList (.tup ds')) lo (kR i'))=some xi∧((i'<m∧∃ρ',xi=.next ρ'∧lo.map ρ'.o=kR (i'+1))∨(i'=m∧m<xs.length∧∃id ρ',xi=.exit id ρ')):=by
   by_cases oE:i'<m
   ·obtain⟨y,ρ',g1,g2,g3⟩:=GF i' oE;rw[di] at g1;cases g1;exact⟨_,g2,.inl ⟨oE,ρ',rfl,g3⟩⟩
   ·obtain rfl:i'=m:=by omega
    rcases jy with⟨g1,_⟩|⟨g1,y,id,ρ',g2,g3,_⟩
    ·omega
    ·rw[di] at g2;cases g2;exact⟨_,g3,.inr ⟨rfl,g1,id,ρ',rfl⟩⟩
  obtain⟨xi,qC,MH⟩:=Mg;have ae:q2.pc=.seq ra.pc rb.pc:=by rw[←gM];rfl
  rw[ae] at qC;have aL:(kL ps.toList args aM.tmps).size=n:=by rw[aaT,A6,hn]
  refine⟨fun _ _=>trivial,?_⟩;rw[Oper.semAt_eq _ _ _ (fun c e=>by rw[dA] at e;cases e)];have ag7:aa.size=ps.size:=by
   have:=gu.1;rw[←Ve,dM,zz] at this;omega
  have aj:=arR (C:=C) dA bY F6 (by rw[gy];exact ag7);have aiN:(rec .ready none).fn=K6∧(rec .ready none).tmps=a.tmps∧(rec .ready none).params=ps∧(rec .ready none).assign=ca∧(rec .ready none).body=cb:=by rw[gy];exact⟨rfl,rfl,rfl,rfl,rfl⟩
  obtain⟨r1,r2,r3,r4,r5⟩:=aiN;rw[r1,r2,r3,r4,r5] at aj
  have BU:(ps.zip (aa.map a'.eval)).foldl (fun tmps (t,v)=>tmps.setIfInBounds t v) a.tmps=kL ps.toList args aM.tmps:=by
   rw[A6,←Ve,←vV];exact aoO ps (aa.map a'.eval) a.tmps
  rw[BU] at aj;rw[aj];refine⟨(fun e=>by cases e),?_⟩;refine roundIn_of_wpIn (F:=FR rd') trivial ?_;show ca.wpIn (FR (some L)) 0 C.P _ _ _;cases kB:ra.pc.ev Φ N (ρ1.put ps.toList (partsOf ps.toList (.tup ds')) lo (kR i')) with
  |none=>simp only[PC.ev,kB] at qC;cases qC
  |some xa=>
  refine wpIn_mono (aaN aX Ml j5 U6 iC (wr:=fun t=>t∈cg ca) (fun _ h=>h) aL kB L) fun e2 a1 Sv aiY=>?_;obtain⟨ρ2,S2,σ2,gC,gh,iD,oN,gz,iU⟩:=aiY;cases e2 with
  |normal=>
   obtain⟨rfl,xM⟩:=iU;rw[hao] at xM;cases xM;simp only[PC.ev,kB] at qC;have U1:Sv.heap[L]?=some (.loop (rec .ready none)):=(oN.same L U4 UW.own).trans F6;have Lf:=UW.seg U4 oN;have Li:L<Sv.heap.size:=(ei.1 U1).1;have UZ:w0.heap.size≤L:=by omega
   refine⟨_,run_beginRound U1 (by rw[gy]),?_⟩;have iE:=iD.putL UZ Lf (fun t' f c hf Bk=>((rG _ _ _ _ hf.F).1 L Bk).2 rfl) (.loop {rec .ready none with state:=.busy});have hL3:(Sv.putObj L (.loop {rec .ready none with state:=.busy})).heap[L]?=some (.loop {rec .ready none with state:=.busy}):=World.putObj_heap_same Li;show cb.wpIn (FR (some L)) 0 C.P _ _ _;refine wpIn_mono (aaN cZ V1 j5 U6 iE (wr:=fun t=>t∈cg cb) (fun _ h=>h) (gz.size.trans aL) qC L) fun e3 a3 w3 aiZ=>?_;obtain⟨ρ3,S3,σ3,vf,BX,iF,GO,aiW,l9⟩:=aiZ;have U2:w3.heap[L]?=some (.loop {rec .ready none with state:=.busy}):=(GO.same L (by simpa using Li) Lf.own).trans hL3;have UU:=Lf.seg (by simpa using Li) GO;have agR:L<w3.heap.size:=(ei.1 U2).1;obtain⟨mk,GB⟩:∃mk,Nat.lor (uX (ps.toList++cg ca++cg cb)) (Nat.lor ra.mr rb.mr)=mk:=⟨_,rfl⟩
   have aie:∀t,aN mk t=false→t∉ps.toList∧t∉cg ca∧t∉cg cb∧aN ra.mr t=false∧aN rb.mr t=false:=by
        intro t ht;rw[←GB,fq,fq,SH,SH] at ht;obtain⟨t1,t2,t3⟩:=ht;have:t∉ps.toList++cg ca++cg cb:=fun hm=>by rw[TC hm] at t1;cases t1
        simp only[cS,not_or] at this;exact⟨this.1.1,this.1.2,this.2,t2,t3⟩
   have Mn:∀t,aN mk t=false→aM.tmps.getD t undef=a3.tmps.getD t undef∧(ρ1.put [] [] lo (lo.map ρ3.o)).r t=ρ3.r t:=by
        intro t ht;obtain⟨t1,t2,t3,t4,t5⟩:=aie t ht;refine⟨?_,?_⟩
        ·rw[aiW.get t t3,gz.get t t2];exact(IQ _ _ _ _ t1).symm
        ·have hb3:∀ρ',xi=.next ρ'∨(∃id,xi=.exit id ρ')→ρ'.r t=ρ2.r t:=fun ρ' h=>by
          have uo:xi.env?=some ρ':=by rcases h with h|⟨id,h⟩<;>rw[h]<;>rfl
          exact(PC.ev_but rb.pc _ _ ρ' qC uo).r t fun hm=>by rw[VK.1 t hm] at t5;cases t5
         have fc:ρ2.r t=putL ρ1.r ps.toList (partsOf ps.toList (.tup ds')) t:=(PC.ev_but ra.pc _ _ ρ2 kB rfl).r t fun hm=>by rw[VJ.1 t hm] at t4;cases t4
         rw[yN _ _ _ _ t1] at fc;show ρ1.r t=ρ3.r t;rw[hb3 ρ3 (by
          cases e3 with
          |normal=>exact .inl l9.1
          |exit id=>exact .inr ⟨id,l9.1⟩
          |ret=>exact .inr ⟨_,l9.1⟩
          |_=>exact l9.elim),fc]
   have LV:q2.mo=gU ra.mo rb.mo:=by rw[←gM];rfl
   have L7:∀j,j∉q2.mo→ρ3.o j=ρ1.o j:=by
        intro j hj;rw[LV,nw,not_or] at hj;have uo:xi.env?=some ρ3:=by
         cases e3 with
         |normal=>rw[l9.1];rfl
         |exit id=>rw[l9.1];rfl
         |ret=>rw[l9.1];rfl
         |_=>exact l9.elim
        rw[(PC.ev_but rb.pc _ _ ρ3 qC uo).o j fun hm=>hj.2 (VK.2 j hm),(PC.ev_but ra.pc _ _ ρ2 kB rfl).o j fun hm=>hj.1 (VJ.2 j hm)]
        exact yN _ _ _ _ fun hm=>by
         rw[←ux] at hm;have:=(fa.1 hm).1;rw[LV,nw] at this;exact this.elim hj.1 hj.2
   have L6:∀(S:Snap),S∈(q1::q2.ex.map (·.2))→∀j,mf ((S.st ids).o j)=false→(ρ1.put [] [] lo (lo.map ρ3.o)).o j=ρ3.o j:=by
        intro S hS j hj;show putL ρ1.o lo (lo.map ρ3.o) j=ρ3.o j;rw[qP];split
        ·rfl
        ·rename_i fC;refine(L7 j fun rP=>fC ?_).symm;rw[←ux];exact fa.2 ⟨rP,zD.2 ⟨S,hS,by simpa [Snap.st] using hj⟩⟩
   have fin:∀(jump:Option Code) (Sx:Snap),Inv C (Sx.st ids) (ρ1.put [] [] lo (lo.map ρ3.o)) σ3 vf BX w0 σR (fun _=>False) aM w3→P (i'+1) (lo.map ρ3.o) Sx (if jump.isNone then .ready else .done) jump→jump.isNone=decide (i'<m)→
        ∃v w',(Instr.endRound L jump).run C.P w3=.ok v w'∧K (a'.put o.dst v) w':=by
        intro jump Sx iG hPn rP;refine⟨_,_,run_endRound jump U2,?_⟩;have aiM:({{rec .ready none with state:=.busy} with state:=if jump.isNone then .ready else .done,pending:=jump}:Loop)=rec (if jump.isNone then .ready else .done) jump:=by rw[gy]
        rw[aiM];have aP:=oN.round (L:=L) (o':=.loop (rec (if jump.isNone then .ready else .done) jump)) GO;have iH:=iG.putL UZ UU (fun t' f c hf Bk=>((rG _ _ _ _ hf.F).1 L Bk).2 rfl) (.loop (rec (if jump.isNone then .ready else .done) jump));obtain⟨w4,B1⟩:∃w4,w3.putObj L (.loop (rec (if jump.isNone then .ready else .done) jump))=w4:=⟨_,rfl⟩
        have hL5:w4.heap[L]?=some (.loop (rec (if jump.isNone then .ready else .done) jump)):=by rw[←B1];exact World.putObj_heap_same agR
        have axa:w4.heap.size=w3.heap.size:=by rw[←B1];simp
        rw[B1] at aP iH ⊢;have awz:W1.heap.size≤w1.heap.size:=by
         have:=hF.lt (W1.heap.size-1) (hF.old _ (by omega));omega
        have aw6:=aP.below.size
        refine hK _ _ ⟨by rw[rP],aP.below,fun k hk hc=>aP.same k hk (by
         cases e:vg k with
         |none=>rfl
         |some j=>exact absurd ((xS k).2 (.inl ⟨j,e⟩)) hc) (fun e=>hc (by rw[e];exact Gg)),(fun k=>k<w4.heap.size∧(k<W1.heap.size∨(∃j,vf k=some j)∨(∃o x,σ3.c k o=some x)∨∃x,σ3.m k=some x)),(fun k=>(∃j,vf k=some j)∨k=L),?_,?_,?_⟩
        ·refine⟨fun k hk=>hk.1,fun k hk=>?_,fun k hk=>⟨by omega,.inl hk⟩,i'+1,lo.map ρ3.o,Sx,_,jump,σ3,vf,BX,rfl,hPn,iH,Gy.trans ((Im.plus_le1 _ _).trans aP.le),UU,hL5,fun k j e=>⟨(iH.owns k j e).2.1,.inr (.inl ⟨j,e⟩)⟩,fun k o x e=>⟨iH.lt e,.inr (.inr (.inl ⟨o,x,e⟩))⟩,fun k x e=>⟨iH.ltm e,.inr (.inr (.inr ⟨x,e⟩))⟩,fun k=>.rfl⟩;rcases hk with⟨j,e⟩|e
         ·exact⟨(iH.owns k j e).2.1,.inr (.inl ⟨j,e⟩)⟩
         ·exact⟨by omega,.inl (by omega)⟩
        ·rintro k ⟨_,hk⟩ bP
         have Bq:((∃o x,σ3.c k o=some x)∨∃x,σ3.m k=some x)→fx k∨(∃o x,σx.c k o=some x)∨(∃x,σx.m k=some x∧x≠cL):=fun h=>by
          rcases aP.imm k h with⟨o,x,e⟩|⟨x,e⟩|⟨j,e⟩|e
          ·rcases Im.plus_c e with e|e
           ·exact .inl (Vl k o x e)
           ·exact .inr (.inl ⟨o,x,e⟩)
          ·rcases Im.plus_m e with e|e
           ·exact .inl (BA k x e)
           ·exact .inr (.inr ⟨x,(Im.noM_m e).1,(Im.noM_m e).2⟩)
          ·exact .inl (L4 k j e)
          ·omega
         rcases hk with hk|⟨j,e⟩|e|e
         ·exact .inl (hF.old k hk)
         ·rcases aP.ow k j e with⟨j',e⟩|e
          ·exact .inl (L4 k j' e)
          ·omega
         ·exact Bq (.inl e)
         ·exact Bq (.inr e)
        ·rintro k (⟨j,e⟩|e) bP
         ·rcases aP.ow k j e with⟨j',e⟩|e
          ·exact(xS k).2 (.inl ⟨j',e⟩)
          ·omega
         ·rw[e];exact Gg
   have l0:ji σ3 w0.heap.size aM.defers:=iA.defers.mono ((Im.plus_le1 _ _).trans (oN.le.trans GO.le));have Mh:q2.out=rb.out.map (Snap.mask mk)∧q2.ex=rb.ex.map (fun x=>(x.1,x.2.mask mk)):=by rw[←gM,←GB];exact⟨rfl,rfl⟩
   cases e3 with
   |normal=>
    obtain⟨e4,e5⟩:=l9;have hT:q2.out=some (S3.mask mk):=by rw[Mh.1,e5];rfl
    have Vv:=xU _ hT
    have iG:Inv C (q1.st ids) ρ3 σ3 vf BX w0 σR (fun _=>False) a3 w3:=by
        have:=Snap.meet_ok2 (x:=q1) (iF.maskR mk)
        rwa [Vv] at this
    have iH:=iG.restore (ρ':=ρ1.put [] [] lo (lo.map ρ3.o)) (a':=aM) (Snap.noOpt _ _) l0 (fun t ht=>Mn t (by
        cases e:aN mk t with
        |false=>rfl
        |true=>
         have h9:=amd (x:=q1) (S:=S3) (ids:=ids) e;rw[Vv] at h9;rw[h9] at ht;cases ht)) (fun j hj=>L6 q1 (ej ..) j hj)
    rcases MH with⟨oE,ρ',e6,e7⟩|⟨_,_,id,ρ',e6⟩
    ·rw[e4] at e6;cases e6;exact fin none q1 iH (by rw[hP];exact .inl ⟨by omega,e7,rfl,rfl,rfl⟩) (by simp[oE])
    ·rw[e4] at e6;cases e6
   |exit id=>
    obtain⟨e4,e5,e6⟩:=l9;have cO:(id,S3.mask mk)∈q2.ex:=by rw[Mh.2];exact cX.2 ⟨_,e6,rfl⟩
    have iH:=(iF.maskR mk).restore (ρ':=ρ1.put [] [] lo (lo.map ρ3.o)) (a':=aM) (Snap.noOpt _ _) l0 (fun t ht=>Mn t (by
        cases e:aN mk t with
        |false=>rfl
        |true=>rw[Ch,if_pos e] at ht;cases ht)) (fun j hj=>L6 (S3.mask mk) (dY _ (cX.2 ⟨_,cO,rfl⟩)) j hj)
    rcases MH with⟨oE,ρ',e7,_⟩|⟨oE,oF,bM,ρ',e7⟩
    ·rw[e4] at e7;cases e7
    ·subst oE;refine fin (some (.exit id)) (S3.mask mk) iH ?_ (by simp);rw[hP];refine .inr ⟨rfl,oF,rfl,_,id,ρ3,di,?_,rfl,cO,.inl ⟨e5,rfl⟩⟩;rw[ae];simp only[PC.ev,kB];rw[qC,e4]
   |ret=>
    obtain⟨e4,e6⟩:=l9;have cO:(cD,S3.mask mk)∈q2.ex:=by rw[Mh.2];exact cX.2 ⟨_,e6,rfl⟩
    have iH:=(iF.maskR mk).restore (ρ':=ρ1.put [] [] lo (lo.map ρ3.o)) (a':=aM) (Snap.noOpt _ _) l0 (fun t ht=>Mn t (by
        cases e:aN mk t with
        |false=>rfl
        |true=>rw[Ch,if_pos e] at ht;cases ht)) (fun j hj=>L6 (S3.mask mk) (dY _ (cX.2 ⟨_,cO,rfl⟩)) j hj)
    rcases MH with⟨oE,ρ',e7,_⟩|⟨oE,oF,bM,ρ',e7⟩
    ·rw[e4] at e7;cases e7
    ·subst oE;refine fin (some .ret) (S3.mask mk) iH ?_ (by simp);rw[hP];refine .inr ⟨rfl,oF,rfl,_,cD,ρ3,di,?_,rfl,cO,.inr ⟨rfl,rfl⟩⟩;rw[ae];simp only[PC.ev,kB];rw[qC,e4]
   |_=>exact l9.elim
  |exit id=>obtain⟨_,_,e6⟩:=iU;rw[Vg] at e6;cases e6
  |ret=>obtain⟨_,e6⟩:=iU;rw[Vg] at e6;cases e6
  |_=>exact iU.elim
 ·rintro e' w' ⟨⟨v,rfl⟩,fx,cx,hF⟩;rw[show({tmps:=a.tmps,defers:=[{target:=Target.collected w.heap.size,args:=#[]}]++a.defers}:Act)=aM from Lm];obtain⟨i',vo,Sx,st,pe,σa,vg,hva,e1,e2,iA,Gy,A4,F6,L4,Vl,BA,xS⟩:=hF.ex;have h9:=congrArg List.length (congrArg D.l e1);simp only[D.l_list,gp] at h9;have cQ:(rec st pe).state≠.busy:=by
   rw[hP] at e2;rw[gy];rcases e2 with⟨_,_,_,e3,_⟩|⟨_,_,e3,_⟩<;>(rw[e3];intro e;cases e)
  have rR:(rec st pe).pending=pe:=by rw[gy]
  have LA:(Instr.endLoop L).run C.P w'=.ok pe (w'.putObj L (.loop {rec st pe with state:=.exhausted})):=(run_endLoop (P:=C.P) F6 cQ).trans (congrArg (fun z=>Result.ok z _) rR);have iF:=iA.putL (by omega:w0.heap.size≤L) A4 (fun t' f c hf Bk=>((rG _ _ _ _ hf.F).1 L Bk).2 rfl) (.loop {rec st pe with state:=.exhausted});rw[←hσR] at iF;have iG:=i1.ofRnd LD (fun k hk e=>by have:=ahH k hk;omega) iF;have iV:SameBut wr a aM:=⟨by rw[A6],fun t _=>by rw[A6]⟩
  refine⟨pe,_,LA,?_⟩;rw[hP] at e2;rcases e2 with⟨e3,rfl,A5,_,rfl⟩|⟨rfl,oF,_,y,id,ρ',g1,g2,rfl,g4,g5⟩
  ·rcases jy with⟨g1,g2⟩|⟨g1,_⟩
   ·obtain rfl:i'=m:=by omega
    rw[A5] at iG;exact⟨_,q1,g2,rfl,iV,_,_,_,iG⟩
   ·omega
  ·rcases jy with⟨g6,_⟩|⟨_,y',bM,ρ'',k1,k2,k3⟩
   ·omega
   ·rw[g1] at k1;cases k1;rw[g2] at k2;cases k2;rcases k3 with⟨k3,k4⟩|⟨k3,pe',k4,k5⟩
    ·rcases g5 with⟨_,rfl⟩|⟨g5,_⟩
     ·exact wpIn_exit ⟨_,Sx,k4,k3,fa.2 ⟨g4,by simp[eJ k3]⟩,iV,_,_,_,iG⟩
     ·exact absurd g5 k3
    ·rcases g5 with⟨g5,_⟩|⟨_,rfl⟩
     ·exact absurd k3 g5
     ·subst k3;rw[←rU,au] at k4;obtain⟨M,hM,Mm⟩:=k4;obtain⟨M',U5,qv⟩:=Nq (⟨_,_,_,iG⟩:Good C w0 σ0 (Sx.st ids) _ (fun _=>False) aM _) q2.ex none g4;rw[hM] at U5;cases U5;obtain⟨σm,axZ,Wd,im⟩:=qv;exact wpIn_ret ⟨_,k5,Inv.retD hC (fun _=>rfl) lj Mm _ im rfl,iV⟩
theorem Xc {arr:Array MapEntry}{clock:Nat}(hb:kT arr clock){idx:List Nat}(hi:∀i,i∈idx→i<arr.size){i:Nat}{e:MapEntry}(he:arr[i]?=some e):(fl arr idx).contains e.born=true↔i∈idx:=by
 simp only[fl,List.contains_toArray,List.contains_iff_mem,cX];constructor
 ·rintro⟨j,hj,h⟩;have af:=hi j hj;rw[iM af] at h;simp only at h;have:=hb.2 j i arr[j] e (iM af) he h;rw[←this];exact hj
 ·intro h;exact⟨i,h,by rw[he]⟩
theorem aoK (arr:Array MapEntry)(idx:List Nat){i:Nat}{e:MapEntry}(he:arr[i]?=some e):(fl arr idx).push e.born=fl arr (idx++[i]):=by
 simp[fl,he]
theorem amu {P:Program}{w:World}{k m:Nat}{arr:Array MapEntry}{clock:Nat}{idx:List Nat}(hk:w.heap[k]?=some (.mapIter (some m) clock (fl arr idx) clock))(hm:w.heap[m]?=some (.map arr clock))(hb:kT arr clock)(hi:∀i,i∈idx→i<arr.size)(T:TypeId):
 ∃w1:World,(w1=w∨w1=w.drew)∧(((∀i,i<arr.size→i∈idx)∧(Instr.next (.pointer (some ⟨k,0,none⟩)) false T).run P w=.ok (.tuple #[.bool false]) w1)∨
  ∃i e,arr[i]?=some e∧i∉idx∧(Instr.next (.pointer (some ⟨k,0,none⟩)) false T).run P w=.ok (.tuple #[.bool true,e.key,e.val]) {w1 with heap:=w1.heap.setIfInBounds k (.mapIter (some m) clock (fl arr (idx++[i])) clock)}):=by
 have cO:∀{e:MapEntry},e∈arr→∃i:Nat,arr[i]?=some e:=fun he=>by
  obtain⟨i,hi,rfl⟩:=Array.mem_iff_getElem.1 he;exact⟨i,iM hi⟩
 have hold:∀(l:Array MapEntry),(∀e,e∈l→e.born<clock)→l.filter (fun x=>decide (x.born<clock))=l:=fun l h=>by
  rw[Array.filter_eq_self];intro e he;simpa using h e he
 have j1:∀(l:Array MapEntry),(∀e,e∈l→e.born<clock)→l.filter (fun x=>decide (x.born≥clock))=#[]:=fun l h=>by
  rw[Array.filter_eq_empty_iff];intro e he;have:=h e he;simp;omega
 have Vh:∀e,e∈arr→e.born<clock:=fun e he=>by obtain⟨i,hi⟩:=cO he;exact hb.1 i e hi
 have ni:(!(fl arr idx).isEmpty&& !arr.isEmpty&&arr.all (fun x=>decide (x.born≥clock)))=false:=by
  cases ha:arr.isEmpty
  ·have az:arr.size≠0:=by simpa using ha
   have:arr.all (fun x=>decide (x.born≥clock))=false:=by
        rw[SG];intro h;rw[Array.all_eq_true] at h;have h0:=h 0 (by omega);have h1:=Vh arr[0] (SC _);simp at h0;omega
   rw[this,DP]
  ·simp
 let left:=arr.filter fun e=> !(fl arr idx).contains e.born
 have hl:∀e,e∈left→e.born<clock:=fun e he=>Vh e (SD.1 he).1;by_cases hz:left.size=0
 ·refine⟨w,.inl rfl,.inl ⟨fun i af=>?_,?_⟩⟩
  ·by_cases cu:i∈idx
   ·exact cu
   ·exfalso;have GA:arr[i]∈left:=SD.2 ⟨SC _,by
     have:=Xc hb hi (iM af);cases hc:(fl arr idx).contains arr[i].born with
     |false=>rfl
     |true=>exact absurd (this.1 hc) cu⟩
    have:left=#[]:=Jp hz;rw[this] at GA;simp at GA
  ·have he:left=#[]:=Jp hz;have qt:arr.filter (fun e=> !(fl arr idx).contains e.born)=#[]:=he;simp only[Instr.next,getObj,Sem.run_bind,Sem.run,hk,hm,Result.andThen_ok,ni,qt];simp[Question.forced,Sem.run]
 ·have lh:left.filter (fun x=>decide (x.born<clock))=left:=hold left hl;have Bi:left.filter (fun x=>decide (x.born≥clock))=#[]:=j1 left hl;have hem:left.isEmpty=false:=by simpa using hz
  have key:∀c,c<left.size→∃i e,arr[i]?=some e∧i∉idx∧left[c]?=some e:=fun c hc=>by
   have GA:left[c]∈left:=SC _;obtain⟨h1,h2⟩:=SD.1 GA;obtain⟨i,dH⟩:=cO h1;refine⟨i,left[c],dH,fun cu=>?_,iM hc⟩;rw[(Xc hb hi dH).2 cu] at h2;cases h2
  obtain⟨w1,c,dh,hc,kp⟩:∃w1 c,(w1=w∨w1=w.drew)∧c<left.size∧(choose (.mapNext left.size)).run P w=.ok c w1:=by
   by_cases h1:left.size≤1
   ·exact⟨w,0,.inl rfl,by omega,by simp[Question.forced,h1]⟩
   ·exact⟨w.drew,_,.inr rfl,Nat.mod_lt _ (by omega),by simp[Question.forced,h1,Question.cut];rfl⟩
  obtain⟨i,e,h1,h2,h3⟩:=key c hc;refine⟨w1,dh,.inr ⟨i,e,h1,h2,?_⟩⟩;have uw:arr.filter (fun e=> !(fl arr idx).contains e.born)=left:=rfl;have l5:(getObj k).run P w=.ok (.mapIter (some m) clock (fl arr idx) clock) w:=by simp[getObj,Sem.run,hk]
  have gx:(getObj m).run P w=.ok (.map arr clock) w:=by simp[getObj,Sem.run,hm]
  have bP:w1.heap[k]?=some (.mapIter (some m) clock (fl arr idx) clock):=by rcases dh with rfl|rfl<;>exact hk
  have Vw:(setObj k (.mapIter (some m) clock ((fl arr idx).push e.born) clock)).run P w1=.ok () {w1 with heap:=w1.heap.setIfInBounds k (.mapIter (some m) clock ((fl arr idx).push e.born) clock)}:=by simp[setObj,Sem.run,bP]
  have ahf:((if false=true then #[none] else #[])++Array.map some (left++#[]):Array (Option MapEntry))=left.map some:=by simp
  have gw:(left.map some)[c]?=some (some e):=by simp[h3]
  have Vy:∀(Ac:Array (Option MapEntry)) (cc:Nat),(choose (.mapNext Ac.size)).run P w=.ok cc w1→Ac[cc]?=some (some e)→(do
        match Ac[←choose (.mapNext Ac.size)]? with
        |some (some e)=>
         setObj k (.mapIter (some m) clock ((fl arr idx).push e.born) clock)
         pure (.tuple #[.bool true,e.key,e.val])
        |some none=>(pure (.tuple #[.bool false]):Sem Value)
        |none=>stuck "Next: no such candidate" :Sem Value).run P w=.ok (.tuple #[.bool true,e.key,e.val]) {w1 with heap:=w1.heap.setIfInBounds k (.mapIter (some m) clock ((fl arr idx).push e.born) clock)}:=by
   intro Ac cc h4 h5;rw[Sem.run_bind,h4];simp only[Result.andThen_ok,h5];rw[Sem.run_bind,Vw];rfl
  rw[aoK arr idx h1] at Vy Vw;have:=Vy (left.map some) c (by rw[Array.size_map];exact kp) gw;simp only[Instr.next];rw[Sem.run_bind,l5];simp only[Result.andThen_ok];rw[Sem.run_bind,gx];simp only[Result.andThen_ok,ni,uw,lh,Bi,hem];rw[ahf,if_neg (by decide)];exact this
theorem aeS {P:Program}{w:World}{k m:Nat}{arr:Array MapEntry}{clock:Nat}{idx:List Nat}{i:Nat}{e:MapEntry}(hk:w.heap[k]?=some (.mapIter (some m) clock (fl arr (idx++[i])) clock))(hm:w.heap[m]?=some (.map arr clock))(hb:kT arr clock)(he:arr[i]?=some e):
 (Instr.entry (.pointer (some ⟨k,0,none⟩))).run P w=.ok (.tuple #[e.key,e.val]) w:=by
 have aha:(fl arr (idx++[i])).back?=some e.born:=by simp[fl,he]
 have Bl:arr.find? (fun x=>x.born==e.born)=some e:=by
  have af:i<arr.size:=(ei.1 he).1;have hei:arr[i]=e:=(ei.1 he).2;rw[Array.find?_eq_some_iff_getElem];refine⟨by simp,i,af,hei,fun j hj=>?_⟩;have fC:j<arr.size:=by omega
  cases hc:(arr[j].born==e.born) with
  |false=>rfl
  |true=>
   have:=hb.2 j i arr[j] e (iM fC) he (by simpa using hc);omega
 simp[Instr.entry,getObj,Sem.run_bind,Sem.run,hk,hm,aha,Bl]
theorem al5 {x y z:Code}{k:Nat}{p:MP}(h:yz x y k z=some p):∃i1 i2 o1 o2 o3 l,x=.region i1 p.ops1 false∧y=.cond (.tmp p.mo) .skip (.exit p.out)∧z=.region i2 p.ops2 false∧p.next=k∧p.ops1.toList=[o1,o2]∧p.ops2.toList=o3::l∧
 o1.dst=some p.nx∧o1.guard=none∧o1.op=.next (.tmp p.it) false∧o2.dst=some p.mo∧o2.guard=none∧o2.op=.extract (.tmp p.nx) 0∧o3.dst=some p.pr∧o3.guard=none∧o3.op=.entry (.tmp p.it)∧jG p.pr l []=some p.aa∧
 p.it≠p.nx∧p.it≠p.mo∧p.it≠p.pr∧p.nx≠p.mo∧p.out≠cD∧k≠cD:=by
 unfold yz at h;split at h
 case h_2=>cases h
 rename_i i1 ops1 mo out i2 ops2;split at h
 case h_2=>cases h
 rename_i o1 o2 o3 l e1 e2;split at h
 case h_2=>cases h
 rename_i nx it mo' XB pr Wy d1 g1 q1 d2 g2 q2 d3 g3 q3;rw[mJ] at h;split at h
 case isFalse=>cases h
 rename_i hc;simp only[ax] at h;obtain⟨aa,h4,rfl⟩:=h;simp only[aq,jf] at hc;obtain⟨⟨⟨⟨⟨⟨⟨⟨c1,c2⟩,c3⟩,c4⟩,c5⟩,c6⟩,c7⟩,c8⟩,c9⟩:=hc;have ne:∀{a b:Nat},Nat.beq a b=false→a≠b:=fun h e=>by subst e;simp at h
 obtain rfl:=aw c1;obtain rfl:=aw c2;obtain rfl:=aw c3;exact⟨i1,i2,o1,o2,o3,l,rfl,rfl,rfl,rfl,e1,e2,d1,g1,q1,d2,g2,q2,d3,g3,q3,h4,ne c4,ne c5,ne c6,ne c7,ne c8,ne c9⟩
theorem HD {pr:Nat}:∀(l:List Oper) {acc aa:List (Nat×Nat)},jG pr l acc=some aa→∀x,x∈acc→x∈aa
 |[],acc,aa,h,x,hx=>by simp only[jG,aS] at h;subst h;exact hx
 |o::l,acc,aa,h,x,hx=>by
  simp only[jG] at h;split at h
  case h_2=>cases h
  rw[mJ] at h;split at h
  ·cases h
  split at h
  ·rw[mJ] at h;split at h
   ·exact HD l h x (iN _ hx)
   ·cases h
  ·simp only[au] at h;obtain⟨i,_,h⟩:=h;exact HD l h x (iN _ hx)
  ·simp only[au] at h;obtain⟨i,_,h⟩:=h;exact HD l h x (iN _ hx)
  ·cases h
theorem Cf:∀{l:List (Nat×Nat)} {t i:Nat},sr l t=some i→(t,i)∈l
 |x::l,t,i,h=>by
  simp only[sr] at h;cases hb:Nat.beq x.1 t<;>simp only[hb,cond_true,cond_false] at h
  ·exact dY _ (Cf h)
  ·cases h;have:=aw hb;subst this;exact ej ..
theorem WY:∀{l:List (Nat×Nat)} {t:Nat},(sr l t).isSome=false→∀x,x∈l→x.1≠t
 |y::l,t,h,x,hx=>by
  simp only[sr] at h;cases hb:Nat.beq y.1 t<;>simp only[hb,cond_true,cond_false] at h
  ·rcases cG.1 hx with e|hx
   ·subst e;intro e;subst e;simp at hb
   ·exact WY h x hx
  ·cases h
theorem Ov {pr:Nat}:∀(l:List Oper) {acc aa:List (Nat×Nat)},jG pr l acc=some aa→(∀x,x∈acc→x.2≤1)→∀x,x∈aa→x∈acc∨(x.2≤1∧∃o,o∈l∧o.dst=some x.1)
 |[],acc,aa,h,_,x,hx=>by simp only[jG,aS] at h;subst h;exact .inl hx
 |o::l,acc,aa,h,ha,x,hx=>by
  simp only[jG] at h;split at h
  case h_2=>cases h
  rename_i d hd ln;rw[mJ] at h;split at h
  ·cases h
  have go:∀(pt:Nat),pt≤1→jG pr l (acc++[(d,pt)])=some aa→x∈acc∨(x.2≤1∧∃o',o'∈o::l∧o'.dst=some x.1):=by
   intro pt rS hp
   rcases Ov l hp (fun y hy=>by
        rcases cS.1 hy with h|h
        ·exact ha y h
        ·simp at h;subst h;exact rS) x hx with h|⟨h1,o',h2,h3⟩
   ·rcases cS.1 h with h|h
    ·exact .inl h
    ·simp at h;subst h;exact .inr ⟨rS,o,ej ..,hd⟩
   ·exact .inr ⟨h1,o',dY _ h2,h3⟩
  split at h
  ·rw[mJ] at h;split at h
   case isFalse=>cases h
   rename_i gw;simp only[aq] at gw;exact go _ (jQ gw.2) h
  ·simp only[au] at h;obtain⟨i,hi,h⟩:=h;exact go i (ha _ (Cf hi)) h
  ·simp only[au] at h;obtain⟨i,hi,h⟩:=h;exact go i (ha _ (Cf hi)) h
  ·cases h
theorem yJ {P:Program}{ops:Array Oper}{i:Nat}{rest:List Nat}{o:Oper}{rd:Option Nat}{a:Act}{w w':World}{Q:Exit→Act→World→Prop}{v:Value}(ho:ops[i]?=some o)(hg:o.guard=none)(bm:oX o.op=true)(hx:(execOp a.eval o).run P w=.ok (.value v) w')
 (k:wpOpsIn (FR rd) 0 P ops Q rest (a.put o.dst v) w'):wpOpsIn (FR rd) 0 P ops Q (i::rest) a w:=by
 simp only[wpOpsIn,ho];rw[if_pos (by simp[Region.wanted,hg])];exact Zb bm (by unfold Oper.wp;rw[hx];exact k)
theorem aoF {ops:Array Oper}{o:Oper}(ho:o∈ops.toList)(a:Act)(v:Value):SameBut (xw ops) a (a.put o.dst v):=by
 have:=SameBut.put a o.dst v a.defers;exact this.mono fun t e=>⟨o,ho,e⟩
theorem yO {a:Act}{d:Nat}{v:Value}(h:d<a.tmps.size):(a.put (some d) v).tmps.getD d undef=v:=by rw[DG];simp[h]
theorem HM {a:Act}{d t:Nat}{v:Value}(h:t≠d):(a.put (some d) v).tmps.getD t undef=a.tmps.getD t undef:=by rw[DG];simp[h]
theorem put_defers (a:Act)(d:Option Nat)(v:Value):(a.put d v).defers=a.defers:=by cases d<;>rfl
def Ct (kv vv:Value)(i:Nat):Value:=if i=0 then kv else vv
theorem Zg {P:Program}{ops:Array Oper}{rd:Option Nat}{Q:Exit→Act→World→Prop}{pr:Nat}{kv vv:Value}{w:World}:∀(l:List Oper) (acc aa:List (Nat×Nat)) (i:Nat) (a:Act),jG pr l acc=some aa→ops.toList.drop i=l→(∀x,x∈aa→x.1<a.tmps.size)→a.tmps.getD pr undef=.tuple #[kv,vv]→
 (∀x,x∈acc→a.tmps.getD x.1 undef=Ct kv vv x.2)→(∀a',SameBut (xw ops) a a'→a'.defers=a.defers→(∀x,x∈aa→a'.tmps.getD x.1 undef=Ct kv vv x.2)→Q .normal a' w)→wpOpsIn (FR rd) 0 P ops Q (List.range' i (ops.size-i)) a w
 |[],acc,aa,i,a,h,hl,af,np,A7,hQ=>by
  simp only[jG,aS] at h;subst h;have:ops.size-i=0:=by
    have:=SN.1 hl;simp at this;omega
  rw[this];exact hQ a (.refl _ _) rfl A7
 |o::l,acc,aa,i,a,h,hl,af,np,A7,hQ=>by
  have hi:i<ops.toList.length:=by
   refine S5 fun hle=>?_;rw[SN.2 hle] at hl;cases hl
  rw[abI hi] at hl;have ho:ops[i]?=some o:=by
   have:ops.toList[i]=o:=by injection hl
   rw[←this];simp at hi ⊢
  have yb:ops.toList.drop (i+1)=l:=by injection hl
  have aL:ops.size-i=(ops.size-(i+1))+1:=by simp at hi;omega
  rw[aL,Jw];have cO:o∈ops.toList:=by simpa using mI ho
  simp only[jG] at h;split at h
  case h_2=>cases h
  rename_i d hd ln;rw[mJ] at h;split at h
  ·cases h
  rename_i hc;simp only[jh,not_or,Bool.not_eq_true] at hc;have hdp:pr≠d:=fun e=>by subst e;simp at hc
  have hda:∀x,x∈acc→x.1≠d:=WY hc.2;have go:∀(pt:Nat) (v:Value),jG pr l (acc++[(d,pt)])=some aa→oX o.op=true→v=Ct kv vv pt→(execOp a.eval o).run P w=.ok (.value v) w→wpOpsIn (FR rd) 0 P ops Q (i::List.range' (i+1) (ops.size-(i+1))) a w:=by
   intro pt v hp bm hv hx;have Bf:d<a.tmps.size:=af _ (HD l hp (d,pt) (by simp));refine yJ ho ln bm hx ?_;have iV:=aoF cO a v;rw[hd] at iV ⊢;refine Zg l _ aa (i+1) _ hp yb (fun x hx=>by rw[iV.size];exact af x hx) (by rw[HM hdp];exact np) (fun x hx=>?_) (fun a' h1 h2 h3=>hQ a' (iV.trans h1) (h2.trans (put_defers _ _ _)) h3);rcases cS.1 hx with hx|hx
   ·rw[HM (hda x hx)];exact A7 x hx
   ·simp at hx;subst hx;rw[yO Bf];exact hv
  split at h
  ·rename_i t pt e;rw[mJ] at h;split at h
   case isFalse=>cases h
   rename_i gw;simp only[aq] at gw;have ht:=aw gw.1;have rS:=jQ gw.2;subst ht;have bK:a.eval (.tmp t)=.tuple #[kv,vv]:=by simpa [Act.eval] using np
   refine go pt (Ct kv vv pt) h (by rw[e];rfl) rfl ?_;rcases(by omega:pt=0∨pt=1) with rfl|rfl<;>simp[execOp,e,bK,Instr.extract,Ct]
  ·rename_i t e;simp only[au] at h;obtain⟨pt,uw,h⟩:=h;have:=A7 _ (Cf uw);exact go pt (a.eval (.tmp t)) h (by rw[e];rfl) (by simpa [Act.eval] using this) (by simp[execOp,e])
  ·rename_i t e;simp only[au] at h;obtain⟨pt,uw,h⟩:=h;have:=A7 _ (Cf uw);exact go pt (a.eval (.tmp t)) h (by rw[e];rfl) (by simpa [Act.eval] using this) (by simp[execOp,e])
  ·cases h
theorem MU (ids:List Nat)(J j:Nat)(S:Snap):((S.kill ids J).st ids).o j=if j=J then .dead else(S.st ids).o j:=by
 show cU ids (uQ ids J S.os) j=_;have:∀(is:List Nat) (os:List Ob),cU is (uQ is J os) j=if j=J then .dead else cU is os j:=by
  intro is
  induction is with
  |nil=>intro os;simp[uQ,cU]
  |cons i is ih=>
   intro os;cases os with
   |nil=>simp[uQ,cU]
   |cons o os=>
    simp only[uQ,cU];cases hb:Nat.beq i j
    ·simp only[cond_false];exact ih os
    ·have:=aw hb;subst this;simp only[cond_true];by_cases dz:i=J
     ·subst dz;simp
     ·simp[eJ dz,dz]
 exact this ids S.os
theorem TF {N:Nat}{id:Nat}(Gr:id≠cD){rm:Bool}{wr:Nat→Prop}{a:Act}{q:Res2}{x xi:Out}(oG:(∀t,t∈q.pc.modR→aN q.mr t=true)∧∀j,j∈q.pc.modO→j∈q.mo)(di:q.pc.ev Φ N ρ=some xi)(bK:(fu ids id q).pc.ev Φ N ρ=some x){e:Exit}{a':Act}{w':World}
 (fD:fM C w0 σ0 ids fn s rm wr a q.out q.ex xi e a' w'):Exit.inBlock id (fM C w0 σ0 ids fn s rm wr a (fu ids id q).out (fu ids id q).ex x) e a' w':=by
 have Vt:∀bM S1,(bM,S1)∈q.ex→bM≠id→(bM,S1)∈q.ex.filter fun x=> !Nat.beq x.1 id:=fun bM S1 hm az=>fa.2 ⟨hm,by simp[eJ az]⟩;have main:∀(o:Option Snap) (lr lo:List Nat),mh id q.ex q.out=o→(∀M,o=some M→lr=iY M q.mr∧lo=gP ids M q.mo)→(PC.block id lr lo q.pc).ev Φ N ρ=some x→
        Exit.inBlock id (fM C w0 σ0 ids fn s rm wr a o (q.ex.filter fun x=> !Nat.beq x.1 id) x) e a' w':=by
  intro o lr lo ho hl bK;simp only[PC.ev] at bK;rw[di] at bK
  have fin:∀{ρ1:Env} {a':Act} {w':World},(∃M,o=some M∧Good C w0 σ0 (M.st ids) ρ1 (fun _=>False) a' w')→xi.env?=some ρ1→x=.next (ρ.join lr lo ρ1)→SameBut wr a a'→
   fM C w0 σ0 ids fn s rm wr a o (q.ex.filter fun x=> !Nat.beq x.1 id) x .normal a' w':=by
        intro ρ1 a' w' hM uo hx dP;obtain⟨M,hM,qv⟩:=hM;obtain⟨l1,l2⟩:=hl M hM;subst l1 l2;exact⟨_,M,hx,hM,dP,qv.joined (PC.ev_but q.pc ρ _ ρ1 di uo) oG.1 oG.2⟩
  cases e with
  |normal=>
   obtain⟨ρ1,S2,e1,e2,dP,gx⟩:=fD;subst e1;simp only[aS] at bK;refine fin ?_ rfl bK.symm dP;rw[e2] at ho;obtain⟨M,h1,h2⟩:=G9 (id:=id) q.ex gx;rw[ho] at h1;exact⟨M,h1,h2⟩
  |exit bM=>
   obtain⟨ρ1,S2,e1,e0,e2,dP,gx⟩:=fD;subst e1;simp only at bK;show if bM=id then _ else _;by_cases ct:bM=id
   ·subst ct;simp only[jn,cond_true,aS] at bK;simp only[if_true];refine fin ?_ rfl bK.symm dP;rw[←ho];exact Nq gx q.ex q.out e2
   ·simp only[eJ ct,cond_false,aS] at bK;subst bK;simp only[ct,if_false];exact⟨ρ1,S2,rfl,e0,Vt _ _ e2 ct,dP,gx⟩
  |ret=>
   cases rm with
   |false=>
    have hy:=fD;obtain⟨d,e1,_⟩:=hy;subst e1;simp only[aS] at bK;subst bK;exact fD
   |true=>
    obtain⟨ρ1,S2,e1,e2,dP,gx⟩:=fD;subst e1;simp only[eJ (fun e=>Gr e.symm:cD≠id),cond_false,aS] at bK;subst bK;exact⟨ρ1,S2,rfl,Vt _ _ e2 (fun e=>Gr e.symm),dP,gx⟩
  |_=>exact fD.elim
 unfold fu at bK ⊢;cases hm:mh id q.ex q.out with
 |none=>
  simp only[hm] at bK ⊢;exact main none [] [] hm (fun M e=>by cases e) bK
 |some M=>
  simp only[hm] at bK ⊢;exact main (some M) _ _ hm (fun M' e=>by cases e;exact⟨rfl,rfl⟩) bK
theorem TD {N id:Nat}{q:Res2}{x:Out}(bK:(fu ids id q).pc.ev Φ N ρ=some x):∃xi,q.pc.ev Φ N ρ=some xi:=by
 unfold fu at bK;cases hm:mh id q.ex q.out<;>simp only[hm,PC.ev] at bK<;>cases di:q.pc.ev Φ N ρ<;>first|exact⟨_,rfl⟩|(rw[di] at bK;cases bK)
theorem aaL {es:List (D×D)}{idx:List Nat}(hn:idx.Nodup)(af:∀i,i∈idx→i<es.length)(aP:∀i,i<es.length→i∈idx):(fI es idx).Perm (gl (.map es)):=by
 have h1:idx.Perm (List.range es.length):=by
  rw[List.perm_ext_iff_of_nodup hn SY];intro i;rw[fp];exact⟨af i,aP i⟩
 have h2:fI es (List.range es.length)=gl (.map es):=by
  refine SP (by simp[fI,gl,D.m]) fun i g1 g2=>?_;have hi:i<es.length:=by simpa [fI] using g1
  simp[fI,gl,D.m,aZ hi]
 rw[←h2];exact h1.map _
theorem aoL {es:List (D×D)}{idx:List Nat}(hn:idx.Nodup)(af:∀i,i∈idx→i<es.length):∃rest,(fI es idx++rest).Perm (gl (.map es)):=by
 refine⟨fI es ((List.range es.length).filter fun i=> !idx.contains i),?_⟩;have e:fI es idx++fI es ((List.range es.length).filter fun i=> !idx.contains i)=fI es (idx++(List.range es.length).filter fun i=> !idx.contains i):=by simp[fI]
 rw[e];refine aaL ?_ (fun i hi=>?_) (fun i hi=>?_)
 ·rw[DZ];refine⟨hn,SY.filter _,fun a ha b hb e=>?_⟩;subst e;have:=(fa.1 hb).2;simp[ha] at this
 ·rcases cS.1 hi with h|h
  ·exact af i h
  ·exact fp.1 (fa.1 h).1
 ·by_cases h:i∈idx
  ·exact iN _ h
  ·exact jk _ (fa.2 ⟨fp.2 hi,by simp[h]⟩)
theorem aaM (es:List (D×D))(idx:List Nat){i:Nat}{p:D×D}(h:es[i]?=some p):fI es (idx++[i])=fI es idx++[.tup [p.1,p.2]]:=by simp[fI,h]
theorem al7 {N:Nat}{x y z code:Code}{k:Nat}{p:MP}(hp:yz x y k z=some p)(ihc:tu C Φ fn s n ids R N code){rm:Bool}{S:Snap}{r:Res2}
 (hr:yA ids n p (cg x++(cg y++(cg z++cg code))) (fun S=>comp C fn s n ids R rm code S) S=some r) {rd:Option Nat} {wr:Nat→Prop} {x0:Out} (fE:rm=false→rd=none∧σ0.fin) (hC:CtxOK C σ0) (hY:pM C Φ w0 σ0)
 (gj:∀t,t∈cg (.loop (.seq x (.seq y (.block k (.seq z code)))))→wr t) (hn:a.tmps.size=n) (hg:Good C w0 σ0 (S.st ids) ρ (fun _=>False) a w) (he:r.pc.ev Φ N ρ=some x0):
 (Code.loop (.seq x (.seq y (.block k (.seq z code))))).wpIn (FR rd) 0 C.P (fM C w0 σ0 ids fn s rm wr a r.out r.ex x0) a w:=by
 obtain⟨i1,i2,o1,o2,o3,l,rfl,rfl,rfl,hk,e1,e2,d1,g1,q1,d2,g2,q2,d3,g3,q3,lx,n1,n2,n3,n4,n5,n6⟩:=al5 hp;subst hk;unfold yA at hr;split at hr
 case h_2=>cases hr;exact absurd he (kN _ _ _ _)
 rename_i J hJ;split at hr
 case h_2=>cases hr;exact absurd he (kN _ _ _ _)
 rename_i kt et Gw;simp only at hr;split at hr
 case h_2=>cases hr;exact absurd he (kN _ _ _ _)
 rename_i q hq;rw[mJ] at hr;split at hr
 case isFalse=>cases hr;exact absurd he (kN _ _ _ _)
 rename_i um;cases hr;generalize GU:cg (.region i1 p.ops1 false)++(cg (.cond (.tmp p.mo) .skip (.exit p.out))++(cg (.region i2 p.ops2 false)++cg code))=ws at*;simp only[aq,jf] at um;obtain⟨⟨⟨⟨⟨⟨⟨⟨c1,c2⟩,c3⟩,c4⟩,c5⟩,c6⟩,c7⟩,c8⟩,c9⟩:=um;have hex:q.2.ex=[]:=SU.1 c1;have UY:J∉q.2.mo:=fun h=>by rw[(nv _ _).2 h] at c2;cases c2
 simp only[Wv,aq,jf] at c3;obtain⟨⟨c3a,c3b⟩,c3c⟩:=c3;have aiP:q.1.rs.getD p.it .none=.obj J 0:=Sh.beq_eq _ _ c3a;have GH:cU ids q.1.os J=.it kt et:=Ob.beq_eq _ _ c3b;have aiH:∀t,t∈p.aa.map (·.1)→t<n:=fun t ht=>by have:=db.1 c5 t ht;rwa [nX] at this
 have L3:p.nx<n:=by rwa [nX] at c6
 have LV:p.mo<n:=by rwa [nX] at c7
 have np:p.pr<n:=by rwa [nX] at c8
 have BC:=aw c9;obtain⟨hs,xU,cu⟩:=Ca (C:=C) (w0:=w0) (σ0:=σ0) (ids:=ids) 8 hq;simp only[ax] at hs;obtain⟨q0,BN,gM⟩:=hs;obtain⟨qS,qR⟩:=q;simp only at*;subst gM;generalize hm:uX ws=m at*;generalize ux:gP ids qS (fu ids p.next q0).mo=lo at*;have LX:=TE (ids:=ids) (id:=p.next) (rz code BN);have ah7:∀j,j∈lo→j∈(fu ids p.next q0).mo:=fun j hj=>by rw[←ux] at hj;exact yB hj
 have awx:J∉lo:=fun h=>UY (ah7 J h);have BM:∃zp,HG ((fu ids p.next q0).pc.ev Φ N) ρ J (p.aa.map (·.1)) (p.aa.map (·.2)) lo zp∧x0=.exit p.out (ρ.put [] [] lo zp):=by
  simp only[PC.ev] at he;cases np:HH ((fu ids p.next q0).pc.ev Φ N) ρ J (p.aa.map (·.1)) (p.aa.map (·.2)) lo with
  |none=>rw[np] at he;cases he
  |some y=>
   obtain⟨zp,h1,rfl⟩:=vi.1 np;rw[np] at he;simp only[aS] at he;exact⟨zp,h1,he.symm⟩
 obtain⟨zp,⟨BI,agZ⟩,hx0⟩:=BM;generalize gI:(ρ.o J).tget 1=es at*
 have dh:∀o,o∈p.ops1.toList→∀d,o.dst=some d→d∈ws:=fun o ho d hd=>by
  rw[←GU];exact iN _ (wk.2 ⟨o,ho,hd⟩)
 have eN:∀o,o∈p.ops2.toList→∀d,o.dst=some d→d∈ws:=fun o ho d hd=>by
  rw[←GU];exact jk _ (jk _ (iN _ (wk.2 ⟨o,ho,hd⟩)))
 have hwc:∀d,d∈cg code→d∈ws:=fun d hd=>by
  rw[←GU];exact jk _ (jk _ (jk _ hd))
 have MF:∀t,t∈ws→wr t:=fun t ht=>gj t (by rw[←GU] at ht;exact ht);have qB:∀t,t∈ws→aN m t=true:=fun t ht=>by rw[←hm];exact TC ht
 have LU:∀t,aN m t=true→((qS.mask m).st ids).r t=.none:=fun t ht=>by rw[Ch,if_pos ht]
 have aid:∀t,isNone (((qS.mask m).st ids).r t)=false→aN m t=false:=fun t ht=>by
  cases hb:aN m t with
  |false=>rfl
  |true=>rw[LU t hb] at ht;cases ht
 have ma:((qS.mask m).st ids).r p.it=.obj J 0:=by
  rw[Ch,c3c];show cq (qS.rs.getD p.it .none)=_;rw[aiP];rfl
 have cI:((qS.mask m).st ids).o J=.it kt et:=GH;have iv:p.ops1[0]?=some o1:=by rw[←zy,e1];rfl
 have j2:p.ops1[1]?=some o2:=by rw[←zy,e1];rfl
 have ho3:p.ops2[0]?=some o3:=by rw[←zy,e2];rfl
 have aja:List.range p.ops1.size=[0,1]:=by
  have:p.ops1.size=2:=by rw[←zz,e1];rfl
  rw[this];rfl
 have GQ:List.range p.ops2.size=0::List.range' 1 (p.ops2.size-1):=by
  have:p.ops2.size=l.length+1:=by rw[←zz,e2];rfl
  rw[this,Jx,Jw];rfl
 have key:∀(kk:Nat) (done vo:List D) (a':Act) (w':World),SameBut wr a a'→Good C w0 σ0 ((qS.mask m).st ids) ((ρ.put [] [] lo vo).setO J (.tup [.list done,es])) (fun _=>False) a' w'→
  (∀ys,(done++ys).Perm (gl es)→j7 ((fu ids p.next q0).pc.ev Φ N) ρ J es (p.aa.map (·.1)) (p.aa.map (·.2)) lo ys done vo=some zp)→done.length+kk=(gl es).length+1→
  Code.roundsIn (FR rd) 0 C.P (.seq (.region i1 p.ops1 false) (.seq (.cond (.tmp p.mo) .skip (.exit p.out)) (.block p.next (.seq (.region i2 p.ops2 false) code)))) (fM C w0 σ0 ids fn s rm wr a none [(p.out,(qS.mask m).kill ids J)] x0) kk a' w':=by
  intro kk
  induction kk with
  |zero=>
   intro done vo a' w' _ jx _ hlen;exfalso;obtain⟨σ,own,hv,h⟩:=jx;have aW:=h.objs J;rw[cI] at aW;obtain⟨kb,mb,arr,clock,fy,idx,h1,h2,h3,az,h4,h5,h6,h7,h8,h9,gd,lf⟩:=aW;simp only[Env.setO,aK] at h6;injection h6 with h6;injection h6 with uc ud;injection ud with ud _;injection uc with uc;subst uc;subst ud;have hle:idx.length≤arr.size:=by
        have:=List.Nodup.length_le_of_subset h7 (l₂:=List.range arr.size) (fun i hi=>fp.2 (h8 i hi));simpa using this
   simp[fI,gl,D.m] at hlen;omega
  |succ kk ih=>
   intro done vo a' w' iV jx aP hlen;rw[roundsIn_succ];obtain⟨σ,own,hv,h⟩:=jx;have aW:=h.objs J;rw[cI] at aW;obtain⟨kb,mb,arr,clock,fy,idx,h1,h2,h3,az,h4,h5,h6,h7,h8,h9,gd,lf⟩:=aW;simp only[Env.setO,aK] at h6;injection h6 with h6;injection h6 with uc ud;injection ud with ud _;injection uc with uc;subst uc;subst ud;have ix:=h.regs p.it;rw[ma] at ix;have Gt:a'.eval (.tmp p.it)=.pointer (some ⟨kb,0,none⟩):=by
        have:=ix.2 rfl;simp only[Act.eval];rw[this];exact h1
   have rY:a'.tmps.size=n:=iV.size.trans hn;obtain⟨w1,Wf,GF⟩:=amu (P:=C.P) h5 h4 gd h8 o1.type;have BZ:Below w'.heap.size w' w1:=by rcases Wf with rfl|rfl;exact .refl _ _;exact⟨rfl,rfl,rfl,aU _,fun _ _=>rfl⟩
   have yk:w1.heap=w'.heap:=by rcases Wf with rfl|rfl<;>rfl
   have VD:kb<w'.heap.size:=(h.owns kb J h2).2.1;have oF:mb<w'.heap.size:=(h.owns mb J h3).2.1;refine wpIn_seq (wpIn_region ?_);rw[aja];rcases GF with⟨LF,aj⟩|⟨i,e,xZ,Gq,aj⟩
   ·
        refine yJ iv g1 (by rw[q1];rfl) (v:=.tuple #[.bool false]) (w':=w1) (by simp only[execOp,q1,Gt];simp[aj]) ?_;rw[d1]
        refine yJ j2 g2 (by rw[q2];rfl) (v:=.bool false) (w':=w1) (by
         have:(a'.put (some p.nx) (.tuple #[.bool false])).eval (.tmp p.nx)=.tuple #[.bool false]:=by simp only[Act.eval];exact yO (by omega)
         simp only[execOp,q2,this];simp[Instr.extract]) ?_
        rw[d2];simp only[wpOpsIn]
        have uE:SameBut (fun t=>t∈ws) a' ((a'.put (some p.nx) (.tuple #[.bool false])).put (some p.mo) (.bool false)):=by
         have s1:=SameBut.put a' (some p.nx) (.tuple #[.bool false]) a'.defers;have s2:=SameBut.put (a'.put (some p.nx) (.tuple #[.bool false])) (some p.mo) (.bool false) (a'.put (some p.nx) (.tuple #[.bool false])).defers;exact(s1.mono fun t e=>by cases e;exact dh o1 (by rw[e1];simp) _ d1).trans (s2.mono fun t e=>by cases e;exact dh o2 (by rw[e1];simp) _ d2)
        generalize uh:(a'.put (some p.nx) (.tuple #[.bool false])).put (some p.mo) (.bool false)=a1 at uE;have LW:a1.eval (.tmp p.mo)=.bool false:=by
         rw[←uh];simp only[Act.eval];exact yO (by rw[size_put];omega)
        have l0:a1.defers=a'.defers:=by rw[←uh,put_defers,put_defers]
        refine wpIn_seq (wpIn_cond_false LW (wpIn_exit ?_));have aiE:(fI fy idx++[]).Perm (gl (.map fy)):=by
         rw[rf];exact aaL h7 (fun i hi=>by rw[h9];exact h8 i hi) (fun i hi=>LF i (by omega))
        have We:=aP [] aiE;simp only[j7,aS] at We;subst We;refine⟨_,_,hx0,n5,rk.2 rfl,iV.trans (uE.mono MF),?_⟩;refine⟨σ,own,hv,?_⟩
        refine h.step (S':=((qS.mask m).kill ids J).st ids) (ρ':=ρ.put [] [] lo vo) (A':=fun _=>False) (fun j=>j=J) l0 (.refl σ) (h.ok.below BZ) (fun _ _ _ hx=>.inl hx) (fun _ _ hx=>.inl hx) (BZ.mono h.below.size) ⟨fun _=>aU _,fun _ _=>rfl⟩
         (fun j hj=>⟨by rw[MU,if_neg hj],by simp[Env.setO,bp _ _ hj],rfl,fun b hb=>⟨hb,by rw[yk]⟩⟩) (fun j hj=>?_) (fun b j hb=>?_) (fun _=>id) (fun t=>?_) (fun _ hf=>hf.elim) (fun b hb _=>by rw[yk]) (fun b j hb=>.inl ⟨j,hb⟩) (fun j hj=>?_)
        ·rw[MU,if_pos hj];trivial
        ·obtain⟨b1,b2,b3,b4⟩:=h.owns b j hb;exact⟨b1,by rw[yk];exact b2,b3,b4⟩
        ·by_cases ht:t∈ws
         ·refine .inr ⟨?_,fun gs s' e=>absurd e (Snap.noOpt _ _ t gs s')⟩;have:(((qS.mask m).kill ids J).st ids).r t=.none:=LU t (qB t ht);rw[this];trivial
         ·exact .inl ⟨rfl,uE.get t ht,rfl⟩
        ·rw[MU,if_pos hj];intro e;cases e
   ·
        obtain⟨pd,Md⟩:∃pd,fy[i]?=some pd:=⟨_,aZ (by rw[h9];exact(ei.1 xZ).1)⟩
        obtain⟨bP,cn⟩:=lf i e pd xZ Md;generalize ym:({w1 with heap:=w1.heap.setIfInBounds kb (.mapIter (some mb) clock (fl arr (idx++[i])) clock)}:World)=w2 at aj;have Wg:w2.heap[kb]?=some (.mapIter (some mb) clock (fl arr (idx++[i])) clock):=by rw[←ym];simp[yk,VD]
        have yn:∀b,b≠kb→w2.heap[b]?=w'.heap[b]?:=fun b hb=>by rw[←ym];simp only[yk];rw[SB (rl hb)]
        have aw9:w2.heap.size=w'.heap.size:=by rw[←ym];simp[yk]
        have Wh:w2.heap[mb]?=some (.map arr clock):=by rw[yn mb (rl az)];exact h4
        refine yJ iv g1 (by rw[q1];rfl) (v:=.tuple #[.bool true,e.key,e.val]) (w':=w2) (by simp only[execOp,q1,Gt];simp[aj]) ?_;rw[d1]
        refine yJ j2 g2 (by rw[q2];rfl) (v:=.bool true) (w':=w2) (by
         have:(a'.put (some p.nx) (.tuple #[.bool true,e.key,e.val])).eval (.tmp p.nx)=.tuple #[.bool true,e.key,e.val]:=by simp only[Act.eval];exact yO (by omega)
         simp only[execOp,q2,this];simp[Instr.extract]) ?_
        rw[d2];simp only[wpOpsIn]
        have uE:SameBut (fun t=>t∈ws) a' ((a'.put (some p.nx) (.tuple #[.bool true,e.key,e.val])).put (some p.mo) (.bool true)):=by
         have s1:=SameBut.put a' (some p.nx) (.tuple #[.bool true,e.key,e.val]) a'.defers;have s2:=SameBut.put (a'.put (some p.nx) (.tuple #[.bool true,e.key,e.val])) (some p.mo) (.bool true) (a'.put (some p.nx) (.tuple #[.bool true,e.key,e.val])).defers;exact(s1.mono fun t e=>by cases e;exact dh o1 (by rw[e1];simp) _ d1).trans (s2.mono fun t e=>by cases e;exact dh o2 (by rw[e1];simp) _ d2)
        have VB:(((a'.put (some p.nx) (.tuple #[.bool true,e.key,e.val])).put (some p.mo) (.bool true))).eval (.tmp p.it)=.pointer (some ⟨kb,0,none⟩):=by
         simp only[Act.eval] at Gt ⊢;rw[HM n2,HM n1];exact Gt
        generalize uh:(a'.put (some p.nx) (.tuple #[.bool true,e.key,e.val])).put (some p.mo) (.bool true)=a1 at uE VB;have LW:a1.eval (.tmp p.mo)=.bool true:=by
         rw[←uh];simp only[Act.eval];exact yO (by rw[size_put];omega)
        have l0:a1.defers=a'.defers:=by rw[←uh,put_defers,put_defers]
        refine wpIn_seq (wpIn_cond_true LW (wpIn_skip ?_));refine wpIn_block (wpIn_seq (wpIn_region ?_));rw[GQ];refine yJ ho3 g3 (by rw[q3];rfl) (v:=.tuple #[e.key,e.val]) (w':=w2) (by simp only[execOp,q3,VB];simp[aeS Wg Wh gd xZ]) ?_;rw[d3]
        have V4:SameBut (fun t=>t∈ws) a1 (a1.put (some p.pr) (.tuple #[e.key,e.val])):=
         (SameBut.put a1 (some p.pr) (.tuple #[e.key,e.val]) a1.defers).mono fun t e=>by cases e;exact eN o3 (by rw[e2];simp) _ d3
        have V7:a1.tmps.size=n:=uE.size.trans rY;refine Zg (kv:=e.key) (vv:=e.val) l [] p.aa 1 _ lx (by rw[e2];rfl) (fun x hx=>by rw[V4.size,V7];exact aiH _ (cX.2 ⟨x,hx,rfl⟩)) (yO (by rw[V7];exact np)) (fun x hx=>by cases hx) (fun a2 dP dG aiC=>?_);have Mo:SameBut (fun t=>t∈ws) a' a2:=(uE.trans V4).trans (dP.mono fun t ⟨o,ho,hd⟩=>eN o ho t hd);have ahs:a2.defers=a'.defers:=by rw[dG,put_defers,l0]
        have ai7:Good C w0 σ0 (((qS.mask m).start (p.aa.map (·.1)) (p.aa.map fun x=>bif Nat.beq x.2 0 then kt else et)).st ids) ((ρ.put (p.aa.map (·.1)) ((p.aa.map (·.2)).map (D.tup [pd.1,pd.2]).tget) lo vo).setO J (.tup [.list (fI fy idx++[.tup [pd.1,pd.2]]),.map fy])) (fun _=>False) a2 w2:=by
         have Bb:Below w0.heap.size w' w2:=⟨by rw[←ym];exact BZ.os,by rw[←ym];exact BZ.tape,by rw[←ym];exact BZ.output,by omega,fun b hb=>yn b (fun e=>by subst e;have:=(h.owns b J h2).1;omega)⟩
         have iw:σ.ok w2:=by
          refine⟨fun b o v hc=>?_,fun b es hc=>?_⟩
          ·have xR:b≠kb:=fun e=>by subst e;rw[(h.owns b J h2).2.2.1 o] at hc;cases hc
           have:=h.ok.c b o v hc;simp only[World.cell?] at this ⊢;rw[yn b xR];exact this
          ·have xR:b≠kb:=fun e=>by subst e;rw[(h.owns b J h2).2.2.2] at hc;cases hc
           exact(h.ok.m b es hc).keep (yn b xR)
         have fD:∀j,((ρ.put (p.aa.map (·.1)) ((p.aa.map (·.2)).map (D.tup [pd.1,pd.2]).tget) lo vo).setO J (.tup [.list (fI fy idx++[.tup [pd.1,pd.2]]),.map fy])).o j=if j=J then .tup [.list (fI fy idx++[.tup [pd.1,pd.2]]),.map fy] else putL ρ.o lo vo j:=fun j=>by
          simp only[Env.setO,eX];rfl
         refine⟨σ,own,hv,h.step (fun j=>j=J) ahs (.refl σ) iw (fun _ _ _ hx=>.inl hx) (fun _ _ hx=>.inl hx) Bb ⟨fun _=>aU _,fun _ _=>rfl⟩
          (fun j hj=>⟨rfl,by rw[fD,if_neg hj];simp[Env.setO,bp _ _ hj,Env.put],rfl,fun b hb=>⟨hb,yn b (fun e=>by subst e;rw[h2] at hb;cases hb;exact hj rfl)⟩⟩) (fun j hj=>?_) (fun b j hb=>?_) (fun _=>id) (fun t=>?_) (fun _ hf=>hf.elim)
          (fun b hb ho=>yn b (fun e=>by subst e;rw[h2] at ho;cases ho)) (fun b j hb=>.inl ⟨j,hb⟩) (fun j hj=>?_)⟩
         ·subst hj;have:(((qS.mask m).start (p.aa.map (·.1)) (p.aa.map fun x=>bif Nat.beq x.2 0 then kt else et)).st ids).o j=.it kt et:=GH;rw[this];refine⟨kb,mb,arr,clock,fy,idx++[i],h1,h2,h3,az,Wh,Wg,by rw[fD,if_pos rfl,aaM fy idx Md],?_,?_,h9,gd,lf⟩
          ·rw[DZ];exact⟨h7,by simp,fun a ha b hb e=>by simp at hb;subst hb;subst e;exact Gq ha⟩
          ·intro i' dH;rcases cS.1 dH with h|h
           ·exact h8 i' h
           ·simp at h;subst h;exact(ei.1 xZ).1
         ·obtain⟨b1,b2,b3,b4⟩:=h.owns b j hb;exact⟨b1,by omega,b3,b4⟩
         ·have hc:Compat ((qS.mask m).st ids) hv (((qS.mask m).start (p.aa.map (·.1)) (p.aa.map fun x=>bif Nat.beq x.2 0 then kt else et)).st ids) hv:=⟨fun _=>aU _,fun _ _=>rfl⟩
          refine .inr ⟨?_,fun gs s' e=>absurd e (Snap.noOpt _ _ t gs s')⟩;show aF C _ _ σ hv (cq ((py (p.aa.map (·.1)) (p.aa.map fun x=>bif Nat.beq x.2 0 then kt else et) ((qS.mask m).rs.map qw)).getD t .none)) (a2.tmps.getD t undef) (putL ρ.r (p.aa.map (·.1)) ((p.aa.map (·.2)).map (D.tup [pd.1,pd.2]).tget) t);rcases P7 (p.aa.map (·.1)) (p.aa.map fun x=>bif Nat.beq x.2 0 then kt else et) ((qS.mask m).rs.map qw) (by simp) c4 t with e|⟨xx,rA⟩|⟨i',y,xx,rA,KI⟩
          ·rw[e];trivial
          ·rw[rA,yN _ _ _ _ xx];have e3:((qS.mask m).rs.map qw).getD t .none=qw ((qS.mask m).rs.getD t .none):=by
            simp only[aI,cf];cases(qS.mask m).rs[t]?<;>rfl
           rw[e3];by_cases V9:t∈ws
           ·have yd:=LU t (qB t V9);change cq ((qS.mask m).rs.getD t .none)=.none at yd;generalize (qS.mask m).rs.getD t .none=s' at yd;cases s'<;>simp[cq] at yd<;>trivial
           ·have hr:=h.regs t;change aF C _ _ σ hv (cq ((qS.mask m).rs.getD t .none)) _ (ρ.r t) at hr;rw[Mo.get t V9];generalize (qS.mask m).rs.getD t .none=s' at hr;cases s' with
            |yv=>trivial
            |opt gs s=>trivial
            |none=>trivial
            |fclo f c=>exact aF.mono' (.refl σ) hc (fun _ _ e=>by cases e) hr
            |agg l=>exact aF.mono' (.refl σ) hc (fun _ _ e=>by cases e) hr
            |dat t=>exact hr
            |obj j v=>exact aF.mono' (.refl σ) hc (fun _ _ e=>by cases e) hr
            |ptr j v o=>exact aF.mono' (.refl σ) hc (fun _ _ e=>by cases e) hr
            |eptr j v o q=>exact aF.mono' (.refl σ) hc (fun _ _ e=>by cases e) hr
          ·rw[KI];have ahR:i'<p.aa.length:=by have:=(dX.1 xx).1;simpa using this
           rw[OD _ (p.aa.map (·.1)) _ i' t (nz c4) (by simp) xx];obtain⟨xa,kB⟩:∃xa,p.aa[i']?=some xa:=⟨_,aZ ahR⟩
           simp only[cf,kB,jq,aS] at xx rA;subst xx;subst rA;rw[aiC xa (jm kB)];have hd:((p.aa.map (·.2)).map (D.tup [pd.1,pd.2]).tget).getD i' .none=(D.tup [pd.1,pd.2]).tget xa.2:=by simp[aI,kB]
           rw[hd];have h2x:xa.2≤1:=by
            rcases Ov l lx (fun x hx=>by cases hx) xa (jm kB) with h|h
            ·cases h
            ·exact h.1
           rcases(by omega:xa.2=0∨xa.2=1) with e0|e0<;>rw[e0]
           ·exact bP
           ·exact cn
         ·have:(((qS.mask m).start (p.aa.map (·.1)) (p.aa.map fun x=>bif Nat.beq x.2 0 then kt else et)).st ids).o j=.it kt et:=by rw[hj];exact GH
          rw[this];intro e;cases e
        have aiD:=aaM fy idx Md;obtain⟨rest,rT⟩:∃rest,(fI fy idx++(D.tup [pd.1,pd.2])::rest).Perm (gl (.map fy)):=by
         obtain⟨rest,hr⟩:=aoL (es:=fy) (idx:=idx++[i]) (by rw[DZ];exact⟨h7,by simp,fun a ha b hb e=>by simp at hb;subst hb;subst e;exact Gq ha⟩) (fun i' dH=>by
          rcases cS.1 dH with h|h
          ·rw[h9];exact h8 i' h
          ·simp at h;subst h;rw[h9];exact(ei.1 xZ).1)
         rw[aiD] at hr;exact⟨rest,by simpa using hr⟩
        have ij:=aP _ rT;simp only[j7] at ij;split at ij
        case h_2=>cases ij
        rename_i ρ2 Gf;obtain⟨xi,di⟩:=TD Gf;refine wpIn_mono (ihc rm _ q0 BN rd w0 σ0 wr _ xi a2 w2 fE hC hY (fun t ht=>MF t (hwc t ht)) (Mo.size.trans rY) ai7 di) fun ee a3 w3 fD=>?_;have nm:=TF n6 (rz code BN) di Gf fD;have conv:∀ee a3 w3,fM C w0 σ0 ids fn s rm wr a2 (fu ids p.next q0).out (fu ids p.next q0).ex (.next ρ2) ee a3 w3→Exit.then (Code.roundsIn (FR rd) 0 C.P (.seq (.region i1 p.ops1 false) (.seq (.cond (.tmp p.mo) .skip (.exit p.out)) (.block p.next (.seq (.region i2 p.ops2 false) code)))) (fM C w0 σ0 ids fn s rm wr a none [(p.out,(qS.mask m).kill ids J)] x0) kk) (fM C w0 σ0 ids fn s rm wr a none [(p.out,(qS.mask m).kill ids J)] x0) ee a3 w3:=by
         intro ee a3 w3 ho;cases ee with
         |normal=>
          obtain⟨ρ3,T,f1,f2,f3,f4⟩:=ho;cases f1;refine ih (fI fy idx++[.tup [pd.1,pd.2]]) (lo.map ρ2.o) a3 w3 (iV.trans ((Mo.mono MF).trans f3)) ?_ (fun ys uL=>?_) (by simp at hlen ⊢;omega)
          ·have qv:Good C w0 σ0 (qS.st ids) ρ2 (fun _=>False) a3 w3:=by
            have:=f4.meet2 (x:=qS)
            rwa [xU T f2] at this
           obtain⟨σ3,vf,BX,jV⟩:=qv;have Ls:=PC.ev_but _ _ _ ρ2 Gf rfl;refine⟨σ3,vf,BX,(jV.maskR m).env (Snap.noOpt _ _) (fun t ht=>?_) (fun j hj=>?_)⟩
           ·have yd:=aid t ht
            have cP:t∉(fu ids p.next q0).pc.modR:=fun eA=>by
                 have:=LX.1 t eA;have h2:aN (Nat.lor m (fu ids p.next q0).mr) t=true:=by rw[fq,this,pE]
                 rw[BC,yd] at h2;cases h2
            rw[Ls.r t cP]
            have oI:t∉p.aa.map (·.1):=fun aR=>by
                 have:aN m t=true:=by
                  refine qB t ?_;obtain⟨xa,kB,rfl⟩:=cX.1 aR;rcases Ov l lx (fun x hx=>by cases hx) xa kB with h|⟨_,o,ho,hd⟩
                  ·cases h
                  ·exact eN o (by rw[e2];exact dY _ ho) _ hd
                 rw[yd] at this;cases this
            show ρ.r t=putL ρ.r (p.aa.map (·.1)) _ t;rw[yN _ _ _ _ oI]
           ·have hjd:mf (cU ids qS.os j)=false:=hj;show bT (putL ρ.o lo (lo.map ρ2.o)) J _ j=ρ2.o j;by_cases x9:j=J
            ·subst x9;rw[aK,Ls.o j (fun eA=>UY (LX.2 j eA))];simp[Env.setO,aK]
            ·rw[bp _ _ x9,qP];split
             ·rfl
             ·rename_i fC;have cP:j∉(fu ids p.next q0).pc.modO:=fun eA=>fC (by rw[←ux];exact fa.2 ⟨LX.2 j eA,by rw[hjd];rfl⟩);rw[Ls.o j cP];simp only[Env.setO,bp _ _ x9];exact(OE _ _ _ _ fC).symm
          ·have:=aP ((D.tup [pd.1,pd.2])::ys) (by simpa using uL);simp only[j7,Gf] at this;exact this
         |exit id=>obtain⟨ρ3,T,f1,_⟩:=ho;cases f1
         |ret=>
          cases rm with
          |false=>obtain⟨d,f1,_⟩:=ho;cases f1
          |true=>obtain⟨ρ3,T,f1,_⟩:=ho;cases f1
         |_=>exact ho.elim
        cases ee with
        |exit id=>
         simp only[Exit.inBlock] at nm;show if id=p.next then _ else _;split
         ·rename_i ct;rw[if_pos ct] at nm;exact conv .normal a3 w3 nm
         ·rename_i ct;rw[if_neg ct] at nm;exact conv (.exit id) a3 w3 nm
        |normal=>exact conv .normal a3 w3 nm
        |ret=>exact conv .ret a3 w3 nm
        |panic c=>exact fD.elim
        |goto l=>exact fD.elim
        |_=>exact fD.elim
 have hgq:Good C w0 σ0 (qS.st ids) ρ (fun _=>False) a w:=cu hg;obtain⟨σ,own,hv,h⟩:=hgq;have aW:=h.objs J;have:(qS.st ids).o J=.it kt et:=GH;rw[this] at aW;obtain⟨kb,mb,arr,clock,fy,idx,h1,h2,h3,az,h4,h5,h6,h7,h8,h9,gd,lf⟩:=aW;have hρJ:ρ.o J=.tup [.list [],es]:=by
  rw[h6] at BI gI;simp[D.tget] at BI gI;rw[h6,BI,←gI]
 have uo:(ρ.put [] [] lo (lo.map ρ.o)).setO J (.tup [.list [],es])=ρ:=by
  rw[Env.put_self];show Env.mk _ _=_;have:bT ρ.o J (.tup [.list [],es])=ρ.o:=by
   funext j;rw[eX];split
   ·rename_i e;rw[e];exact hρJ.symm
   ·rfl
  rw[this]
 exact wpIn_loop_rounds _ (key ((gl es).length+1) [] (lo.map ρ.o) a w (.refl _ _) (by rw[uo];exact⟨σ,own,hv,h.maskR m⟩) (fun ys uL=>agZ ys uL) (by simp))
theorem adD {N:Nat}(dO:fm C Φ)(hR:JB C n ids Φ R):∀(k:Nat) (c:Code),sizeOf c<k→tu C Φ fn s n ids R N c:=by
 intro k;refine Nat.rec (fun c h=>absurd h (Nat.not_lt_zero _)) (fun k IH=>?_) k;intro c hc;cases c with
 |skip=>
  intro rm S r h rd w0 σ0 wr ρ x a w fE hC hY gj hn hg he;simp only[comp,aS] at h;subst h;simp only[PC.ev,aS] at he;subst he;exact wpIn_skip ⟨ρ,S,rfl,rfl,.refl _ _,hg⟩
 |region id ops draw=>
  intro rm S r h rd w0 σ0 wr ρ x a w fE hC hY gj hn hg he;simp only[comp,ax] at h;obtain⟨q,hq,rfl⟩:=h;simp only[PC.ev,ax] at he;obtain⟨ρ',hr,rfl⟩:=he;exact hR id ops draw S q hq rd w0 σ0 ρ ρ' a w _ hC hY hn hg hr (fun a' w' jz jx=>⟨ρ',q.1,rfl,rfl,jz.mono (fun t ⟨o,h1,h2⟩=>gj t (wk.2 ⟨o,h1,h2⟩)),jx⟩)
 |seq c1 c2=>
  have sd:=IH c1 (by simp at hc;omega);have se:=IH c2 (by simp at hc;omega);intro rm S r h rd w0 σ0 wr ρ x a w fE hC hY gj hn hg he;have dh:∀t,t∈cg c1→wr t:=fun t ht=>gj t (iN _ ht);have eN:∀t,t∈cg c2→wr t:=fun t ht=>gj t (jk _ ht);simp only[comp,au] at h;obtain⟨q,hq,h⟩:=h;split at h
  ·rename_i iU;cases h;refine wpIn_seq (wpIn_mono (sd rm S _ hq rd w0 σ0 wr ρ x a w fE hC hY dh hn hg he) fun e a' w' ho=>?_);cases e with
   |normal=>obtain⟨_,_,_,h2,_⟩:=ho;rw[iU] at h2;cases h2
   |_=>exact ho
  ·rename_i S1 iU;simp only[ax] at h;obtain⟨p,hp,rfl⟩:=h;simp only[PC.ev] at he
   have key:∀x1,q.pc.ev Φ N ρ=some x1→(match some x1 with|some (.next ρ')=>p.pc.ev Φ N ρ'|y=>y)=some x→(Code.seq c1 c2).wpIn (FR rd) 0 C.P (fM C w0 σ0 ids fn s rm wr a p.out (q.ex++p.ex) x) a w:=by
      intro x1 h1 h2;refine wpIn_seq (wpIn_mono (sd rm S _ hq rd w0 σ0 wr ρ x1 a w fE hC hY dh hn hg h1) fun e a' w' ho=>?_);have other:∀{e:Exit},e≠.normal→fM C w0 σ0 ids fn s rm wr a q.out q.ex x1 e a' w'→x1=x→fM C w0 σ0 ids fn s rm wr a p.out (q.ex++p.ex) x e a' w':=by
       intro e az ho hx;subst hx;exact ho.mono (fun y hy=>iN _ hy) (.refl _ _) (fun e=>absurd e az)
      cases e with
      |normal=>
       obtain⟨ρ1,S2,e1,e2,dP,gx⟩:=ho;subst e1;rw[iU] at e2;cases e2;simp only at h2;refine wpIn_mono (se rm S1 _ hp rd w0 σ0 wr ρ1 x a' w' fE hC hY eN (dP.size.trans hn) gx h2) fun e a2 w2 j2=>?_;exact j2.mono (fun y hy=>jk _ hy) dP (fun _=>rfl)
      |exit id=>
       refine other (by simp) ho ?_;obtain⟨ρ1,S2,e1,_⟩:=ho;subst e1;simpa using h2
      |ret=>
       refine other (by simp) ho ?_;cases rm with
       |false=>obtain⟨d,e1,_⟩:=ho;subst e1;simpa using h2
       |true=>obtain⟨ρ1,S2,e1,_⟩:=ho;subst e1;simpa using h2
      |_=>exact ho.elim
   cases h1:q.pc.ev Φ N ρ with
   |none=>rw[h1] at he;simp at he
   |some x1=>rw[h1] at he;exact key x1 h1 he
 |cond c c1 c2=>
  have sd:=IH c1 (by simp at hc;omega);have se:=IH c2 (by simp at hc;omega);intro rm S r h rd w0 σ0 wr ρ x a w fE hC hY gj hn hg he;have dh:∀t,t∈cg c1→wr t:=fun t ht=>gj t (iN _ ht);have eN:∀t,t∈cg c2→wr t:=fun t ht=>gj t (jk _ ht);simp only[comp] at h;split at h
  case h_2=>cases h;exact absurd he (kN _ _ _ _)
  rename_i e hu;simp only[au,ax] at h;obtain⟨q,hq,p,hp,rfl⟩:=h;have hb:∃b,a.eval c=.bool b∧e.ev ρ=.v (.bool b):=by
   obtain⟨σ,own,hv,hi⟩:=hg;have:=bW (gs:=[]) hi hC rfl hu;generalize a.eval c=v at this;generalize e.ev ρ=d at this;cases this with|bool b=>exact⟨b,rfl,rfl⟩
  obtain⟨b,ij,fc⟩:=hb;have oG:=rz c1 hq;have BB:=rz c2 hp;have main:∀(o:Option Snap) (lr lo:List Nat) (rx:Res2),rx=⟨.ite e lr lo q.pc p.pc,o,q.ex++p.ex,Nat.lor q.mr p.mr,gU q.mo p.mo⟩→
        (∀M,o=some M→lr=iY M (Nat.lor q.mr p.mr)∧lo=gP ids M (gU q.mo p.mo))→
        (∀S1 ρ1 a w,q.out=some S1→Good C w0 σ0 (S1.st ids) ρ1 (fun _=>False) a w→∃M,o=some M∧Good C w0 σ0 (M.st ids) ρ1 (fun _=>False) a w)→
        (∀S1 ρ1 a w,p.out=some S1→Good C w0 σ0 (S1.st ids) ρ1 (fun _=>False) a w→∃M,o=some M∧Good C w0 σ0 (M.st ids) ρ1 (fun _=>False) a w)→
        rx.pc.ev Φ N ρ=some x→(Code.cond c c1 c2).wpIn (FR rd) 0 C.P (fM C w0 σ0 ids fn s rm wr a rx.out rx.ex x) a w:=by
   intro o lr lo rx hrx hl oK lx bK;subst hrx;simp only[PC.ev,fc,D.b_bool] at bK;have fin:∀(ci:Code) (qi:Res2) (xi:Out),(∀y,y∈qi.ex→y∈q.ex++p.ex)→(∀t,t∈qi.pc.modR→aN (Nat.lor q.mr p.mr) t=true)→(∀j,j∈qi.pc.modO→j∈gU q.mo p.mo)→
    (∀S1 ρ1 a w,qi.out=some S1→Good C w0 σ0 (S1.st ids) ρ1 (fun _=>False) a w→∃M,o=some M∧Good C w0 σ0 (M.st ids) ρ1 (fun _=>False) a w)→
    qi.pc.ev Φ N ρ=some xi→(match some xi with|some (.next ρ')=>some (Out.next (ρ.join lr lo ρ'))|y=>y)=some x→
    ci.wpIn (FR rd) 0 C.P (fM C w0 σ0 ids fn s rm wr a qi.out qi.ex xi) a w→ci.wpIn (FR rd) 0 C.P (fM C w0 σ0 ids fn s rm wr a o (q.ex++p.ex) x) a w:=by
        intro ci qi xi hex j3 oL iU di hx hwp;refine wpIn_mono hwp fun ee a' w' ho=>?_;have other:ee≠.normal→xi=x→fM C w0 σ0 ids fn s rm wr a o (q.ex++p.ex) x ee a' w':=by
         intro az iW;subst iW;exact ho.mono hex (.refl _ _) (fun e=>absurd e az)
        cases ee with
        |normal=>
         obtain⟨ρ1,S2,e1,e2,dP,gx⟩:=ho;subst e1;simp only[aS] at hx;subst hx;obtain⟨M,hM,qv⟩:=iU S2 ρ1 a' w' e2 gx;obtain⟨l1,l2⟩:=hl M hM;subst l1 l2;exact⟨_,M,rfl,hM,dP,qv.joined (PC.ev_but qi.pc ρ _ ρ1 di rfl) j3 oL⟩
        |exit id=>
         refine other (by simp) ?_;obtain⟨ρ1,S2,e1,_⟩:=ho;subst e1;simpa using hx
        |ret=>
         refine other (by simp) ?_;cases rm with
         |false=>obtain⟨d,e1,_⟩:=ho;subst e1;simpa using hx
         |true=>obtain⟨ρ1,S2,e1,_⟩:=ho;subst e1;simpa using hx
        |_=>exact ho.elim
   refine wpIn_cond ij ?_;cases b with
   |true=>
    simp only[cond_true] at bK;cases di:q.pc.ev Φ N ρ with
    |none=>rw[di] at bK;simp at bK
    |some xi=>
     rw[di] at bK;refine fin c1 q xi (fun y hy=>iN _ hy) (fun t ht=>?_) (fun j hj=>nw.2 (.inl (oG.2 j hj))) oK di bK (sd rm S _ hq rd w0 σ0 wr ρ xi a w fE hC hY dh hn hg di);rw[fq,oG.1 t ht];rfl
   |false=>
    simp only[cond_false] at bK;cases di:p.pc.ev Φ N ρ with
    |none=>rw[di] at bK;simp at bK
    |some xi=>
     rw[di] at bK;refine fin c2 p xi (fun y hy=>jk _ hy) (fun t ht=>?_) (fun j hj=>nw.2 (.inr (BB.2 j hj))) lx di bK (se rm S _ hp rd w0 σ0 wr ρ xi a w fE hC hY eN hn hg di);rw[fq,BB.1 t ht,pE]
  have oK:∀S1 ρ1 a w,q.out=some S1→Good C w0 σ0 (S1.st ids) ρ1 (fun _=>False) a w→∃M,kE q.out p.out=some M∧Good C w0 σ0 (M.st ids) ρ1 (fun _=>False) a w:=by
   intro S1 ρ1 a w e1 g1;rw[e1];obtain⟨M,hM⟩:=@Xo S1 p.out;exact⟨M,hM,Xm g1 hM⟩
  have lx:∀S1 ρ1 a w,p.out=some S1→Good C w0 σ0 (S1.st ids) ρ1 (fun _=>False) a w→∃M,kE q.out p.out=some M∧Good C w0 σ0 (M.st ids) ρ1 (fun _=>False) a w:=by
   intro S1 ρ1 a w e1 g1;rw[e1];obtain⟨M,hM⟩:=@Xp q.out S1;exact⟨M,hM,Xn g1 hM⟩
  cases hm:kE q.out p.out with
  |none=>
   rw[hm] at oK lx;simp only[hm] at he ⊢;exact main none [] [] _ rfl (fun M e=>by cases e) oK lx he
  |some M=>
   rw[hm] at oK lx;simp only[hm] at he ⊢;exact main (some M) _ _ _ rfl (fun M' e=>by cases e;exact⟨rfl,rfl⟩) oK lx he
 |block id c1=>
  have sd:=IH c1 (by simp at hc;omega);intro rm S r h rd w0 σ0 wr ρ x a w fE hC hY gj hn hg he;simp only[comp] at h;cases ct:Nat.beq id cD<;>simp only[ct,cond_true,cond_false] at h
  case true=>cases h;exact absurd he (kN _ _ _ _)
  have Gr:id≠cD:=fun e=>by subst e;simp at ct
  simp only[ax] at h;obtain⟨q,hq,rfl⟩:=h;obtain⟨xi,di⟩:=TD he;exact wpIn_block (wpIn_mono (sd rm S _ hq rd w0 σ0 wr ρ xi a w fE hC hY gj hn hg di) fun e a' w' fD=>TF Gr (rz c1 hq) di he fD)
 |loop c1=>
  have sd:=IH c1 (by simp at hc;omega);intro rm S r h rd w0 σ0 wr ρ x a w fE hC hY gj hn hg he;rw[T2] at h;split at h
  ·rename_i qb BO;obtain⟨p,code,ws⟩:=qb;unfold uV at BO;split at BO
   case h_2=>cases BO
   rename_i cx cy ck cz cc;simp only[ax] at BO;obtain⟨p',aR,ep⟩:=BO;cases ep;exact al7 aR (IH _ (by simp at hc;omega)) h fE hC hY gj hn hg he
  split at h
  case h_2=>cases h;exact absurd he (kN _ _ _ _)
  rename_i q hq;cases h;obtain⟨hs,xU,cu⟩:=Ca (C:=C) (w0:=w0) (σ0:=σ0) (ids:=ids) 8 hq;have oG:=rz c1 hs;simp only[PC.ev] at he
  have xV:Good C w0 σ0 (q.1.st ids) (ρ.put (iY q.1 q.2.mr) ((iY q.1 q.2.mr).map ρ.r) (gP ids q.1 q.2.mo) ((gP ids q.1 q.2.mo).map ρ.o)) (fun _=>False) a w:=by
   exact Good.joined (cu hg) (.refl ρ q.2.pc.modR q.2.pc.modO) oG.1 oG.2
  have key:∀(k:Nat) (ρ1:Env) (a':Act) (w:World),SameBut wr a a'→eP (q.2.pc.ev Φ N) ρ (iY q.1 q.2.mr) (gP ids q.1 q.2.mo) k ((iY q.1 q.2.mr).map ρ1.r) ((gP ids q.1 q.2.mo).map ρ1.o)=some x→
        Good C w0 σ0 (q.1.st ids) (ρ.join (iY q.1 q.2.mr) (gP ids q.1 q.2.mo) ρ1) (fun _=>False) a' w→Code.roundsIn (FR rd) 0 C.P c1 (fM C w0 σ0 ids fn s rm wr a none q.2.ex x) k a' w:=by
   intro k
   induction k with
   |zero=>intro ρ1 a' w hn hl hg;simp[eP] at hl
   |succ k ih=>
    intro ρ1 a' w iV hl hg;rw[roundsIn_succ];simp only[eP] at hl;change (match q.2.pc.ev Φ N (ρ.join (iY q.1 q.2.mr) (gP ids q.1 q.2.mo) ρ1) with|some (.next ρ')=>_|y=>y)=some x at hl;cases di:q.2.pc.ev Φ N (ρ.join (iY q.1 q.2.mr) (gP ids q.1 q.2.mo) ρ1) with
    |none=>rw[di] at hl;simp at hl
    |some xi=>
     rw[di] at hl;refine wpIn_mono (sd rm _ _ hs rd w0 σ0 wr _ xi a' w fE hC hY gj (iV.size.trans hn) hg di) fun e a2 w' fD=>?_;have other:e≠.normal→xi=x→fM C w0 σ0 ids fn s rm wr a none q.2.ex x e a2 w':=by
         intro az iW;subst iW;exact fD.mono (fun y hy=>hy) iV (fun e=>absurd e az)
     cases e with
     |normal=>
      obtain⟨ρ2,S2,e1,e2,dP,gx⟩:=fD;subst e1;simp only at hl;refine ih ρ2 a2 w' (iV.trans dP) hl ?_
      have qv:Good C w0 σ0 (q.1.st ids) ρ2 (fun _=>False) a2 w':=by
       have:=gx.meet2 (x:=q.1)
       rwa [xU S2 e2] at this
      refine qv.joined (mr':=iY q.1 q.2.mr++q.2.pc.modR) (mo':=gP ids q.1 q.2.mo++q.2.pc.modO) ?_ (fun t ht=>?_) (fun j hj=>?_)
      ·exact((Env.but.join ρ ρ1 _ _).mono (fun t ht=>iN _ ht) (fun t ht=>iN _ ht)).trans
        ((PC.ev_but q.2.pc _ _ ρ2 di rfl).mono (fun t ht=>jk _ ht) (fun t ht=>jk _ ht))
      ·exact(cS.1 ht).elim Ha (oG.1 t)
      ·exact(cS.1 hj).elim yB (oG.2 j)
     |exit id=>
      refine other (by simp) ?_;obtain⟨ρ1,S2,e1,_⟩:=fD;subst e1;simpa using hl
     |ret=>
      refine other (by simp) ?_;cases rm with
      |false=>obtain⟨d,e1,_⟩:=fD;subst e1;simpa using hl
      |true=>obtain⟨ρ1,S2,e1,_⟩:=fD;subst e1;simpa using hl
     |_=>exact fD.elim
  exact wpIn_loop_rounds N (key N ρ a w (.refl _ _) he xV)
 |exit id=>
  intro rm S r h rd w0 σ0 wr ρ x a w fE hC hY gj hn hg he;simp only[comp] at h;cases ct:Nat.beq id cD<;>simp only[ct,cond_true,cond_false] at h
  case true=>cases h;exact absurd he (kN _ _ _ _)
  cases h;simp only[PC.ev,aS] at he;subst he;exact wpIn_exit ⟨ρ,S,rfl,fun e=>by subst e;simp at ct,by simp,.refl _ _,hg⟩
 |ret=>
  intro rm S r h rd w0 σ0 wr ρ x a w fE hC hY gj hn hg he;simp only[comp] at h;cases rm<;>simp only[cond_true,cond_false] at h
  case true=>
   cases h;simp only[PC.ev,aS] at he;subst he;exact wpIn_ret ⟨ρ,S,rfl,by simp,.refl _ _,hg⟩
  split at h
  ·rename_i e Mm;cases h;simp only[PC.ev,aS] at he;subst he;obtain⟨σ,own,hv,hi⟩:=hg;exact wpIn_ret ⟨_,rfl,Inv.retD hC (fun _=>rfl) (fE rfl).2 Mm _ hi rfl,.refl _ _⟩
  ·cases h;exact absurd he (kN _ _ _ _)
 |rangeFunc g ps ca cb=>exact anM dO (IH ca (by simp at hc;omega)) (IH cb (by simp at hc;omega))
 |_=>intro rm S r h rd w0 σ0 wr ρ x a w fE hC hY gj hn hg he;simp only[comp,aS] at h;subst h;exact absurd he (kN _ _ _ _)
theorem adC {N:Nat}(dO:fm C Φ)(hR:JB C n ids Φ R)(c:Code):tu C Φ fn s n ids R N c:=adD dO hR _ c (Nat.lt_succ_self _)
end
end Cx
