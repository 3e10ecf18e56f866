/-
  Code: sequences, choices, blocks, loops.
-/
import Derived.LoopNIn
import Derived.Test.YtefchokhgdmamaaGreatDoorHAE
import Derived.LoopN
set_option linter.unusedSimpArgs false
set_option linter.unusedVariables false
namespace Cx
open Go Go.RowKit
def aq (m t:Nat):Bool:= !Nat.beq (Nat.land 1 (Nat.shiftRight m t)) 0
theorem q6 (m t:Nat):aq m t=m.testBit t:=by
 unfold aq Nat.testBit;show(!Nat.beq (1&&& (m>>>t)) 0)=((1&&& (m>>>t))!=0)
 generalize 1&&& (m>>>t)=x;cases x<;>rfl
def dO (t:Nat):Nat:=Nat.shiftLeft 1 t
theorem pS (t:Nat):aq (dO t) t=true:=by
 rw[q6];show(1<<<t).testBit t=true;simp[Nat.testBit_shiftLeft]
theorem fo (m k t:Nat):aq (Nat.lor m k) t=(aq m t||aq k t):=by
 simp only[q6];exact Nat.testBit_or m k t
def PI.mask:PI→Nat
 |.setR t _=>dO t|.call _ t _ _=>dO t|.callc _ t _ _=>dO t|_=>0
def HI:List PI→Nat
 |[]=>0
 |p::l=>Nat.lor p.mask (HI l)
def PI.objs:PI→List Nat
 |.setO j _=>[j]|.mcall j _ _=>[j]|_=>[]
def fC (l:List Nat)(x:Nat):Bool:=l.any (Nat.beq x)
def jm (a b:List Nat):List Nat:=a.foldl (fun acc x=>bif fC acc x then acc else x::acc) b
def WQ (l:List PI):List Nat:=l.foldl (fun acc p=>jm p.objs acc) []
theorem oX (l:List Nat)(x:Nat):fC l x=true↔x∈l:=by
 unfold fC;rw[uT];constructor
 ·rintro⟨y,hy,h⟩;rw[au h];exact hy
 ·intro h;exact⟨x,h,gL x⟩
theorem oY {x:Nat}:∀{a b:List Nat},x∈jm a b↔x∈a∨x∈b
 |[],b=>by simp[jm]
 |y::a,b=>by
  have ih:=@oY x a (bif fC b y then b else y::b);have e:jm (y::a) b=jm a (bif fC b y then b else y::b):=rfl;rw[e,ih];cases hb:fC b y
  ·simp[or_assoc,or_left_comm]
  ·have:=(oX b y).1 hb;simp only[cond_true,df];constructor
   ·rintro(h|h)
    ·exact .inl (.inr h)
    ·exact .inr h
   ·rintro((h|h)|h)
    ·subst h;exact .inr this
    ·exact .inl h
    ·exact .inr h
theorem aja {x:Nat}(l:List PI)(h:x∈l.flatMap PI.modO):x∈WQ l:=by
 have key:∀(l:List PI) (acc:List Nat),(x∈l.flatMap PI.modO∨x∈acc)→x∈l.foldl (fun acc p=>jm p.objs acc) acc:=by
  intro l
  induction l with
  |nil=>intro acc h;simpa using h
  |cons p l ih=>
   intro acc h;refine ih _ ?_;rw[qO,de] at h;rcases h with(h|h)|h
   ·refine .inr (oY.2 (.inl ?_));cases p<;>simp_all [PI.modO,PI.objs]
   ·exact .inl h
   ·exact .inr (oY.2 (.inr h))
 exact key l [] (.inl h)
theorem Wr {t:Nat}:∀(l:List PI),t∈l.flatMap PI.modR→aq (HI l) t=true
 |[],h=>by simp at h
 |p::l,h=>by
  rw[qO,de] at h;simp only[HI,fo,gw];rcases h with h|h
  ·left;cases p<;>simp[PI.modR] at h<;>subst h<;>exact pS _
  ·exact .inr (Wr l h)
structure Res2 where
 pc:PC
 out:Option Snap
 ex:List (Nat×Snap)
 mr:Nat
 mo:List Nat
 deriving Inhabited
def l7:Option Snap→Option Snap→Option Snap
 |none,x=>x
 |x,none=>x
 |some a,some b=>some (a.meet b)
def nL (id:Nat):List (Nat×Snap)→Option Snap→Option Snap
 |[],acc=>acc
 |x::l,acc=>nL id l (bif Nat.beq x.1 id then l7 acc (some x.2) else acc)
def iter (step:Snap→Option Res2):Nat→Snap→Option (Snap×Res2)
 |0,_=>none
 |k+1,S=>(step S).bind fun r=>
  match r.out with
  |none=>some (S,r)
  |some T=>bif (S.meet T).beq S then some (S,r) else iter step k (S.meet T)
def j2 (S:Snap)(m:Nat):List Nat:=(List.range S.rs.length).filter fun t=>aq m t&& !isNone (cH (S.rs.getD t .none))
def jf (ids:List Nat)(S:Snap)(l:List Nat):List Nat:=l.filter fun j=> !nJ (dM ids S.os j)
def gu:Res2:=⟨.is [Eh],none,[],0,[]⟩
theorem mm (Φ:aR)(N:Nat)(ρ:Env)(x:Out):gu.pc.ev Φ N ρ≠some x:=by
 intro h;simp[gu,PC.ev,PI.runs,PI.run,Eh,PE.ev,D.b_bool] at h
theorem mq:(∀t,t∈gu.pc.modR→aq gu.mr t=true)∧∀j,j∈gu.pc.modO→j∈gu.mo:=by
 constructor<;>intro t h<;>simp[gu,PC.modR,PC.modO,PI.modR,PI.modO,Eh] at h
def cu:Code→List Nat
 |.region _ ops _=>ops.toList.filterMap (·.dst)
 |.seq a b=>cu a++cu b
 |.cond _ a b=>cu a++cu b
 |.block _ a=>cu a
 |.loop a=>cu a
 |_=>[]
def wh (l:List Nat):Nat:=l.foldr (fun t m=>Nat.lor (dO t) m) 0
def rP (m:Nat):Nat→List Sh→List Sh
 |_,[]=>[]
 |t,s::l=>(bif aq m t then .none else s)::rP m (t+1) l
def Snap.mask (m:Nat)(S:Snap):Snap:=⟨rP m 0 S.rs,S.os⟩
def rC:Sh→Sh
 |.yv=>.none
 |s=>s
def qE:List Nat→List Ty→List Sh→List Sh
 |p::ps,y::ys,l=>qE ps ys (l.set p (.dat y))
 |_,_,l=>l
def Snap.start (ps:List Nat)(ys:List Ty)(S:Snap):Snap:=⟨qE ps ys (S.rs.map rC),S.os⟩
def Wk (ids:List Nat)(l:List Snap)(mo:List Nat):List Nat:=mo.filter fun j=>l.any fun S=> !nJ (dM ids S.os j)
def aly (wm:Nat)(ra rb:Res2):Res2:=
 let m:=Nat.lor wm (Nat.lor ra.mr rb.mr)
 ⟨.seq ra.pc rb.pc,rb.out.map (Snap.mask m),rb.ex.map (fun x=>(x.1,x.2.mask m)),m,jm ra.mo rb.mo⟩
def gf (ids:List Nat)(id:Nat)(r:Res2):Res2:=
    match nL id r.ex r.out with
    |some M=>⟨.block id (j2 M r.mr) (jf ids M r.mo) r.pc,some M,r.ex.filter fun x=> !Nat.beq x.1 id,r.mr,r.mo⟩
    |none=>⟨.block id [] [] r.pc,none,r.ex.filter fun x=> !Nat.beq x.1 id,r.mr,r.mo⟩
def tO:List (Nat×Nat)→Nat→Option Nat
 |[],_=>none
 |x::l,t=>bif Nat.beq x.1 t then some x.2 else tO l t
def kK (pr:Nat):List Oper→List (Nat×Nat)→Option (List (Nat×Nat))
 |[],acc=>some acc
 |o::l,acc=>
  match o.dst,o.guard with
  |some d,none=>
   bif Nat.beq d pr||(tO acc d).isSome then none else
   match o.op with
   |.extract (.tmp t) i=>bif Nat.beq t pr&&Nat.ble i 1 then kK pr l (acc++[(d,i)]) else none
   |.assign (.tmp t)=>(tO acc t).bind fun i=>kK pr l (acc++[(d,i)])
   |.move (.tmp t)=>(tO acc t).bind fun i=>kK pr l (acc++[(d,i)])
   |_=>none
  |_,_=>none
structure MP where
 it:Nat
 nx:Nat
 mo:Nat
 out:Nat
 next:Nat
 pr:Nat
 ops1:Array Oper
 ops2:Array Oper
 aa:List (Nat×Nat)
 deriving Inhabited
def zb (x y:Code)(k:Nat)(z:Code):Option MP:=
 match x,y,z with
 |.region _ ops1 false,.cond (.tmp mo) .skip (.exit out),.region _ ops2 false=>
  match ops1.toList,ops2.toList with
  |[o1,o2],o3::l=>
   match o1.dst,o1.guard,o1.op,o2.dst,o2.guard,o2.op,o3.dst,o3.guard,o3.op with
   |some nx,none,.next (.tmp it) false,some mo',none,.extract (.tmp WM) 0,some pr,none,.entry (.tmp VQ)=>
    bif Nat.beq mo mo'&&Nat.beq nx WM&&Nat.beq it VQ&& !Nat.beq it nx&& !Nat.beq it mo&& !Nat.beq it pr&& !Nat.beq nx mo&& !Nat.beq out cO&& !Nat.beq k cO then
     (kK pr l []).map fun aa=>⟨it,nx,mo,out,k,pr,ops1,ops2,aa⟩
    else none
   |_,_,_,_,_,_,_,_,_=>none
  |_,_=>none
 |_,_,_=>none
def v5:List Nat→Nat→List Ob→List Ob
 |i::is,J,o::os=>(bif Nat.beq i J then .dead else o)::v5 is J os
 |_,_,os=>os
def Snap.kill (ids:List Nat)(J:Nat)(S:Snap):Snap:=⟨S.rs,v5 ids J S.os⟩
def VN (J:Nat)(kt et:Ty)(ids:List Nat)(p:MP)(m:Nat)(S:Snap):Bool:=
 Sh.beq (S.rs.getD p.it .none) (.obj J 0)&&Ob.beq (dM ids S.os J) (.it kt et)&& !aq m p.it
def zc (ids:List Nat)(n:Nat)(p:MP)(ws:List Nat)(f:Snap→Option Res2)(S:Snap):Option Res2:=
 match cH (S.rs.getD p.it .none) with
 |.obj J 0=>
  match dM ids S.os J with
  |.it kt et=>
   let ps:=p.aa.map (·.1)
   let ys:=p.aa.map fun x=>bif Nat.beq x.2 0 then kt else et
   let m:=wh ws
   match iter (fun S=>(f ((S.mask m).start ps ys)).map (gf ids p.next)) 8 S with
   |some r=>
    bif r.2.ex.isEmpty&& !fC r.2.mo J&&VN J kt et ids p m r.1&&gp ps&&ps.all (fun t=>Nat.blt t n)&&Nat.blt p.nx n&&Nat.blt p.mo n&&Nat.blt p.pr n&&Nat.beq (Nat.lor m r.2.mr) m then
       some ⟨.seq (.meach J ps (p.aa.map (·.2)) (jf ids r.1 r.2.mo) r.2.pc) (.exit p.out),none,[(p.out,(r.1.mask m).kill ids J)],0,r.2.mo⟩
    else some gu
   |none=>some gu
  |_=>some gu
 |_=>some gu
def comp (C:Ctx)(fn:Func)(s:Sig)(n:Nat)(ids:List Nat)(R:Array Oper→Bool→Snap→Option (Snap×List PI)):Bool→Code→Snap→Option Res2
 |_,.skip,S=>some ⟨.skip,some S,[],0,[]⟩
 |_,.region _ ops draw,S=>(R ops draw S).map fun r=>⟨.is r.2,some r.1,[],HI r.2,WQ r.2⟩
 |rm,.seq a b,S=>(comp C fn s n ids R rm a S).bind fun r=>
  match r.out with
  |none=>some r
  |some S1=>(comp C fn s n ids R rm b S1).map fun q=>⟨.seq r.pc q.pc,q.out,r.ex++q.ex,Nat.lor r.mr q.mr,jm r.mo q.mo⟩
 |rm,.cond c a b,S=>
  match use C (S.st ids) [] c with
  |some (.bool,e)=>
   (comp C fn s n ids R rm a S).bind fun r=>(comp C fn s n ids R rm b S).map fun q=>
     match l7 r.out q.out with
     |some M=>⟨.ite e (j2 M (Nat.lor r.mr q.mr)) (jf ids M (jm r.mo q.mo)) r.pc q.pc,some M,r.ex++q.ex,Nat.lor r.mr q.mr,jm r.mo q.mo⟩
     |none=>⟨.ite e [] [] r.pc q.pc,none,r.ex++q.ex,Nat.lor r.mr q.mr,jm r.mo q.mo⟩
  |_=>some gu
 |rm,.block id a,S=>bif Nat.beq id cO then some gu else(comp C fn s n ids R rm a S).map (gf ids id)
 |rm,.loop (.seq x (.seq y (.block k (.seq z code)))),S=>
  (match zb x y k z with
  |some p=>zc ids n p (cu x++(cu y++(cu z++cu code))) (fun S=>comp C fn s n ids R rm code S) S
  |none=>
  match iter (fun S=>comp C fn s n ids R rm (.seq x (.seq y (.block k (.seq z code)))) S) 8 S with
  |some r=>some ⟨.loop (j2 r.1 r.2.mr) (jf ids r.1 r.2.mo) r.2.pc,none,r.2.ex,r.2.mr,r.2.mo⟩
  |none=>some gu)
 |rm,.loop a,S=>
  match iter (fun S=>comp C fn s n ids R rm a S) 8 S with
  |some r=>some ⟨.loop (j2 r.1 r.2.mr) (jf ids r.1 r.2.mo) r.2.pc,none,r.2.ex,r.2.mr,r.2.mo⟩
  |none=>some gu
 |_,.exit id,S=>bif Nat.beq id cO then some gu else some ⟨.exit id,none,[(id,S)],0,[]⟩
 |rm,.ret,S=>
  bif rm then some ⟨.exit cO,none,[(cO,S)],0,[]⟩ else
  match wO C fn s (S.st ids) with
  |some e=>some ⟨.ret e,none,[],0,[]⟩
  |none=>some gu
 |rm,.rangeFunc g ps a b,S=>
  match rm,C.yl,use C (S.st ids) [] g with
  |false,none,some (.fn aa r,e)=>
   match l0 aa r with
   |some ys=>
    match iter (fun S=>(comp C fn s n ids R true a (S.start ps.toList ys)).bind fun ra=>
          match ra.out,ra.ex with
          |some S1,[]=>(comp C fn s n ids R true b S1).map (aly (wh (ps.toList++cu a++cu b)) ra)
          |_,_=>none) 8 S with
    |some r=>
     bif Nat.beq ys.length ps.size&&gp ps.toList&&ps.toList.all (fun p=>Nat.blt p n)&&Nat.ble r.1.rs.length n then
           some ⟨.seq (.is [.callc [] n e []]) (.each (.r n) ps.toList (Wk ids (r.1::r.2.ex.map (·.2)) r.2.mo) ((nL cO r.2.ex none).bind fun M=>wO C fn s (M.st ids)) r.2.pc),
            some r.1,r.2.ex.filter (fun x=> !Nat.beq x.1 cO),dO n,r.2.mo⟩
     else some gu
    |none=>some gu
   |none=>some gu
  |_,_,_=>some gu
 |_,_,_=>some gu
termination_by structural _ c=>c
def we:Code→Option (MP×Code×List Nat)
 |.seq x (.seq y (.block k (.seq z code)))=>(zb x y k z).map fun p=>(p,code,cu x++(cu y++(cu z++cu code)))
 |_=>none
theorem Ti (C:Ctx)(fn:Func)(s:Sig)(n:Nat)(ids:List Nat)(R:Array Oper→Bool→Snap→Option (Snap×List PI))(rm:Bool)(a:Code)(S:Snap):comp C fn s n ids R rm (.loop a) S=
 match we a with
 |some q=>zc ids n q.1 q.2.2 (fun S=>comp C fn s n ids R rm q.2.1 S) S
 |none=>
  match iter (fun S=>comp C fn s n ids R rm a S) 8 S with
  |some r=>some ⟨.loop (j2 r.1 r.2.mr) (jf ids r.1 r.2.mo) r.2.pc,none,r.2.ex,r.2.mr,r.2.mo⟩
  |none=>some gu:=by
 by_cases h:∃x y k z code,a=.seq x (.seq y (.block k (.seq z code)))
 ·obtain⟨x,y,k,z,code,rfl⟩:=h
  conv=>lhs;unfold comp
  simp only[we];cases zb x y k z<;>rfl
 ·have e:we a=none:=by
   unfold we;split
   ·rename_i x y k z code;exact absurd ⟨x,y,k,z,code,rfl⟩ h
   ·rfl
  rw[e];rw[comp];intro x y k z code e;exact h ⟨x,y,k,z,code,e⟩
def subs:Code→List Code
 |.seq a b=>.seq a b::(subs a++subs b)
 |.cond c a b=>.cond c a b::(subs a++subs b)
 |.block i a=>.block i a::subs a
 |.loop a=>.loop a::subs a
 |.rangeFunc g ps a b=>.rangeFunc g ps a b::(subs a++subs b)
 |c=>[c]
theorem al9 (c:Code):c∈subs c:=by cases c<;>simp[subs]
theorem atk {a code:Code}{p:MP}{ws:List Nat}(h:we a=some (p,code,ws)):code∈subs a:=by
 unfold we at h;split at h
 ·simp only[av] at h;obtain⟨q,_,e⟩:=h;cases e;simp[subs,al9]
 ·cases h
def JS (C:Ctx)(n:Nat)(ids:List Nat)(Φ:aR)(R:Array Oper→Bool→Snap→Option (Snap×List PI)):Prop:=
 ∀(id:Nat) (ops:Array Oper) (draw:Bool) (S:Snap) (r:Snap×List PI),R ops draw S=some r→
  ∀(rd:Option Nat) (w0:World) (σ0:Base) (ρ ρ':Env) (a:Act) (w:World) (Q:Exit→Act→World→Prop),CtxOK C σ0→pP C Φ w0 σ0→a.tmps.size=n→Good C w0 σ0 (S.st ids) ρ (fun _=>False) a w→PI.runs Φ r.2 ρ=some ρ'→
   (∀a' w',SameBut (pY ops) a a'→Good C w0 σ0 (r.1.st ids) ρ' (fun _=>False) a' w'→Q .normal a' w')→(Code.region id ops draw).wpIn (FR rd) 0 C.P Q a w
section
variable {C:Ctx} {ρ ρ':Env} {σ:Im} {own:Nat→Option Nat} {hv:Nat→Value} {w0:World} {σ0:Base} {A:Nat→Prop} {a:Act} {w:World} {Φ:aR} {n:Nat} {ids:List Nat} {fn:Func} {s:Sig}
 {R:Array Oper→Bool→Snap→Option (Snap×List PI)}
def gA (C:Ctx)(w0:World)(σ0:Base)(ids:List Nat)(fn:Func)(s:Sig)(rm:Bool)(wr:Nat→Prop)(a0:Act)(out:Option Snap)(ex:List (Nat×Snap))(x:Out):Exit→Act→World→Prop
 |.normal,a,w=>∃ρ S,x=.next ρ∧out=some S∧SameBut wr a0 a∧Good C w0 σ0 (S.st ids) ρ (fun _=>False) a w
 |.exit id,a,w=>∃ρ S,x=.exit id ρ∧id≠cO∧(id,S)∈ex∧SameBut wr a0 a∧Good C w0 σ0 (S.st ids) ρ (fun _=>False) a w
 |.ret,a,w=>match rm with
  |false=>∃d,x=.ret d∧qV C w0 σ0 fn s d a.tmps a.defers w∧SameBut wr a0 a
  |true=>∃ρ S,x=.exit cO ρ∧(cO,S)∈ex∧SameBut wr a0 a∧Good C w0 σ0 (S.st ids) ρ (fun _=>False) a w
 |_,_,_=>False
theorem Good.meet1 {x y:Snap}(h:Good C w0 σ0 (x.st ids) ρ A a w):Good C w0 σ0 ((x.meet y).st ids) ρ (fun _=>False) a w:=by
 obtain⟨σ,own,hv,h⟩:=h;exact⟨σ,own,hv,Snap.meet_ok1 h⟩
theorem Good.meet2 {x y:Snap}(h:Good C w0 σ0 (y.st ids) ρ A a w):Good C w0 σ0 ((x.meet y).st ids) ρ (fun _=>False) a w:=by
 obtain⟨σ,own,hv,h⟩:=h;exact⟨σ,own,hv,Snap.meet_ok2 h⟩
theorem Wy {x:Snap}{y:Option Snap}{M:Snap}(h:Good C w0 σ0 (x.st ids) ρ (fun _=>False) a w)(hm:l7 (some x) y=some M):Good C w0 σ0 (M.st ids) ρ (fun _=>False) a w:=by
 cases y<;>simp[l7] at hm<;>subst hm
 ·exact h
 ·exact h.meet1
theorem Wz {x:Option Snap}{y:Snap}{M:Snap}(h:Good C w0 σ0 (y.st ids) ρ (fun _=>False) a w)(hm:l7 x (some y)=some M):Good C w0 σ0 (M.st ids) ρ (fun _=>False) a w:=by
 cases x<;>simp[l7] at hm<;>subst hm
 ·exact h
 ·exact h.meet2
theorem WA {x:Snap}{y:Option Snap}:∃M,l7 (some x) y=some M:=by cases y<;>simp[l7]
theorem WB {x:Option Snap}{y:Snap}:∃M,l7 x (some y)=some M:=by cases x<;>simp[l7]
theorem HJ {id:Nat}:∀(l:List (Nat×Snap)) {x:Snap},Good C w0 σ0 (x.st ids) ρ (fun _=>False) a w→∃M,nL id l (some x)=some M∧Good C w0 σ0 (M.st ids) ρ (fun _=>False) a w
 |[],x,h=>⟨x,rfl,h⟩
 |y::l,x,h=>by
  simp only[nL];cases Nat.beq y.1 id
  ·exact HJ l h
  ·obtain⟨M,hM⟩:=@WA x (some y.2);simp only[cond_true,hM];exact HJ l (Wy h hM)
theorem Nz {id:Nat}{S:Snap}(h:Good C w0 σ0 (S.st ids) ρ (fun _=>False) a w):∀(l:List (Nat×Snap)) (x:Option Snap),(id,S)∈l→∃M,nL id l x=some M∧Good C w0 σ0 (M.st ids) ρ (fun _=>False) a w
 |y::l,x,hm=>by
  simp only[nL];rcases df.1 hm with e|hm
  ·subst e;simp only[gL,cond_true];obtain⟨M,hM⟩:=@WB x S;rw[hM];exact HJ l (Wz h hM)
  ·exact Nz h l _ hm
theorem CR {step:Snap→Option Res2}:∀(k:Nat) {S:Snap} {r:Snap×Res2},iter step k S=some r→
 step r.1=some r.2∧(∀T,r.2.out=some T→r.1.meet T=r.1)∧∀{ρ:Env} {a:Act} {w:World},Good C w0 σ0 (S.st ids) ρ (fun _=>False) a w→Good C w0 σ0 (r.1.st ids) ρ (fun _=>False) a w
 |0,S,r,h=>by simp[iter] at h
 |k+1,S,r,h=>by
  simp only[iter,ao] at h;obtain⟨q,hq,h⟩:=h;split at h
  ·rename_i ho;cases h;exact⟨hq,fun T hT=>by simp[ho] at hT,fun g=>g⟩
  ·rename_i T ho;cases hb:(S.meet T).beq S<;>simp only[hb,cond_true,cond_false] at h
   ·obtain⟨h1,h2,h3⟩:=CR k h;exact⟨h1,h2,fun g=>h3 g.meet1⟩
   ·cases h;refine⟨hq,fun T' hT=>?_,fun g=>g⟩;simp only[ho,aO] at hT;subst hT;exact Snap.beq_eq _ _ hb
theorem VR {step:Snap→Option Res2}{hv:Nat→Value}:∀(k:Nat) {S:Snap} {r:Snap×Res2},iter step k S=some r→Inv C (S.st ids) ρ σ own hv w0 σ0 (fun _=>False) a w→Inv C (r.1.st ids) ρ σ own hv w0 σ0 (fun _=>False) a w
 |0,S,r,h,_=>by simp[iter] at h
 |k+1,S,r,h,i=>by
  simp only[iter,ao] at h;obtain⟨q,hq,h⟩:=h;split at h
  ·cases h;exact i
  ·rename_i T ho;cases hb:(S.meet T).beq S<;>simp only[hb,cond_true,cond_false] at h
   ·exact VR k h (Snap.meet_ok1 i)
   ·cases h;exact i
theorem Good.joined {M:Snap}{m:Nat}{mo mr' mo':List Nat}(h:Good C w0 σ0 (M.st ids) ρ' (fun _=>False) a w)(hb:ρ.but ρ' mr' mo')(h1:∀t,t∈mr'→aq m t=true)(h2:∀j,j∈mo'→j∈mo):
 Good C w0 σ0 (M.st ids) (ρ.join (j2 M m) (jf ids M mo) ρ') (fun _=>False) a w:=by
 obtain⟨σ,own,hv,h⟩:=h;refine⟨σ,own,hv,h.env (Snap.noOpt _ _) (fun t ht=>?_) (fun j hj=>?_)⟩
 ·simp only[Env.join,Env.put,rY];split
  ·rfl
  ·rename_i hm;refine(hb.r t fun Ch=>hm ?_).symm;have ae:t<M.rs.length:=by
        refine Sj fun hle=>?_;simp only[Snap.st,aF,qP hle,Option.getD_none,cH,isNone] at ht;cases ht
   exact ed.2 ⟨bZ.2 ae,by rw[h1 t Ch];simpa [Snap.st] using ht⟩
 ·simp only[Env.join,Env.put,rY];split
  ·rfl
  ·rename_i hm;refine(hb.o j fun Ch=>hm ?_).symm;exact ed.2 ⟨h2 j Ch,by simpa [Snap.st] using hj⟩
theorem HL {S:Snap}{m t:Nat}(h:t∈j2 S m):aq m t=true:=by
 have:=(ed.1 h).2;simp only[aj] at this;exact this.1
theorem zd {S:Snap}{l:List Nat}{j:Nat}(h:j∈jf ids S l):j∈l:=(ed.1 h).1
theorem SR {id:Nat}{q:Res2}(h:(∀t,t∈q.pc.modR→aq q.mr t=true)∧∀j,j∈q.pc.modO→j∈q.mo):(∀t,t∈(gf ids id q).pc.modR→aq (gf ids id q).mr t=true)∧∀j,j∈(gf ids id q).pc.modO→j∈(gf ids id q).mo:=by
 unfold gf;cases hm:nL id q.ex q.out<;>simp only
 ·simpa [PC.modR,PC.modO] using h
 ·refine⟨fun t ht=>?_,fun j hj=>?_⟩
  ·simp only[PC.modR,de] at ht;exact ht.elim HL (h.1 t)
  ·simp only[PC.modO,de] at hj;exact hj.elim zd (h.2 j)
theorem ai3 {p:MP}{ws:List Nat}{f:Snap→Option Res2}{S:Snap}{r:Res2}(h:zc ids n p ws f S=some r):(∀t,t∈r.pc.modR→aq r.mr t=true)∧∀j,j∈r.pc.modO→j∈r.mo:=by
 unfold zc at h;split at h
 case h_2=>cases h;exact mq
 split at h
 case h_2=>cases h;exact mq
 simp only at h;split at h
 case h_2=>cases h;exact mq
 rw[od] at h;split at h
 ·cases h;refine⟨fun t ht=>by simp[PC.modR] at ht,fun j hj=>?_⟩;simp only[PC.modO,kO] at hj;exact zd hj
 ·cases h;exact mq
theorem sP:∀(c:Code) {rm:Bool} {S:Snap} {r:Res2},comp C fn s n ids R rm c S=some r→(∀t,t∈r.pc.modR→aq r.mr t=true)∧∀j,j∈r.pc.modO→j∈r.mo:=by
 intro c
 induction c with
 |skip=>intro rm S r h;simp only[comp,aO] at h;subst h;simp[PC.modR,PC.modO]
 |region id ops draw=>
  intro rm S r h;simp only[comp,av] at h;obtain⟨q,_,rfl⟩:=h;exact⟨fun t ht=>Wr _ ht,fun j hj=>aja _ hj⟩
 |seq x y jd vZ=>
  intro rm S r h;simp only[comp,ao] at h;obtain⟨q,hq,h⟩:=h;split at h
  ·cases h;exact jd hq
  ·simp only[av] at h;obtain⟨p,hp,rfl⟩:=h;refine⟨fun t ht=>?_,fun j hj=>?_⟩
   ·simp only[PC.modR,de] at ht;rw[fo,gw];exact ht.imp ((jd hq).1 t) ((vZ hp).1 t)
   ·simp only[PC.modO,de] at hj;rw[oY];exact hj.imp ((jd hq).2 j) ((vZ hp).2 j)
 |cond c x y jd vZ=>
  intro rm S r h;simp only[comp] at h;split at h
  case h_2=>cases h;exact mq
  rename_i e _;simp only[ao,av] at h;obtain⟨q,hq,p,hp,rfl⟩:=h;cases hm:l7 q.out p.out<;>simp only[hm]
  ·refine⟨fun t ht=>?_,fun j hj=>?_⟩
   ·simp only[PC.modR,de,qT] at ht;rw[fo,gw];exact ht.imp ((jd hq).1 t) ((vZ hp).1 t)
   ·simp only[PC.modO,de,qT] at hj;rw[oY];exact hj.imp ((jd hq).2 j) ((vZ hp).2 j)
  ·refine⟨fun t ht=>?_,fun j hj=>?_⟩
   ·simp only[PC.modR,de] at ht;rw[fo,gw];rcases ht with(ht|ht)|ht
    ·have:=HL ht;rw[fo,gw] at this;exact this
    ·exact .inl ((jd hq).1 t ht)
    ·exact .inr ((vZ hp).1 t ht)
   ·simp only[PC.modO,de] at hj;rcases hj with(hj|hj)|hj
    ·exact zd hj
    ·exact oY.2 (.inl ((jd hq).2 j hj))
    ·exact oY.2 (.inr ((vZ hp).2 j hj))
 |block id x jd=>
  intro rm S r h;simp only[comp] at h;cases cQ:Nat.beq id cO<;>simp only[cQ,cond_true,cond_false] at h
  case true=>cases h;exact mq
  simp only[av] at h;obtain⟨q,hq,rfl⟩:=h;exact SR (jd hq)
 |loop x jd=>
  intro rm S r h;rw[Ti] at h;split at h
  ·exact ai3 h
  split at h
  case h_2=>cases h;exact mq
  rename_i q hq;cases h;have hs:=(CR (C:=C) (w0:=default) (σ0:=Base.mk0 ⟨fun _ _=>none,fun _=>none⟩ 0) (ids:=ids) 8 hq).1;refine⟨fun t ht=>?_,fun j hj=>?_⟩
  ·simp only[PC.modR,de] at ht;exact ht.elim HL ((jd hs).1 t)
  ·simp only[PC.modO,de] at hj;exact hj.elim zd ((jd hs).2 j)
 |exit id=>
  intro rm S r h;simp only[comp] at h;cases cQ:Nat.beq id cO<;>simp only[cQ,cond_true,cond_false] at h<;>cases h
  ·simp[PC.modR,PC.modO]
  ·exact mq
 |ret=>
  intro rm S r h;simp only[comp] at h;cases rm<;>simp only[cond_true,cond_false] at h
  case true=>cases h;simp[PC.modR,PC.modO]
  split at h
  ·cases h;simp[PC.modR,PC.modO]
  ·cases h;exact mq
 |rangeFunc g ps x y _ _=>
  intro rm S r h;simp only[comp] at h;split at h
  case h_2=>cases h;exact mq
  split at h
  case h_2=>cases h;exact mq
  split at h
  case h_2=>cases h;exact mq
  rename_i q hq;rw[od] at h;split at h
  ·cases h;refine⟨fun t ht=>?_,fun j hj=>?_⟩
   ·simp[PC.modR,PI.modR] at ht;subst ht;exact pS _
   ·simp only[PC.modO,PI.modO,qO,R9,kO,qT] at hj;exact(ed.1 hj).1
  ·cases h;exact mq
 |_=>intro rm S r h;simp only[comp,aO] at h;subst h;exact mq
theorem gA.mono {rm:Bool}{wr:Nat→Prop}{a0 a1:Act}{out X3:Option Snap}{ex TD:List (Nat×Snap)}{x:Out}{e:Exit}(h:gA C w0 σ0 ids fn s rm wr a0 out ex x e a w)(he:∀y,y∈ex→y∈TD)(hs:SameBut wr a1 a0)
 (ho:e=.normal→X3=out):gA C w0 σ0 ids fn s rm wr a1 X3 TD x e a w:=by
 cases e with
 |normal=>obtain⟨ρ,S,h1,h2,h3,h4⟩:=h;exact⟨ρ,S,h1,by rw[ho rfl];exact h2,hs.trans h3,h4⟩
 |exit id=>obtain⟨ρ,S,h1,h2,h3,h4,h5⟩:=h;exact⟨ρ,S,h1,h2,he _ h3,hs.trans h4,h5⟩
 |ret=>
  cases rm with
  |false=>obtain⟨d,h1,h2,h3⟩:=h;exact⟨d,h1,h2,hs.trans h3⟩
  |true=>obtain⟨ρ,S,h1,h3,h4,h5⟩:=h;exact⟨ρ,S,h1,he _ h3,hs.trans h4,h5⟩
 |_=>exact h.elim
theorem Tv {body:Env→Option Out}{ρ:Env}{ps lo:List Nat}{rt:Option PE}{x:Out}:∀{xs vo:List D},kj body ρ ps lo rt xs vo=some x→
 ∃(m:Nat) (my:Nat→List D),m≤xs.length∧my 0=vo∧
  (∀i,i<m→∃y ρ',xs[i]?=some y∧body (ρ.put ps (partsOf ps y) lo (my i))=some (.next ρ')∧lo.map ρ'.o=my (i+1))∧
  ((m=xs.length∧x=.next (ρ.put [] [] lo (my m)))∨
   (m<xs.length∧∃y id ρ',xs[m]?=some y∧body (ρ.put ps (partsOf ps y) lo (my m))=some (.exit id ρ')∧
    ((id≠cO∧x=.exit id (ρ.put [] [] lo (lo.map ρ'.o)))∨(id=cO∧∃e,rt=some e∧x=.ret (e.ev (ρ.put [] [] lo (lo.map ρ'.o)))))))
 |[],vo,h=>by
  simp only[kj,aO] at h;exact⟨0,fun _=>vo,aU _,rfl,fun i hi=>by omega,.inl ⟨rfl,h.symm⟩⟩
 |y::xs,vo,h=>by
  simp only[kj] at h;split at h
  ·rename_i ρ' hb;obtain⟨m,my,h1,h2,h3,h4⟩:=Tv h;refine⟨m+1,fun i=>match i with|0=>vo|i+1=>my i,by simp;omega,rfl,fun i hi=>?_,?_⟩
   ·cases i with
    |zero=>exact⟨y,ρ',rfl,hb,h2.symm⟩
    |succ i=>simpa using h3 i (by omega)
   ·rcases h4 with⟨e1,e2⟩|⟨e1,z,id,ρ2,e2,e3,e4⟩
    ·exact .inl ⟨by simp[e1],e2⟩
    ·exact .inr ⟨by simp;omega,z,id,ρ2,by simpa using e2,e3,e4⟩
  ·rename_i id ρ' hb;refine⟨0,fun _=>vo,nf _,rfl,fun i hi=>by omega,.inr ⟨by simp,y,id,ρ',rfl,hb,?_⟩⟩;cases cQ:Nat.beq id cO<;>simp only[cQ,cond_true,cond_false] at h
   ·refine .inl ⟨fun e=>?_,(EL h).symm⟩;subst e;simp at cQ
   ·simp only[av] at h;obtain⟨e,he,e2⟩:=h;exact .inr ⟨au cQ,e,he,e2.symm⟩
  ·cases h
theorem SO {l:List Nat}{t:Nat}(h:t∈l):aq (wh l) t=true:=by
 induction l with
 |nil=>cases h
 |cons x l ih=>
  have e:wh (x::l)=Nat.lor (dO x) (wh l):=rfl;rw[e,fo];rcases df.1 h with e|e
  ·subst e;rw[pS];rfl
  ·rw[ih e];simp
theorem Nx (m:Nat):∀(l:List Sh) (k t:Nat),(rP m k l).getD t .none=if aq m (k+t)=true then .none else l.getD t .none
 |[],k,t=>by simp[rP]
 |s::l,k,0=>by
  simp only[rP,sB,gK];cases aq m k<;>rfl
 |s::l,k,t+1=>by
  simp only[rP,At];rw[Nx m l (k+1) t,show k+1+t=k+(t+1) by omega]
theorem CZ (m:Nat)(S:Snap)(t:Nat):((S.mask m).st ids).r t=if aq m t=true then .none else(S.st ids).r t:=by
 show cH ((rP m 0 S.rs).getD t .none)=if aq m t=true then .none else cH (S.rs.getD t .none);rw[Nx,eW];split<;>rfl
theorem ai8 {m:Nat}{x S:Snap}{t:Nat}(h:aq m t=true):((x.meet (S.mask m)).st ids).r t=.none:=by
 show cH ((List.zipWith jh x.rs (rP m 0 S.rs)).getD t .none)=.none;rcases Jx (f:=jh) x.rs (rP m 0 S.rs) t with h0|⟨s,u,h1,h2,h3⟩
 ·rw[h0];rfl
 ·rw[Nx,eW,if_pos h] at h2;subst h2;rw[h3];cases s<;>rfl
theorem Inv.maskR {S:Snap}{hv:Nat→Value}(h:Inv C (S.st ids) ρ σ own hv w0 σ0 A a w)(m:Nat):Inv C ((S.mask m).st ids) ρ σ own hv w0 σ0 (fun _=>False) a w:=by
 have hc:Compat (S.st ids) hv ((S.mask m).st ids) hv:=⟨fun _=>aU _,fun _ _=>rfl⟩
 refine h.weaken (fun t=>?_) (fun j=>?_) (Snap.noOpt _ _) (fun j hj=>⟨hj,rfl⟩)
 ·refine aC.mono' (ρ:=ρ) (.refl σ) hc (Snap.noOpt _ _ t) ?_;rw[CZ];split
  ·trivial
  ·exact h.regs t
 ·exact(h.objs j).mono (.refl σ) hc rfl rfl (fun k hk=>⟨hk,rfl⟩)
theorem PM:∀(ps:List Nat) (ys:List Ty) (l:List Sh),ps.length=ys.length→gp ps=true→∀t,(qE ps ys l).getD t .none=.none∨(t∉ps∧(qE ps ys l).getD t .none=l.getD t .none)∨∃(i:Nat) (y:Ty),ps[i]?=some t∧ys[i]?=some y∧(qE ps ys l).getD t .none=.dat y
 |[],ys,l,_,_,t=>.inr (.inl ⟨by simp,by cases ys<;>rfl⟩)
 |p::ps,[],l,h,_,t=>by simp at h
 |p::ps,y::ys,l,h,hn,t=>by
  have iX:=l8 hn;rw[mB] at iX;have dB:gp ps=true:=by
   simp only[gp,aj] at hn;exact hn.2
  show(qE ps ys (l.set p (.dat y))).getD t .none=_∨_∨_;rcases PM ps ys (l.set p (.dat y)) (by simpa using h) dB t with e|⟨e1,e2⟩|⟨i,z,e1,e2,e3⟩
  ·exact .inl e
  ·by_cases hp:t=p
   ·subst hp;by_cases ae:t<l.length
    ·exact .inr (.inr ⟨0,y,rfl,rfl,by show(qE ps ys (l.set t (.dat y))).getD t .none=_;rw[e2];simp[aF,ae]⟩)
    ·left;rw[e2];simp[aF,ae]
   ·refine .inr (.inl ⟨by simp[hp,e1],?_⟩);show(qE ps ys (l.set p (.dat y))).getD t .none=_;rw[e2];simp only[aF,sC];rw[if_neg (fun e=>hp e.symm)]
  ·exact .inr (.inr ⟨i+1,z,by simpa using e1,by simpa using e2,e3⟩)
def mj:List Nat→List Value→Array Value→Array Value
 |p::ps,v::vs,T=>mj ps vs (T.setIfInBounds p v)
 |_,_,T=>T
theorem alS (ps:Array Nat)(vs:Array Value)(T:Array Value):(ps.zip vs).foldl (fun T x=>T.setIfInBounds x.1 x.2) T=mj ps.toList vs.toList T:=by
 rw[←Array.foldl_toList,Array.toList_zip];generalize ps.toList=l;generalize vs.toList=k
 induction l generalizing k T with
 |nil=>rfl
 |cons p l ih=>
  cases k with
  |nil=>rfl
  |cons v k=>simpa [mj] using ih (T.setIfInBounds p v) k
theorem ZM:∀(ps:List Nat) (vs:List Value) (T:Array Value),(mj ps vs T).size=T.size
 |[],vs,T=>by cases vs<;>rfl
 |p::ps,[],T=>rfl
 |p::ps,v::vs,T=>by simp[mj,ZM ps vs]
theorem I8:∀(ps:List Nat) (vs:List Value) (T:Array Value) (t:Nat),t∉ps→(mj ps vs T).getD t undef=T.getD t undef
 |[],vs,T,t,_=>by cases vs<;>rfl
 |p::ps,[],T,t,_=>rfl
 |p::ps,v::vs,T,t,h=>by
  simp only[df,not_or] at h;simp only[mj];rw[I8 ps vs _ t h.2];simp only[ej,uM];rw[if_neg (fun e=>h.1 e.symm)]
theorem ZL:∀(ps:List Nat) (vs:List Value) (T:Array Value) (i t:Nat),ps.Nodup→ps.length=vs.length→(∀p,p∈ps→p<T.size)→ps[i]?=some t→(mj ps vs T).getD t undef=vs.getD i undef
 |p::ps,v::vs,T,0,t,hn,hl,ae,h=>by
  simp at h;subst h;rw[mB] at hn;simp only[mj];rw[I8 ps vs _ p hn.1];simp[uM,ae p (dG ..)]
 |p::ps,v::vs,T,i+1,t,hn,hl,ae,h=>by
  rw[mB] at hn;simp only[mj];have:=ZL ps vs (T.setIfInBounds p v) i t hn.2 (by simpa using hl) (fun q hq=>by simpa using ae q (dz _ hq)) (by simpa using h);simpa using this
 |p::ps,[],T,i,t,hn,hl,ae,h=>by simp at hl
 |[],vs,T,i,t,hn,hl,ae,h=>by simp at h
theorem zD (f:Nat→D):∀(ps:List Nat) (vs:List D) (t:Nat),t∉ps→putL f ps vs t=f t
 |[],vs,t,_=>by cases vs<;>rfl
 |p::ps,[],t,_=>rfl
 |p::ps,v::vs,t,h=>by
  simp only[df,not_or] at h;simp only[putL,bf _ _ h.1];exact zD f ps vs t h.2
theorem On (f:Nat→D):∀(ps:List Nat) (vs:List D) (i t:Nat),ps.Nodup→ps.length=vs.length→ps[i]?=some t→putL f ps vs t=vs.getD i .none
 |p::ps,v::vs,0,t,hn,hl,h=>by
  simp at h;subst h;simp[putL,aG]
 |p::ps,v::vs,i+1,t,hn,hl,h=>by
  rw[mB] at hn;have ht:t∈ps:=jO (by simpa using h);have az:t≠p:=fun e=>hn.1 (e▸ht);simp only[putL,bf _ _ az];have:=On f ps vs i t hn.2 (by simpa using hl) (by simpa using h);simpa using this
 |p::ps,[],i,t,hn,hl,h=>by simp at hl
 |[],vs,i,t,hn,hl,h=>by simp at h
theorem aku (ps:List Nat)(ds:List D)(i:Nat)(h:i<ps.length):(partsOf ps (.tup ds)).getD i .none=ds.getD i .none:=by
 simp[partsOf,aF,h,D.tget]
theorem akt (ps:List Nat)(x:D):(partsOf ps x).length=ps.length:=by simp[partsOf]
theorem Inv.startR {S:Snap}{hv:Nat→Value}(h:Inv C (S.st ids) ρ σ own hv w0 σ0 A a w){ps:List Nat}{ys:List Ty}{args:List Value}{ds:List D}{lo:List Nat}{vo:List D}(hl:ps.length=ys.length)(be:gp ps=true)(ae:∀p,p∈ps→p<a.tmps.size)(ha:pI C σ ys args ds)
 (hρ:ρ=ρ'.put [] [] lo vo):Inv C ((S.start ps ys).st ids) (ρ'.put ps (partsOf ps (.tup ds)) lo vo) σ own hv w0 σ0 (fun _=>False) {tmps:=mj ps args a.tmps,defers:=[]} w:=by
 obtain⟨a1,a2,a3⟩:=ha;have hn:=l8 be;have hc:Compat (S.st ids) hv ((S.start ps ys).st ids) hv:=⟨fun _=>aU _,fun _ _=>rfl⟩
 have ho:∀j,(ρ'.put ps (partsOf ps (.tup ds)) lo vo).o j=ρ.o j:=fun j=>by rw[hρ];rfl
 refine⟨trivial,h.ok,h.le,h.old,h.newc,h.newm,h.below,h.bw,h.owns,fun t=>?_,fun j=>(h.objs j).mono (.refl σ) hc rfl (ho j) (fun k hk=>⟨hk,rfl⟩),fun t gs s e=>absurd e (Snap.noOpt _ _ t gs s),?_⟩
 ·show aC C _ _ σ hv (cH ((qE ps ys (S.rs.map rC)).getD t .none)) ((mj ps args a.tmps).getD t undef) (putL ρ'.r ps (partsOf ps (.tup ds)) t);rcases PM ps ys (S.rs.map rC) hl be t with e|⟨e1,e2⟩|⟨i,y,e1,e2,e3⟩
  ·rw[e];trivial
  ·rw[e2,I8 _ _ _ _ e1,zD _ _ _ _ e1];have hr:=h.regs t;change aC C _ ρ σ hv (cH (S.rs.getD t .none)) _ _ at hr;have hρr:ρ.r t=ρ'.r t:=by rw[hρ];show putL ρ'.r [] [] t=_;rfl
   rw[hρr] at hr;have e3:(S.rs.map rC).getD t .none=rC (S.rs.getD t .none):=by
        simp only[aF,cA];cases S.rs[t]?<;>rfl
   rw[e3];generalize S.rs.getD t .none=s at hr;cases s with
   |yv=>trivial
   |opt gs s=>trivial
   |none=>trivial
   |fclo f c=>exact aC.mono' (.refl σ) hc (fun _ _ e=>by cases e) hr
   |agg l=>exact aC.mono' (.refl σ) hc (fun _ _ e=>by cases e) hr
   |dat t=>exact hr
   |obj j v=>exact aC.mono' (.refl σ) hc (fun _ _ e=>by cases e) hr
   |ptr j v o=>exact aC.mono' (.refl σ) hc (fun _ _ e=>by cases e) hr
   |eptr j v o q=>exact aC.mono' (.refl σ) hc (fun _ _ e=>by cases e) hr
  ·rw[e3];have hi:i<ps.length:=(dZ.1 e1).1;rw[ZL ps args a.tmps i t hn (by omega) ae e1,On _ ps _ i t hn (by rw[akt]) e1,aku _ _ _ hi];exact a3 i y e2
 ·obtain⟨t,fx,cx,h1,h2⟩:=h.frame;exact⟨t,fx,cx,h1,fun j hj=>⟨(h2 j hj).1,by rw[ho j];exact(h2 j hj).2⟩⟩
def uZ (C:Ctx)(Φ:aR)(fn:Func)(s:Sig)(n:Nat)(ids:List Nat)(R:Array Oper→Bool→Snap→Option (Snap×List PI))(N:Nat)(c:Code):Prop:=
 ∀(rm:Bool) (S:Snap) (r:Res2),comp C fn s n ids R rm c S=some r→∀(rd:Option Nat) (w0:World) (σ0:Base) (wr:Nat→Prop) (ρ:Env) (x:Out) (a:Act) (w:World),(rm=false→rd=none∧σ0.fin)→CtxOK C σ0→pP C Φ w0 σ0→(∀t,t∈cu c→wr t)→a.tmps.size=n→
  Good C w0 σ0 (S.st ids) ρ (fun _=>False) a w→r.pc.ev Φ N ρ=some x→c.wpIn (FR rd) 0 C.P (gA C w0 σ0 ids fn s rm wr a r.out r.ex x) a w
structure Seg (σ:Im) (own:Nat→Option Nat) (w:World) (σ':Im) (own':Nat→Option Nat) (w':World):Prop where
 le:σ.le σ'
 below:Below 0 w w'
 same:∀k,k<w.heap.size→own k=none→w'.heap[k]?=w.heap[k]?
 ow:∀k j,own' k=some j→(∃i,own k=some i)∨w.heap.size≤k
 imm:∀k,((∃o x,σ'.c k o=some x)∨∃x,σ'.m k=some x)→(∃o x,σ.c k o=some x)∨(∃x,σ.m k=some x)∨(∃i,own k=some i)∨w.heap.size≤k
structure Free (L:Nat) (σ:Im) (own:Nat→Option Nat):Prop where
 own:own L=none
 c:∀o,σ.c L o=none
 m:σ.m L=none
theorem Free.seg {L:Nat}{σ':Im}{own':Nat→Option Nat}{w':World}(h:Free L σ own)(hL:L<w.heap.size)(k:Seg σ own w σ' own' w'):Free L σ' own':=by
 have B6:¬((∃o x,σ'.c L o=some x)∨∃x,σ'.m L=some x):=fun e=>by
  rcases k.imm L e with⟨o,x,e⟩|⟨x,e⟩|⟨i,e⟩|e
  ·rw[h.c o] at e;cases e
  ·rw[h.m] at e;cases e
  ·rw[h.own] at e;cases e
  ·omega
 refine⟨?_,fun o=>?_,?_⟩
 ·cases e:own' L with
  |none=>rfl
  |some j=>
   rcases k.ow L j e with⟨i,e⟩|e
   ·rw[h.own] at e;cases e
   ·omega
 ·cases e:σ'.c L o with
  |none=>rfl
  |some x=>exact absurd (.inl ⟨o,x,e⟩) B6
 ·cases e:σ'.m L with
  |none=>rfl
  |some x=>exact absurd (.inr ⟨x,e⟩) B6
def aaG (C:Ctx)(w0:World)(σ0:Base)(ids:List Nat)(wr:Nat→Prop)(a0:Act)(σ:Im)(own:Nat→Option Nat)(w:World)(out:Option Snap)(ex:List (Nat×Snap))(x:Out)(e:Exit)(a':Act)(w':World):Prop:=
 ∃ρ' S' σ' own' hv',Inv C (S'.st ids) ρ' σ' own' hv' w0 σ0 (fun _=>False) a' w'∧Seg σ own w σ' own' w'∧SameBut wr a0 a'∧
  match e with
  |.normal=>x=.next ρ'∧out=some S'
  |.exit id=>x=.exit id ρ'∧id≠cO∧(id,S')∈ex
  |.ret=>x=.exit cO ρ'∧(cO,S')∈ex
  |_=>False
theorem ZD {N:Nat}{c:Code}(hc:uZ C Φ fn s n ids R N c){S:Snap}{r:Res2}(hr:comp C fn s n ids R true c S=some r)(lX:C.yl=none)(hC:CtxOK C σ0){wr:Nat→Prop}{ρ:Env}{x:Out}{hv:Nat→Value}(h:Inv C (S.st ids) ρ σ own hv w0 σ0 (fun _=>False) a w)
 (gT:∀t,t∈cu c→wr t) (hn:a.tmps.size=n) (he:r.pc.ev Φ N ρ=some x) (L:Nat):c.wpIn (FR (some L)) 0 C.P (aaG C w0 σ0 ids wr a σ own w r.out r.ex x) a w:=by
 obtain⟨t,fx,cx,cW,ht⟩:=h.frame;have h1:=h.toRnd (X:=fun _=>False) ht;refine wpIn_mono (hc true S r hr (some L) w0 (σ0.rnd σ own w t fun _=>False) wr ρ x a w (fun e=>by cases e) (hC.mono h.le) (fun J ys e=>by rw[lX] at e;cases e) gT hn ⟨_,_,_,h1⟩ he) fun e a' w' ho=>?_
 have main:∀{S':Snap} {ρ':Env},SameBut wr a a'→Good C w0 (σ0.rnd σ own w t fun _=>False) (S'.st ids) ρ' (fun _=>False) a' w'→∃σ' own' hv',Inv C (S'.st ids) ρ' σ' own' hv' w0 σ0 (fun _=>False) a' w'∧Seg σ own w σ' own' w'∧SameBut wr a a':=by
  intro S' ρ' hs hg;obtain⟨σ',own',hv',h2⟩:=hg;exact⟨σ',own',hv',h.ofRnd cW (fun _ _=>id) h2,⟨h2.le,h.rndBelow h2,fun k hk ho=>Inv.rndSame h.ok h2 hk ho id,fun k j e=>Inv.rndOwn h2 e id,fun k e=>Inv.rndC h2 e id⟩,hs⟩
 cases e with
 |normal=>
  obtain⟨ρ',S',e1,e2,e3,e4⟩:=ho;obtain⟨σ',own',hv',g1,g2,g3⟩:=main e3 e4;exact⟨ρ',S',σ',own',hv',g1,g2,g3,e1,e2⟩
 |exit id=>
  obtain⟨ρ',S',e1,e0,e2,e3,e4⟩:=ho;obtain⟨σ',own',hv',g1,g2,g3⟩:=main e3 e4;exact⟨ρ',S',σ',own',hv',g1,g2,g3,e1,e0,e2⟩
 |ret=>
  obtain⟨ρ',S',e1,e2,e3,e4⟩:=ho;obtain⟨σ',own',hv',g1,g2,g3⟩:=main e3 e4;exact⟨ρ',S',σ',own',hv',g1,g2,g3,e1,e2⟩
 |_=>exact ho.elim
theorem Inv.putL {L:Nat}{hv:Nat→Value}{S:St}{ρ:Env}(h:Inv C S ρ σ own hv w0 σ0 A a w)(hL:w0.heap.size≤L)(hf:Free L σ own)(hx:∀t fx cx,FrOK σ own w0.heap.size σ0 w t fx cx→¬fx L)(o:Obj):Inv C S ρ σ own hv w0 σ0 A a (w.putObj L o):=
 h.keep (X:=fun k=>k≠L) ⟨rfl,rfl,rfl,by simp,fun k hk=>by omega⟩ (fun k hk=>World.putObj_heap_other hk) (fun k hk=>by omega) (fun k j e1 e2=>by subst e2;rw[hf.own] at e1;cases e1) (fun k o v e1 e2=>by subst e2;rw[hf.c] at e1;cases e1)
  (fun k v e1 e2=>by subst e2;rw[hf.m] at e1;cases e1) (fun t fx cx cW k hk e=>by subst e;exact hx t fx cx cW hk)
theorem aot {o:Oper}{L:Nat}{x:Operand}{aa:Array Operand}{ts:Array TypeId}{r:Loop}(bQ:o.op=.call {callee:=.value x,args:=aa,argTypes:=ts})(hx:a.eval x=.func (.yield L) #[] #[])(hL:w.heap[L]?=some (.loop r))(hs:aa.size=r.params.size):
 (execOp a.eval o).run C.P w=.ok (.round L r.fn ((r.params.zip (aa.map a.eval)).foldl (fun tmps (t,v)=>tmps.setIfInBounds t v) r.tmps) r.assign r.body) w:=by
 have hy:=run_yield (P:=C.P) (args:=aa.map a.eval) hL (by simpa using hs);simp[execOp,bQ,resolve,hx,Deferred.ofValue,invoke,hy]
theorem ak0 {g:Operand}{f:Nat}{vs:List Value}{L:Nat}(hf:∃fn,C.P.funcs[f]?=some fn∧fn.body.isSome=true∧(fn.name== "runtime.NumGoroutine")=false)(hg:a.eval g=.func (.func f) #[] vs.toArray):
 (resolve a.eval (rangeCall g L) 0).run C.P w=.ok {target:=.fn (.func f) vs.toArray,args:=#[.func (.yield L) #[] #[]]} w∧
 (invoke (.fn (.func f) vs.toArray) #[.func (.yield L) #[] #[]]).run C.P w=.ok (.enter f (#[.func (.yield L) #[] #[]]++vs.toArray)) w:=by
 obtain⟨fn,h1,h2,h3⟩:=hf;obtain⟨bd,mI⟩:=Sm.1 h2;have h4:¬fn.name= "runtime.NumGoroutine" :=by simpa using h3
 constructor
 ·simp only[resolve,hg];simp[go_sem]
 ·simp[invoke,callFunc,h1,mI,h4]
theorem FrOK.enter {hv:Nat→Value}{S:St}{ρ:Env}(h:Inv C S ρ σ own hv w0 σ0 A a w){t:D}{fx cx:Nat→Prop}(hf:FrOK σ own w0.heap.size σ0 w t fx cx)(r:Loop):FrOK (σ.mark w.heap.size) own w0.heap.size σ0 ((w.alloc (.deferred (some []))).alloc (.loop r)) t fx cx:=by
 have hb:=Tx w (.deferred (some [])) (.loop r);have ae:=σ0.lt _ _ _ _ hf.F;have bI:=σ0.sub _ _ _ _ hf.F;have Cf:∀k x,(σ.mark w.heap.size).m k=some x→σ.m k=some x∨k=w.heap.size:=by
  intro k x e;simp only[Im.mark] at e;split at e
  ·rename_i e2;exact .inr e2
  ·exact .inl e
 refine⟨σ0.keep _ _ _ _ _ hf.F (hb.mono (nf _)) fun k hk=>hb.block k (ae k hk),hf.own,hf.c,fun k x e hc=>?_,fun k e hB hk=>?_⟩
 ·rcases Cf k x e with e|e
  ·exact hf.m k x e hc
  ·have:=ae k (bI k hc);omega
 ·rcases Cf k _ e with e|e
  ·exact hf.d k e hB hk
  ·have:=ae k hk;omega
structure RSt (C:Ctx) (w0:World) (σR:Base) (ids:List Nat) (ρ1:Env) (lo:List Nat) (aM:Act) (L:Nat) (W1:World) (σ1:Im) (rec:LoopState→Option Code→Loop) (xs:List D) (P:Nat→List D→Snap→LoopState→Option Code→Prop) (t:D) (fx cx:Nat→Prop) (w:World):Prop where
 lt:∀k,fx k→k<w.heap.size
 sub:∀k,cx k→fx k
 old:∀k,k<W1.heap.size→fx k
 ex:∃(i:Nat) (vo:List D) (Sx:Snap) (st:LoopState) (pe:Option Code) (σ:Im) (own:Nat→Option Nat) (hv:Nat→Value),t=.list (xs.take i)∧P i vo Sx st pe∧Inv C (Sx.st ids) (ρ1.put [] [] lo vo) σ own hv w0 σR (fun _=>False) aM w∧
  σ1.le σ∧Free L σ own∧w.heap[L]?=some (.loop (rec st pe))∧(∀k j,own k=some j→fx k)∧(∀k o x,σ.c k o=some x→fx k)∧(∀k x,σ.m k=some x→fx k)∧∀k,cx k↔((∃j,own k=some j)∨k=L)
theorem RSt.keep {σR:Base}{ρ1:Env}{lo:List Nat}{aM:Act}{L:Nat}{W1:World}{σ1:Im}{rec:LoopState→Option Code→Loop}{xs:List D}{P:Nat→List D→Snap→LoopState→Option Code→Prop}{t:D}{fx cx:Nat→Prop}{w w':World}
 (h0:w0.heap.size≤W1.heap.size) (hL:L<W1.heap.size) (hR:∀t f c w,σR.F t f c w→∀k,f k→k<W1.heap.size) (h:RSt C w0 σR ids ρ1 lo aM L W1 σ1 rec xs P t fx cx w) (hb:Below 0 w w') (hs:∀k,fx k→w'.heap[k]?=w.heap[k]?):
 RSt C w0 σR ids ρ1 lo aM L W1 σ1 rec xs P t fx cx w':=by
 obtain⟨i,vo,Sx,st,pe,σ,own,hv,e1,e2,e3,e4,e5,e6,e7,e8,e9,e10⟩:=h.ex;refine⟨fun k hk=>uW (h.lt k hk) hb.size,h.sub,h.old,i,vo,Sx,st,pe,σ,own,hv,e1,e2,?_,e4,e5,(hs L (h.old L hL)).trans e6,e7,e8,e9,e10⟩;exact e3.keep (X:=fx) hb hs (fun k hk=>h.old k (by omega)) e7 e8 e9 (fun t f c hf k hk=>h.old k (hR _ _ _ _ hf.F k hk))
theorem Im.noM_m {σ:Im}{k:Nat}{v:List (Value×Value)}(h:σ.noM.m k=some v):σ.m k=some v∧v≠cP:=by
 simp only[Im.noM] at h;split at h
 ·cases h
 ·rename_i az;exact⟨h,fun e=>az (by rw[h,e])⟩
structure SegL (L:Nat) (σ:Im) (own:Nat→Option Nat) (w:World) (σ':Im) (own':Nat→Option Nat) (w':World):Prop where
 le:σ.le σ'
 below:Below 0 w w'
 same:∀k,k<w.heap.size→own k=none→k≠L→w'.heap[k]?=w.heap[k]?
 ow:∀k j,own' k=some j→(∃i,own k=some i)∨w.heap.size≤k
 imm:∀k,((∃o x,σ'.c k o=some x)∨∃x,σ'.m k=some x)→(∃o x,σ.c k o=some x)∨(∃x,σ.m k=some x)∨(∃i,own k=some i)∨w.heap.size≤k
theorem Yf (w:World)(L:Nat)(o:Obj):Below 0 w (w.putObj L o):=⟨rfl,rfl,rfl,by simp,fun k hk=>by omega⟩
theorem Seg.round {L:Nat}{σ' σ'':Im}{own' X4:Nat→Option Nat}{w' j9:World}{o o':Obj}(h:Seg σ own w σ' own' w')(k:Seg σ' own' (w'.putObj L o) σ'' X4 j9):SegL L σ own w σ'' X4 (j9.putObj L o'):=by
 have aA:=h.below.size;have MT:=k.below.size;simp only[World.putObj_size] at MT;refine⟨h.le.trans k.le,h.below.trans ((Yf _ _ _).trans (k.below.trans (Yf _ _ _))),fun q hq ho hL=>?_,fun q j e=>?_,fun q e=>?_⟩
 ·have h1:own' q=none:=by
   cases e:own' q with
   |none=>rfl
   |some j=>
    rcases h.ow q j e with⟨i,e⟩|e
    ·rw[ho] at e;cases e
    ·omega
  rw[World.putObj_heap_other hL,k.same q (by simp;omega) h1,World.putObj_heap_other hL,h.same q hq ho]
 ·rcases k.ow q j e with⟨i,e⟩|e
  ·exact h.ow q i e
  ·simp only[World.putObj_size] at e;exact .inr (by omega)
 ·rcases k.imm q e with e|e|⟨i,e⟩|e
  ·exact h.imm q (.inl e)
  ·exact h.imm q (.inr e)
  ·rcases h.ow q i e with e|e
   ·exact .inr (.inr (.inl e))
   ·exact .inr (.inr (.inr e))
  ·simp only[World.putObj_size] at e;exact .inr (.inr (.inr (by omega)))
theorem Env.put_self (ρ:Env)(lo:List Nat):ρ.put [] [] lo (lo.map ρ.o)=ρ:=by
 have h2:∀u,putL ρ.o lo (lo.map ρ.o) u=ρ.o u:=fun u=>by rw[rY];split<;>rfl
 show Env.mk ρ.r (putL ρ.o lo (lo.map ρ.o))=ρ;rw[funext h2]
theorem ak1 {N:Nat}(ic:jM C Φ){g:Operand}{ps:Array Tmp}{ca cb:Code}(bu:uZ C Φ fn s n ids R N ca)(ew:uZ C Φ fn s n ids R N cb):uZ C Φ fn s n ids R N (.rangeFunc g ps ca cb):=by
 intro rm S r hr rd w0 σ0 wr ρ x a w gl hC hY gT hn hg he;simp only[comp] at hr;split at hr
 case h_2=>cases hr;exact absurd he (mm _ _ _ _)
 rename_i aa rr e lX hu;split at hr
 case h_2=>cases hr;exact absurd he (mm _ _ _ _)
 rename_i ys rK;split at hr
 case h_2=>cases hr;exact absurd he (mm _ _ _ _)
 rename_i q hq;rw[od] at hr;split at hr
 case isFalse=>cases hr;exact absurd he (mm _ _ _ _)
 rename_i vA;cases hr;simp only[aj] at vA;obtain⟨⟨⟨hl,be⟩,ae⟩,vR⟩:=vA;have hl:=au hl;have vR:=jP vR;obtain⟨hrd,jV⟩:=gl rfl;subst hrd;obtain⟨hs,yL,_⟩:=CR (C:=C) (w0:=w0) (σ0:=σ0) (ids:=ids) 8 hq;simp only[ao] at hs;obtain⟨ra,MH,hs⟩:=hs;split at hs
 case h_2=>cases hs
 rename_i S1 hao Uv;simp only[av] at hs;obtain⟨rb,Vj,iZ⟩:=hs;have U1:=sP ca MH;have U2:=sP cb Vj;obtain⟨q1,q2⟩:=q;simp only at MH iZ vR yL he ⊢;generalize vL:Wk ids (q1::q2.ex.map (·.2)) q2.mo=lo at he;generalize tD:((nL cO q2.ex none).bind fun M=>wO C fn s (M.st ids))=rt at he;have Ct:∃f caps d,e.ev ρ=.clo f caps∧Φ f caps=some d∧kj (q2.pc.ev Φ N) (ρ.setR n d) ps.toList lo rt d.l (lo.map ρ.o)=some x:=by
  simp only[PC.ev,PI.runs,PI.run,holds,List.all_nil,cond_true] at he;cases bD:e.ev ρ with
  |clo f caps=>
   rw[bD] at he;simp only[PE.evs,qT] at he;cases hΦ:Φ f caps with
   |none=>rw[hΦ] at he;simp at he
   |some d=>
    rw[hΦ] at he;simp only[kg,jQ,PE.ev,Env.setR,aG] at he;exact⟨f,caps,d,rfl,hΦ,he⟩
  |_=>rw[bD] at he;simp at he
 obtain⟨f,caps,d,bD,hΦ,he⟩:=Ct;obtain⟨σ,own,hv,i⟩:=hg;have hx:=cl (gs:=[]) i hC rfl hu;rw[bD] at hx;generalize L2:a.eval g=gv at hx;generalize aY:Ty.fn aa rr=ty at hx;cases hx with
 |fn f cs vs ds eN h1 h2 aD=>
 cases aY;obtain⟨hfn,agf⟩:=ic f cs ys eN rK;obtain⟨xs,rfl,as1,L4⟩:=agf caps d hΦ;simp only[D.l_list] at he;obtain⟨m,my,hm,rG,G9,kC⟩:=Tv he;have iq0:=VR 8 hq i
 have iq:Inv C (q1.st ids) (ρ.setR n (.list xs)) σ own hv w0 σ0 (fun _=>False) a w:=by
  refine iq0.env (Snap.noOpt _ _) (fun t ht=>?_) (fun _ _=>rfl);have ae:t<q1.rs.length:=by
   refine Sj fun hle=>?_;simp only[Snap.st,aF,qP hle,Option.getD_none,cH,isNone] at ht;cases ht
  simp[Env.setR,bf _ _ (show t≠n by omega)]
 obtain⟨ρ1,hρ1⟩:∃ρ1,ρ.setR n (.list xs)=ρ1:=⟨_,rfl⟩
 rw[hρ1] at he iq G9 kC;have jG:ρ.o=ρ1.o:=by rw[←hρ1];rfl
 rw[jG] at rG;refine wpIn_rangeFunc ?_;intro Lj asG;obtain⟨L,Ui⟩:∃L,w.heap.size+1=L:=⟨_,rfl⟩
 obtain⟨rec,ix⟩:∃rec:LoopState→Option Code→Loop,rec=fun st pe=>{state:=st,pending:=pe,fn:=Lj,tmps:=a.tmps,params:=ps,assign:=ca,body:=cb,defers:=w.heap.size}:=⟨_,rfl⟩
 have i1:=iq.enter (rec .ready none);obtain⟨t,fx0,cx0,UL,MV⟩:=iq.frame;have afX:=σ0.lt _ _ _ _ UL.F;have LY:=FrOK.enter iq UL (rec .ready none);have asZ:=iq.below.size;have Gu:Free L (σ.mark w.heap.size) own:=by
  refine⟨?_,fun o=>?_,?_⟩
  ·cases e:own L with
   |none=>rfl
   |some j=>have:=(iq.owns L j e).2.1;omega
  ·cases e:σ.c L o with
   |none=>exact e
   |some x=>have:=iq.lt e;omega
  ·simp only[Im.mark,show L≠w.heap.size by omega,if_false];cases e:σ.m L with
   |none=>rfl
   |some x=>have:=iq.ltm e;omega
 have lf:σ.le (σ.mark w.heap.size):=by
  refine⟨fun _ _ _ e=>e,fun k x e=>?_⟩;have:k≠w.heap.size:=by have:=iq.ltm e;omega
  simp[Im.mark,this,e]
 have Uf:((w.alloc (.deferred (some []))).alloc (.loop (rec .ready none))).heap[L]?=some (.loop (rec .ready none)):=by
  have:=World.alloc_heap_new (w.alloc (.deferred (some []))) (.loop (rec .ready none));rw[World.size_alloc,Ui] at this;exact this
 obtain⟨W1,nv⟩:∃W1,(w.alloc (.deferred (some []))).alloc (.loop (rec .ready none))=W1:=⟨_,rfl⟩
 have asx:W1.heap.size=w.heap.size+2:=by rw[←nv];simp
 rw[nv] at i1 LY Uf;have LW:(Instr.enterLoop Lj a.tmps ps ca cb none).run C.P w=.ok (L,[{target:=.collected w.heap.size,args:=#[]}]) W1:=by
  rw[←nv,ix,←Ui];exact run_enterLoop_outer _ _ _ _ _
 obtain⟨σ1,hσ1⟩:∃σ1,σ.mark w.heap.size=σ1:=⟨_,rfl⟩
 rw[hσ1] at i1 LY Gu lf;obtain⟨aM,LG⟩:∃aM:Act,{a with defers:={target:=.collected w.heap.size,args:=#[]}::a.defers}=aM:=⟨_,rfl⟩
 have BI:aM.tmps=a.tmps:=by rw[←LG]
 rw[LG] at i1;have iR:=i1.toRnd (t:=t) (X:=fun k=>k=L) MV;obtain⟨σR,hσR⟩:∃σR,σ0.rnd σ1 own W1 t (fun k=>k=L)=σR:=⟨_,rfl⟩
 have tc:∀t' f c w',σR.F t' f c w'→(∀k,f k→k<W1.heap.size∧k≠L)∧∀k,c k→f k∧(∀o,σ1.c k o=none)∧σ1.m k=none:=by
  rw[←hσR];rintro t' f c w' ⟨_,h2,h3,_⟩;exact⟨fun k hk=>⟨((h2 k).1 hk).1,((h2 k).1 hk).2.2.2⟩,fun k hk=>(h3 k).1 hk⟩
 have Um:CtxOK C σR:=by rw[←hσR];exact hC.mono i1.le
 rw[hσR] at iR
 obtain⟨P,hP⟩:∃P:Nat→List D→Snap→LoopState→Option Code→Prop,P=fun i vo Sx st pe=>(i≤m∧vo=my i∧Sx=q1∧st=.ready∧pe=none)∨
  (i=m+1∧m<xs.length∧st=.done∧∃y id ρ',xs[m]?=some y∧q2.pc.ev Φ N (ρ1.put ps.toList (partsOf ps.toList y) lo (my m))=some (.exit id ρ')∧vo=lo.map ρ'.o∧(id,Sx)∈q2.ex∧((id≠cO∧pe=some (.exit id))∨(id=cO∧pe=some .ret))):=⟨_,rfl⟩
 obtain⟨c1,c2⟩:=ak0 (C:=C) (w:=W1) (L:=L) hfn L2;refine⟨L,[{target:=.collected w.heap.size,args:=#[]}],W1,_,W1,f,_,W1,LW,c1,fun _ _=>trivial,c2,(fun e=>by cases e),?_⟩
 refine S4 ((L4 σ1 W1 (.func (.yield L) #[] #[]) vs (RSt C w0 σR ids ρ1 lo aM L W1 σ1 rec xs P) (fun k=>k<W1.heap.size) (fun k=>(∃j,own k=some j)∨k=L) m i1.ok (hC.mono i1.le) ⟨h1,h2,fun j t e=>(aD j t e).mono lf⟩ hm
  (fun t f c w h=>h.lt) (fun t f c w h=>h.sub) (fun t f c w w' h hb hs=>h.keep (by omega) (by omega) (fun t f c w hF k hk=>((tc t f c w hF).1 k hk).1) hb hs) ?_ ?_ ?_ ?_).mono ?_)
 ·refine⟨fun k hk=>hk,fun k hk=>?_,fun k hk=>hk,0,my 0,q1,.ready,none,σ1,own,hv,by simp,by rw[hP];exact .inl ⟨nf _,rfl,rfl,rfl,rfl⟩,?_,.refl σ1,Gu,Uf,fun k j e=>(iR.owns k j e).2.1,fun k o x e=>iR.lt e,fun k x e=>iR.ltm e,fun k=>.rfl⟩
  ·rcases hk with⟨j,e⟩|e
   ·exact(iR.owns k j e).2.1
   ·show k<W1.heap.size;omega
  ·rw[rG,Env.put_self];exact iR
 ·rintro k o x e (⟨j,hj⟩|rfl)
  ·have:=(iR.owns k j hj).2.2.1 o;rw[e] at this;cases this
  ·rw[Gu.c] at e;cases e
 ·rintro k x e (⟨j,hj⟩|rfl)
  ·have:=(iR.owns k j hj).2.2.2;rw[e] at this;cases this
  ·rw[Gu.m] at e;cases e
 ·intro i fx cx w1 σx args ds' hi dL hF hσx il ku yH cX cY rd' o a' x' aa ts K Q bQ cj Ut hK;have asH:i<xs.length:=(dZ.1 dL).1;obtain⟨i',vo,Sx,st,pe,σa,wC,hva,e1,e2,iA,G1,BF,Gv,Mp,Uz,Ce,yI⟩:=hF.ex;have hii:i'=i:=by
   have h9:=congrArg List.length (congrArg D.l e1);simp only[D.l_list,db] at h9;omega
  subst hii;rw[hP] at e2;rcases e2 with⟨_,rfl,BG,rfl,rfl⟩|⟨e2,_⟩
  case inr=>omega
  rw[BG] at iA;have Uj:L<w1.heap.size:=hF.lt L (hF.old L (by omega));have GH:cx L:=(yI L).2 (.inr rfl)
  have agD:∀k o v,σx.c k o=some v→wC k=none:=fun k o v e=>by
   cases e2:wC k with
   |none=>rfl
   |some j=>exact absurd ((yI k).2 (.inl ⟨j,e2⟩)) (ku k o v e)
  have Cj:∀k v,σx.m k=some v→wC k=none:=fun k v e=>by
   cases e2:wC k with
   |none=>rfl
   |some j=>exact absurd ((yI k).2 (.inl ⟨j,e2⟩)) (yH k v e)
  have hτok:σx.noM.ok w1:=⟨hσx.c,fun k v e=>hσx.m k v (Im.noM_m e).1⟩
  have iB:=iA.joinIm (τ:=σx.noM) hτok (fun k e=>(Im.noM_m e).2 rfl) agD (fun k v e=>Cj k v (Im.noM_m e).1)
   (fun k o v e=>(cX k o v e).imp (fun e=>G1.c k o v e) fun e=>by omega) (fun k v e=>(cY k v (Im.noM_m e).1).imp (fun e=>G1.m k v e) fun e=>by omega)
   (fun t' f c hf=>⟨fun k o v e hc=>by
        obtain⟨g1,g2,g3⟩:=(tc _ _ _ _ hf.F).2 k hc;rcases cX k o v e with e|e
        ·rw[g2 o] at e;cases e
        ·have:=((tc _ _ _ _ hf.F).1 k g1).1;omega,fun k v e hc=>by
        obtain⟨g1,g2,g3⟩:=(tc _ _ _ _ hf.F).2 k hc;rcases cY k v (Im.noM_m e).1 with e|e
        ·rw[g3] at e;cases e
        ·have:=((tc _ _ _ _ hf.F).1 k g1).1;omega⟩)
  have Ub:Free L (σa.plus σx.noM) wC:=by
   refine⟨BF.own,fun o=>?_,?_⟩
   ·cases e:(σa.plus σx.noM).c L o with
    |none=>rfl
    |some v=>
     rcases Im.plus_c e with e|e
     ·rw[BF.c] at e;cases e
     ·exact absurd GH (ku L o v e)
   ·cases e:(σa.plus σx.noM).m L with
    |none=>rfl
    |some v=>
     rcases Im.plus_m e with e|e
     ·rw[BF.m] at e;cases e
     ·exact absurd GH (yH L v (Im.noM_m e).1)
  have rF:ps.toList.length=ys.length:=by rw[qM];exact hl.symm
  have afn:pI C (σa.plus σx.noM) ys args ds':=⟨il.1,il.2.1,fun j t e=>((il.2.2 j t e).noM).mono (Im.plus_le2 iA.ok hτok)⟩
  have iC:=iB.startR (ρ':=ρ1) rF be (fun p hp=>by
   have:=bz.1 ae p hp;rw[BI,hn];simpa [ia] using this) afn rfl
  have MC:∃xi,q2.pc.ev Φ N (ρ1.put ps.toList (partsOf ps.toList (.tup ds')) lo (my i'))=some xi∧((i'<m∧∃ρ',xi=.next ρ'∧lo.map ρ'.o=my (i'+1))∨(i'=m∧m<xs.length∧∃id ρ',xi=.exit id ρ')):=by
   by_cases kB:i'<m
   ·obtain⟨y,ρ',g1,g2,g3⟩:=G9 i' kB;rw[dL] at g1;cases g1;exact⟨_,g2,.inl ⟨kB,ρ',rfl,g3⟩⟩
   ·obtain rfl:i'=m:=by omega
    rcases kC with⟨g1,_⟩|⟨g1,y,id,ρ',g2,g3,_⟩
    ·omega
    ·rw[dL] at g2;cases g2;exact⟨_,g3,.inr ⟨rfl,g1,id,ρ',rfl⟩⟩
  obtain⟨xi,rI,M8⟩:=MC;have ah:q2.pc=.seq ra.pc rb.pc:=by rw[←iZ];rfl
  rw[ah] at rI;have aA:(mj ps.toList args aM.tmps).size=n:=by rw[ZM,BI,hn]
  refine⟨fun _ _=>trivial,?_⟩;rw[Oper.semAt_eq _ _ _ (fun c e=>by rw[bQ] at e;cases e)];have afp:aa.size=ps.size:=by
   have:=il.1;rw[←Ut,fl,qM] at this;omega
  have af:=aot (C:=C) bQ cj Gv (by rw[ix];exact afp);have ag5:(rec .ready none).fn=Lj∧(rec .ready none).tmps=a.tmps∧(rec .ready none).params=ps∧(rec .ready none).assign=ca∧(rec .ready none).body=cb:=by rw[ix];exact⟨rfl,rfl,rfl,rfl,rfl⟩
  obtain⟨r1,r2,r3,r4,r5⟩:=ag5;rw[r1,r2,r3,r4,r5] at af
  have nH:(ps.zip (aa.map a'.eval)).foldl (fun tmps (t,v)=>tmps.setIfInBounds t v) a.tmps=mj ps.toList args aM.tmps:=by
   rw[BI,←Ut,←uO];exact alS ps (aa.map a'.eval) a.tmps
  rw[nH] at af;rw[af];refine⟨(fun e=>by cases e),?_⟩;refine roundIn_of_wpIn (F:=FR rd') trivial ?_;show ca.wpIn (FR (some L)) 0 C.P _ _ _;cases lW:ra.pc.ev Φ N (ρ1.put ps.toList (partsOf ps.toList (.tup ds')) lo (my i')) with
  |none=>simp only[PC.ev,lW] at rI;cases rI
  |some xa=>
  refine wpIn_mono (ZD bu MH lX Um iC (wr:=fun t=>t∈cu ca) (fun _ h=>h) aA lW L) fun e2 a1 RL ahf=>?_;obtain⟨ρ2,S2,σ2,iz,gS,iD,ql,jb,jW⟩:=ahf;cases e2 with
  |normal=>
   obtain⟨rfl,yA⟩:=jW;rw[hao] at yA;cases yA;simp only[PC.ev,lW] at rI;have Ug:RL.heap[L]?=some (.loop (rec .ready none)):=(ql.same L Uj Ub.own).trans Gv;have Lx:=Ub.seg Uj ql;have Ly:L<RL.heap.size:=(dy.1 Ug).1;have Ue:w0.heap.size≤L:=by omega
   refine⟨_,run_beginRound Ug (by rw[ix]),?_⟩;have iE:=iD.putL Ue Lx (fun t' f c hf BZ=>((tc _ _ _ _ hf.F).1 L BZ).2 rfl) (.loop {rec .ready none with state:=.busy});have hL3:(RL.putObj L (.loop {rec .ready none with state:=.busy})).heap[L]?=some (.loop {rec .ready none with state:=.busy}):=World.putObj_heap_same Ly;show cb.wpIn (FR (some L)) 0 C.P _ _ _;refine wpIn_mono (ZD ew Vj lX Um iE (wr:=fun t=>t∈cu cb) (fun _ h=>h) (jb.size.trans aA) rI L) fun e3 a3 w3 ahg=>?_;obtain⟨ρ3,S3,σ3,wB,CI,iF,Hj,ahd,nD⟩:=ahg;have Uh:w3.heap[L]?=some (.loop {rec .ready none with state:=.busy}):=(Hj.same L (by simpa using Ly) Lx.own).trans hL3;have Ua:=Lx.seg (by simpa using Ly) Hj;have ae3:L<w3.heap.size:=(dy.1 Uh).1;obtain⟨mk,G6⟩:∃mk,Nat.lor (wh (ps.toList++cu ca++cu cb)) (Nat.lor ra.mr rb.mr)=mk:=⟨_,rfl⟩
   have agw:∀t,aq mk t=false→t∉ps.toList∧t∉cu ca∧t∉cu cb∧aq ra.mr t=false∧aq rb.mr t=false:=by
        intro t ht;rw[←G6,fo,fo,RX,RX] at ht;obtain⟨t1,t2,t3⟩:=ht;have:t∉ps.toList++cu ca++cu cb:=fun hm=>by rw[SO hm] at t1;cases t1
        simp only[de,not_or] at this;exact⟨this.1.1,this.1.2,this.2,t2,t3⟩
   have MI:∀t,aq mk t=false→aM.tmps.getD t undef=a3.tmps.getD t undef∧(ρ1.put [] [] lo (lo.map ρ3.o)).r t=ρ3.r t:=by
        intro t ht;obtain⟨t1,t2,t3,t4,t5⟩:=agw t ht;refine⟨?_,?_⟩
        ·rw[ahd.get t t3,jb.get t t2];exact(I8 _ _ _ _ t1).symm
        ·have fa:∀ρ',xi=.next ρ'∨(∃id,xi=.exit id ρ')→ρ'.r t=ρ2.r t:=fun ρ' h=>by
          have vC:xi.env?=some ρ':=by rcases h with h|⟨id,h⟩<;>rw[h]<;>rfl
          exact(PC.ev_but rb.pc _ _ ρ' rI vC).r t fun hm=>by rw[U2.1 t hm] at t5;cases t5
         have bk:ρ2.r t=putL ρ1.r ps.toList (partsOf ps.toList (.tup ds')) t:=(PC.ev_but ra.pc _ _ ρ2 lW rfl).r t fun hm=>by rw[U1.1 t hm] at t4;cases t4
         rw[zD _ _ _ _ t1] at bk;show ρ1.r t=ρ3.r t;rw[fa ρ3 (by
          cases e3 with
          |normal=>exact .inl nD.1
          |exit id=>exact .inr ⟨id,nD.1⟩
          |ret=>exact .inr ⟨_,nD.1⟩
          |_=>exact nD.elim),bk]
   have Mg:q2.mo=jm ra.mo rb.mo:=by rw[←iZ];rfl
   have Ms:∀j,j∉q2.mo→ρ3.o j=ρ1.o j:=by
        intro j hj;rw[Mg,oY,not_or] at hj;have vC:xi.env?=some ρ3:=by
         cases e3 with
         |normal=>rw[nD.1];rfl
         |exit id=>rw[nD.1];rfl
         |ret=>rw[nD.1];rfl
         |_=>exact nD.elim
        rw[(PC.ev_but rb.pc _ _ ρ3 rI vC).o j fun hm=>hj.2 (U2.2 j hm),(PC.ev_but ra.pc _ _ ρ2 lW rfl).o j fun hm=>hj.1 (U1.2 j hm)]
        exact zD _ _ _ _ fun hm=>by
         rw[←vL] at hm;have:=(ed.1 hm).1;rw[Mg,oY] at this;exact this.elim hj.1 hj.2
   have Mr:∀(S:Snap),S∈(q1::q2.ex.map (·.2))→∀j,nJ ((S.st ids).o j)=false→(ρ1.put [] [] lo (lo.map ρ3.o)).o j=ρ3.o j:=by
        intro S hS j hj;show putL ρ1.o lo (lo.map ρ3.o) j=ρ3.o j;rw[rY];split
        ·rfl
        ·rename_i fc;refine(Ms j fun tu=>fc ?_).symm;rw[←vL];exact ed.2 ⟨tu,uT.2 ⟨S,hS,by simpa [Snap.st] using hj⟩⟩
   have fin:∀(jump:Option Code) (Sx:Snap),Inv C (Sx.st ids) (ρ1.put [] [] lo (lo.map ρ3.o)) σ3 wB CI w0 σR (fun _=>False) aM w3→P (i'+1) (lo.map ρ3.o) Sx (if jump.isNone then .ready else .done) jump→jump.isNone=decide (i'<m)→
        ∃v w',(Instr.endRound L jump).run C.P w3=.ok v w'∧K (a'.put o.dst v) w':=by
        intro jump Sx iG hPn tu;refine⟨_,_,run_endRound jump Uh,?_⟩;have ag4:({{rec .ready none with state:=.busy} with state:=if jump.isNone then .ready else .done,pending:=jump}:Loop)=rec (if jump.isNone then .ready else .done) jump:=by rw[ix]
        rw[ag4];have aD:=ql.round (L:=L) (o':=.loop (rec (if jump.isNone then .ready else .done) jump)) Hj;have iH:=iG.putL Ue Ua (fun t' f c hf BZ=>((tc _ _ _ _ hf.F).1 L BZ).2 rfl) (.loop (rec (if jump.isNone then .ready else .done) jump));obtain⟨w4,M5⟩:∃w4,w3.putObj L (.loop (rec (if jump.isNone then .ready else .done) jump))=w4:=⟨_,rfl⟩
        have hL5:w4.heap[L]?=some (.loop (rec (if jump.isNone then .ready else .done) jump)):=by rw[←M5];exact World.putObj_heap_same ae3
        have as4:w4.heap.size=w3.heap.size:=by rw[←M5];simp
        rw[M5] at aD iH ⊢;have asw:W1.heap.size≤w1.heap.size:=by
         have:=hF.lt (W1.heap.size-1) (hF.old _ (by omega));omega
        have as0:=aD.below.size
        refine hK _ _ ⟨by rw[tu],aD.below,fun k hk hc=>aD.same k hk (by
         cases e:wC k with
         |none=>rfl
         |some j=>exact absurd ((yI k).2 (.inl ⟨j,e⟩)) hc) (fun e=>hc (by rw[e];exact GH)),(fun k=>k<w4.heap.size∧(k<W1.heap.size∨(∃j,wB k=some j)∨(∃o x,σ3.c k o=some x)∨∃x,σ3.m k=some x)),(fun k=>(∃j,wB k=some j)∨k=L),?_,?_,?_⟩
        ·refine⟨fun k hk=>hk.1,fun k hk=>?_,fun k hk=>⟨by omega,.inl hk⟩,i'+1,lo.map ρ3.o,Sx,_,jump,σ3,wB,CI,rfl,hPn,iH,G1.trans ((Im.plus_le1 _ _).trans aD.le),Ua,hL5,fun k j e=>⟨(iH.owns k j e).2.1,.inr (.inl ⟨j,e⟩)⟩,fun k o x e=>⟨iH.lt e,.inr (.inr (.inl ⟨o,x,e⟩))⟩,fun k x e=>⟨iH.ltm e,.inr (.inr (.inr ⟨x,e⟩))⟩,fun k=>.rfl⟩;rcases hk with⟨j,e⟩|e
         ·exact⟨(iH.owns k j e).2.1,.inr (.inl ⟨j,e⟩)⟩
         ·exact⟨by omega,.inl (by omega)⟩
        ·rintro k ⟨_,hk⟩ bH
         have B6:((∃o x,σ3.c k o=some x)∨∃x,σ3.m k=some x)→fx k∨(∃o x,σx.c k o=some x)∨(∃x,σx.m k=some x∧x≠cP):=fun h=>by
          rcases aD.imm k h with⟨o,x,e⟩|⟨x,e⟩|⟨j,e⟩|e
          ·rcases Im.plus_c e with e|e
           ·exact .inl (Uz k o x e)
           ·exact .inr (.inl ⟨o,x,e⟩)
          ·rcases Im.plus_m e with e|e
           ·exact .inl (Ce k x e)
           ·exact .inr (.inr ⟨x,(Im.noM_m e).1,(Im.noM_m e).2⟩)
          ·exact .inl (Mp k j e)
          ·omega
         rcases hk with hk|⟨j,e⟩|e|e
         ·exact .inl (hF.old k hk)
         ·rcases aD.ow k j e with⟨j',e⟩|e
          ·exact .inl (Mp k j' e)
          ·omega
         ·exact B6 (.inl e)
         ·exact B6 (.inr e)
        ·rintro k (⟨j,e⟩|e) bH
         ·rcases aD.ow k j e with⟨j',e⟩|e
          ·exact(yI k).2 (.inl ⟨j',e⟩)
          ·omega
         ·rw[e];exact GH
   have ny:kc σ3 w0.heap.size aM.defers:=iA.defers.mono ((Im.plus_le1 _ _).trans (ql.le.trans Hj.le));have MD:q2.out=rb.out.map (Snap.mask mk)∧q2.ex=rb.ex.map (fun x=>(x.1,x.2.mask mk)):=by rw[←iZ,←G6];exact⟨rfl,rfl⟩
   cases e3 with
   |normal=>
    obtain⟨e4,e5⟩:=nD;have hT:q2.out=some (S3.mask mk):=by rw[MD.1,e5];rfl
    have UM:=yL _ hT
    have iG:Inv C (q1.st ids) ρ3 σ3 wB CI w0 σR (fun _=>False) a3 w3:=by
        have:=Snap.meet_ok2 (x:=q1) (iF.maskR mk)
        rwa [UM] at this
    have iH:=iG.restore (ρ':=ρ1.put [] [] lo (lo.map ρ3.o)) (a':=aM) (Snap.noOpt _ _) ny (fun t ht=>MI t (by
        cases e:aq mk t with
        |false=>rfl
        |true=>
         have h9:=ai8 (x:=q1) (S:=S3) (ids:=ids) e;rw[UM] at h9;rw[h9] at ht;cases ht)) (fun j hj=>Mr q1 (dG ..) j hj)
    rcases M8 with⟨kB,ρ',e6,e7⟩|⟨_,_,id,ρ',e6⟩
    ·rw[e4] at e6;cases e6;exact fin none q1 iH (by rw[hP];exact .inl ⟨by omega,e7,rfl,rfl,rfl⟩) (by simp[kB])
    ·rw[e4] at e6;cases e6
   |exit id=>
    obtain⟨e4,e5,e6⟩:=nD;have cK:(id,S3.mask mk)∈q2.ex:=by rw[MD.2];exact eE.2 ⟨_,e6,rfl⟩
    have iH:=(iF.maskR mk).restore (ρ':=ρ1.put [] [] lo (lo.map ρ3.o)) (a':=aM) (Snap.noOpt _ _) ny (fun t ht=>MI t (by
        cases e:aq mk t with
        |false=>rfl
        |true=>rw[CZ,if_pos e] at ht;cases ht)) (fun j hj=>Mr (S3.mask mk) (dz _ (eE.2 ⟨_,cK,rfl⟩)) j hj)
    rcases M8 with⟨kB,ρ',e7,_⟩|⟨kB,oM,bR,ρ',e7⟩
    ·rw[e4] at e7;cases e7
    ·subst kB;refine fin (some (.exit id)) (S3.mask mk) iH ?_ (by simp);rw[hP];refine .inr ⟨rfl,oM,rfl,_,id,ρ3,dL,?_,rfl,cK,.inl ⟨e5,rfl⟩⟩;rw[ah];simp only[PC.ev,lW];rw[rI,e4]
   |ret=>
    obtain⟨e4,e6⟩:=nD;have cK:(cO,S3.mask mk)∈q2.ex:=by rw[MD.2];exact eE.2 ⟨_,e6,rfl⟩
    have iH:=(iF.maskR mk).restore (ρ':=ρ1.put [] [] lo (lo.map ρ3.o)) (a':=aM) (Snap.noOpt _ _) ny (fun t ht=>MI t (by
        cases e:aq mk t with
        |false=>rfl
        |true=>rw[CZ,if_pos e] at ht;cases ht)) (fun j hj=>Mr (S3.mask mk) (dz _ (eE.2 ⟨_,cK,rfl⟩)) j hj)
    rcases M8 with⟨kB,ρ',e7,_⟩|⟨kB,oM,bR,ρ',e7⟩
    ·rw[e4] at e7;cases e7
    ·subst kB;refine fin (some .ret) (S3.mask mk) iH ?_ (by simp);rw[hP];refine .inr ⟨rfl,oM,rfl,_,cO,ρ3,dL,?_,rfl,cK,.inr ⟨rfl,rfl⟩⟩;rw[ah];simp only[PC.ev,lW];rw[rI,e4]
   |_=>exact nD.elim
  |exit id=>obtain⟨_,_,e6⟩:=jW;rw[Uv] at e6;cases e6
  |ret=>obtain⟨_,e6⟩:=jW;rw[Uv] at e6;cases e6
  |_=>exact jW.elim
 ·rintro e' w' ⟨⟨v,rfl⟩,fx,cx,hF⟩;rw[show({tmps:=a.tmps,defers:=[{target:=Target.collected w.heap.size,args:=#[]}]++a.defers}:Act)=aM from LG];obtain⟨i',vo,Sx,st,pe,σa,wC,hva,e1,e2,iA,G1,BF,Gv,Mp,Uz,Ce,yI⟩:=hF.ex;have h9:=congrArg List.length (congrArg D.l e1);simp only[D.l_list,db] at h9;have bX:(rec st pe).state≠.busy:=by
   rw[hP] at e2;rw[ix];rcases e2 with⟨_,_,_,e3,_⟩|⟨_,_,e3,_⟩<;>(rw[e3];intro e;cases e)
  have tA:(rec st pe).pending=pe:=by rw[ix]
  have LX:(Instr.endLoop L).run C.P w'=.ok pe (w'.putObj L (.loop {rec st pe with state:=.exhausted})):=(run_endLoop (P:=C.P) Gv bX).trans (congrArg (fun z=>Result.ok z _) tA);have iF:=iA.putL (by omega:w0.heap.size≤L) BF (fun t' f c hf BZ=>((tc _ _ _ _ hf.F).1 L BZ).2 rfl) (.loop {rec st pe with state:=.exhausted});rw[←hσR] at iF;have iG:=i1.ofRnd LY (fun k hk e=>by have:=afX k hk;omega) iF;have jc:SameBut wr a aM:=⟨by rw[BI],fun t _=>by rw[BI]⟩
  refine⟨pe,_,LX,?_⟩;rw[hP] at e2;rcases e2 with⟨e3,rfl,BG,_,rfl⟩|⟨rfl,oM,_,y,id,ρ',g1,g2,rfl,g4,g5⟩
  ·rcases kC with⟨g1,g2⟩|⟨g1,_⟩
   ·obtain rfl:i'=m:=by omega
    rw[BG] at iG;exact⟨_,q1,g2,rfl,jc,_,_,_,iG⟩
   ·omega
  ·rcases kC with⟨g6,_⟩|⟨_,y',bR,ρ'',k1,k2,k3⟩
   ·omega
   ·rw[g1] at k1;cases k1;rw[g2] at k2;cases k2;rcases k3 with⟨k3,k4⟩|⟨k3,pe',k4,k5⟩
    ·rcases g5 with⟨_,rfl⟩|⟨g5,_⟩
     ·exact wpIn_exit ⟨_,Sx,k4,k3,ed.2 ⟨g4,by simp[eX k3]⟩,jc,_,_,_,iG⟩
     ·exact absurd g5 k3
    ·rcases g5 with⟨g5,_⟩|⟨_,rfl⟩
     ·exact absurd k3 g5
     ·subst k3;rw[←tD,ao] at k4;obtain⟨M,hM,Cw⟩:=k4;obtain⟨M',Uk,rA⟩:=Nz (⟨_,_,_,iG⟩:Good C w0 σ0 (Sx.st ids) _ (fun _=>False) aM _) q2.ex none g4;rw[hM] at Uk;cases Uk;obtain⟨σm,atU,Vx,im⟩:=rA;exact wpIn_ret ⟨_,k5,Inv.retD hC (fun _=>rfl) jV Cw _ im rfl,jc⟩
theorem Wo {arr:Array MapEntry}{clock:Nat}(hb:mA arr clock){idx:List Nat}(hi:∀i,i∈idx→i<arr.size){i:Nat}{e:MapEntry}(he:arr[i]?=some e):(gd arr idx).contains e.born=true↔i∈idx:=by
 simp only[gd,List.contains_toArray,List.contains_iff_mem,eE];constructor
 ·rintro⟨j,hj,h⟩;have ae:=hi j hj;rw[dX ae] at h;simp only at h;have:=hb.2 j i arr[j] e (dX ae) he h;rw[←this];exact hj
 ·intro h;exact⟨i,h,by rw[he]⟩
theorem alO (arr:Array MapEntry)(idx:List Nat){i:Nat}{e:MapEntry}(he:arr[i]?=some e):(gd arr idx).push e.born=gd arr (idx++[i]):=by
 simp[gd,he]
theorem ajt {P:Program}{w:World}{k m:Nat}{arr:Array MapEntry}{clock:Nat}{idx:List Nat}(hk:w.heap[k]?=some (.mapIter (some m) clock (gd arr idx) clock))(hm:w.heap[m]?=some (.map arr clock))(hb:mA arr clock)(hi:∀i,i∈idx→i<arr.size)(T:TypeId):
 ∃w1:World,(w1=w∨w1=w.drew)∧(((∀i,i<arr.size→i∈idx)∧(Instr.next (.pointer (some ⟨k,0,none⟩)) false T).run P w=.ok (.tuple #[.bool false]) w1)∨
  ∃i e,arr[i]?=some e∧i∉idx∧(Instr.next (.pointer (some ⟨k,0,none⟩)) false T).run P w=.ok (.tuple #[.bool true,e.key,e.val]) {w1 with heap:=w1.heap.setIfInBounds k (.mapIter (some m) clock (gd arr (idx++[i])) clock)}):=by
 have cK:∀{e:MapEntry},e∈arr→∃i:Nat,arr[i]?=some e:=fun he=>by
  obtain⟨i,hi,rfl⟩:=Array.mem_iff_getElem.1 he;exact⟨i,dX hi⟩
 have hold:∀(l:Array MapEntry),(∀e,e∈l→e.born<clock)→l.filter (fun x=>decide (x.born<clock))=l:=fun l h=>by
  rw[Array.filter_eq_self];intro e he;simpa using h e he
 have lj:∀(l:Array MapEntry),(∀e,e∈l→e.born<clock)→l.filter (fun x=>decide (x.born≥clock))=#[]:=fun l h=>by
  rw[Array.filter_eq_empty_iff];intro e he;have:=h e he;simp;omega
 have Uw:∀e,e∈arr→e.born<clock:=fun e he=>by obtain⟨i,hi⟩:=cK he;exact hb.1 i e hi
 have ru:(!(gd arr idx).isEmpty&& !arr.isEmpty&&arr.all (fun x=>decide (x.born≥clock)))=false:=by
  cases ha:arr.isEmpty
  ·have az:arr.size≠0:=by simpa using ha
   have:arr.all (fun x=>decide (x.born≥clock))=false:=by
        rw[RW];intro h;rw[Array.all_eq_true] at h;have h0:=h 0 (by omega);have h1:=Uw arr[0] (RT _);simp at h0;omega
   rw[this,Es]
  ·simp
 let left:=arr.filter fun e=> !(gd arr idx).contains e.born
 have hl:∀e,e∈left→e.born<clock:=fun e he=>Uw e (RU.1 he).1;by_cases hz:left.size=0
 ·refine⟨w,.inl rfl,.inl ⟨fun i ae=>?_,?_⟩⟩
  ·by_cases bl:i∈idx
   ·exact bl
   ·exfalso;have G4:arr[i]∈left:=RU.2 ⟨RT _,by
     have:=Wo hb hi (dX ae);cases hc:(gd arr idx).contains arr[i].born with
     |false=>rfl
     |true=>exact absurd (this.1 hc) bl⟩
    have:left=#[]:=Jy hz;rw[this] at G4;simp at G4
  ·have he:left=#[]:=Jy hz;have oH:arr.filter (fun e=> !(gd arr idx).contains e.born)=#[]:=he;simp only[Instr.next,getObj,Sem.run_bind,Sem.run,hk,hm,Result.andThen_ok,ru,oH];simp[Question.forced,Sem.run]
 ·have jB:left.filter (fun x=>decide (x.born<clock))=left:=hold left hl;have kz:left.filter (fun x=>decide (x.born≥clock))=#[]:=lj left hl;have hem:left.isEmpty=false:=by simpa using hz
  have key:∀c,c<left.size→∃i e,arr[i]?=some e∧i∉idx∧left[c]?=some e:=fun c hc=>by
   have G4:left[c]∈left:=RT _;obtain⟨h1,h2⟩:=RU.1 G4;obtain⟨i,cv⟩:=cK h1;refine⟨i,left[c],cv,fun bl=>?_,dX hc⟩;rw[(Wo hb hi cv).2 bl] at h2;cases h2
  obtain⟨w1,c,fA,hc,lR⟩:∃w1 c,(w1=w∨w1=w.drew)∧c<left.size∧(choose (.mapNext left.size)).run P w=.ok c w1:=by
   by_cases h1:left.size≤1
   ·exact⟨w,0,.inl rfl,by omega,by simp[Question.forced,h1]⟩
   ·exact⟨w.drew,_,.inr rfl,Nat.mod_lt _ (by omega),by simp[Question.forced,h1,Question.cut];rfl⟩
  obtain⟨i,e,h1,h2,h3⟩:=key c hc;refine⟨w1,fA,.inr ⟨i,e,h1,h2,?_⟩⟩;have vK:arr.filter (fun e=> !(gd arr idx).contains e.born)=left:=rfl;have oI:(getObj k).run P w=.ok (.mapIter (some m) clock (gd arr idx) clock) w:=by simp[getObj,Sem.run,hk]
  have dt:(getObj m).run P w=.ok (.map arr clock) w:=by simp[getObj,Sem.run,hm]
  have bH:w1.heap[k]?=some (.mapIter (some m) clock (gd arr idx) clock):=by rcases fA with rfl|rfl<;>exact hk
  have tl:(setObj k (.mapIter (some m) clock ((gd arr idx).push e.born) clock)).run P w1=.ok () {w1 with heap:=w1.heap.setIfInBounds k (.mapIter (some m) clock ((gd arr idx).push e.born) clock)}:=by simp[setObj,Sem.run,bH]
  have afv:((if false=true then #[none] else #[])++Array.map some (left++#[]):Array (Option MapEntry))=left.map some:=by simp
  have ku:(left.map some)[c]?=some (some e):=by simp[h3]
  have UP:∀(AS:Array (Option MapEntry)) (cc:Nat),(choose (.mapNext AS.size)).run P w=.ok cc w1→AS[cc]?=some (some e)→(do
        match AS[←choose (.mapNext AS.size)]? with
        |some (some e)=>
         setObj k (.mapIter (some m) clock ((gd arr idx).push e.born) clock)
         pure (.tuple #[.bool true,e.key,e.val])
        |some none=>(pure (.tuple #[.bool false]):Sem Value)
        |none=>stuck "Next: no such candidate" :Sem Value).run P w=.ok (.tuple #[.bool true,e.key,e.val]) {w1 with heap:=w1.heap.setIfInBounds k (.mapIter (some m) clock ((gd arr idx).push e.born) clock)}:=by
   intro AS cc h4 h5;rw[Sem.run_bind,h4];simp only[Result.andThen_ok,h5];rw[Sem.run_bind,tl];rfl
  rw[alO arr idx h1] at UP tl;have:=UP (left.map some) c (by rw[Array.size_map];exact lR) ku;simp only[Instr.next];rw[Sem.run_bind,oI];simp only[Result.andThen_ok];rw[Sem.run_bind,dt];simp only[Result.andThen_ok,ru,vK,jB,kz,hem];rw[afv,if_neg (by decide)];exact this
theorem adm {P:Program}{w:World}{k m:Nat}{arr:Array MapEntry}{clock:Nat}{idx:List Nat}{i:Nat}{e:MapEntry}(hk:w.heap[k]?=some (.mapIter (some m) clock (gd arr (idx++[i])) clock))(hm:w.heap[m]?=some (.map arr clock))(hb:mA arr clock)(he:arr[i]?=some e):
 (Instr.entry (.pointer (some ⟨k,0,none⟩))).run P w=.ok (.tuple #[e.key,e.val]) w:=by
 have afr:(gd arr (idx++[i])).back?=some e.born:=by simp[gd,he]
 have B1:arr.find? (fun x=>x.born==e.born)=some e:=by
  have ae:i<arr.size:=(dy.1 he).1;have hei:arr[i]=e:=(dy.1 he).2;rw[Array.find?_eq_some_iff_getElem];refine⟨by simp,i,ae,hei,fun j hj=>?_⟩;have fc:j<arr.size:=by omega
  cases hc:(arr[j].born==e.born) with
  |false=>rfl
  |true=>
   have:=hb.2 j i arr[j] e (dX fc) he (by simpa using hc);omega
 simp[Instr.entry,getObj,Sem.run_bind,Sem.run,hk,hm,afr,B1]
theorem ai2 {x y z:Code}{k:Nat}{p:MP}(h:zb x y k z=some p):∃i1 i2 o1 o2 o3 l,x=.region i1 p.ops1 false∧y=.cond (.tmp p.mo) .skip (.exit p.out)∧z=.region i2 p.ops2 false∧p.next=k∧p.ops1.toList=[o1,o2]∧p.ops2.toList=o3::l∧
 o1.dst=some p.nx∧o1.guard=none∧o1.op=.next (.tmp p.it) false∧o2.dst=some p.mo∧o2.guard=none∧o2.op=.extract (.tmp p.nx) 0∧o3.dst=some p.pr∧o3.guard=none∧o3.op=.entry (.tmp p.it)∧kK p.pr l []=some p.aa∧
 p.it≠p.nx∧p.it≠p.mo∧p.it≠p.pr∧p.nx≠p.mo∧p.out≠cO∧k≠cO:=by
 unfold zb at h;split at h
 case h_2=>cases h
 rename_i i1 ops1 mo out i2 ops2;split at h
 case h_2=>cases h
 rename_i o1 o2 o3 l e1 e2;split at h
 case h_2=>cases h
 rename_i nx it mo' WM pr VQ d1 g1 q1 d2 g2 q2 d3 g3 q3;rw[od] at h;split at h
 case isFalse=>cases h
 rename_i hc;simp only[av] at h;obtain⟨aa,h4,rfl⟩:=h;simp only[aj,hH] at hc;obtain⟨⟨⟨⟨⟨⟨⟨⟨c1,c2⟩,c3⟩,c4⟩,c5⟩,c6⟩,c7⟩,c8⟩,c9⟩:=hc;have ne:∀{a b:Nat},Nat.beq a b=false→a≠b:=fun h e=>by subst e;simp at h
 obtain rfl:=au c1;obtain rfl:=au c2;obtain rfl:=au c3;exact⟨i1,i2,o1,o2,o3,l,rfl,rfl,rfl,rfl,e1,e2,d1,g1,q1,d2,g2,q2,d3,g3,q3,h4,ne c4,ne c5,ne c6,ne c7,ne c8,ne c9⟩
theorem H8 {pr:Nat}:∀(l:List Oper) {acc aa:List (Nat×Nat)},kK pr l acc=some aa→∀x,x∈acc→x∈aa
 |[],acc,aa,h,x,hx=>by simp only[kK,aO] at h;subst h;exact hx
 |o::l,acc,aa,h,x,hx=>by
  simp only[kK] at h;split at h
  case h_2=>cases h
  rw[od] at h;split at h
  ·cases h
  split at h
  ·rw[od] at h;split at h
   ·exact H8 l h x (jr _ hx)
   ·cases h
  ·simp only[ao] at h;obtain⟨i,_,h⟩:=h;exact H8 l h x (jr _ hx)
  ·simp only[ao] at h;obtain⟨i,_,h⟩:=h;exact H8 l h x (jr _ hx)
  ·cases h
theorem CX:∀{l:List (Nat×Nat)} {t i:Nat},tO l t=some i→(t,i)∈l
 |x::l,t,i,h=>by
  simp only[tO] at h;cases hb:Nat.beq x.1 t<;>simp only[hb,cond_true,cond_false] at h
  ·exact dz _ (CX h)
  ·cases h;have:=au hb;subst this;exact dG ..
theorem We:∀{l:List (Nat×Nat)} {t:Nat},(tO l t).isSome=false→∀x,x∈l→x.1≠t
 |y::l,t,h,x,hx=>by
  simp only[tO] at h;cases hb:Nat.beq y.1 t<;>simp only[hb,cond_true,cond_false] at h
  ·rcases df.1 hx with e|hx
   ·subst e;intro e;subst e;simp at hb
   ·exact We h x hx
  ·cases h
theorem Of {pr:Nat}:∀(l:List Oper) {acc aa:List (Nat×Nat)},kK pr l acc=some aa→(∀x,x∈acc→x.2≤1)→∀x,x∈aa→x∈acc∨(x.2≤1∧∃o,o∈l∧o.dst=some x.1)
 |[],acc,aa,h,_,x,hx=>by simp only[kK,aO] at h;subst h;exact .inl hx
 |o::l,acc,aa,h,ha,x,hx=>by
  simp only[kK] at h;split at h
  case h_2=>cases h
  rename_i d hd gi;rw[od] at h;split at h
  ·cases h
  have go:∀(pt:Nat),pt≤1→kK pr l (acc++[(d,pt)])=some aa→x∈acc∨(x.2≤1∧∃o',o'∈o::l∧o'.dst=some x.1):=by
   intro pt tB hp
   rcases Of l hp (fun y hy=>by
        rcases de.1 hy with h|h
        ·exact ha y h
        ·simp at h;subst h;exact tB) x hx with h|⟨h1,o',h2,h3⟩
   ·rcases de.1 h with h|h
    ·exact .inl h
    ·simp at h;subst h;exact .inr ⟨tB,o,dG ..,hd⟩
   ·exact .inr ⟨h1,o',dz _ h2,h3⟩
  split at h
  ·rw[od] at h;split at h
   case isFalse=>cases h
   rename_i ku;simp only[aj] at ku;exact go _ (jP ku.2) h
  ·simp only[ao] at h;obtain⟨i,hi,h⟩:=h;exact go i (ha _ (CX hi)) h
  ·simp only[ao] at h;obtain⟨i,hi,h⟩:=h;exact go i (ha _ (CX hi)) h
  ·cases h
theorem zy {P:Program}{ops:Array Oper}{i:Nat}{rest:List Nat}{o:Oper}{rd:Option Nat}{a:Act}{w w':World}{Q:Exit→Act→World→Prop}{v:Value}(ho:ops[i]?=some o)(hg:o.guard=none)(be:nM o.op=true)(hx:(execOp a.eval o).run P w=.ok (.value v) w')
 (k:wpOpsIn (FR rd) 0 P ops Q rest (a.put o.dst v) w'):wpOpsIn (FR rd) 0 P ops Q (i::rest) a w:=by
 simp only[wpOpsIn,ho];rw[if_pos (by simp[Region.wanted,hg])];exact X1 be (by unfold Oper.wp;rw[hx];exact k)
theorem alJ {ops:Array Oper}{o:Oper}(ho:o∈ops.toList)(a:Act)(v:Value):SameBut (pY ops) a (a.put o.dst v):=by
 have:=SameBut.put a o.dst v a.defers;exact this.mono fun t e=>⟨o,ho,e⟩
theorem zE {a:Act}{d:Nat}{v:Value}(h:d<a.tmps.size):(a.put (some d) v).tmps.getD d undef=v:=by rw[wS];simp[h]
theorem Ii {a:Act}{d t:Nat}{v:Value}(h:t≠d):(a.put (some d) v).tmps.getD t undef=a.tmps.getD t undef:=by rw[wS];simp[h]
theorem put_defers (a:Act)(d:Option Nat)(v:Value):(a.put d v).defers=a.defers:=by cases d<;>rfl
def C8 (kv vv:Value)(i:Nat):Value:=if i=0 then kv else vv
theorem X9 {P:Program}{ops:Array Oper}{rd:Option Nat}{Q:Exit→Act→World→Prop}{pr:Nat}{kv vv:Value}{w:World}:∀(l:List Oper) (acc aa:List (Nat×Nat)) (i:Nat) (a:Act),kK pr l acc=some aa→ops.toList.drop i=l→(∀x,x∈aa→x.1<a.tmps.size)→a.tmps.getD pr undef=.tuple #[kv,vv]→
 (∀x,x∈acc→a.tmps.getD x.1 undef=C8 kv vv x.2)→(∀a',SameBut (pY ops) a a'→a'.defers=a.defers→(∀x,x∈aa→a'.tmps.getD x.1 undef=C8 kv vv x.2)→Q .normal a' w)→wpOpsIn (FR rd) 0 P ops Q (List.range' i (ops.size-i)) a w
 |[],acc,aa,i,a,h,hl,ae,oR,BK,hQ=>by
  simp only[kK,aO] at h;subst h;have:ops.size-i=0:=by
    have:=List.drop_eq_nil_iff.1 hl;simp at this;omega
  rw[this];exact hQ a (.refl _ _) rfl BK
 |o::l,acc,aa,i,a,h,hl,ae,oR,BK,hQ=>by
  have hi:i<ops.toList.length:=by
   refine Sj fun hle=>?_;rw[List.drop_eq_nil_iff.2 hle] at hl;cases hl
  rw[R3 hi] at hl;have ho:ops[i]?=some o:=by
   have:ops.toList[i]=o:=by injection hl
   rw[←this];simp at hi ⊢
  have yQ:ops.toList.drop (i+1)=l:=by injection hl
  have aA:ops.size-i=(ops.size-(i+1))+1:=by simp at hi;omega
  rw[aA,EG];have cK:o∈ops.toList:=by simpa using gJ ho
  simp only[kK] at h;split at h
  case h_2=>cases h
  rename_i d hd gi;rw[od] at h;split at h
  ·cases h
  rename_i hc;simp only[gw,not_or,Bool.not_eq_true] at hc;have hdp:pr≠d:=fun e=>by subst e;simp at hc
  have LQ:∀x,x∈acc→x.1≠d:=We hc.2;have go:∀(pt:Nat) (v:Value),kK pr l (acc++[(d,pt)])=some aa→nM o.op=true→v=C8 kv vv pt→(execOp a.eval o).run P w=.ok (.value v) w→wpOpsIn (FR rd) 0 P ops Q (i::List.range' (i+1) (ops.size-(i+1))) a w:=by
   intro pt v hp be hv hx;have LR:d<a.tmps.size:=ae _ (H8 l hp (d,pt) (by simp));refine zy ho gi be hx ?_;have jc:=alJ cK a v;rw[hd] at jc ⊢;refine X9 l _ aa (i+1) _ hp yQ (fun x hx=>by rw[jc.size];exact ae x hx) (by rw[Ii hdp];exact oR) (fun x hx=>?_) (fun a' h1 h2 h3=>hQ a' (jc.trans h1) (h2.trans (put_defers _ _ _)) h3);rcases de.1 hx with hx|hx
   ·rw[Ii (LQ x hx)];exact BK x hx
   ·simp at hx;subst hx;rw[zE LR];exact hv
  split at h
  ·rename_i t pt e;rw[od] at h;split at h
   case isFalse=>cases h
   rename_i ku;simp only[aj] at ku;have ht:=au ku.1;have tB:=jP ku.2;subst ht;have bD:a.eval (.tmp t)=.tuple #[kv,vv]:=by simpa [Act.eval] using oR
   refine go pt (C8 kv vv pt) h (by rw[e];rfl) rfl ?_;rcases(by omega:pt=0∨pt=1) with rfl|rfl<;>simp[execOp,e,bD,Instr.extract,C8]
  ·rename_i t e;simp only[ao] at h;obtain⟨pt,vK,h⟩:=h;have:=BK _ (CX vK);exact go pt (a.eval (.tmp t)) h (by rw[e];rfl) (by simpa [Act.eval] using this) (by simp[execOp,e])
  ·rename_i t e;simp only[ao] at h;obtain⟨pt,vK,h⟩:=h;have:=BK _ (CX vK);exact go pt (a.eval (.tmp t)) h (by rw[e];rfl) (by simpa [Act.eval] using this) (by simp[execOp,e])
  ·cases h
theorem Nh (ids:List Nat)(J j:Nat)(S:Snap):((S.kill ids J).st ids).o j=if j=J then .dead else(S.st ids).o j:=by
 show dM ids (v5 ids J S.os) j=_;have:∀(is:List Nat) (os:List Ob),dM is (v5 is J os) j=if j=J then .dead else dM is os j:=by
  intro is
  induction is with
  |nil=>intro os;simp[v5,dM]
  |cons i is ih=>
   intro os;cases os with
   |nil=>simp[v5,dM]
   |cons o os=>
    simp only[v5,dM];cases hb:Nat.beq i j
    ·simp only[cond_false];exact ih os
    ·have:=au hb;subst this;simp only[cond_true];by_cases cq:i=J
     ·subst cq;simp
     ·simp[eX cq,cq]
 exact this ids S.os
theorem SS {N:Nat}{id:Nat}(GR:id≠cO){rm:Bool}{wr:Nat→Prop}{a:Act}{q:Res2}{x xi:Out}(qg:(∀t,t∈q.pc.modR→aq q.mr t=true)∧∀j,j∈q.pc.modO→j∈q.mo)(dL:q.pc.ev Φ N ρ=some xi)(bD:(gf ids id q).pc.ev Φ N ρ=some x){e:Exit}{a':Act}{w':World}
 (fK:gA C w0 σ0 ids fn s rm wr a q.out q.ex xi e a' w'):Exit.inBlock id (gA C w0 σ0 ids fn s rm wr a (gf ids id q).out (gf ids id q).ex x) e a' w':=by
 have UK:∀bR S1,(bR,S1)∈q.ex→bR≠id→(bR,S1)∈q.ex.filter fun x=> !Nat.beq x.1 id:=fun bR S1 hm az=>ed.2 ⟨hm,by simp[eX az]⟩;have main:∀(o:Option Snap) (lr lo:List Nat),nL id q.ex q.out=o→(∀M,o=some M→lr=j2 M q.mr∧lo=jf ids M q.mo)→(PC.block id lr lo q.pc).ev Φ N ρ=some x→
        Exit.inBlock id (gA C w0 σ0 ids fn s rm wr a o (q.ex.filter fun x=> !Nat.beq x.1 id) x) e a' w':=by
  intro o lr lo ho hl bD;simp only[PC.ev] at bD;rw[dL] at bD
  have fin:∀{ρ1:Env} {a':Act} {w':World},(∃M,o=some M∧Good C w0 σ0 (M.st ids) ρ1 (fun _=>False) a' w')→xi.env?=some ρ1→x=.next (ρ.join lr lo ρ1)→SameBut wr a a'→
   gA C w0 σ0 ids fn s rm wr a o (q.ex.filter fun x=> !Nat.beq x.1 id) x .normal a' w':=by
        intro ρ1 a' w' hM vC hx er;obtain⟨M,hM,rA⟩:=hM;obtain⟨l1,l2⟩:=hl M hM;subst l1 l2;exact⟨_,M,hx,hM,er,rA.joined (PC.ev_but q.pc ρ _ ρ1 dL vC) qg.1 qg.2⟩
  cases e with
  |normal=>
   obtain⟨ρ1,S2,e1,e2,er,dt⟩:=fK;subst e1;simp only[aO] at bD;refine fin ?_ rfl bD.symm er;rw[e2] at ho;obtain⟨M,h1,h2⟩:=HJ (id:=id) q.ex dt;rw[ho] at h1;exact⟨M,h1,h2⟩
  |exit bR=>
   obtain⟨ρ1,S2,e1,e0,e2,er,dt⟩:=fK;subst e1;simp only at bD;show if bR=id then _ else _;by_cases cQ:bR=id
   ·subst cQ;simp only[gL,cond_true,aO] at bD;simp only[if_true];refine fin ?_ rfl bD.symm er;rw[←ho];exact Nz dt q.ex q.out e2
   ·simp only[eX cQ,cond_false,aO] at bD;subst bD;simp only[cQ,if_false];exact⟨ρ1,S2,rfl,e0,UK _ _ e2 cQ,er,dt⟩
  |ret=>
   cases rm with
   |false=>
    have hy:=fK;obtain⟨d,e1,_⟩:=hy;subst e1;simp only[aO] at bD;subst bD;exact fK
   |true=>
    obtain⟨ρ1,S2,e1,e2,er,dt⟩:=fK;subst e1;simp only[eX (fun e=>GR e.symm:cO≠id),cond_false,aO] at bD;subst bD;exact⟨ρ1,S2,rfl,UK _ _ e2 (fun e=>GR e.symm),er,dt⟩
  |_=>exact fK.elim
 unfold gf at bD ⊢;cases hm:nL id q.ex q.out with
 |none=>
  simp only[hm] at bD ⊢;exact main none [] [] hm (fun M e=>by cases e) bD
 |some M=>
  simp only[hm] at bD ⊢;exact main (some M) _ _ hm (fun M' e=>by cases e;exact⟨rfl,rfl⟩) bD
theorem SQ {N id:Nat}{q:Res2}{x:Out}(bD:(gf ids id q).pc.ev Φ N ρ=some x):∃xi,q.pc.ev Φ N ρ=some xi:=by
 unfold gf at bD;cases hm:nL id q.ex q.out<;>simp only[hm,PC.ev] at bD<;>cases dL:q.pc.ev Φ N ρ<;>first|exact⟨_,rfl⟩|(rw[dL] at bD;cases bD)
theorem ZB {es:List (D×D)}{idx:List Nat}(hn:idx.Nodup)(ae:∀i,i∈idx→i<es.length)(aD:∀i,i<es.length→i∈idx):(gr es idx).Perm (gW (.map es)):=by
 have h1:idx.Perm (List.range es.length):=by
  rw[List.perm_ext_iff_of_nodup hn JN];intro i;rw[bZ];exact⟨ae i,aD i⟩
 have h2:gr es (List.range es.length)=gW (.map es):=by
  refine R6 (by simp[gr,gW,D.m]) fun i g1 g2=>?_;have hi:i<es.length:=by simpa [gr] using g1
  simp[gr,gW,D.m,bo hi]
 rw[←h2];exact h1.map _
theorem alP {es:List (D×D)}{idx:List Nat}(hn:idx.Nodup)(ae:∀i,i∈idx→i<es.length):∃rest,(gr es idx++rest).Perm (gW (.map es)):=by
 refine⟨gr es ((List.range es.length).filter fun i=> !idx.contains i),?_⟩;have e:gr es idx++gr es ((List.range es.length).filter fun i=> !idx.contains i)=gr es (idx++(List.range es.length).filter fun i=> !idx.contains i):=by simp[gr]
 rw[e];refine ZB ?_ (fun i hi=>?_) (fun i hi=>?_)
 ·rw[Aw];refine⟨hn,JN.filter _,fun a ha b hb e=>?_⟩;subst e;have:=(ed.1 hb).2;simp[ha] at this
 ·rcases de.1 hi with h|h
  ·exact ae i h
  ·exact bZ.1 (ed.1 h).1
 ·by_cases h:i∈idx
  ·exact jr _ h
  ·exact jN _ (ed.2 ⟨bZ.2 hi,by simp[h]⟩)
theorem ZC (es:List (D×D))(idx:List Nat){i:Nat}{p:D×D}(h:es[i]?=some p):gr es (idx++[i])=gr es idx++[.tup [p.1,p.2]]:=by simp[gr,h]
theorem ai4 {N:Nat}{x y z code:Code}{k:Nat}{p:MP}(hp:zb x y k z=some p)(ihc:uZ C Φ fn s n ids R N code){rm:Bool}{S:Snap}{r:Res2}
 (hr:zc ids n p (cu x++(cu y++(cu z++cu code))) (fun S=>comp C fn s n ids R rm code S) S=some r) {rd:Option Nat} {wr:Nat→Prop} {x0:Out} (gl:rm=false→rd=none∧σ0.fin) (hC:CtxOK C σ0) (hY:pP C Φ w0 σ0)
 (gT:∀t,t∈cu (.loop (.seq x (.seq y (.block k (.seq z code)))))→wr t) (hn:a.tmps.size=n) (hg:Good C w0 σ0 (S.st ids) ρ (fun _=>False) a w) (he:r.pc.ev Φ N ρ=some x0):
 (Code.loop (.seq x (.seq y (.block k (.seq z code))))).wpIn (FR rd) 0 C.P (gA C w0 σ0 ids fn s rm wr a r.out r.ex x0) a w:=by
 obtain⟨i1,i2,o1,o2,o3,l,rfl,rfl,rfl,hk,e1,e2,d1,g1,q1,d2,g2,q2,d3,g3,q3,mN,n1,n2,n3,n4,n5,n6⟩:=ai2 hp;subst hk;unfold zc at hr;split at hr
 case h_2=>cases hr;exact absurd he (mm _ _ _ _)
 rename_i J hJ;split at hr
 case h_2=>cases hr;exact absurd he (mm _ _ _ _)
 rename_i kt et GY;simp only at hr;split at hr
 case h_2=>cases hr;exact absurd he (mm _ _ _ _)
 rename_i q hq;rw[od] at hr;split at hr
 case isFalse=>cases hr;exact absurd he (mm _ _ _ _)
 rename_i vA;cases hr;generalize Ho:cu (.region i1 p.ops1 false)++(cu (.cond (.tmp p.mo) .skip (.exit p.out))++(cu (.region i2 p.ops2 false)++cu code))=ws at*;simp only[aj,hH] at vA;obtain⟨⟨⟨⟨⟨⟨⟨⟨c1,c2⟩,c3⟩,c4⟩,c5⟩,c6⟩,c7⟩,c8⟩,c9⟩:=vA;have hex:q.2.ex=[]:=sD.1 c1;have Ud:J∉q.2.mo:=fun h=>by rw[(oX _ _).2 h] at c2;cases c2
 simp only[VN,aj,hH] at c3;obtain⟨⟨c3a,c3b⟩,c3c⟩:=c3;have ag7:q.1.rs.getD p.it .none=.obj J 0:=Sh.beq_eq _ _ c3a;have Hc:dM ids q.1.os J=.it kt et:=Ob.beq_eq _ _ c3b;have agZ:∀t,t∈p.aa.map (·.1)→t<n:=fun t ht=>by have:=bz.1 c5 t ht;rwa [ia] at this
 have hnx:p.nx<n:=by rwa [ia] at c6
 have Mg:p.mo<n:=by rwa [ia] at c7
 have oR:p.pr<n:=by rwa [ia] at c8
 have Ch:=au c9;obtain⟨hs,yL,bl⟩:=CR (C:=C) (w0:=w0) (σ0:=σ0) (ids:=ids) 8 hq;simp only[av] at hs;obtain⟨q0,vP,iZ⟩:=hs;obtain⟨qS,qR⟩:=q;simp only at*;subst iZ;generalize hm:wh ws=m at*;generalize vL:jf ids qS (gf ids p.next q0).mo=lo at*;have Mi:=SR (ids:=ids) (id:=p.next) (sP code vP);have ago:∀j,j∈lo→j∈(gf ids p.next q0).mo:=fun j hj=>by rw[←vL] at hj;exact zd hj
 have asu:J∉lo:=fun h=>Ud (ago J h);have Ct:∃Ak,Ib ((gf ids p.next q0).pc.ev Φ N) ρ J (p.aa.map (·.1)) (p.aa.map (·.2)) lo Ak∧x0=.exit p.out (ρ.put [] [] lo Ak):=by
  simp only[PC.ev] at he;cases oR:Ic ((gf ids p.next q0).pc.ev Φ N) ρ J (p.aa.map (·.1)) (p.aa.map (·.2)) lo with
  |none=>rw[oR] at he;cases he
  |some y=>
   obtain⟨Ak,h1,rfl⟩:=zB.1 oR;rw[oR] at he;simp only[aO] at he;exact⟨Ak,h1,he.symm⟩
 obtain⟨Ak,⟨Co,afh⟩,di⟩:=Ct;generalize iW:(ρ.o J).tget 1=es at*
 have fA:∀o,o∈p.ops1.toList→∀d,o.dst=some d→d∈ws:=fun o ho d hd=>by
  rw[←Ho];exact jr _ (sE.2 ⟨o,ho,hd⟩)
 have fB:∀o,o∈p.ops2.toList→∀d,o.dst=some d→d∈ws:=fun o ho d hd=>by
  rw[←Ho];exact jN _ (jN _ (jr _ (sE.2 ⟨o,ho,hd⟩)))
 have hwc:∀d,d∈cu code→d∈ws:=fun d hd=>by
  rw[←Ho];exact jN _ (jN _ (jN _ hd))
 have M6:∀t,t∈ws→wr t:=fun t ht=>gT t (by rw[←Ho] at ht;exact ht);have rH:∀t,t∈ws→aq m t=true:=fun t ht=>by rw[←hm];exact SO ht
 have Mf:∀t,aq m t=true→((qS.mask m).st ids).r t=.none:=fun t ht=>by rw[CZ,if_pos ht]
 have agu:∀t,isNone (((qS.mask m).st ids).r t)=false→aq m t=false:=fun t ht=>by
  cases hb:aq m t with
  |false=>rfl
  |true=>rw[Mf t hb] at ht;cases ht
 have eu:((qS.mask m).st ids).r p.it=.obj J 0:=by
  rw[CZ,c3c];show cH (qS.rs.getD p.it .none)=_;rw[ag7];rfl
 have cI:((qS.mask m).st ids).o J=.it kt et:=Hc;have jG:p.ops1[0]?=some o1:=by rw[←wZ,e1];rfl
 have gP:p.ops1[1]?=some o2:=by rw[←wZ,e1];rfl
 have ho3:p.ops2[0]?=some o3:=by rw[←wZ,e2];rfl
 have ahp:List.range p.ops1.size=[0,1]:=by
  have:p.ops1.size=2:=by rw[←qM,e1];rfl
  rw[this];rfl
 have MT:List.range p.ops2.size=0::List.range' 1 (p.ops2.size-1):=by
  have:p.ops2.size=l.length+1:=by rw[←qM,e2];rfl
  rw[this,JO,EG];rfl
 have key:∀(kk:Nat) (done vo:List D) (a':Act) (w':World),SameBut wr a a'→Good C w0 σ0 ((qS.mask m).st ids) ((ρ.put [] [] lo vo).setO J (.tup [.list done,es])) (fun _=>False) a' w'→
  (∀ys,(done++ys).Perm (gW es)→nQ ((gf ids p.next q0).pc.ev Φ N) ρ J es (p.aa.map (·.1)) (p.aa.map (·.2)) lo ys done vo=some Ak)→done.length+kk=(gW es).length+1→
  Code.roundsIn (FR rd) 0 C.P (.seq (.region i1 p.ops1 false) (.seq (.cond (.tmp p.mo) .skip (.exit p.out)) (.block p.next (.seq (.region i2 p.ops2 false) code)))) (gA C w0 σ0 ids fn s rm wr a none [(p.out,(qS.mask m).kill ids J)] x0) kk a' w':=by
  intro kk
  induction kk with
  |zero=>
   intro done vo a' w' _ fb _ hlen;exfalso;obtain⟨σ,own,hv,h⟩:=fb;have aV:=h.objs J;rw[cI] at aV;obtain⟨kb,mb,arr,clock,fH,idx,h1,h2,h3,az,h4,h5,h6,h7,h8,h9,kq,kT⟩:=aV;simp only[Env.setO,aG] at h6;injection h6 with h6;injection h6 with vw vx;injection vx with vx _;injection vw with vw;subst vw;subst vx;have hle:idx.length≤arr.size:=by
        have:=List.Nodup.length_le_of_subset h7 (l₂:=List.range arr.size) (fun i hi=>bZ.2 (h8 i hi));simpa using this
   simp[gr,gW,D.m] at hlen;omega
  |succ kk ih=>
   intro done vo a' w' jc fb aD hlen;rw[roundsIn_succ];obtain⟨σ,own,hv,h⟩:=fb;have aV:=h.objs J;rw[cI] at aV;obtain⟨kb,mb,arr,clock,fH,idx,h1,h2,h3,az,h4,h5,h6,h7,h8,h9,kq,kT⟩:=aV;simp only[Env.setO,aG] at h6;injection h6 with h6;injection h6 with vw vx;injection vx with vx _;injection vw with vw;subst vw;subst vx;have fU:=h.regs p.it;rw[eu] at fU;have GS:a'.eval (.tmp p.it)=.pointer (some ⟨kb,0,none⟩):=by
        have:=fU.2 rfl;simp only[Act.eval];rw[this];exact h1
   have qm:a'.tmps.size=n:=jc.size.trans hn;obtain⟨w1,Vz,G9⟩:=ajt (P:=C.P) h5 h4 kq h8 o1.type;have CL:Below w'.heap.size w' w1:=by rcases Vz with rfl|rfl;exact .refl _ _;exact⟨rfl,rfl,rfl,aU _,fun _ _=>rfl⟩
   have y2:w1.heap=w'.heap:=by rcases Vz with rfl|rfl<;>rfl
   have UW:kb<w'.heap.size:=(h.owns kb J h2).2.1;have oM:mb<w'.heap.size:=(h.owns mb J h3).2.1;refine wpIn_seq (wpIn_region ?_);rw[ahp];rcases G9 with⟨LZ,af⟩|⟨i,e,rB,GQ,af⟩
   ·
        refine zy jG g1 (by rw[q1];rfl) (v:=.tuple #[.bool false]) (w':=w1) (by simp only[execOp,q1,GS];simp[af]) ?_;rw[d1]
        refine zy gP g2 (by rw[q2];rfl) (v:=.bool false) (w':=w1) (by
         have:(a'.put (some p.nx) (.tuple #[.bool false])).eval (.tmp p.nx)=.tuple #[.bool false]:=by simp only[Act.eval];exact zE (by omega)
         simp only[execOp,q2,this];simp[Instr.extract]) ?_
        rw[d2];simp only[wpOpsIn]
        have vS:SameBut (fun t=>t∈ws) a' ((a'.put (some p.nx) (.tuple #[.bool false])).put (some p.mo) (.bool false)):=by
         have s1:=SameBut.put a' (some p.nx) (.tuple #[.bool false]) a'.defers;have s2:=SameBut.put (a'.put (some p.nx) (.tuple #[.bool false])) (some p.mo) (.bool false) (a'.put (some p.nx) (.tuple #[.bool false])).defers;exact(s1.mono fun t e=>by cases e;exact fA o1 (by rw[e1];simp) _ d1).trans (s2.mono fun t e=>by cases e;exact fA o2 (by rw[e1];simp) _ d2)
        generalize BH:(a'.put (some p.nx) (.tuple #[.bool false])).put (some p.mo) (.bool false)=a1 at vS;have Mh:a1.eval (.tmp p.mo)=.bool false:=by
         rw[←BH];simp only[Act.eval];exact zE (by rw[size_put];omega)
        have ny:a1.defers=a'.defers:=by rw[←BH,put_defers,put_defers]
        refine wpIn_seq (wpIn_cond_false Mh (wpIn_exit ?_));have agV:(gr fH idx++[]).Perm (gW (.map fH)):=by
         rw[kO];exact ZB h7 (fun i hi=>by rw[h9];exact h8 i hi) (fun i hi=>LZ i (by omega))
        have Vy:=aD [] agV;simp only[nQ,aO] at Vy;subst Vy;refine⟨_,_,di,n5,na.2 rfl,jc.trans (vS.mono M6),?_⟩;refine⟨σ,own,hv,?_⟩
        refine h.step (S':=((qS.mask m).kill ids J).st ids) (ρ':=ρ.put [] [] lo vo) (A':=fun _=>False) (fun j=>j=J) ny (.refl σ) (h.ok.below CL) (fun _ _ _ hx=>.inl hx) (fun _ _ hx=>.inl hx) (CL.mono h.below.size) ⟨fun _=>aU _,fun _ _=>rfl⟩
         (fun j hj=>⟨by rw[Nh,if_neg hj],by simp[Env.setO,bf _ _ hj],rfl,fun b hb=>⟨hb,by rw[y2]⟩⟩) (fun j hj=>?_) (fun b j hb=>?_) (fun _=>id) (fun t=>?_) (fun _ hf=>hf.elim) (fun b hb _=>by rw[y2]) (fun b j hb=>.inl ⟨j,hb⟩) (fun j hj=>?_)
        ·rw[Nh,if_pos hj];trivial
        ·obtain⟨b1,b2,b3,b4⟩:=h.owns b j hb;exact⟨b1,by rw[y2];exact b2,b3,b4⟩
        ·by_cases ht:t∈ws
         ·refine .inr ⟨?_,fun gs s' e=>absurd e (Snap.noOpt _ _ t gs s')⟩;have:(((qS.mask m).kill ids J).st ids).r t=.none:=Mf t (rH t ht);rw[this];trivial
         ·exact .inl ⟨rfl,vS.get t ht,rfl⟩
        ·rw[Nh,if_pos hj];intro e;cases e
   ·
        obtain⟨pd,Mz⟩:∃pd,fH[i]?=some pd:=⟨_,bo (by rw[h9];exact(dy.1 rB).1)⟩
        obtain⟨bH,bt⟩:=kT i e pd rB Mz;generalize y3:({w1 with heap:=w1.heap.setIfInBounds kb (.mapIter (some mb) clock (gd arr (idx++[i])) clock)}:World)=w2 at af;have VA:w2.heap[kb]?=some (.mapIter (some mb) clock (gd arr (idx++[i])) clock):=by rw[←y3];simp[y2,UW]
        have y4:∀b,b≠kb→w2.heap[b]?=w'.heap[b]?:=fun b hb=>by rw[←y3];simp only[y2];rw[RS (qU hb)]
        have as3:w2.heap.size=w'.heap.size:=by rw[←y3];simp[y2]
        have VB:w2.heap[mb]?=some (.map arr clock):=by rw[y4 mb (qU az)];exact h4
        refine zy jG g1 (by rw[q1];rfl) (v:=.tuple #[.bool true,e.key,e.val]) (w':=w2) (by simp only[execOp,q1,GS];simp[af]) ?_;rw[d1]
        refine zy gP g2 (by rw[q2];rfl) (v:=.bool true) (w':=w2) (by
         have:(a'.put (some p.nx) (.tuple #[.bool true,e.key,e.val])).eval (.tmp p.nx)=.tuple #[.bool true,e.key,e.val]:=by simp only[Act.eval];exact zE (by omega)
         simp only[execOp,q2,this];simp[Instr.extract]) ?_
        rw[d2];simp only[wpOpsIn]
        have vS:SameBut (fun t=>t∈ws) a' ((a'.put (some p.nx) (.tuple #[.bool true,e.key,e.val])).put (some p.mo) (.bool true)):=by
         have s1:=SameBut.put a' (some p.nx) (.tuple #[.bool true,e.key,e.val]) a'.defers;have s2:=SameBut.put (a'.put (some p.nx) (.tuple #[.bool true,e.key,e.val])) (some p.mo) (.bool true) (a'.put (some p.nx) (.tuple #[.bool true,e.key,e.val])).defers;exact(s1.mono fun t e=>by cases e;exact fA o1 (by rw[e1];simp) _ d1).trans (s2.mono fun t e=>by cases e;exact fA o2 (by rw[e1];simp) _ d2)
        have UT:(((a'.put (some p.nx) (.tuple #[.bool true,e.key,e.val])).put (some p.mo) (.bool true))).eval (.tmp p.it)=.pointer (some ⟨kb,0,none⟩):=by
         simp only[Act.eval] at GS ⊢;rw[Ii n2,Ii n1];exact GS
        generalize BH:(a'.put (some p.nx) (.tuple #[.bool true,e.key,e.val])).put (some p.mo) (.bool true)=a1 at vS UT;have Mh:a1.eval (.tmp p.mo)=.bool true:=by
         rw[←BH];simp only[Act.eval];exact zE (by rw[size_put];omega)
        have ny:a1.defers=a'.defers:=by rw[←BH,put_defers,put_defers]
        refine wpIn_seq (wpIn_cond_true Mh (wpIn_skip ?_));refine wpIn_block (wpIn_seq (wpIn_region ?_));rw[MT];refine zy ho3 g3 (by rw[q3];rfl) (v:=.tuple #[e.key,e.val]) (w':=w2) (by simp only[execOp,q3,UT];simp[adm VA VB kq rB]) ?_;rw[d3]
        have Hh:SameBut (fun t=>t∈ws) a1 (a1.put (some p.pr) (.tuple #[e.key,e.val])):=
         (SameBut.put a1 (some p.pr) (.tuple #[e.key,e.val]) a1.defers).mono fun t e=>by cases e;exact fB o3 (by rw[e2];simp) _ d3
        have Vq:a1.tmps.size=n:=vS.size.trans qm;refine X9 (kv:=e.key) (vv:=e.val) l [] p.aa 1 _ mN (by rw[e2];rfl) (fun x hx=>by rw[Hh.size,Vq];exact agZ _ (eE.2 ⟨x,hx,rfl⟩)) (zE (by rw[Vq];exact oR)) (fun x hx=>by cases hx) (fun a2 er eg agT=>?_);have MM:SameBut (fun t=>t∈ws) a' a2:=(vS.trans Hh).trans (er.mono fun t ⟨o,ho,hd⟩=>fB o ho t hd);have afK:a2.defers=a'.defers:=by rw[eg,put_defers,ny]
        have ahn:Good C w0 σ0 (((qS.mask m).start (p.aa.map (·.1)) (p.aa.map fun x=>bif Nat.beq x.2 0 then kt else et)).st ids) ((ρ.put (p.aa.map (·.1)) ((p.aa.map (·.2)).map (D.tup [pd.1,pd.2]).tget) lo vo).setO J (.tup [.list (gr fH idx++[.tup [pd.1,pd.2]]),.map fH])) (fun _=>False) a2 w2:=by
         have BQ:Below w0.heap.size w' w2:=⟨by rw[←y3];exact CL.os,by rw[←y3];exact CL.tape,by rw[←y3];exact CL.output,by omega,fun b hb=>y4 b (fun e=>by subst e;have:=(h.owns b J h2).1;omega)⟩
         have iv:σ.ok w2:=by
          refine⟨fun b o v hc=>?_,fun b es hc=>?_⟩
          ·have td:b≠kb:=fun e=>by subst e;rw[(h.owns b J h2).2.2.1 o] at hc;cases hc
           have:=h.ok.c b o v hc;simp only[World.cell?] at this ⊢;rw[y4 b td];exact this
          ·have td:b≠kb:=fun e=>by subst e;rw[(h.owns b J h2).2.2.2] at hc;cases hc
           exact(h.ok.m b es hc).keep (y4 b td)
         have fK:∀j,((ρ.put (p.aa.map (·.1)) ((p.aa.map (·.2)).map (D.tup [pd.1,pd.2]).tget) lo vo).setO J (.tup [.list (gr fH idx++[.tup [pd.1,pd.2]]),.map fH])).o j=if j=J then .tup [.list (gr fH idx++[.tup [pd.1,pd.2]]),.map fH] else putL ρ.o lo vo j:=fun j=>by
          simp only[Env.setO,fj];rfl
         refine⟨σ,own,hv,h.step (fun j=>j=J) afK (.refl σ) iv (fun _ _ _ hx=>.inl hx) (fun _ _ hx=>.inl hx) BQ ⟨fun _=>aU _,fun _ _=>rfl⟩
          (fun j hj=>⟨rfl,by rw[fK,if_neg hj];simp[Env.setO,bf _ _ hj,Env.put],rfl,fun b hb=>⟨hb,y4 b (fun e=>by subst e;rw[h2] at hb;cases hb;exact hj rfl)⟩⟩) (fun j hj=>?_) (fun b j hb=>?_) (fun _=>id) (fun t=>?_) (fun _ hf=>hf.elim)
          (fun b hb ho=>y4 b (fun e=>by subst e;rw[h2] at ho;cases ho)) (fun b j hb=>.inl ⟨j,hb⟩) (fun j hj=>?_)⟩
         ·subst hj;have:(((qS.mask m).start (p.aa.map (·.1)) (p.aa.map fun x=>bif Nat.beq x.2 0 then kt else et)).st ids).o j=.it kt et:=Hc;rw[this];refine⟨kb,mb,arr,clock,fH,idx++[i],h1,h2,h3,az,VB,VA,by rw[fK,if_pos rfl,ZC fH idx Mz],?_,?_,h9,kq,kT⟩
          ·rw[Aw];exact⟨h7,by simp,fun a ha b hb e=>by simp at hb;subst hb;subst e;exact GQ ha⟩
          ·intro i' cv;rcases de.1 cv with h|h
           ·exact h8 i' h
           ·simp at h;subst h;exact(dy.1 rB).1
         ·obtain⟨b1,b2,b3,b4⟩:=h.owns b j hb;exact⟨b1,by omega,b3,b4⟩
         ·have hc:Compat ((qS.mask m).st ids) hv (((qS.mask m).start (p.aa.map (·.1)) (p.aa.map fun x=>bif Nat.beq x.2 0 then kt else et)).st ids) hv:=⟨fun _=>aU _,fun _ _=>rfl⟩
          refine .inr ⟨?_,fun gs s' e=>absurd e (Snap.noOpt _ _ t gs s')⟩;show aC C _ _ σ hv (cH ((qE (p.aa.map (·.1)) (p.aa.map fun x=>bif Nat.beq x.2 0 then kt else et) ((qS.mask m).rs.map rC)).getD t .none)) (a2.tmps.getD t undef) (putL ρ.r (p.aa.map (·.1)) ((p.aa.map (·.2)).map (D.tup [pd.1,pd.2]).tget) t);rcases PM (p.aa.map (·.1)) (p.aa.map fun x=>bif Nat.beq x.2 0 then kt else et) ((qS.mask m).rs.map rC) (by simp) c4 t with e|⟨yi,sQ⟩|⟨i',y,yi,sQ,KR⟩
          ·rw[e];trivial
          ·rw[sQ,zD _ _ _ _ yi];have e3:((qS.mask m).rs.map rC).getD t .none=rC ((qS.mask m).rs.getD t .none):=by
            simp only[aF,cA];cases(qS.mask m).rs[t]?<;>rfl
           rw[e3];by_cases Vt:t∈ws
           ·have yT:=Mf t (rH t Vt);change cH ((qS.mask m).rs.getD t .none)=.none at yT;generalize (qS.mask m).rs.getD t .none=s' at yT;cases s'<;>simp[cH] at yT<;>trivial
           ·have hr:=h.regs t;change aC C _ _ σ hv (cH ((qS.mask m).rs.getD t .none)) _ (ρ.r t) at hr;rw[MM.get t Vt];generalize (qS.mask m).rs.getD t .none=s' at hr;cases s' with
            |yv=>trivial
            |opt gs s=>trivial
            |none=>trivial
            |fclo f c=>exact aC.mono' (.refl σ) hc (fun _ _ e=>by cases e) hr
            |agg l=>exact aC.mono' (.refl σ) hc (fun _ _ e=>by cases e) hr
            |dat t=>exact hr
            |obj j v=>exact aC.mono' (.refl σ) hc (fun _ _ e=>by cases e) hr
            |ptr j v o=>exact aC.mono' (.refl σ) hc (fun _ _ e=>by cases e) hr
            |eptr j v o q=>exact aC.mono' (.refl σ) hc (fun _ _ e=>by cases e) hr
          ·rw[KR];have af8:i'<p.aa.length:=by have:=(dZ.1 yi).1;simpa using this
           rw[On _ (p.aa.map (·.1)) _ i' t (l8 c4) (by simp) yi];obtain⟨xa,lW⟩:∃xa,p.aa[i']?=some xa:=⟨_,bo af8⟩
           simp only[cA,lW,kg,aO] at yi sQ;subst yi;subst sQ;rw[agT xa (jO lW)];have hd:((p.aa.map (·.2)).map (D.tup [pd.1,pd.2]).tget).getD i' .none=(D.tup [pd.1,pd.2]).tget xa.2:=by simp[aF,lW]
           rw[hd];have h2x:xa.2≤1:=by
            rcases Of l mN (fun x hx=>by cases hx) xa (jO lW) with h|h
            ·cases h
            ·exact h.1
           rcases(by omega:xa.2=0∨xa.2=1) with e0|e0<;>rw[e0]
           ·exact bH
           ·exact bt
         ·have:(((qS.mask m).start (p.aa.map (·.1)) (p.aa.map fun x=>bif Nat.beq x.2 0 then kt else et)).st ids).o j=.it kt et:=by rw[hj];exact Hc
          rw[this];intro e;cases e
        have agU:=ZC fH idx Mz;obtain⟨rest,tC⟩:∃rest,(gr fH idx++(D.tup [pd.1,pd.2])::rest).Perm (gW (.map fH)):=by
         obtain⟨rest,hr⟩:=alP (es:=fH) (idx:=idx++[i]) (by rw[Aw];exact⟨h7,by simp,fun a ha b hb e=>by simp at hb;subst hb;subst e;exact GQ ha⟩) (fun i' cv=>by
          rcases de.1 cv with h|h
          ·rw[h9];exact h8 i' h
          ·simp at h;subst h;rw[h9];exact(dy.1 rB).1)
         rw[agU] at hr;exact⟨rest,by simpa using hr⟩
        have bW:=aD _ tC;simp only[nQ] at bW;split at bW
        case h_2=>cases bW
        rename_i ρ2 GF;obtain⟨xi,dL⟩:=SQ GF;refine wpIn_mono (ihc rm _ q0 vP rd w0 σ0 wr _ xi a2 w2 gl hC hY (fun t ht=>M6 t (hwc t ht)) (MM.size.trans qm) ahn dL) fun ee a3 w3 fK=>?_;have jX:=SS n6 (sP code vP) dL GF fK;have conv:∀ee a3 w3,gA C w0 σ0 ids fn s rm wr a2 (gf ids p.next q0).out (gf ids p.next q0).ex (.next ρ2) ee a3 w3→Exit.then (Code.roundsIn (FR rd) 0 C.P (.seq (.region i1 p.ops1 false) (.seq (.cond (.tmp p.mo) .skip (.exit p.out)) (.block p.next (.seq (.region i2 p.ops2 false) code)))) (gA C w0 σ0 ids fn s rm wr a none [(p.out,(qS.mask m).kill ids J)] x0) kk) (gA C w0 σ0 ids fn s rm wr a none [(p.out,(qS.mask m).kill ids J)] x0) ee a3 w3:=by
         intro ee a3 w3 ho;cases ee with
         |normal=>
          obtain⟨ρ3,T,f1,f2,f3,f4⟩:=ho;cases f1;refine ih (gr fH idx++[.tup [pd.1,pd.2]]) (lo.map ρ2.o) a3 w3 (jc.trans ((MM.mono M6).trans f3)) ?_ (fun ys rK=>?_) (by simp at hlen ⊢;omega)
          ·have rA:Good C w0 σ0 (qS.st ids) ρ2 (fun _=>False) a3 w3:=by
            have:=f4.meet2 (x:=qS)
            rwa [yL T f2] at this
           obtain⟨σ3,wB,CI,kV⟩:=rA;have LL:=PC.ev_but _ _ _ ρ2 GF rfl;refine⟨σ3,wB,CI,(kV.maskR m).env (Snap.noOpt _ _) (fun t ht=>?_) (fun j hj=>?_)⟩
           ·have yT:=agu t ht
            have cY:t∉(gf ids p.next q0).pc.modR:=fun fu=>by
                 have:=Mi.1 t fu;have h2:aq (Nat.lor m (gf ids p.next q0).mr) t=true:=by rw[fo,this,m8]
                 rw[Ch,yT] at h2;cases h2
            rw[LL.r t cY]
            have qh:t∉p.aa.map (·.1):=fun aQ=>by
                 have:aq m t=true:=by
                  refine rH t ?_;obtain⟨xa,lW,rfl⟩:=eE.1 aQ;rcases Of l mN (fun x hx=>by cases hx) xa lW with h|⟨_,o,ho,hd⟩
                  ·cases h
                  ·exact fB o (by rw[e2];exact dz _ ho) _ hd
                 rw[yT] at this;cases this
            show ρ.r t=putL ρ.r (p.aa.map (·.1)) _ t;rw[zD _ _ _ _ qh]
           ·have hjd:nJ (dM ids qS.os j)=false:=hj;show bO (putL ρ.o lo (lo.map ρ2.o)) J _ j=ρ2.o j;by_cases yO:j=J
            ·subst yO;rw[aG,LL.o j (fun fu=>Ud (Mi.2 j fu))];simp[Env.setO,aG]
            ·rw[bf _ _ yO,rY];split
             ·rfl
             ·rename_i fc;have cY:j∉(gf ids p.next q0).pc.modO:=fun fu=>fc (by rw[←vL];exact ed.2 ⟨Mi.2 j fu,by rw[hjd];rfl⟩);rw[LL.o j cY];simp only[Env.setO,bf _ _ yO];exact(Oo _ _ _ _ fc).symm
          ·have:=aD ((D.tup [pd.1,pd.2])::ys) (by simpa using rK);simp only[nQ,GF] at this;exact this
         |exit id=>obtain⟨ρ3,T,f1,_⟩:=ho;cases f1
         |ret=>
          cases rm with
          |false=>obtain⟨d,f1,_⟩:=ho;cases f1
          |true=>obtain⟨ρ3,T,f1,_⟩:=ho;cases f1
         |_=>exact ho.elim
        cases ee with
        |exit id=>
         simp only[Exit.inBlock] at jX;show if id=p.next then _ else _;split
         ·rename_i cQ;rw[if_pos cQ] at jX;exact conv .normal a3 w3 jX
         ·rename_i cQ;rw[if_neg cQ] at jX;exact conv (.exit id) a3 w3 jX
        |normal=>exact conv .normal a3 w3 jX
        |ret=>exact conv .ret a3 w3 jX
        |panic c=>exact fK.elim
        |goto l=>exact fK.elim
        |_=>exact fK.elim
 have hgq:Good C w0 σ0 (qS.st ids) ρ (fun _=>False) a w:=bl hg;obtain⟨σ,own,hv,h⟩:=hgq;have aV:=h.objs J;have:(qS.st ids).o J=.it kt et:=Hc;rw[this] at aV;obtain⟨kb,mb,arr,clock,fH,idx,h1,h2,h3,az,h4,h5,h6,h7,h8,h9,kq,kT⟩:=aV;have hρJ:ρ.o J=.tup [.list [],es]:=by
  rw[h6] at Co iW;simp[D.tget] at Co iW;rw[h6,Co,←iW]
 have vC:(ρ.put [] [] lo (lo.map ρ.o)).setO J (.tup [.list [],es])=ρ:=by
  rw[Env.put_self];show Env.mk _ _=_;have:bO ρ.o J (.tup [.list [],es])=ρ.o:=by
   funext j;rw[fj];split
   ·rename_i e;rw[e];exact hρJ.symm
   ·rfl
  rw[this]
 exact wpIn_loop_rounds _ (key ((gW es).length+1) [] (lo.map ρ.o) a w (.refl _ _) (by rw[vC];exact⟨σ,own,hv,h.maskR m⟩) (fun ys rK=>afh ys rK) (by simp))
theorem acd {N:Nat}(ic:jM C Φ)(hR:JS C n ids Φ R):∀(k:Nat) (c:Code),sizeOf c<k→uZ C Φ fn s n ids R N c:=by
 intro k;refine Nat.rec (fun c h=>absurd h (Nat.not_lt_zero _)) (fun k IH=>?_) k;intro c hc;cases c with
 |skip=>
  intro rm S r h rd w0 σ0 wr ρ x a w gl hC hY gT hn hg he;simp only[comp,aO] at h;subst h;simp only[PC.ev,aO] at he;subst he;exact wpIn_skip ⟨ρ,S,rfl,rfl,.refl _ _,hg⟩
 |region id ops draw=>
  intro rm S r h rd w0 σ0 wr ρ x a w gl hC hY gT hn hg he;simp only[comp,av] at h;obtain⟨q,hq,rfl⟩:=h;simp only[PC.ev,av] at he;obtain⟨ρ',hr,rfl⟩:=he;exact hR id ops draw S q hq rd w0 σ0 ρ ρ' a w _ hC hY hn hg hr (fun a' w' oS fb=>⟨ρ',q.1,rfl,rfl,oS.mono (fun t ⟨o,h1,h2⟩=>gT t (sE.2 ⟨o,h1,h2⟩)),fb⟩)
 |seq c1 c2=>
  have tJ:=IH c1 (by simp at hc;omega);have lZ:=IH c2 (by simp at hc;omega);intro rm S r h rd w0 σ0 wr ρ x a w gl hC hY gT hn hg he;have fA:∀t,t∈cu c1→wr t:=fun t ht=>gT t (jr _ ht);have fB:∀t,t∈cu c2→wr t:=fun t ht=>gT t (jN _ ht);simp only[comp,ao] at h;obtain⟨q,hq,h⟩:=h;split at h
  ·rename_i jW;cases h;refine wpIn_seq (wpIn_mono (tJ rm S _ hq rd w0 σ0 wr ρ x a w gl hC hY fA hn hg he) fun e a' w' ho=>?_);cases e with
   |normal=>obtain⟨_,_,_,h2,_⟩:=ho;rw[jW] at h2;cases h2
   |_=>exact ho
  ·rename_i S1 jW;simp only[av] at h;obtain⟨p,hp,rfl⟩:=h;simp only[PC.ev] at he
   have key:∀x1,q.pc.ev Φ N ρ=some x1→(match some x1 with|some (.next ρ')=>p.pc.ev Φ N ρ'|y=>y)=some x→(Code.seq c1 c2).wpIn (FR rd) 0 C.P (gA C w0 σ0 ids fn s rm wr a p.out (q.ex++p.ex) x) a w:=by
      intro x1 h1 h2;refine wpIn_seq (wpIn_mono (tJ rm S _ hq rd w0 σ0 wr ρ x1 a w gl hC hY fA hn hg h1) fun e a' w' ho=>?_);have other:∀{e:Exit},e≠.normal→gA C w0 σ0 ids fn s rm wr a q.out q.ex x1 e a' w'→x1=x→gA C w0 σ0 ids fn s rm wr a p.out (q.ex++p.ex) x e a' w':=by
       intro e az ho hx;subst hx;exact ho.mono (fun y hy=>jr _ hy) (.refl _ _) (fun e=>absurd e az)
      cases e with
      |normal=>
       obtain⟨ρ1,S2,e1,e2,er,dt⟩:=ho;subst e1;rw[jW] at e2;cases e2;simp only at h2;refine wpIn_mono (lZ rm S1 _ hp rd w0 σ0 wr ρ1 x a' w' gl hC hY fB (er.size.trans hn) dt h2) fun e a2 w2 gP=>?_;exact gP.mono (fun y hy=>jN _ hy) er (fun _=>rfl)
      |exit id=>
       refine other (by simp) ho ?_;obtain⟨ρ1,S2,e1,_⟩:=ho;subst e1;simpa using h2
      |ret=>
       refine other (by simp) ho ?_;cases rm with
       |false=>obtain⟨d,e1,_⟩:=ho;subst e1;simpa using h2
       |true=>obtain⟨ρ1,S2,e1,_⟩:=ho;subst e1;simpa using h2
      |_=>exact ho.elim
   cases h1:q.pc.ev Φ N ρ with
   |none=>rw[h1] at he;simp at he
   |some x1=>rw[h1] at he;exact key x1 h1 he
 |cond c c1 c2=>
  have tJ:=IH c1 (by simp at hc;omega);have lZ:=IH c2 (by simp at hc;omega);intro rm S r h rd w0 σ0 wr ρ x a w gl hC hY gT hn hg he;have fA:∀t,t∈cu c1→wr t:=fun t ht=>gT t (jr _ ht);have fB:∀t,t∈cu c2→wr t:=fun t ht=>gT t (jN _ ht);simp only[comp] at h;split at h
  case h_2=>cases h;exact absurd he (mm _ _ _ _)
  rename_i e hu;simp only[ao,av] at h;obtain⟨q,hq,p,hp,rfl⟩:=h;have hb:∃b,a.eval c=.bool b∧e.ev ρ=.v (.bool b):=by
   obtain⟨σ,own,hv,hi⟩:=hg;have:=cl (gs:=[]) hi hC rfl hu;generalize a.eval c=v at this;generalize e.ev ρ=d at this;cases this with|bool b=>exact⟨b,rfl,rfl⟩
  obtain⟨b,bW,bk⟩:=hb;have qg:=sP c1 hq;have Cg:=sP c2 hp;have main:∀(o:Option Snap) (lr lo:List Nat) (rx:Res2),rx=⟨.ite e lr lo q.pc p.pc,o,q.ex++p.ex,Nat.lor q.mr p.mr,jm q.mo p.mo⟩→
        (∀M,o=some M→lr=j2 M (Nat.lor q.mr p.mr)∧lo=jf ids M (jm q.mo p.mo))→
        (∀S1 ρ1 a w,q.out=some S1→Good C w0 σ0 (S1.st ids) ρ1 (fun _=>False) a w→∃M,o=some M∧Good C w0 σ0 (M.st ids) ρ1 (fun _=>False) a w)→
        (∀S1 ρ1 a w,p.out=some S1→Good C w0 σ0 (S1.st ids) ρ1 (fun _=>False) a w→∃M,o=some M∧Good C w0 σ0 (M.st ids) ρ1 (fun _=>False) a w)→
        rx.pc.ev Φ N ρ=some x→(Code.cond c c1 c2).wpIn (FR rd) 0 C.P (gA C w0 σ0 ids fn s rm wr a rx.out rx.ex x) a w:=by
   intro o lr lo rx hrx hl qk mN bD;subst hrx;simp only[PC.ev,bk,D.b_bool] at bD;have fin:∀(ci:Code) (qi:Res2) (xi:Out),(∀y,y∈qi.ex→y∈q.ex++p.ex)→(∀t,t∈qi.pc.modR→aq (Nat.lor q.mr p.mr) t=true)→(∀j,j∈qi.pc.modO→j∈jm q.mo p.mo)→
    (∀S1 ρ1 a w,qi.out=some S1→Good C w0 σ0 (S1.st ids) ρ1 (fun _=>False) a w→∃M,o=some M∧Good C w0 σ0 (M.st ids) ρ1 (fun _=>False) a w)→
    qi.pc.ev Φ N ρ=some xi→(match some xi with|some (.next ρ')=>some (Out.next (ρ.join lr lo ρ'))|y=>y)=some x→
    ci.wpIn (FR rd) 0 C.P (gA C w0 σ0 ids fn s rm wr a qi.out qi.ex xi) a w→ci.wpIn (FR rd) 0 C.P (gA C w0 σ0 ids fn s rm wr a o (q.ex++p.ex) x) a w:=by
        intro ci qi xi hex iw lT jW dL hx hwp;refine wpIn_mono hwp fun ee a' w' ho=>?_;have other:ee≠.normal→xi=x→gA C w0 σ0 ids fn s rm wr a o (q.ex++p.ex) x ee a' w':=by
         intro az jY;subst jY;exact ho.mono hex (.refl _ _) (fun e=>absurd e az)
        cases ee with
        |normal=>
         obtain⟨ρ1,S2,e1,e2,er,dt⟩:=ho;subst e1;simp only[aO] at hx;subst hx;obtain⟨M,hM,rA⟩:=jW S2 ρ1 a' w' e2 dt;obtain⟨l1,l2⟩:=hl M hM;subst l1 l2;exact⟨_,M,rfl,hM,er,rA.joined (PC.ev_but qi.pc ρ _ ρ1 dL rfl) iw lT⟩
        |exit id=>
         refine other (by simp) ?_;obtain⟨ρ1,S2,e1,_⟩:=ho;subst e1;simpa using hx
        |ret=>
         refine other (by simp) ?_;cases rm with
         |false=>obtain⟨d,e1,_⟩:=ho;subst e1;simpa using hx
         |true=>obtain⟨ρ1,S2,e1,_⟩:=ho;subst e1;simpa using hx
        |_=>exact ho.elim
   refine wpIn_cond bW ?_;cases b with
   |true=>
    simp only[cond_true] at bD;cases dL:q.pc.ev Φ N ρ with
    |none=>rw[dL] at bD;simp at bD
    |some xi=>
     rw[dL] at bD;refine fin c1 q xi (fun y hy=>jr _ hy) (fun t ht=>?_) (fun j hj=>oY.2 (.inl (qg.2 j hj))) qk dL bD (tJ rm S _ hq rd w0 σ0 wr ρ xi a w gl hC hY fA hn hg dL);rw[fo,qg.1 t ht];rfl
   |false=>
    simp only[cond_false] at bD;cases dL:p.pc.ev Φ N ρ with
    |none=>rw[dL] at bD;simp at bD
    |some xi=>
     rw[dL] at bD;refine fin c2 p xi (fun y hy=>jN _ hy) (fun t ht=>?_) (fun j hj=>oY.2 (.inr (Cg.2 j hj))) mN dL bD (lZ rm S _ hp rd w0 σ0 wr ρ xi a w gl hC hY fB hn hg dL);rw[fo,Cg.1 t ht,m8]
  have qk:∀S1 ρ1 a w,q.out=some S1→Good C w0 σ0 (S1.st ids) ρ1 (fun _=>False) a w→∃M,l7 q.out p.out=some M∧Good C w0 σ0 (M.st ids) ρ1 (fun _=>False) a w:=by
   intro S1 ρ1 a w e1 g1;rw[e1];obtain⟨M,hM⟩:=@WA S1 p.out;exact⟨M,hM,Wy g1 hM⟩
  have mN:∀S1 ρ1 a w,p.out=some S1→Good C w0 σ0 (S1.st ids) ρ1 (fun _=>False) a w→∃M,l7 q.out p.out=some M∧Good C w0 σ0 (M.st ids) ρ1 (fun _=>False) a w:=by
   intro S1 ρ1 a w e1 g1;rw[e1];obtain⟨M,hM⟩:=@WB q.out S1;exact⟨M,hM,Wz g1 hM⟩
  cases hm:l7 q.out p.out with
  |none=>
   rw[hm] at qk mN;simp only[hm] at he ⊢;exact main none [] [] _ rfl (fun M e=>by cases e) qk mN he
  |some M=>
   rw[hm] at qk mN;simp only[hm] at he ⊢;exact main (some M) _ _ _ rfl (fun M' e=>by cases e;exact⟨rfl,rfl⟩) qk mN he
 |block id c1=>
  have tJ:=IH c1 (by simp at hc;omega);intro rm S r h rd w0 σ0 wr ρ x a w gl hC hY gT hn hg he;simp only[comp] at h;cases cQ:Nat.beq id cO<;>simp only[cQ,cond_true,cond_false] at h
  case true=>cases h;exact absurd he (mm _ _ _ _)
  have GR:id≠cO:=fun e=>by subst e;simp at cQ
  simp only[av] at h;obtain⟨q,hq,rfl⟩:=h;obtain⟨xi,dL⟩:=SQ he;exact wpIn_block (wpIn_mono (tJ rm S _ hq rd w0 σ0 wr ρ xi a w gl hC hY gT hn hg dL) fun e a' w' fK=>SS GR (sP c1 hq) dL he fK)
 |loop c1=>
  have tJ:=IH c1 (by simp at hc;omega);intro rm S r h rd w0 σ0 wr ρ x a w gl hC hY gT hn hg he;rw[Ti] at h;split at h
  ·rename_i qb Cu;obtain⟨p,code,ws⟩:=qb;unfold we at Cu;split at Cu
   case h_2=>cases Cu
   rename_i cx cy ck cz cc;simp only[av] at Cu;obtain⟨p',aQ,ep⟩:=Cu;cases ep;exact ai4 aQ (IH _ (by simp at hc;omega)) h gl hC hY gT hn hg he
  split at h
  case h_2=>cases h;exact absurd he (mm _ _ _ _)
  rename_i q hq;cases h;obtain⟨hs,yL,bl⟩:=CR (C:=C) (w0:=w0) (σ0:=σ0) (ids:=ids) 8 hq;have qg:=sP c1 hs;simp only[PC.ev] at he
  have hg0:Good C w0 σ0 (q.1.st ids) (ρ.put (j2 q.1 q.2.mr) ((j2 q.1 q.2.mr).map ρ.r) (jf ids q.1 q.2.mo) ((jf ids q.1 q.2.mo).map ρ.o)) (fun _=>False) a w:=by
   exact Good.joined (bl hg) (.refl ρ q.2.pc.modR q.2.pc.modO) qg.1 qg.2
  have key:∀(k:Nat) (ρ1:Env) (a':Act) (w:World),SameBut wr a a'→gU (q.2.pc.ev Φ N) ρ (j2 q.1 q.2.mr) (jf ids q.1 q.2.mo) k ((j2 q.1 q.2.mr).map ρ1.r) ((jf ids q.1 q.2.mo).map ρ1.o)=some x→
        Good C w0 σ0 (q.1.st ids) (ρ.join (j2 q.1 q.2.mr) (jf ids q.1 q.2.mo) ρ1) (fun _=>False) a' w→Code.roundsIn (FR rd) 0 C.P c1 (gA C w0 σ0 ids fn s rm wr a none q.2.ex x) k a' w:=by
   intro k
   induction k with
   |zero=>intro ρ1 a' w hn hl hg;simp[gU] at hl
   |succ k ih=>
    intro ρ1 a' w jc hl hg;rw[roundsIn_succ];simp only[gU] at hl;change (match q.2.pc.ev Φ N (ρ.join (j2 q.1 q.2.mr) (jf ids q.1 q.2.mo) ρ1) with|some (.next ρ')=>_|y=>y)=some x at hl;cases dL:q.2.pc.ev Φ N (ρ.join (j2 q.1 q.2.mr) (jf ids q.1 q.2.mo) ρ1) with
    |none=>rw[dL] at hl;simp at hl
    |some xi=>
     rw[dL] at hl;refine wpIn_mono (tJ rm _ _ hs rd w0 σ0 wr _ xi a' w gl hC hY gT (jc.size.trans hn) hg dL) fun e a2 w' fK=>?_;have other:e≠.normal→xi=x→gA C w0 σ0 ids fn s rm wr a none q.2.ex x e a2 w':=by
         intro az jY;subst jY;exact fK.mono (fun y hy=>hy) jc (fun e=>absurd e az)
     cases e with
     |normal=>
      obtain⟨ρ2,S2,e1,e2,er,dt⟩:=fK;subst e1;simp only at hl;refine ih ρ2 a2 w' (jc.trans er) hl ?_
      have rA:Good C w0 σ0 (q.1.st ids) ρ2 (fun _=>False) a2 w':=by
       have:=dt.meet2 (x:=q.1)
       rwa [yL S2 e2] at this
      refine rA.joined (mr':=j2 q.1 q.2.mr++q.2.pc.modR) (mo':=jf ids q.1 q.2.mo++q.2.pc.modO) ?_ (fun t ht=>?_) (fun j hj=>?_)
      ·exact((Env.but.join ρ ρ1 _ _).mono (fun t ht=>jr _ ht) (fun t ht=>jr _ ht)).trans
        ((PC.ev_but q.2.pc _ _ ρ2 dL rfl).mono (fun t ht=>jN _ ht) (fun t ht=>jN _ ht))
      ·exact(de.1 ht).elim HL (qg.1 t)
      ·exact(de.1 hj).elim zd (qg.2 j)
     |exit id=>
      refine other (by simp) ?_;obtain⟨ρ1,S2,e1,_⟩:=fK;subst e1;simpa using hl
     |ret=>
      refine other (by simp) ?_;cases rm with
      |false=>obtain⟨d,e1,_⟩:=fK;subst e1;simpa using hl
      |true=>obtain⟨ρ1,S2,e1,_⟩:=fK;subst e1;simpa using hl
     |_=>exact fK.elim
  exact wpIn_loop_rounds N (key N ρ a w (.refl _ _) he hg0)
 |exit id=>
  intro rm S r h rd w0 σ0 wr ρ x a w gl hC hY gT hn hg he;simp only[comp] at h;cases cQ:Nat.beq id cO<;>simp only[cQ,cond_true,cond_false] at h
  case true=>cases h;exact absurd he (mm _ _ _ _)
  cases h;simp only[PC.ev,aO] at he;subst he;exact wpIn_exit ⟨ρ,S,rfl,fun e=>by subst e;simp at cQ,by simp,.refl _ _,hg⟩
 |ret=>
  intro rm S r h rd w0 σ0 wr ρ x a w gl hC hY gT hn hg he;simp only[comp] at h;cases rm<;>simp only[cond_true,cond_false] at h
  case true=>
   cases h;simp only[PC.ev,aO] at he;subst he;exact wpIn_ret ⟨ρ,S,rfl,by simp,.refl _ _,hg⟩
  split at h
  ·rename_i e Cw;cases h;simp only[PC.ev,aO] at he;subst he;obtain⟨σ,own,hv,hi⟩:=hg;exact wpIn_ret ⟨_,rfl,Inv.retD hC (fun _=>rfl) (gl rfl).2 Cw _ hi rfl,.refl _ _⟩
  ·cases h;exact absurd he (mm _ _ _ _)
 |rangeFunc g ps ca cb=>exact ak1 ic (IH ca (by simp at hc;omega)) (IH cb (by simp at hc;omega))
 |_=>intro rm S r h rd w0 σ0 wr ρ x a w gl hC hY gT hn hg he;simp only[comp,aO] at h;subst h;exact absurd he (mm _ _ _ _)
theorem acb {N:Nat}(ic:jM C Φ)(hR:JS C n ids Φ R)(c:Code):uZ C Φ fn s n ids R N c:=acd ic hR _ c (Nat.lt_succ_self _)
end
end Cx
