/-
  Code: sequences, choices, blocks, loops.
-/
import Derived.LoopNIn
import Derived.Test.YtepfoekldooaeaaDoorKAE
import Derived.LoopN
set_option linter.unusedSimpArgs false
set_option linter.unusedVariables false
namespace Cx
open Go Go.RowKit
def ak (m t:Nat):Bool:= !Nat.beq (Nat.land 1 (Nat.shiftRight m t)) 0
theorem nl (m t:Nat):ak m t=m.testBit t:=by
 unfold ak Nat.testBit;show(!Nat.beq (1&&& (m>>>t)) 0)=((1&&& (m>>>t))!=0)
 generalize 1&&& (m>>>t)=x;cases x<;>rfl
def cR (t:Nat):Nat:=Nat.shiftLeft 1 t
theorem mg (t:Nat):ak (cR t) t=true:=by
 rw[nl];show(1<<<t).testBit t=true;simp[Nat.testBit_shiftLeft]
theorem dB (m k t:Nat):ak (Nat.lor m k) t=(ak m t||ak k t):=by
 simp only[nl];exact Nat.testBit_or m k t
def PI.mask:PI→Nat
 |.setR t _=>cR t|.call _ t _ _=>cR t|.callc _ t _ _=>cR t|_=>0
def CJ:List PI→Nat
 |[]=>0
 |p::l=>Nat.lor p.mask (CJ l)
def PI.objs:PI→List Nat
 |.setO j _=>[j]|.mcall j _ _=>[j]|_=>[]
def dH (l:List Nat)(x:Nat):Bool:=l.any (Nat.beq x)
def fW (a b:List Nat):List Nat:=a.foldl (fun acc x=>bif dH acc x then acc else x::acc) b
def Tw (l:List PI):List Nat:=l.foldl (fun acc p=>fW p.objs acc) []
theorem lM (l:List Nat)(x:Nat):dH l x=true↔x∈l:=by
 unfold dH;rw[List.any_eq_true];constructor
 ·rintro⟨y,hy,h⟩;rw[Nat.eq_of_beq_eq_true h];exact hy
 ·intro h;exact⟨x,h,Nat.beq_refl x⟩
theorem lN {x:Nat}:∀{a b:List Nat},x∈fW a b↔x∈a∨x∈b
 |[],b=>by simp[fW]
 |y::a,b=>by
  have ih:=@lN x a (bif dH b y then b else y::b);have e:fW (y::a) b=fW a (bif dH b y then b else y::b):=rfl;rw[e,ih];cases hb:dH b y
  ·simp[or_assoc,or_left_comm]
  ·have:=(lM b y).1 hb;simp only[cond_true,List.mem_cons];constructor
   ·rintro(h|h)
    ·exact .inl (.inr h)
    ·exact .inr h
   ·rintro((h|h)|h)
    ·subst h;exact .inr this
    ·exact .inl h
    ·exact .inr h
theorem ajV {x:Nat}(l:List PI)(h:x∈l.flatMap PI.modO):x∈Tw l:=by
 have key:∀(l:List PI) (acc:List Nat),(x∈l.flatMap PI.modO∨x∈acc)→x∈l.foldl (fun acc p=>fW p.objs acc) acc:=by
  intro l
  induction l with
  |nil=>intro acc h;simpa using h
  |cons p l ih=>
   intro acc h;refine ih _ ?_;rw[List.flatMap_cons,List.mem_append] at h;rcases h with(h|h)|h
   ·refine .inr (lN.2 (.inl ?_));cases p<;>simp_all [PI.modO,PI.objs]
   ·exact .inl h
   ·exact .inr (lN.2 (.inr h))
 exact key l [] (.inl h)
theorem RC {t:Nat}:∀(l:List PI),t∈l.flatMap PI.modR→ak (CJ l) t=true
 |[],h=>by simp at h
 |p::l,h=>by
  rw[List.flatMap_cons,List.mem_append] at h;simp only[CJ,dB,Bool.or_eq_true];rcases h with h|h
  ·left;cases p<;>simp[PI.modR] at h<;>subst h<;>exact mg _
  ·exact .inr (RC l h)
structure Res2 where
 pc:PC
 out:Option Snap
 ex:List (Nat×Snap)
 mr:Nat
 mo:List Nat
 deriving Inhabited
def jv:Option Snap→Option Snap→Option Snap
 |none,x=>x
 |x,none=>x
 |some a,some b=>some (a.meet b)
def kF (id:Nat):List (Nat×Snap)→Option Snap→Option Snap
 |[],acc=>acc
 |x::l,acc=>kF id l (bif Nat.beq x.1 id then jv acc (some x.2) else acc)
def iter (step:Snap→Option Res2):Nat→Snap→Option (Snap×Res2)
 |0,_=>none
 |k+1,S=>(step S).bind fun r=>
  match r.out with
  |none=>some (S,r)
  |some T=>bif (S.meet T).beq S then some (S,r) else iter step k (S.meet T)
def gG (S:Snap)(m:Nat):List Nat:=(List.range S.rs.length).filter fun t=>ak m t&& !isNone (bU (S.rs.getD t .none))
def fR (ids:List Nat)(S:Snap)(l:List Nat):List Nat:=l.filter fun j=> !kD (cP ids S.os j)
def eL:Res2:=⟨.is [zW],none,[],0,[]⟩
theorem jE (Φ:aO)(N:Nat)(ρ:Env)(x:Out):eL.pc.ev Φ N ρ≠some x:=by
 intro h;simp[eL,PC.ev,PI.runs,PI.run,zW,PE.ev,D.b_bool] at h
theorem jF:(∀t,t∈eL.pc.modR→ak eL.mr t=true)∧∀j,j∈eL.pc.modO→j∈eL.mo:=by
 constructor<;>intro t h<;>simp[eL,PC.modR,PC.modO,PI.modR,PI.modO,zW] at h
def bK:Code→List Nat
 |.region _ ops _=>ops.toList.filterMap (·.dst)
 |.seq a b=>bK a++bK b
 |.cond _ a b=>bK a++bK b
 |.block _ a=>bK a
 |.loop a=>bK a
 |_=>[]
def rI (l:List Nat):Nat:=l.foldr (fun t m=>Nat.lor (cR t) m) 0
def nT (m:Nat):Nat→List Sh→List Sh
 |_,[]=>[]
 |t,s::l=>(bif ak m t then .none else s)::nT m (t+1) l
def Snap.mask (m:Nat)(S:Snap):Snap:=⟨nT m 0 S.rs,S.os⟩
def nH:Sh→Sh
 |.yv=>.none
 |s=>s
def m4:List Nat→List Ty→List Sh→List Sh
 |p::ps,y::ys,l=>m4 ps ys (l.set p (.dat y))
 |_,_,l=>l
def Snap.start (ps:List Nat)(ys:List Ty)(S:Snap):Snap:=⟨m4 ps ys (S.rs.map nH),S.os⟩
def Rv (ids:List Nat)(l:List Snap)(mo:List Nat):List Nat:=mo.filter fun j=>l.any fun S=> !kD (cP ids S.os j)
def amH (wm:Nat)(ra rb:Res2):Res2:=
 let m:=Nat.lor wm (Nat.lor ra.mr rb.mr)
 ⟨.seq ra.pc rb.pc,rb.out.map (Snap.mask m),rb.ex.map (fun x=>(x.1,x.2.mask m)),m,fW ra.mo rb.mo⟩
def eD (ids:List Nat)(id:Nat)(r:Res2):Res2:=
    match kF id r.ex r.out with
    |some M=>⟨.block id (gG M r.mr) (fR ids M r.mo) r.pc,some M,r.ex.filter fun x=> !Nat.beq x.1 id,r.mr,r.mo⟩
    |none=>⟨.block id [] [] r.pc,none,r.ex.filter fun x=> !Nat.beq x.1 id,r.mr,r.mo⟩
def pC:List (Nat×Nat)→Nat→Option Nat
 |[],_=>none
 |x::l,t=>bif Nat.beq x.1 t then some x.2 else pC l t
def iu (pr:Nat):List Oper→List (Nat×Nat)→Option (List (Nat×Nat))
 |[],acc=>some acc
 |o::l,acc=>
  match o.dst,o.guard with
  |some d,none=>
   bif Nat.beq d pr||(pC acc d).isSome then none else
   match o.op with
   |.extract (.tmp t) i=>bif Nat.beq t pr&&Nat.ble i 1 then iu pr l (acc++[(d,i)]) else none
   |.assign (.tmp t)=>(pC acc t).bind fun i=>iu pr l (acc++[(d,i)])
   |.move (.tmp t)=>(pC acc t).bind fun i=>iu pr l (acc++[(d,i)])
   |_=>none
  |_,_=>none
structure MP where
 it:Nat
 nx:Nat
 mo:Nat
 out:Nat
 next:Nat
 pr:Nat
 ops1:Array Oper
 ops2:Array Oper
 as:List (Nat×Nat)
 deriving Inhabited
def tV (x y:Code)(k:Nat)(z:Code):Option MP:=
 match x,y,z with
 |.region _ ops1 false,.cond (.tmp mo) .skip (.exit out),.region _ ops2 false=>
  match ops1.toList,ops2.toList with
  |[o1,o2],o3::l=>
   match o1.dst,o1.guard,o1.op,o2.dst,o2.guard,o2.op,o3.dst,o3.guard,o3.op with
   |some nx,none,.next (.tmp it) false,some mo',none,.extract (.tmp Tt) 0,some pr,none,.entry (.tmp Q5)=>
    bif Nat.beq mo mo'&&Nat.beq nx Tt&&Nat.beq it Q5&& !Nat.beq it nx&& !Nat.beq it mo&& !Nat.beq it pr&& !Nat.beq nx mo&& !Nat.beq out cj&& !Nat.beq k cj then
     (iu pr l []).map fun as=>⟨it,nx,mo,out,k,pr,ops1,ops2,as⟩
    else none
   |_,_,_,_,_,_,_,_,_=>none
  |_,_=>none
 |_,_,_=>none
def rC:List Nat→Nat→List Ob→List Ob
 |i::is,J,o::os=>(bif Nat.beq i J then .dead else o)::rC is J os
 |_,_,os=>os
def Snap.kill (ids:List Nat)(J:Nat)(S:Snap):Snap:=⟨S.rs,rC ids J S.os⟩
def Q0 (J:Nat)(kt et:Ty)(ids:List Nat)(p:MP)(m:Nat)(S:Snap):Bool:=
 Sh.beq (S.rs.getD p.it .none) (.obj J 0)&&Ob.beq (cP ids S.os J) (.it kt et)&& !ak m p.it
def tW (ids:List Nat)(n:Nat)(p:MP)(ws:List Nat)(f:Snap→Option Res2)(S:Snap):Option Res2:=
 match bU (S.rs.getD p.it .none) with
 |.obj J 0=>
  match cP ids S.os J with
  |.it kt et=>
   let ps:=p.as.map (·.1)
   let ys:=p.as.map fun x=>bif Nat.beq x.2 0 then kt else et
   let m:=rI ws
   match iter (fun S=>(f ((S.mask m).start ps ys)).map (eD ids p.next)) 8 S with
   |some r=>
    bif r.2.ex.isEmpty&& !dH r.2.mo J&&Q0 J kt et ids p m r.1&&gl ps&&ps.all (fun t=>Nat.blt t n)&&Nat.blt p.nx n&&Nat.blt p.mo n&&Nat.blt p.pr n&&Nat.beq (Nat.lor m r.2.mr) m then
       some ⟨.seq (.meach J ps (p.as.map (·.2)) (fR ids r.1 r.2.mo) r.2.pc) (.exit p.out),none,[(p.out,(r.1.mask m).kill ids J)],0,r.2.mo⟩
    else some eL
   |none=>some eL
  |_=>some eL
 |_=>some eL
def comp (C:Ctx)(fn:Func)(s:Sig)(n:Nat)(ids:List Nat)(R:Array Oper→Bool→Snap→Option (Snap×List PI)):Bool→Code→Snap→Option Res2
 |_,.skip,S=>some ⟨.skip,some S,[],0,[]⟩
 |_,.region _ ops draw,S=>(R ops draw S).map fun r=>⟨.is r.2,some r.1,[],CJ r.2,Tw r.2⟩
 |rm,.seq a b,S=>(comp C fn s n ids R rm a S).bind fun r=>
  match r.out with
  |none=>some r
  |some S1=>(comp C fn s n ids R rm b S1).map fun q=>⟨.seq r.pc q.pc,q.out,r.ex++q.ex,Nat.lor r.mr q.mr,fW r.mo q.mo⟩
 |rm,.cond c a b,S=>
  match use C (S.st ids) [] c with
  |some (.bool,e)=>
   (comp C fn s n ids R rm a S).bind fun r=>(comp C fn s n ids R rm b S).map fun q=>
     match jv r.out q.out with
     |some M=>⟨.ite e (gG M (Nat.lor r.mr q.mr)) (fR ids M (fW r.mo q.mo)) r.pc q.pc,some M,r.ex++q.ex,Nat.lor r.mr q.mr,fW r.mo q.mo⟩
     |none=>⟨.ite e [] [] r.pc q.pc,none,r.ex++q.ex,Nat.lor r.mr q.mr,fW r.mo q.mo⟩
  |_=>some eL
 |rm,.block id a,S=>bif Nat.beq id cj then some eL else(comp C fn s n ids R rm a S).map (eD ids id)
 |rm,.loop (.seq x (.seq y (.block k (.seq z code)))),S=>
  (match tV x y k z with
  |some p=>tW ids n p (bK x++(bK y++(bK z++bK code))) (fun S=>comp C fn s n ids R rm code S) S
  |none=>
  match iter (fun S=>comp C fn s n ids R rm (.seq x (.seq y (.block k (.seq z code)))) S) 8 S with
  |some r=>some ⟨.loop (gG r.1 r.2.mr) (fR ids r.1 r.2.mo) r.2.pc,none,r.2.ex,r.2.mr,r.2.mo⟩
  |none=>some eL)
 |rm,.loop a,S=>
  match iter (fun S=>comp C fn s n ids R rm a S) 8 S with
  |some r=>some ⟨.loop (gG r.1 r.2.mr) (fR ids r.1 r.2.mo) r.2.pc,none,r.2.ex,r.2.mr,r.2.mo⟩
  |none=>some eL
 |_,.exit id,S=>bif Nat.beq id cj then some eL else some ⟨.exit id,none,[(id,S)],0,[]⟩
 |rm,.ret,S=>
  bif rm then some ⟨.exit cj,none,[(cj,S)],0,[]⟩ else
  match sn C fn s (S.st ids) with
  |some e=>some ⟨.ret e,none,[],0,[]⟩
  |none=>some eL
 |rm,.rangeFunc g ps a b,S=>
  match rm,C.yl,use C (S.st ids) [] g with
  |false,none,some (.fn as r,e)=>
   match jt as r with
   |some ys=>
    match iter (fun S=>(comp C fn s n ids R true a (S.start ps.toList ys)).bind fun ra=>
          match ra.out,ra.ex with
          |some S1,[]=>(comp C fn s n ids R true b S1).map (amH (rI (ps.toList++bK a++bK b)) ra)
          |_,_=>none) 8 S with
    |some r=>
     bif Nat.beq ys.length ps.size&&gl ps.toList&&ps.toList.all (fun p=>Nat.blt p n)&&Nat.ble r.1.rs.length n then
           some ⟨.seq (.is [.callc [] n e []]) (.each (.r n) ps.toList (Rv ids (r.1::r.2.ex.map (·.2)) r.2.mo) ((kF cj r.2.ex none).bind fun M=>sn C fn s (M.st ids)) r.2.pc),
            some r.1,r.2.ex.filter (fun x=> !Nat.beq x.1 cj),cR n,r.2.mo⟩
     else some eL
    |none=>some eL
   |none=>some eL
  |_,_,_=>some eL
 |_,_,_=>some eL
termination_by structural _ c=>c
def rG:Code→Option (MP×Code×List Nat)
 |.seq x (.seq y (.block k (.seq z code)))=>(tV x y k z).map fun p=>(p,code,bK x++(bK y++(bK z++bK code)))
 |_=>none
theorem OI (C:Ctx)(fn:Func)(s:Sig)(n:Nat)(ids:List Nat)(R:Array Oper→Bool→Snap→Option (Snap×List PI))(rm:Bool)(a:Code)(S:Snap):comp C fn s n ids R rm (.loop a) S=
 match rG a with
 |some q=>tW ids n q.1 q.2.2 (fun S=>comp C fn s n ids R rm q.2.1 S) S
 |none=>
  match iter (fun S=>comp C fn s n ids R rm a S) 8 S with
  |some r=>some ⟨.loop (gG r.1 r.2.mr) (fR ids r.1 r.2.mo) r.2.pc,none,r.2.ex,r.2.mr,r.2.mo⟩
  |none=>some eL:=by
 by_cases h:∃x y k z code,a=.seq x (.seq y (.block k (.seq z code)))
 ·obtain⟨x,y,k,z,code,rfl⟩:=h
  conv=>lhs;unfold comp
  simp only[rG];cases tV x y k z<;>rfl
 ·have e:rG a=none:=by
   unfold rG;split
   ·rename_i x y k z code;exact absurd ⟨x,y,k,z,code,rfl⟩ h
   ·rfl
  rw[e];rw[comp];intro x y k z code e;exact h ⟨x,y,k,z,code,e⟩
def subs:Code→List Code
 |.seq a b=>.seq a b::(subs a++subs b)
 |.cond c a b=>.cond c a b::(subs a++subs b)
 |.block i a=>.block i a::subs a
 |.loop a=>.loop a::subs a
 |.rangeFunc g ps a b=>.rangeFunc g ps a b::(subs a++subs b)
 |c=>[c]
theorem am8 (c:Code):c∈subs c:=by cases c<;>simp[subs]
theorem aun {a code:Code}{p:MP}{ws:List Nat}(h:rG a=some (p,code,ws)):code∈subs a:=by
 unfold rG at h;split at h
 ·simp only[Option.map_eq_some_iff] at h;obtain⟨q,_,e⟩:=h;cases e;simp[subs,am8]
 ·cases h
def FT (C:Ctx)(n:Nat)(ids:List Nat)(Φ:aO)(R:Array Oper→Bool→Snap→Option (Snap×List PI)):Prop:=
 ∀(id:Nat) (ops:Array Oper) (draw:Bool) (S:Snap) (r:Snap×List PI),R ops draw S=some r→
  ∀(rd:Option Nat) (w0:World) (σ0:Base) (ρ ρ':Env) (a:Act) (w:World) (Q:Exit→Act→World→Prop),CtxOK C σ0→ma C Φ w0 σ0→a.tmps.size=n→Good C w0 σ0 (S.st ids) ρ (fun _=>False) a w→PI.runs Φ r.2 ρ=some ρ'→
   (∀a' w',SameBut (mj ops) a a'→Good C w0 σ0 (r.1.st ids) ρ' (fun _=>False) a' w'→Q .normal a' w')→(Code.region id ops draw).wpIn (FR rd) 0 C.P Q a w
section
variable {C:Ctx} {ρ ρ':Env} {σ:Im} {own:Nat→Option Nat} {hv:Nat→Value} {w0:World} {σ0:Base} {A:Nat→Prop} {a:Act} {w:World} {Φ:aO} {n:Nat} {ids:List Nat} {fn:Func} {s:Sig}
 {R:Array Oper→Bool→Snap→Option (Snap×List PI)}
def eM (C:Ctx)(w0:World)(σ0:Base)(ids:List Nat)(fn:Func)(s:Sig)(rm:Bool)(wr:Nat→Prop)(a0:Act)(out:Option Snap)(ex:List (Nat×Snap))(x:Out):Exit→Act→World→Prop
 |.normal,a,w=>∃ρ S,x=.next ρ∧out=some S∧SameBut wr a0 a∧Good C w0 σ0 (S.st ids) ρ (fun _=>False) a w
 |.exit id,a,w=>∃ρ S,x=.exit id ρ∧id≠cj∧(id,S)∈ex∧SameBut wr a0 a∧Good C w0 σ0 (S.st ids) ρ (fun _=>False) a w
 |.ret,a,w=>match rm with
  |false=>∃d,x=.ret d∧ng C w0 σ0 fn s d a.tmps a.defers w∧SameBut wr a0 a
  |true=>∃ρ S,x=.exit cj ρ∧(cj,S)∈ex∧SameBut wr a0 a∧Good C w0 σ0 (S.st ids) ρ (fun _=>False) a w
 |_,_,_=>False
theorem Good.meet1 {x y:Snap}(h:Good C w0 σ0 (x.st ids) ρ A a w):Good C w0 σ0 ((x.meet y).st ids) ρ (fun _=>False) a w:=by
 obtain⟨σ,own,hv,h⟩:=h;exact⟨σ,own,hv,Snap.meet_ok1 h⟩
theorem Good.meet2 {x y:Snap}(h:Good C w0 σ0 (y.st ids) ρ A a w):Good C w0 σ0 ((x.meet y).st ids) ρ (fun _=>False) a w:=by
 obtain⟨σ,own,hv,h⟩:=h;exact⟨σ,own,hv,Snap.meet_ok2 h⟩
theorem RJ {x:Snap}{y:Option Snap}{M:Snap}(h:Good C w0 σ0 (x.st ids) ρ (fun _=>False) a w)(hm:jv (some x) y=some M):Good C w0 σ0 (M.st ids) ρ (fun _=>False) a w:=by
 cases y<;>simp[jv] at hm<;>subst hm
 ·exact h
 ·exact h.meet1
theorem RK {x:Option Snap}{y:Snap}{M:Snap}(h:Good C w0 σ0 (y.st ids) ρ (fun _=>False) a w)(hm:jv x (some y)=some M):Good C w0 σ0 (M.st ids) ρ (fun _=>False) a w:=by
 cases x<;>simp[jv] at hm<;>subst hm
 ·exact h
 ·exact h.meet2
theorem RL {x:Snap}{y:Option Snap}:∃M,jv (some x) y=some M:=by cases y<;>simp[jv]
theorem RM {x:Option Snap}{y:Snap}:∃M,jv x (some y)=some M:=by cases x<;>simp[jv]
theorem CK {id:Nat}:∀(l:List (Nat×Snap)) {x:Snap},Good C w0 σ0 (x.st ids) ρ (fun _=>False) a w→∃M,kF id l (some x)=some M∧Good C w0 σ0 (M.st ids) ρ (fun _=>False) a w
 |[],x,h=>⟨x,rfl,h⟩
 |y::l,x,h=>by
  simp only[kF];cases Nat.beq y.1 id
  ·exact CK l h
  ·obtain⟨M,hM⟩:=@RL x (some y.2);simp only[cond_true,hM];exact CK l (RJ h hM)
theorem Js {id:Nat}{S:Snap}(h:Good C w0 σ0 (S.st ids) ρ (fun _=>False) a w):∀(l:List (Nat×Snap)) (x:Option Snap),(id,S)∈l→∃M,kF id l x=some M∧Good C w0 σ0 (M.st ids) ρ (fun _=>False) a w
 |y::l,x,hm=>by
  simp only[kF];rcases List.mem_cons.1 hm with e|hm
  ·subst e;simp only[Nat.beq_refl,cond_true];obtain⟨M,hM⟩:=@RM x S;rw[hM];exact CK l (RK h hM)
  ·exact Js h l _ hm
theorem yA {step:Snap→Option Res2}:∀(k:Nat) {S:Snap} {r:Snap×Res2},iter step k S=some r→
 step r.1=some r.2∧(∀T,r.2.out=some T→r.1.meet T=r.1)∧∀{ρ:Env} {a:Act} {w:World},Good C w0 σ0 (S.st ids) ρ (fun _=>False) a w→Good C w0 σ0 (r.1.st ids) ρ (fun _=>False) a w
 |0,S,r,h=>by simp[iter] at h
 |k+1,S,r,h=>by
  simp only[iter,Option.bind_eq_some_iff] at h;obtain⟨q,hq,h⟩:=h;split at h
  ·rename_i ho;cases h;exact⟨hq,fun T hT=>by simp[ho] at hT,fun g=>g⟩
  ·rename_i T ho;cases hb:(S.meet T).beq S<;>simp only[hb,cond_true,cond_false] at h
   ·obtain⟨h1,h2,h3⟩:=yA k h;exact⟨h1,h2,fun g=>h3 g.meet1⟩
   ·cases h;refine⟨hq,fun T' hT=>?_,fun g=>g⟩;simp only[ho,Option.some.injEq] at hT;subst hT;exact Snap.beq_eq _ _ hb
theorem Q6 {step:Snap→Option Res2}{hv:Nat→Value}:∀(k:Nat) {S:Snap} {r:Snap×Res2},iter step k S=some r→Inv C (S.st ids) ρ σ own hv w0 σ0 (fun _=>False) a w→Inv C (r.1.st ids) ρ σ own hv w0 σ0 (fun _=>False) a w
 |0,S,r,h,_=>by simp[iter] at h
 |k+1,S,r,h,i=>by
  simp only[iter,Option.bind_eq_some_iff] at h;obtain⟨q,hq,h⟩:=h;split at h
  ·cases h;exact i
  ·rename_i T ho;cases hb:(S.meet T).beq S<;>simp only[hb,cond_true,cond_false] at h
   ·exact Q6 k h (Snap.meet_ok1 i)
   ·cases h;exact i
theorem Good.joined {M:Snap}{m:Nat}{mo mr' mo':List Nat}(h:Good C w0 σ0 (M.st ids) ρ' (fun _=>False) a w)(hb:ρ.but ρ' mr' mo')(h1:∀t,t∈mr'→ak m t=true)(h2:∀j,j∈mo'→j∈mo):
 Good C w0 σ0 (M.st ids) (ρ.join (gG M m) (fR ids M mo) ρ') (fun _=>False) a w:=by
 obtain⟨σ,own,hv,h⟩:=h;refine⟨σ,own,hv,h.env (Snap.noOpt _ _) (fun t ht=>?_) (fun j hj=>?_)⟩
 ·simp only[Env.join,Env.put,og];split
  ·rfl
  ·rename_i hm;refine(hb.r t fun xY=>hm ?_).symm;have ae:t<M.rs.length:=by
        refine Nat.lt_of_not_le fun hle=>?_;simp only[Snap.st,List.getD_eq_getElem?_getD,List.getElem?_eq_none hle,Option.getD_none,bU,isNone] at ht;cases ht
   exact List.mem_filter.2 ⟨List.mem_range.2 ae,by rw[h1 t xY];simpa [Snap.st] using ht⟩
 ·simp only[Env.join,Env.put,og];split
  ·rfl
  ·rename_i hm;refine(hb.o j fun xY=>hm ?_).symm;exact List.mem_filter.2 ⟨h2 j xY,by simpa [Snap.st] using hj⟩
theorem CL {S:Snap}{m t:Nat}(h:t∈gG S m):ak m t=true:=by
 have:=(List.mem_filter.1 h).2;simp only[Bool.and_eq_true] at this;exact this.1
theorem tX {S:Snap}{l:List Nat}{j:Nat}(h:j∈fR ids S l):j∈l:=(List.mem_filter.1 h).1
theorem N3 {id:Nat}{q:Res2}(h:(∀t,t∈q.pc.modR→ak q.mr t=true)∧∀j,j∈q.pc.modO→j∈q.mo):(∀t,t∈(eD ids id q).pc.modR→ak (eD ids id q).mr t=true)∧∀j,j∈(eD ids id q).pc.modO→j∈(eD ids id q).mo:=by
 unfold eD;cases hm:kF id q.ex q.out<;>simp only
 ·simpa [PC.modR,PC.modO] using h
 ·refine⟨fun t ht=>?_,fun j hj=>?_⟩
  ·simp only[PC.modR,List.mem_append] at ht;exact ht.elim CL (h.1 t)
  ·simp only[PC.modO,List.mem_append] at hj;exact hj.elim tX (h.2 j)
theorem ajP {p:MP}{ws:List Nat}{f:Snap→Option Res2}{S:Snap}{r:Res2}(h:tW ids n p ws f S=some r):(∀t,t∈r.pc.modR→ak r.mr t=true)∧∀j,j∈r.pc.modO→j∈r.mo:=by
 unfold tW at h;split at h
 case h_2=>cases h;exact jF
 split at h
 case h_2=>cases h;exact jF
 simp only at h;split at h
 case h_2=>cases h;exact jF
 rw[Bool.cond_eq_ite] at h;split at h
 ·cases h;refine⟨fun t ht=>by simp[PC.modR] at ht,fun j hj=>?_⟩;simp only[PC.modO,List.append_nil] at hj;exact tX hj
 ·cases h;exact jF
theorem oH:∀(c:Code) {rm:Bool} {S:Snap} {r:Res2},comp C fn s n ids R rm c S=some r→(∀t,t∈r.pc.modR→ak r.mr t=true)∧∀j,j∈r.pc.modO→j∈r.mo:=by
 intro c
 induction c with
 |skip=>intro rm S r h;simp only[comp,Option.some.injEq] at h;subst h;simp[PC.modR,PC.modO]
 |region id ops draw=>
  intro rm S r h;simp only[comp,Option.map_eq_some_iff] at h;obtain⟨q,_,rfl⟩:=h;exact⟨fun t ht=>RC _ ht,fun j hj=>ajV _ hj⟩
 |seq x y fP rB=>
  intro rm S r h;simp only[comp,Option.bind_eq_some_iff] at h;obtain⟨q,hq,h⟩:=h;split at h
  ·cases h;exact fP hq
  ·simp only[Option.map_eq_some_iff] at h;obtain⟨p,hp,rfl⟩:=h;refine⟨fun t ht=>?_,fun j hj=>?_⟩
   ·simp only[PC.modR,List.mem_append] at ht;rw[dB,Bool.or_eq_true];exact ht.imp ((fP hq).1 t) ((rB hp).1 t)
   ·simp only[PC.modO,List.mem_append] at hj;rw[lN];exact hj.imp ((fP hq).2 j) ((rB hp).2 j)
 |cond c x y fP rB=>
  intro rm S r h;simp only[comp] at h;split at h
  case h_2=>cases h;exact jF
  rename_i e _;simp only[Option.bind_eq_some_iff,Option.map_eq_some_iff] at h;obtain⟨q,hq,p,hp,rfl⟩:=h;cases hm:jv q.out p.out<;>simp only[hm]
  ·refine⟨fun t ht=>?_,fun j hj=>?_⟩
   ·simp only[PC.modR,List.mem_append,List.nil_append] at ht;rw[dB,Bool.or_eq_true];exact ht.imp ((fP hq).1 t) ((rB hp).1 t)
   ·simp only[PC.modO,List.mem_append,List.nil_append] at hj;rw[lN];exact hj.imp ((fP hq).2 j) ((rB hp).2 j)
  ·refine⟨fun t ht=>?_,fun j hj=>?_⟩
   ·simp only[PC.modR,List.mem_append] at ht;rw[dB,Bool.or_eq_true];rcases ht with(ht|ht)|ht
    ·have:=CL ht;rw[dB,Bool.or_eq_true] at this;exact this
    ·exact .inl ((fP hq).1 t ht)
    ·exact .inr ((rB hp).1 t ht)
   ·simp only[PC.modO,List.mem_append] at hj;rcases hj with(hj|hj)|hj
    ·exact tX hj
    ·exact lN.2 (.inl ((fP hq).2 j hj))
    ·exact lN.2 (.inr ((rB hp).2 j hj))
 |block id x fP=>
  intro rm S r h;simp only[comp] at h;cases cm:Nat.beq id cj<;>simp only[cm,cond_true,cond_false] at h
  case true=>cases h;exact jF
  simp only[Option.map_eq_some_iff] at h;obtain⟨q,hq,rfl⟩:=h;exact N3 (fP hq)
 |loop x fP=>
  intro rm S r h;rw[OI] at h;split at h
  ·exact ajP h
  split at h
  case h_2=>cases h;exact jF
  rename_i q hq;cases h;have hs:=(yA (C:=C) (w0:=default) (σ0:=Base.mk0 ⟨fun _ _=>none,fun _=>none⟩ 0) (ids:=ids) 8 hq).1;refine⟨fun t ht=>?_,fun j hj=>?_⟩
  ·simp only[PC.modR,List.mem_append] at ht;exact ht.elim CL ((fP hs).1 t)
  ·simp only[PC.modO,List.mem_append] at hj;exact hj.elim tX ((fP hs).2 j)
 |exit id=>
  intro rm S r h;simp only[comp] at h;cases cm:Nat.beq id cj<;>simp only[cm,cond_true,cond_false] at h<;>cases h
  ·simp[PC.modR,PC.modO]
  ·exact jF
 |ret=>
  intro rm S r h;simp only[comp] at h;cases rm<;>simp only[cond_true,cond_false] at h
  case true=>cases h;simp[PC.modR,PC.modO]
  split at h
  ·cases h;simp[PC.modR,PC.modO]
  ·cases h;exact jF
 |rangeFunc g ps x y _ _=>
  intro rm S r h;simp only[comp] at h;split at h
  case h_2=>cases h;exact jF
  split at h
  case h_2=>cases h;exact jF
  split at h
  case h_2=>cases h;exact jF
  rename_i q hq;rw[Bool.cond_eq_ite] at h;split at h
  ·cases h;refine⟨fun t ht=>?_,fun j hj=>?_⟩
   ·simp[PC.modR,PI.modR] at ht;subst ht;exact mg _
   ·simp only[PC.modO,PI.modO,List.flatMap_cons,List.flatMap_nil,List.append_nil,List.nil_append] at hj;exact(List.mem_filter.1 hj).1
  ·cases h;exact jF
 |_=>intro rm S r h;simp only[comp,Option.some.injEq] at h;subst h;exact jF
theorem eM.mono {rm:Bool}{wr:Nat→Prop}{a0 a1:Act}{out Uy:Option Snap}{ex O3:List (Nat×Snap)}{x:Out}{e:Exit}(h:eM C w0 σ0 ids fn s rm wr a0 out ex x e a w)(he:∀y,y∈ex→y∈O3)(hs:SameBut wr a1 a0)
 (ho:e=.normal→Uy=out):eM C w0 σ0 ids fn s rm wr a1 Uy O3 x e a w:=by
 cases e with
 |normal=>obtain⟨ρ,S,h1,h2,h3,h4⟩:=h;exact⟨ρ,S,h1,by rw[ho rfl];exact h2,hs.trans h3,h4⟩
 |exit id=>obtain⟨ρ,S,h1,h2,h3,h4,h5⟩:=h;exact⟨ρ,S,h1,h2,he _ h3,hs.trans h4,h5⟩
 |ret=>
  cases rm with
  |false=>obtain⟨d,h1,h2,h3⟩:=h;exact⟨d,h1,h2,hs.trans h3⟩
  |true=>obtain⟨ρ,S,h1,h3,h4,h5⟩:=h;exact⟨ρ,S,h1,he _ h3,hs.trans h4,h5⟩
 |_=>exact h.elim
theorem OU {body:Env→Option Out}{ρ:Env}{ps lo:List Nat}{rt:Option PE}{x:Out}:∀{xs vo:List D},fF body ρ ps lo rt xs vo=some x→
 ∃(m:Nat) (jJ:Nat→List D),m≤xs.length∧jJ 0=vo∧
  (∀i,i<m→∃y ρ',xs[i]?=some y∧body (ρ.put ps (partsOf ps y) lo (jJ i))=some (.next ρ')∧lo.map ρ'.o=jJ (i+1))∧
  ((m=xs.length∧x=.next (ρ.put [] [] lo (jJ m)))∨
   (m<xs.length∧∃y id ρ',xs[m]?=some y∧body (ρ.put ps (partsOf ps y) lo (jJ m))=some (.exit id ρ')∧
    ((id≠cj∧x=.exit id (ρ.put [] [] lo (lo.map ρ'.o)))∨(id=cj∧∃e,rt=some e∧x=.ret (e.ev (ρ.put [] [] lo (lo.map ρ'.o)))))))
 |[],vo,h=>by
  simp only[fF,Option.some.injEq] at h;exact⟨0,fun _=>vo,Nat.le_refl _,rfl,fun i hi=>by omega,.inl ⟨rfl,h.symm⟩⟩
 |y::xs,vo,h=>by
  simp only[fF] at h;split at h
  ·rename_i ρ' hb;obtain⟨m,jJ,h1,h2,h3,h4⟩:=OU h;refine⟨m+1,fun i=>match i with|0=>vo|i+1=>jJ i,by simp;omega,rfl,fun i hi=>?_,?_⟩
   ·cases i with
    |zero=>exact⟨y,ρ',rfl,hb,h2.symm⟩
    |succ i=>simpa using h3 i (by omega)
   ·rcases h4 with⟨e1,e2⟩|⟨e1,z,id,ρ2,e2,e3,e4⟩
    ·exact .inl ⟨by simp[e1],e2⟩
    ·exact .inr ⟨by simp;omega,z,id,ρ2,by simpa using e2,e3,e4⟩
  ·rename_i id ρ' hb;refine⟨0,fun _=>vo,Nat.zero_le _,rfl,fun i hi=>by omega,.inr ⟨by simp,y,id,ρ',rfl,hb,?_⟩⟩;cases cm:Nat.beq id cj<;>simp only[cm,cond_true,cond_false] at h
   ·refine .inl ⟨fun e=>?_,(Option.some.inj h).symm⟩;subst e;simp at cm
   ·simp only[Option.map_eq_some_iff] at h;obtain⟨e,he,e2⟩:=h;exact .inr ⟨Nat.eq_of_beq_eq_true cm,e,he,e2.symm⟩
  ·cases h
theorem N1 {l:List Nat}{t:Nat}(h:t∈l):ak (rI l) t=true:=by
 induction l with
 |nil=>cases h
 |cons x l ih=>
  have e:rI (x::l)=Nat.lor (cR x) (rI l):=rfl;rw[e,dB];rcases List.mem_cons.1 h with e|e
  ·subst e;rw[mg];rfl
  ·rw[ih e];simp
theorem Jq (m:Nat):∀(l:List Sh) (k t:Nat),(nT m k l).getD t .none=if ak m (k+t)=true then .none else l.getD t .none
 |[],k,t=>by simp[nT]
 |s::l,k,0=>by
  simp only[nT,List.getD_cons_zero,Nat.add_zero];cases ak m k<;>rfl
 |s::l,k,t+1=>by
  simp only[nT,List.getD_cons_succ];rw[Jq m l (k+1) t,show k+1+t=k+(t+1) by omega]
theorem yI (m:Nat)(S:Snap)(t:Nat):((S.mask m).st ids).r t=if ak m t=true then .none else(S.st ids).r t:=by
 show bU ((nT m 0 S.rs).getD t .none)=if ak m t=true then .none else bU (S.rs.getD t .none);rw[Jq,Nat.zero_add];split<;>rfl
theorem ajU {m:Nat}{x S:Snap}{t:Nat}(h:ak m t=true):((x.meet (S.mask m)).st ids).r t=.none:=by
 show bU ((List.zipWith fS x.rs (nT m 0 S.rs)).getD t .none)=.none;rcases FO (f:=fS) x.rs (nT m 0 S.rs) t with h0|⟨s,u,h1,h2,h3⟩
 ·rw[h0];rfl
 ·rw[Jq,Nat.zero_add,if_pos h] at h2;subst h2;rw[h3];cases s<;>rfl
theorem Inv.maskR {S:Snap}{hv:Nat→Value}(h:Inv C (S.st ids) ρ σ own hv w0 σ0 A a w)(m:Nat):Inv C ((S.mask m).st ids) ρ σ own hv w0 σ0 (fun _=>False) a w:=by
 have hc:Compat (S.st ids) hv ((S.mask m).st ids) hv:=⟨fun _=>Nat.le_refl _,fun _ _=>rfl⟩
 refine h.weaken (fun t=>?_) (fun j=>?_) (Snap.noOpt _ _) (fun j hj=>⟨hj,rfl⟩)
 ·refine ay.mono' (ρ:=ρ) (.refl σ) hc (Snap.noOpt _ _ t) ?_;rw[yI];split
  ·trivial
  ·exact h.regs t
 ·exact(h.objs j).mono (.refl σ) hc rfl rfl (fun k hk=>⟨hk,rfl⟩)
theorem LN:∀(ps:List Nat) (ys:List Ty) (l:List Sh),ps.length=ys.length→gl ps=true→∀t,(m4 ps ys l).getD t .none=.none∨(t∉ps∧(m4 ps ys l).getD t .none=l.getD t .none)∨∃(i:Nat) (y:Ty),ps[i]?=some t∧ys[i]?=some y∧(m4 ps ys l).getD t .none=.dat y
 |[],ys,l,_,_,t=>.inr (.inl ⟨by simp,by cases ys<;>rfl⟩)
 |p::ps,[],l,h,_,t=>by simp at h
 |p::ps,y::ys,l,h,hn,t=>by
  have gh:=j6 hn;rw[List.nodup_cons] at gh;have cG:gl ps=true:=by
   simp only[gl,Bool.and_eq_true] at hn;exact hn.2
  show(m4 ps ys (l.set p (.dat y))).getD t .none=_∨_∨_;rcases LN ps ys (l.set p (.dat y)) (by simpa using h) cG t with e|⟨e1,e2⟩|⟨i,z,e1,e2,e3⟩
  ·exact .inl e
  ·by_cases hp:t=p
   ·subst hp;by_cases ae:t<l.length
    ·exact .inr (.inr ⟨0,y,rfl,rfl,by show(m4 ps ys (l.set t (.dat y))).getD t .none=_;rw[e2];simp[List.getD_eq_getElem?_getD,ae]⟩)
    ·left;rw[e2];simp[List.getD_eq_getElem?_getD,ae]
   ·refine .inr (.inl ⟨by simp[hp,e1],?_⟩);show(m4 ps ys (l.set p (.dat y))).getD t .none=_;rw[e2];simp only[List.getD_eq_getElem?_getD,List.getElem?_set];rw[if_neg (fun e=>hp e.symm)]
  ·exact .inr (.inr ⟨i+1,z,by simpa using e1,by simpa using e2,e3⟩)
def jD:List Nat→List Value→Array Value→Array Value
 |p::ps,v::vs,T=>jD ps vs (T.setIfInBounds p v)
 |_,_,T=>T
theorem amZ (ps:Array Nat)(vs:Array Value)(T:Array Value):(ps.zip vs).foldl (fun T x=>T.setIfInBounds x.1 x.2) T=jD ps.toList vs.toList T:=by
 rw[←Array.foldl_toList,Array.toList_zip];generalize ps.toList=l;generalize vs.toList=k
 induction l generalizing k T with
 |nil=>rfl
 |cons p l ih=>
  cases k with
  |nil=>rfl
  |cons v k=>simpa [jD] using ih (T.setIfInBounds p v) k
theorem V2:∀(ps:List Nat) (vs:List Value) (T:Array Value),(jD ps vs T).size=T.size
 |[],vs,T=>by cases vs<;>rfl
 |p::ps,[],T=>rfl
 |p::ps,v::vs,T=>by simp[jD,V2 ps vs]
theorem Ft:∀(ps:List Nat) (vs:List Value) (T:Array Value) (t:Nat),t∉ps→(jD ps vs T).getD t undef=T.getD t undef
 |[],vs,T,t,_=>by cases vs<;>rfl
 |p::ps,[],T,t,_=>rfl
 |p::ps,v::vs,T,t,h=>by
  simp only[List.mem_cons,not_or] at h;simp only[jD];rw[Ft ps vs _ t h.2];simp only[Array.getD_eq_getD_getElem?,Array.getElem?_setIfInBounds];rw[if_neg (fun e=>h.1 e.symm)]
theorem V1:∀(ps:List Nat) (vs:List Value) (T:Array Value) (i t:Nat),ps.Nodup→ps.length=vs.length→(∀p,p∈ps→p<T.size)→ps[i]?=some t→(jD ps vs T).getD t undef=vs.getD i undef
 |p::ps,v::vs,T,0,t,hn,hl,ae,h=>by
  simp at h;subst h;rw[List.nodup_cons] at hn;simp only[jD];rw[Ft ps vs _ p hn.1];simp[Array.getElem?_setIfInBounds,ae p (List.mem_cons_self ..)]
 |p::ps,v::vs,T,i+1,t,hn,hl,ae,h=>by
  rw[List.nodup_cons] at hn;simp only[jD];have:=V1 ps vs (T.setIfInBounds p v) i t hn.2 (by simpa using hl) (fun q hq=>by simpa using ae q (List.mem_cons_of_mem _ hq)) (by simpa using h);simpa using this
 |p::ps,[],T,i,t,hn,hl,ae,h=>by simp at hl
 |[],vs,T,i,t,hn,hl,ae,h=>by simp at h
theorem uz (f:Nat→D):∀(ps:List Nat) (vs:List D) (t:Nat),t∉ps→putL f ps vs t=f t
 |[],vs,t,_=>by cases vs<;>rfl
 |p::ps,[],t,_=>rfl
 |p::ps,v::vs,t,h=>by
  simp only[List.mem_cons,not_or] at h;simp only[putL,ba _ _ h.1];exact uz f ps vs t h.2
theorem KB (f:Nat→D):∀(ps:List Nat) (vs:List D) (i t:Nat),ps.Nodup→ps.length=vs.length→ps[i]?=some t→putL f ps vs t=vs.getD i .none
 |p::ps,v::vs,0,t,hn,hl,h=>by
  simp at h;subst h;simp[putL,aI]
 |p::ps,v::vs,i+1,t,hn,hl,h=>by
  rw[List.nodup_cons] at hn;have ht:t∈ps:=List.mem_of_getElem? (by simpa using h);have av:t≠p:=fun e=>hn.1 (e▸ht);simp only[putL,ba _ _ av];have:=KB f ps vs i t hn.2 (by simpa using hl) (by simpa using h);simpa using this
 |p::ps,[],i,t,hn,hl,h=>by simp at hl
 |[],vs,i,t,hn,hl,h=>by simp at h
theorem als (ps:List Nat)(ds:List D)(i:Nat)(h:i<ps.length):(partsOf ps (.tup ds)).getD i .none=ds.getD i .none:=by
 simp[partsOf,List.getD_eq_getElem?_getD,h,D.tget]
theorem alr (ps:List Nat)(x:D):(partsOf ps x).length=ps.length:=by simp[partsOf]
theorem Inv.startR {S:Snap}{hv:Nat→Value}(h:Inv C (S.st ids) ρ σ own hv w0 σ0 A a w){ps:List Nat}{ys:List Ty}{args:List Value}{ds:List D}{lo:List Nat}{vo:List D}(hl:ps.length=ys.length)(bk:gl ps=true)(ae:∀p,p∈ps→p<a.tmps.size)(ha:nf C σ ys args ds)
 (hρ:ρ=ρ'.put [] [] lo vo):Inv C ((S.start ps ys).st ids) (ρ'.put ps (partsOf ps (.tup ds)) lo vo) σ own hv w0 σ0 (fun _=>False) {tmps:=jD ps args a.tmps,defers:=[]} w:=by
 obtain⟨a1,a2,a3⟩:=ha;have hn:=j6 bk;have hc:Compat (S.st ids) hv ((S.start ps ys).st ids) hv:=⟨fun _=>Nat.le_refl _,fun _ _=>rfl⟩
 have ho:∀j,(ρ'.put ps (partsOf ps (.tup ds)) lo vo).o j=ρ.o j:=fun j=>by rw[hρ];rfl
 refine⟨trivial,h.ok,h.le,h.old,h.newc,h.newm,h.below,h.bw,h.owns,fun t=>?_,fun j=>(h.objs j).mono (.refl σ) hc rfl (ho j) (fun k hk=>⟨hk,rfl⟩),fun t gs s e=>absurd e (Snap.noOpt _ _ t gs s),?_⟩
 ·show ay C _ _ σ hv (bU ((m4 ps ys (S.rs.map nH)).getD t .none)) ((jD ps args a.tmps).getD t undef) (putL ρ'.r ps (partsOf ps (.tup ds)) t);rcases LN ps ys (S.rs.map nH) hl bk t with e|⟨e1,e2⟩|⟨i,y,e1,e2,e3⟩
  ·rw[e];trivial
  ·rw[e2,Ft _ _ _ _ e1,uz _ _ _ _ e1];have hr:=h.regs t;change ay C _ ρ σ hv (bU (S.rs.getD t .none)) _ _ at hr;have hρr:ρ.r t=ρ'.r t:=by rw[hρ];show putL ρ'.r [] [] t=_;rfl
   rw[hρr] at hr;have e3:(S.rs.map nH).getD t .none=nH (S.rs.getD t .none):=by
        simp only[List.getD_eq_getElem?_getD,List.getElem?_map];cases S.rs[t]?<;>rfl
   rw[e3];generalize S.rs.getD t .none=s at hr;cases s with
   |yv=>trivial
   |opt gs s=>trivial
   |none=>trivial
   |fclo f c=>exact ay.mono' (.refl σ) hc (fun _ _ e=>by cases e) hr
   |dat t=>exact hr
   |obj j v=>exact ay.mono' (.refl σ) hc (fun _ _ e=>by cases e) hr
   |ptr j v o=>exact ay.mono' (.refl σ) hc (fun _ _ e=>by cases e) hr
   |eptr j v o q=>exact ay.mono' (.refl σ) hc (fun _ _ e=>by cases e) hr
  ·rw[e3];have hi:i<ps.length:=(List.getElem?_eq_some_iff.1 e1).1;rw[V1 ps args a.tmps i t hn (by omega) ae e1,KB _ ps _ i t hn (by rw[alr]) e1,als _ _ _ hi];exact a3 i y e2
 ·obtain⟨t,fx,cx,h1,h2⟩:=h.frame;exact⟨t,fx,cx,h1,fun j hj=>⟨(h2 j hj).1,by rw[ho j];exact(h2 j hj).2⟩⟩
def qw (C:Ctx)(Φ:aO)(fn:Func)(s:Sig)(n:Nat)(ids:List Nat)(R:Array Oper→Bool→Snap→Option (Snap×List PI))(N:Nat)(c:Code):Prop:=
 ∀(rm:Bool) (S:Snap) (r:Res2),comp C fn s n ids R rm c S=some r→∀(rd:Option Nat) (w0:World) (σ0:Base) (wr:Nat→Prop) (ρ:Env) (x:Out) (a:Act) (w:World),(rm=false→rd=none∧σ0.fin)→CtxOK C σ0→ma C Φ w0 σ0→(∀t,t∈bK c→wr t)→a.tmps.size=n→
  Good C w0 σ0 (S.st ids) ρ (fun _=>False) a w→r.pc.ev Φ N ρ=some x→c.wpIn (FR rd) 0 C.P (eM C w0 σ0 ids fn s rm wr a r.out r.ex x) a w
structure Seg (σ:Im) (own:Nat→Option Nat) (w:World) (σ':Im) (own':Nat→Option Nat) (w':World):Prop where
 le:σ.le σ'
 below:Below 0 w w'
 same:∀k,k<w.heap.size→own k=none→w'.heap[k]?=w.heap[k]?
 ow:∀k j,own' k=some j→(∃i,own k=some i)∨w.heap.size≤k
 imm:∀k,((∃o x,σ'.c k o=some x)∨∃x,σ'.m k=some x)→(∃o x,σ.c k o=some x)∨(∃x,σ.m k=some x)∨(∃i,own k=some i)∨w.heap.size≤k
structure Free (L:Nat) (σ:Im) (own:Nat→Option Nat):Prop where
 own:own L=none
 c:∀o,σ.c L o=none
 m:σ.m L=none
theorem Free.seg {L:Nat}{σ':Im}{own':Nat→Option Nat}{w':World}(h:Free L σ own)(hL:L<w.heap.size)(k:Seg σ own w σ' own' w'):Free L σ' own':=by
 have xO:¬((∃o x,σ'.c L o=some x)∨∃x,σ'.m L=some x):=fun e=>by
  rcases k.imm L e with⟨o,x,e⟩|⟨x,e⟩|⟨i,e⟩|e
  ·rw[h.c o] at e;cases e
  ·rw[h.m] at e;cases e
  ·rw[h.own] at e;cases e
  ·omega
 refine⟨?_,fun o=>?_,?_⟩
 ·cases e:own' L with
  |none=>rfl
  |some j=>
   rcases k.ow L j e with⟨i,e⟩|e
   ·rw[h.own] at e;cases e
   ·omega
 ·cases e:σ'.c L o with
  |none=>rfl
  |some x=>exact absurd (.inl ⟨o,x,e⟩) xO
 ·cases e:σ'.m L with
  |none=>rfl
  |some x=>exact absurd (.inr ⟨x,e⟩) xO
def WN (C:Ctx)(w0:World)(σ0:Base)(ids:List Nat)(wr:Nat→Prop)(a0:Act)(σ:Im)(own:Nat→Option Nat)(w:World)(out:Option Snap)(ex:List (Nat×Snap))(x:Out)(e:Exit)(a':Act)(w':World):Prop:=
 ∃ρ' S' σ' own' hv',Inv C (S'.st ids) ρ' σ' own' hv' w0 σ0 (fun _=>False) a' w'∧Seg σ own w σ' own' w'∧SameBut wr a0 a'∧
  match e with
  |.normal=>x=.next ρ'∧out=some S'
  |.exit id=>x=.exit id ρ'∧id≠cj∧(id,S')∈ex
  |.ret=>x=.exit cj ρ'∧(cj,S')∈ex
  |_=>False
theorem VW {N:Nat}{c:Code}(hc:qw C Φ fn s n ids R N c){S:Snap}{r:Res2}(hr:comp C fn s n ids R true c S=some r)(jo:C.yl=none)(hC:CtxOK C σ0){wr:Nat→Prop}{ρ:Env}{x:Out}{hv:Nat→Value}(h:Inv C (S.st ids) ρ σ own hv w0 σ0 (fun _=>False) a w)
 (fg:∀t,t∈bK c→wr t) (hn:a.tmps.size=n) (he:r.pc.ev Φ N ρ=some x) (L:Nat):c.wpIn (FR (some L)) 0 C.P (WN C w0 σ0 ids wr a σ own w r.out r.ex x) a w:=by
 obtain⟨t,fx,cx,cC,ht⟩:=h.frame;have h1:=h.toRnd (X:=fun _=>False) ht;refine wpIn_mono (hc true S r hr (some L) w0 (σ0.rnd σ own w t fun _=>False) wr ρ x a w (fun e=>by cases e) (hC.mono h.le) (fun J ys e=>by rw[jo] at e;cases e) fg hn ⟨_,_,_,h1⟩ he) fun e a' w' ho=>?_
 have main:∀{S':Snap} {ρ':Env},SameBut wr a a'→Good C w0 (σ0.rnd σ own w t fun _=>False) (S'.st ids) ρ' (fun _=>False) a' w'→∃σ' own' hv',Inv C (S'.st ids) ρ' σ' own' hv' w0 σ0 (fun _=>False) a' w'∧Seg σ own w σ' own' w'∧SameBut wr a a':=by
  intro S' ρ' hs hg;obtain⟨σ',own',hv',h2⟩:=hg;exact⟨σ',own',hv',h.ofRnd cC (fun _ _=>id) h2,⟨h2.le,h.rndBelow h2,fun k hk ho=>Inv.rndSame h.ok h2 hk ho id,fun k j e=>Inv.rndOwn h2 e id,fun k e=>Inv.rndC h2 e id⟩,hs⟩
 cases e with
 |normal=>
  obtain⟨ρ',S',e1,e2,e3,e4⟩:=ho;obtain⟨σ',own',hv',g1,g2,g3⟩:=main e3 e4;exact⟨ρ',S',σ',own',hv',g1,g2,g3,e1,e2⟩
 |exit id=>
  obtain⟨ρ',S',e1,e0,e2,e3,e4⟩:=ho;obtain⟨σ',own',hv',g1,g2,g3⟩:=main e3 e4;exact⟨ρ',S',σ',own',hv',g1,g2,g3,e1,e0,e2⟩
 |ret=>
  obtain⟨ρ',S',e1,e2,e3,e4⟩:=ho;obtain⟨σ',own',hv',g1,g2,g3⟩:=main e3 e4;exact⟨ρ',S',σ',own',hv',g1,g2,g3,e1,e2⟩
 |_=>exact ho.elim
theorem Inv.putL {L:Nat}{hv:Nat→Value}{S:St}{ρ:Env}(h:Inv C S ρ σ own hv w0 σ0 A a w)(hL:w0.heap.size≤L)(hf:Free L σ own)(hx:∀t fx cx,FrOK σ own w0.heap.size σ0 w t fx cx→¬fx L)(o:Obj):Inv C S ρ σ own hv w0 σ0 A a (w.putObj L o):=
 h.keep (X:=fun k=>k≠L) ⟨rfl,rfl,rfl,by simp,fun k hk=>by omega⟩ (fun k hk=>World.putObj_heap_other hk) (fun k hk=>by omega) (fun k j e1 e2=>by subst e2;rw[hf.own] at e1;cases e1) (fun k o v e1 e2=>by subst e2;rw[hf.c] at e1;cases e1)
  (fun k v e1 e2=>by subst e2;rw[hf.m] at e1;cases e1) (fun t fx cx cC k hk e=>by subst e;exact hx t fx cx cC hk)
theorem apo {o:Oper}{L:Nat}{x:Operand}{as:Array Operand}{ts:Array TypeId}{r:Loop}(bx:o.op=.call {callee:=.value x,args:=as,argTypes:=ts})(hx:a.eval x=.func (.yield L) #[] #[])(hL:w.heap[L]?=some (.loop r))(hs:as.size=r.params.size):
 (execOp a.eval o).run C.P w=.ok (.round L r.fn ((r.params.zip (as.map a.eval)).foldl (fun tmps (t,v)=>tmps.setIfInBounds t v) r.tmps) r.assign r.body) w:=by
 have hy:=run_yield (P:=C.P) (args:=as.map a.eval) hL (by simpa using hs);simp[execOp,bx,resolve,hx,Deferred.ofValue,invoke,hy]
theorem alV {g:Operand}{f:Nat}{vs:List Value}{L:Nat}(hf:∃fn,C.P.funcs[f]?=some fn∧fn.body.isSome=true∧(fn.name== "runtime.NumGoroutine")=false)(hg:a.eval g=.func (.func f) #[] vs.toArray):
 (resolve a.eval (rangeCall g L) 0).run C.P w=.ok {target:=.fn (.func f) vs.toArray,args:=#[.func (.yield L) #[] #[]]} w∧
 (invoke (.fn (.func f) vs.toArray) #[.func (.yield L) #[] #[]]).run C.P w=.ok (.enter f (#[.func (.yield L) #[] #[]]++vs.toArray)) w:=by
 obtain⟨fn,h1,h2,h3⟩:=hf;obtain⟨bd,jQ⟩:=Option.isSome_iff_exists.1 h2;have h4:¬fn.name= "runtime.NumGoroutine" :=by simpa using h3
 constructor
 ·simp only[resolve,hg];simp[go_sem]
 ·simp[invoke,callFunc,h1,jQ,h4]
theorem FrOK.enter {hv:Nat→Value}{S:St}{ρ:Env}(h:Inv C S ρ σ own hv w0 σ0 A a w){t:D}{fx cx:Nat→Prop}(hf:FrOK σ own w0.heap.size σ0 w t fx cx)(r:Loop):FrOK (σ.mark w.heap.size) own w0.heap.size σ0 ((w.alloc (.deferred (some []))).alloc (.loop r)) t fx cx:=by
 have hb:=OW w (.deferred (some [])) (.loop r);have ae:=σ0.lt _ _ _ _ hf.F;have bQ:=σ0.sub _ _ _ _ hf.F;have xW:∀k x,(σ.mark w.heap.size).m k=some x→σ.m k=some x∨k=w.heap.size:=by
  intro k x e;simp only[Im.mark] at e;split at e
  ·rename_i e2;exact .inr e2
  ·exact .inl e
 refine⟨σ0.keep _ _ _ _ _ hf.F (hb.mono (Nat.zero_le _)) fun k hk=>hb.block k (ae k hk),hf.own,hf.c,fun k x e hc=>?_,fun k e hB hk=>?_⟩
 ·rcases xW k x e with e|e
  ·exact hf.m k x e hc
  ·have:=ae k (bQ k hc);omega
 ·rcases xW k _ e with e|e
  ·exact hf.d k e hB hk
  ·have:=ae k hk;omega
structure RSt (C:Ctx) (w0:World) (σR:Base) (ids:List Nat) (ρ1:Env) (lo:List Nat) (aM:Act) (L:Nat) (W1:World) (σ1:Im) (rec:LoopState→Option Code→Loop) (xs:List D) (P:Nat→List D→Snap→LoopState→Option Code→Prop) (t:D) (fx cx:Nat→Prop) (w:World):Prop where
 lt:∀k,fx k→k<w.heap.size
 sub:∀k,cx k→fx k
 old:∀k,k<W1.heap.size→fx k
 ex:∃(i:Nat) (vo:List D) (Sx:Snap) (st:LoopState) (pe:Option Code) (σ:Im) (own:Nat→Option Nat) (hv:Nat→Value),t=.list (xs.take i)∧P i vo Sx st pe∧Inv C (Sx.st ids) (ρ1.put [] [] lo vo) σ own hv w0 σR (fun _=>False) aM w∧
  σ1.le σ∧Free L σ own∧w.heap[L]?=some (.loop (rec st pe))∧(∀k j,own k=some j→fx k)∧(∀k o x,σ.c k o=some x→fx k)∧(∀k x,σ.m k=some x→fx k)∧∀k,cx k↔((∃j,own k=some j)∨k=L)
theorem RSt.keep {σR:Base}{ρ1:Env}{lo:List Nat}{aM:Act}{L:Nat}{W1:World}{σ1:Im}{rec:LoopState→Option Code→Loop}{xs:List D}{P:Nat→List D→Snap→LoopState→Option Code→Prop}{t:D}{fx cx:Nat→Prop}{w w':World}
 (h0:w0.heap.size≤W1.heap.size) (hL:L<W1.heap.size) (hR:∀t f c w,σR.F t f c w→∀k,f k→k<W1.heap.size) (h:RSt C w0 σR ids ρ1 lo aM L W1 σ1 rec xs P t fx cx w) (hb:Below 0 w w') (hs:∀k,fx k→w'.heap[k]?=w.heap[k]?):
 RSt C w0 σR ids ρ1 lo aM L W1 σ1 rec xs P t fx cx w':=by
 obtain⟨i,vo,Sx,st,pe,σ,own,hv,e1,e2,e3,e4,e5,e6,e7,e8,e9,e10⟩:=h.ex;refine⟨fun k hk=>Nat.lt_of_lt_of_le (h.lt k hk) hb.size,h.sub,h.old,i,vo,Sx,st,pe,σ,own,hv,e1,e2,?_,e4,e5,(hs L (h.old L hL)).trans e6,e7,e8,e9,e10⟩;exact e3.keep (X:=fx) hb hs (fun k hk=>h.old k (by omega)) e7 e8 e9 (fun t f c hf k hk=>h.old k (hR _ _ _ _ hf.F k hk))
theorem Im.noM_m {σ:Im}{k:Nat}{v:List (Value×Value)}(h:σ.noM.m k=some v):σ.m k=some v∧v≠cl:=by
 simp only[Im.noM] at h;split at h
 ·cases h
 ·rename_i av;exact⟨h,fun e=>av (by rw[h,e])⟩
structure SegL (L:Nat) (σ:Im) (own:Nat→Option Nat) (w:World) (σ':Im) (own':Nat→Option Nat) (w':World):Prop where
 le:σ.le σ'
 below:Below 0 w w'
 same:∀k,k<w.heap.size→own k=none→k≠L→w'.heap[k]?=w.heap[k]?
 ow:∀k j,own' k=some j→(∃i,own k=some i)∨w.heap.size≤k
 imm:∀k,((∃o x,σ'.c k o=some x)∨∃x,σ'.m k=some x)→(∃o x,σ.c k o=some x)∨(∃x,σ.m k=some x)∨(∃i,own k=some i)∨w.heap.size≤k
theorem UK (w:World)(L:Nat)(o:Obj):Below 0 w (w.putObj L o):=⟨rfl,rfl,rfl,by simp,fun k hk=>by omega⟩
theorem Seg.round {L:Nat}{σ' σ'':Im}{own' Uz:Nat→Option Nat}{w' jK:World}{o o':Obj}(h:Seg σ own w σ' own' w')(k:Seg σ' own' (w'.putObj L o) σ'' Uz jK):SegL L σ own w σ'' Uz (jK.putObj L o'):=by
 have aD:=h.below.size;have Iv:=k.below.size;simp only[World.putObj_size] at Iv;refine⟨h.le.trans k.le,h.below.trans ((UK _ _ _).trans (k.below.trans (UK _ _ _))),fun q hq ho hL=>?_,fun q j e=>?_,fun q e=>?_⟩
 ·have h1:own' q=none:=by
   cases e:own' q with
   |none=>rfl
   |some j=>
    rcases h.ow q j e with⟨i,e⟩|e
    ·rw[ho] at e;cases e
    ·omega
  rw[World.putObj_heap_other hL,k.same q (by simp;omega) h1,World.putObj_heap_other hL,h.same q hq ho]
 ·rcases k.ow q j e with⟨i,e⟩|e
  ·exact h.ow q i e
  ·simp only[World.putObj_size] at e;exact .inr (by omega)
 ·rcases k.imm q e with e|e|⟨i,e⟩|e
  ·exact h.imm q (.inl e)
  ·exact h.imm q (.inr e)
  ·rcases h.ow q i e with e|e
   ·exact .inr (.inr (.inl e))
   ·exact .inr (.inr (.inr e))
  ·simp only[World.putObj_size] at e;exact .inr (.inr (.inr (by omega)))
theorem Env.put_self (ρ:Env)(lo:List Nat):ρ.put [] [] lo (lo.map ρ.o)=ρ:=by
 have h2:∀u,putL ρ.o lo (lo.map ρ.o) u=ρ.o u:=fun u=>by rw[og];split<;>rfl
 show Env.mk ρ.r (putL ρ.o lo (lo.map ρ.o))=ρ;rw[funext h2]
theorem alW {N:Nat}(fJ:gr C Φ){g:Operand}{ps:Array Tmp}{ca cb:Code}(aV:qw C Φ fn s n ids R N ca)(cH:qw C Φ fn s n ids R N cb):qw C Φ fn s n ids R N (.rangeFunc g ps ca cb):=by
 intro rm S r hr rd w0 σ0 wr ρ x a w eI hC hY fg hn hg he;simp only[comp] at hr;split at hr
 case h_2=>cases hr;exact absurd he (jE _ _ _ _)
 rename_i as rr e jo hu;split at hr
 case h_2=>cases hr;exact absurd he (jE _ _ _ _)
 rename_i ys rz;split at hr
 case h_2=>cases hr;exact absurd he (jE _ _ _ _)
 rename_i q hq;rw[Bool.cond_eq_ite] at hr;split at hr
 case isFalse=>cases hr;exact absurd he (jE _ _ _ _)
 rename_i qW;cases hr;simp only[Bool.and_eq_true] at qW;obtain⟨⟨⟨hl,bk⟩,ae⟩,rk⟩:=qW;have hl:=Nat.eq_of_beq_eq_true hl;have rk:=Nat.le_of_ble_eq_true rk;obtain⟨hrd,jR⟩:=eI rfl;subst hrd;obtain⟨hs,tu,_⟩:=yA (C:=C) (w0:=w0) (σ0:=σ0) (ids:=ids) 8 hq;simp only[Option.bind_eq_some_iff] at hs;obtain⟨ra,Ij,hs⟩:=hs;split at hs
 case h_2=>cases hs
 rename_i S1 hao PQ;simp only[Option.map_eq_some_iff] at hs;obtain⟨rb,QA,fN⟩:=hs;have Qj:=oH ca Ij;have Qk:=oH cb QA;obtain⟨q1,q2⟩:=q;simp only at Ij fN rk tu he ⊢;generalize q9:Rv ids (q1::q2.ex.map (·.2)) q2.mo=lo at he;generalize pj:((kF cj q2.ex none).bind fun M=>sn C fn s (M.st ids))=rt at he;have yi:∃f caps d,e.ev ρ=.clo f caps∧Φ f caps=some d∧fF (q2.pc.ev Φ N) (ρ.setR n d) ps.toList lo rt d.l (lo.map ρ.o)=some x:=by
  simp only[PC.ev,PI.runs,PI.run,holds,List.all_nil,cond_true] at he;cases bp:e.ev ρ with
  |clo f caps=>
   rw[bp] at he;simp only[PE.evs,List.nil_append] at he;cases hΦ:Φ f caps with
   |none=>rw[hΦ] at he;simp at he
   |some d=>
    rw[hΦ] at he;simp only[Option.map_some,Option.bind_some,PE.ev,Env.setR,aI] at he;exact⟨f,caps,d,rfl,hΦ,he⟩
  |_=>rw[bp] at he;simp at he
 obtain⟨f,caps,d,bp,hΦ,he⟩:=yi;obtain⟨σ,own,hv,i⟩:=hg;have hx:=bD (gs:=[]) i hC rfl hu;rw[bp] at hx;generalize hgv:a.eval g=gv at hx;generalize aS:Ty.fn as rr=ty at hx;cases hx with
 |fn f cs vs ds gU h1 h2 aJ=>
 cases aS;obtain⟨hfn,aga⟩:=fJ f cs ys gU rz;obtain⟨xs,rfl,at1,HI⟩:=aga caps d hΦ;simp only[D.l_list] at he;obtain⟨m,jJ,hm,ru,Ch,hZ⟩:=OU he;have iq0:=Q6 8 hq i
 have iq:Inv C (q1.st ids) (ρ.setR n (.list xs)) σ own hv w0 σ0 (fun _=>False) a w:=by
  refine iq0.env (Snap.noOpt _ _) (fun t ht=>?_) (fun _ _=>rfl);have ae:t<q1.rs.length:=by
   refine Nat.lt_of_not_le fun hle=>?_;simp only[Snap.st,List.getD_eq_getElem?_getD,List.getElem?_eq_none hle,Option.getD_none,bU,isNone] at ht;cases ht
  simp[Env.setR,ba _ _ (show t≠n by omega)]
 obtain⟨ρ1,hρ1⟩:∃ρ1,ρ.setR n (.list xs)=ρ1:=⟨_,rfl⟩
 rw[hρ1] at he iq Ch hZ;have gi:ρ.o=ρ1.o:=by rw[←hρ1];rfl
 rw[gi] at ru;refine wpIn_rangeFunc ?_;intro Ha atA;obtain⟨L,PD⟩:∃L,w.heap.size+1=L:=⟨_,rfl⟩
 obtain⟨rec,fu⟩:∃rec:LoopState→Option Code→Loop,rec=fun st pe=>{state:=st,pending:=pe,fn:=Ha,tmps:=a.tmps,params:=ps,assign:=ca,body:=cb,defers:=w.heap.size}:=⟨_,rfl⟩
 have i1:=iq.enter (rec .ready none);obtain⟨t,fx0,cx0,P3,ht0⟩:=iq.frame;have afR:=σ0.lt _ _ _ _ P3.F;have HC:=FrOK.enter iq P3 (rec .ready none);have atZ:=iq.below.size;have BL:Free L (σ.mark w.heap.size) own:=by
  refine⟨?_,fun o=>?_,?_⟩
  ·cases e:own L with
   |none=>rfl
   |some j=>have:=(iq.owns L j e).2.1;omega
  ·cases e:σ.c L o with
   |none=>exact e
   |some x=>have:=iq.lt e;omega
  ·simp only[Im.mark,show L≠w.heap.size by omega,if_false];cases e:σ.m L with
   |none=>rfl
   |some x=>have:=iq.ltm e;omega
 have jj:σ.le (σ.mark w.heap.size):=by
  refine⟨fun _ _ _ e=>e,fun k x e=>?_⟩;have:k≠w.heap.size:=by have:=iq.ltm e;omega
  simp[Im.mark,this,e]
 have Pz:((w.alloc (.deferred (some []))).alloc (.loop (rec .ready none))).heap[L]?=some (.loop (rec .ready none)):=by
  have:=World.alloc_heap_new (w.alloc (.deferred (some []))) (.loop (rec .ready none));rw[World.size_alloc,PD] at this;exact this
 obtain⟨W1,Hn⟩:∃W1,(w.alloc (.deferred (some []))).alloc (.loop (rec .ready none))=W1:=⟨_,rfl⟩
 have ats:W1.heap.size=w.heap.size+2:=by rw[←Hn];simp
 rw[Hn] at i1 HC Pz;have HA:(Instr.enterLoop Ha a.tmps ps ca cb none).run C.P w=.ok (L,[{target:=.collected w.heap.size,args:=#[]}]) W1:=by
  rw[←Hn,fu,←PD];exact run_enterLoop_outer _ _ _ _ _
 obtain⟨σ1,hσ1⟩:∃σ1,σ.mark w.heap.size=σ1:=⟨_,rfl⟩
 rw[hσ1] at i1 HC BL jj;obtain⟨aM,Ho⟩:∃aM:Act,{a with defers:={target:=.collected w.heap.size,args:=#[]}::a.defers}=aM:=⟨_,rfl⟩
 have xw:aM.tmps=a.tmps:=by rw[←Ho]
 rw[Ho] at i1;have iR:=i1.toRnd (t:=t) (X:=fun k=>k=L) ht0;obtain⟨σR,hσR⟩:∃σR,σ0.rnd σ1 own W1 t (fun k=>k=L)=σR:=⟨_,rfl⟩
 have oQ:∀t' f c w',σR.F t' f c w'→(∀k,f k→k<W1.heap.size∧k≠L)∧∀k,c k→f k∧(∀o,σ1.c k o=none)∧σ1.m k=none:=by
  rw[←hσR];rintro t' f c w' ⟨_,h2,h3,_⟩;exact⟨fun k hk=>⟨((h2 k).1 hk).1,((h2 k).1 hk).2.2.2⟩,fun k hk=>(h3 k).1 hk⟩
 have PH:CtxOK C σR:=by rw[←hσR];exact hC.mono i1.le
 rw[hσR] at iR
 obtain⟨P,hP⟩:∃P:Nat→List D→Snap→LoopState→Option Code→Prop,P=fun i vo Sx st pe=>(i≤m∧vo=jJ i∧Sx=q1∧st=.ready∧pe=none)∨
  (i=m+1∧m<xs.length∧st=.done∧∃y id ρ',xs[m]?=some y∧q2.pc.ev Φ N (ρ1.put ps.toList (partsOf ps.toList y) lo (jJ m))=some (.exit id ρ')∧vo=lo.map ρ'.o∧(id,Sx)∈q2.ex∧((id≠cj∧pe=some (.exit id))∨(id=cj∧pe=some .ret))):=⟨_,rfl⟩
 obtain⟨c1,c2⟩:=alV (C:=C) (w:=W1) (L:=L) hfn hgv;refine⟨L,[{target:=.collected w.heap.size,args:=#[]}],W1,_,W1,f,_,W1,HA,c1,fun _ _=>trivial,c2,(fun e=>by cases e),?_⟩
 refine Oc ((HI σ1 W1 (.func (.yield L) #[] #[]) vs (RSt C w0 σR ids ρ1 lo aM L W1 σ1 rec xs P) (fun k=>k<W1.heap.size) (fun k=>(∃j,own k=some j)∨k=L) m i1.ok (hC.mono i1.le) ⟨h1,h2,fun j t e=>(aJ j t e).mono jj⟩ hm
  (fun t f c w h=>h.lt) (fun t f c w h=>h.sub) (fun t f c w w' h hb hs=>h.keep (by omega) (by omega) (fun t f c w hF k hk=>((oQ t f c w hF).1 k hk).1) hb hs) ?_ ?_ ?_ ?_).mono ?_)
 ·refine⟨fun k hk=>hk,fun k hk=>?_,fun k hk=>hk,0,jJ 0,q1,.ready,none,σ1,own,hv,by simp,by rw[hP];exact .inl ⟨Nat.zero_le _,rfl,rfl,rfl,rfl⟩,?_,.refl σ1,BL,Pz,fun k j e=>(iR.owns k j e).2.1,fun k o x e=>iR.lt e,fun k x e=>iR.ltm e,fun k=>.rfl⟩
  ·rcases hk with⟨j,e⟩|e
   ·exact(iR.owns k j e).2.1
   ·show k<W1.heap.size;omega
  ·rw[ru,Env.put_self];exact iR
 ·rintro k o x e (⟨j,hj⟩|rfl)
  ·have:=(iR.owns k j hj).2.2.1 o;rw[e] at this;cases this
  ·rw[BL.c] at e;cases e
 ·rintro k x e (⟨j,hj⟩|rfl)
  ·have:=(iR.owns k j hj).2.2.2;rw[e] at this;cases this
  ·rw[BL.m] at e;cases e
 ·intro i fx cx w1 σx args ds' hi cO hF hσx gf gV tn cY cM rd' o a' x' as ts K Q bx bR PM hK;have atD:i<xs.length:=(List.getElem?_eq_some_iff.1 cO).1;obtain⟨i',vo,Sx,st,pe,σa,rU,hva,e1,e2,iA,Ca,xr,BM,H2,PU,xV,tp⟩:=hF.ex;have hii:i'=i:=by
   have h9:=congrArg List.length (congrArg D.l e1);simp only[D.l_list,List.length_take] at h9;omega
  subst hii;rw[hP] at e2;rcases e2 with⟨_,rfl,xt,rfl,rfl⟩|⟨e2,_⟩
  case inr=>omega
  rw[xt] at iA;have PF:L<w1.heap.size:=hF.lt L (hF.old L (by omega));have BU:cx L:=(tp L).2 (.inr rfl)
  have agx:∀k o v,σx.c k o=some v→rU k=none:=fun k o v e=>by
   cases e2:rU k with
   |none=>rfl
   |some j=>exact absurd ((tp k).2 (.inl ⟨j,e2⟩)) (gV k o v e)
  have x9:∀k v,σx.m k=some v→rU k=none:=fun k v e=>by
   cases e2:rU k with
   |none=>rfl
   |some j=>exact absurd ((tp k).2 (.inl ⟨j,e2⟩)) (tn k v e)
  have hτok:σx.noM.ok w1:=⟨hσx.c,fun k v e=>hσx.m k v (Im.noM_m e).1⟩
  have iB:=iA.joinIm (τ:=σx.noM) hτok (fun k e=>(Im.noM_m e).2 rfl) agx (fun k v e=>x9 k v (Im.noM_m e).1)
   (fun k o v e=>(cY k o v e).imp (fun e=>Ca.c k o v e) fun e=>by omega) (fun k v e=>(cM k v (Im.noM_m e).1).imp (fun e=>Ca.m k v e) fun e=>by omega)
   (fun t' f c hf=>⟨fun k o v e hc=>by
        obtain⟨g1,g2,g3⟩:=(oQ _ _ _ _ hf.F).2 k hc;rcases cY k o v e with e|e
        ·rw[g2 o] at e;cases e
        ·have:=((oQ _ _ _ _ hf.F).1 k g1).1;omega,fun k v e hc=>by
        obtain⟨g1,g2,g3⟩:=(oQ _ _ _ _ hf.F).2 k hc;rcases cM k v (Im.noM_m e).1 with e|e
        ·rw[g3] at e;cases e
        ·have:=((oQ _ _ _ _ hf.F).1 k g1).1;omega⟩)
  have Pw:Free L (σa.plus σx.noM) rU:=by
   refine⟨xr.own,fun o=>?_,?_⟩
   ·cases e:(σa.plus σx.noM).c L o with
    |none=>rfl
    |some v=>
     rcases Im.plus_c e with e|e
     ·rw[xr.c] at e;cases e
     ·exact absurd BU (gV L o v e)
   ·cases e:(σa.plus σx.noM).m L with
    |none=>rfl
    |some v=>
     rcases Im.plus_m e with e|e
     ·rw[xr.m] at e;cases e
     ·exact absurd BU (tn L v (Im.noM_m e).1)
  have nL:ps.toList.length=ys.length:=by rw[Array.length_toList];exact hl.symm
  have afj:nf C (σa.plus σx.noM) ys args ds':=⟨gf.1,gf.2.1,fun j t e=>((gf.2.2 j t e).noM).mono (Im.plus_le2 iA.ok hτok)⟩
  have iC:=iB.startR (ρ':=ρ1) nL bk (fun p hp=>by
   have:=List.all_eq_true.1 ae p hp;rw[xw,hn];simpa [Nat.blt_eq] using this) afj rfl
  have hpu:∃xi,q2.pc.ev Φ N (ρ1.put ps.toList (partsOf ps.toList (.tup ds')) lo (jJ i'))=some xi∧((i'<m∧∃ρ',xi=.next ρ'∧lo.map ρ'.o=jJ (i'+1))∨(i'=m∧m<xs.length∧∃id ρ',xi=.exit id ρ')):=by
   by_cases hH:i'<m
   ·obtain⟨y,ρ',g1,g2,g3⟩:=Ch i' hH;rw[cO] at g1;cases g1;exact⟨_,g2,.inl ⟨hH,ρ',rfl,g3⟩⟩
   ·obtain rfl:i'=m:=by omega
    rcases hZ with⟨g1,_⟩|⟨g1,y,id,ρ',g2,g3,_⟩
    ·omega
    ·rw[cO] at g2;cases g2;exact⟨_,g3,.inr ⟨rfl,g1,id,ρ',rfl⟩⟩
  obtain⟨xi,nO,IL⟩:=hpu;have aA:q2.pc=.seq ra.pc rb.pc:=by rw[←fN];rfl
  rw[aA] at nO;have aD:(jD ps.toList args aM.tmps).size=n:=by rw[V2,xw,hn]
  refine⟨fun _ _=>trivial,?_⟩;rw[Oper.semAt_eq _ _ _ (fun c e=>by rw[bx] at e;cases e)];have afl:as.size=ps.size:=by
   have:=gf.1;rw[←PM,List.length_map,Array.length_toList] at this;omega
  have af:=apo (C:=C) bx bR BM (by rw[fu];exact afl);have agZ:(rec .ready none).fn=Ha∧(rec .ready none).tmps=a.tmps∧(rec .ready none).params=ps∧(rec .ready none).assign=ca∧(rec .ready none).body=cb:=by rw[fu];exact⟨rfl,rfl,rfl,rfl,rfl⟩
  obtain⟨r1,r2,r3,r4,r5⟩:=agZ;rw[r1,r2,r3,r4,r5] at af
  have nM:(ps.zip (as.map a'.eval)).foldl (fun tmps (t,v)=>tmps.setIfInBounds t v) a.tmps=jD ps.toList args aM.tmps:=by
   rw[xw,←PM,←Array.toList_map];exact amZ ps (as.map a'.eval) a.tmps
  rw[nM] at af;rw[af];refine⟨(fun e=>by cases e),?_⟩;refine roundIn_of_wpIn (F:=FR rd') trivial ?_;show ca.wpIn (FR (some L)) 0 C.P _ _ _;cases jn:ra.pc.ev Φ N (ρ1.put ps.toList (partsOf ps.toList (.tup ds')) lo (jJ i')) with
  |none=>simp only[PC.ev,jn] at nO;cases nO
  |some xa=>
  refine wpIn_mono (VW aV Ij jo PH iC (wr:=fun t=>t∈bK ca) (fun _ h=>h) aD jn L) fun e2 a1 NB ag8=>?_;obtain⟨ρ2,S2,σ2,fy,fe,iD,po,fO,gA⟩:=ag8;cases e2 with
  |normal=>
   obtain⟨rfl,td⟩:=gA;rw[hao] at td;cases td;simp only[PC.ev,jn] at nO;have PA:NB.heap[L]?=some (.loop (rec .ready none)):=(po.same L PF Pw.own).trans BM;have Hk:=Pw.seg PF po;have Hl:L<NB.heap.size:=(Array.getElem?_eq_some_iff.1 PA).1;have Py:w0.heap.size≤L:=by omega
   refine⟨_,run_beginRound PA (by rw[fu]),?_⟩;have iE:=iD.putL Py Hk (fun t' f c hf xI=>((oQ _ _ _ _ hf.F).1 L xI).2 rfl) (.loop {rec .ready none with state:=.busy});have hL3:(NB.putObj L (.loop {rec .ready none with state:=.busy})).heap[L]?=some (.loop {rec .ready none with state:=.busy}):=World.putObj_heap_same Hl;show cb.wpIn (FR (some L)) 0 C.P _ _ _;refine wpIn_mono (VW cH QA jo PH iE (wr:=fun t=>t∈bK cb) (fun _ h=>h) (fO.size.trans aD) nO L) fun e3 a3 w3 ag9=>?_;obtain⟨ρ3,S3,σ3,rT,yq,iF,Cp,ag7,kA⟩:=ag9;have PB:w3.heap[L]?=some (.loop {rec .ready none with state:=.busy}):=(Cp.same L (by simpa using Hl) Hk.own).trans hL3;have Pv:=Hk.seg (by simpa using Hl) Cp;have ae3:L<w3.heap.size:=(Array.getElem?_eq_some_iff.1 PB).1;obtain⟨mk,Ce⟩:∃mk,Nat.lor (rI (ps.toList++bK ca++bK cb)) (Nat.lor ra.mr rb.mr)=mk:=⟨_,rfl⟩
   have agr:∀t,ak mk t=false→t∉ps.toList∧t∉bK ca∧t∉bK cb∧ak ra.mr t=false∧ak rb.mr t=false:=by
        intro t ht;rw[←Ce,dB,dB,Bool.or_eq_false_iff,Bool.or_eq_false_iff] at ht;obtain⟨t1,t2,t3⟩:=ht;have:t∉ps.toList++bK ca++bK cb:=fun hm=>by rw[N1 hm] at t1;cases t1
        simp only[List.mem_append,not_or] at this;exact⟨this.1.1,this.1.2,this.2,t2,t3⟩
   have Il:∀t,ak mk t=false→aM.tmps.getD t undef=a3.tmps.getD t undef∧(ρ1.put [] [] lo (lo.map ρ3.o)).r t=ρ3.r t:=by
        intro t ht;obtain⟨t1,t2,t3,t4,t5⟩:=agr t ht;refine⟨?_,?_⟩
        ·rw[ag7.get t t3,fO.get t t2];exact(Ft _ _ _ _ t1).symm
        ·have hb3:∀ρ',xi=.next ρ'∨(∃id,xi=.exit id ρ')→ρ'.r t=ρ2.r t:=fun ρ' h=>by
          have qZ:xi.env?=some ρ':=by rcases h with h|⟨id,h⟩<;>rw[h]<;>rfl
          exact(PC.ev_but rb.pc _ _ ρ' nO qZ).r t fun hm=>by rw[Qk.1 t hm] at t5;cases t5
         have dq:ρ2.r t=putL ρ1.r ps.toList (partsOf ps.toList (.tup ds')) t:=(PC.ev_but ra.pc _ _ ρ2 jn rfl).r t fun hm=>by rw[Qj.1 t hm] at t4;cases t4
         rw[uz _ _ _ _ t1] at dq;show ρ1.r t=ρ3.r t;rw[hb3 ρ3 (by
          cases e3 with
          |normal=>exact .inl kA.1
          |exit id=>exact .inr ⟨id,kA.1⟩
          |ret=>exact .inr ⟨_,kA.1⟩
          |_=>exact kA.elim),dq]
   have HS:q2.mo=fW ra.mo rb.mo:=by rw[←fN];rfl
   have H5:∀j,j∉q2.mo→ρ3.o j=ρ1.o j:=by
        intro j hj;rw[HS,lN,not_or] at hj;have qZ:xi.env?=some ρ3:=by
         cases e3 with
         |normal=>rw[kA.1];rfl
         |exit id=>rw[kA.1];rfl
         |ret=>rw[kA.1];rfl
         |_=>exact kA.elim
        rw[(PC.ev_but rb.pc _ _ ρ3 nO qZ).o j fun hm=>hj.2 (Qk.2 j hm),(PC.ev_but ra.pc _ _ ρ2 jn rfl).o j fun hm=>hj.1 (Qj.2 j hm)]
        exact uz _ _ _ _ fun hm=>by
         rw[←q9] at hm;have:=(List.mem_filter.1 hm).1;rw[HS,lN] at this;exact this.elim hj.1 hj.2
   have H4:∀(S:Snap),S∈(q1::q2.ex.map (·.2))→∀j,kD ((S.st ids).o j)=false→(ρ1.put [] [] lo (lo.map ρ3.o)).o j=ρ3.o j:=by
        intro S hS j hj;show putL ρ1.o lo (lo.map ρ3.o) j=ρ3.o j;rw[og];split
        ·rfl
        ·rename_i ei;refine(H5 j fun oX=>ei ?_).symm;rw[←q9];exact List.mem_filter.2 ⟨oX,List.any_eq_true.2 ⟨S,hS,by simpa [Snap.st] using hj⟩⟩
   have fin:∀(jump:Option Code) (Sx:Snap),Inv C (Sx.st ids) (ρ1.put [] [] lo (lo.map ρ3.o)) σ3 rT yq w0 σR (fun _=>False) aM w3→P (i'+1) (lo.map ρ3.o) Sx (if jump.isNone then .ready else .done) jump→jump.isNone=decide (i'<m)→
        ∃v w',(Instr.endRound L jump).run C.P w3=.ok v w'∧K (a'.put o.dst v) w':=by
        intro jump Sx iG hPn oX;refine⟨_,_,run_endRound jump PB,?_⟩;have agY:({{rec .ready none with state:=.busy} with state:=if jump.isNone then .ready else .done,pending:=jump}:Loop)=rec (if jump.isNone then .ready else .done) jump:=by rw[fu]
        rw[agY];have aJ:=po.round (L:=L) (o':=.loop (rec (if jump.isNone then .ready else .done) jump)) Cp;have iH:=iG.putL Py Pv (fun t' f c hf xI=>((oQ _ _ _ _ hf.F).1 L xI).2 rfl) (.loop (rec (if jump.isNone then .ready else .done) jump));obtain⟨w4,IF⟩:∃w4,w3.putObj L (.loop (rec (if jump.isNone then .ready else .done) jump))=w4:=⟨_,rfl⟩
        have hL5:w4.heap[L]?=some (.loop (rec (if jump.isNone then .ready else .done) jump)):=by rw[←IF];exact World.putObj_heap_same ae3
        have at4:w4.heap.size=w3.heap.size:=by rw[←IF];simp
        rw[IF] at aJ iH ⊢;have atr:W1.heap.size≤w1.heap.size:=by
         have:=hF.lt (W1.heap.size-1) (hF.old _ (by omega));omega
        have at0:=aJ.below.size
        refine hK _ _ ⟨by rw[oX],aJ.below,fun k hk hc=>aJ.same k hk (by
         cases e:rU k with
         |none=>rfl
         |some j=>exact absurd ((tp k).2 (.inl ⟨j,e⟩)) hc) (fun e=>hc (by rw[e];exact BU)),(fun k=>k<w4.heap.size∧(k<W1.heap.size∨(∃j,rT k=some j)∨(∃o x,σ3.c k o=some x)∨∃x,σ3.m k=some x)),(fun k=>(∃j,rT k=some j)∨k=L),?_,?_,?_⟩
        ·refine⟨fun k hk=>hk.1,fun k hk=>?_,fun k hk=>⟨by omega,.inl hk⟩,i'+1,lo.map ρ3.o,Sx,_,jump,σ3,rT,yq,rfl,hPn,iH,Ca.trans ((Im.plus_le1 _ _).trans aJ.le),Pv,hL5,fun k j e=>⟨(iH.owns k j e).2.1,.inr (.inl ⟨j,e⟩)⟩,fun k o x e=>⟨iH.lt e,.inr (.inr (.inl ⟨o,x,e⟩))⟩,fun k x e=>⟨iH.ltm e,.inr (.inr (.inr ⟨x,e⟩))⟩,fun k=>.rfl⟩;rcases hk with⟨j,e⟩|e
         ·exact⟨(iH.owns k j e).2.1,.inr (.inl ⟨j,e⟩)⟩
         ·exact⟨by omega,.inl (by omega)⟩
        ·rintro k ⟨_,hk⟩ bV
         have xO:((∃o x,σ3.c k o=some x)∨∃x,σ3.m k=some x)→fx k∨(∃o x,σx.c k o=some x)∨(∃x,σx.m k=some x∧x≠cl):=fun h=>by
          rcases aJ.imm k h with⟨o,x,e⟩|⟨x,e⟩|⟨j,e⟩|e
          ·rcases Im.plus_c e with e|e
           ·exact .inl (PU k o x e)
           ·exact .inr (.inl ⟨o,x,e⟩)
          ·rcases Im.plus_m e with e|e
           ·exact .inl (xV k x e)
           ·exact .inr (.inr ⟨x,(Im.noM_m e).1,(Im.noM_m e).2⟩)
          ·exact .inl (H2 k j e)
          ·omega
         rcases hk with hk|⟨j,e⟩|e|e
         ·exact .inl (hF.old k hk)
         ·rcases aJ.ow k j e with⟨j',e⟩|e
          ·exact .inl (H2 k j' e)
          ·omega
         ·exact xO (.inl e)
         ·exact xO (.inr e)
        ·rintro k (⟨j,e⟩|e) bV
         ·rcases aJ.ow k j e with⟨j',e⟩|e
          ·exact(tp k).2 (.inl ⟨j',e⟩)
          ·omega
         ·rw[e];exact BU
   have kp:gN σ3 w0.heap.size aM.defers:=iA.defers.mono ((Im.plus_le1 _ _).trans (po.le.trans Cp.le));have If:q2.out=rb.out.map (Snap.mask mk)∧q2.ex=rb.ex.map (fun x=>(x.1,x.2.mask mk)):=by rw[←fN,←Ce];exact⟨rfl,rfl⟩
   cases e3 with
   |normal=>
    obtain⟨e4,e5⟩:=kA;have hT:q2.out=some (S3.mask mk):=by rw[If.1,e5];rfl
    have P4:=tu _ hT
    have iG:Inv C (q1.st ids) ρ3 σ3 rT yq w0 σR (fun _=>False) a3 w3:=by
        have:=Snap.meet_ok2 (x:=q1) (iF.maskR mk)
        rwa [P4] at this
    have iH:=iG.restore (ρ':=ρ1.put [] [] lo (lo.map ρ3.o)) (a':=aM) (Snap.noOpt _ _) kp (fun t ht=>Il t (by
        cases e:ak mk t with
        |false=>rfl
        |true=>
         have h9:=ajU (x:=q1) (S:=S3) (ids:=ids) e;rw[P4] at h9;rw[h9] at ht;cases ht)) (fun j hj=>H4 q1 (List.mem_cons_self ..) j hj)
    rcases IL with⟨hH,ρ',e6,e7⟩|⟨_,_,id,ρ',e6⟩
    ·rw[e4] at e6;cases e6;exact fin none q1 iH (by rw[hP];exact .inl ⟨by omega,e7,rfl,rfl,rfl⟩) (by simp[hH])
    ·rw[e4] at e6;cases e6
   |exit id=>
    obtain⟨e4,e5,e6⟩:=kA;have cA:(id,S3.mask mk)∈q2.ex:=by rw[If.2];exact List.mem_map.2 ⟨_,e6,rfl⟩
    have iH:=(iF.maskR mk).restore (ρ':=ρ1.put [] [] lo (lo.map ρ3.o)) (a':=aM) (Snap.noOpt _ _) kp (fun t ht=>Il t (by
        cases e:ak mk t with
        |false=>rfl
        |true=>rw[yI,if_pos e] at ht;cases ht)) (fun j hj=>H4 (S3.mask mk) (List.mem_cons_of_mem _ (List.mem_map.2 ⟨_,cA,rfl⟩)) j hj)
    rcases IL with⟨hH,ρ',e7,_⟩|⟨hH,nK,br,ρ',e7⟩
    ·rw[e4] at e7;cases e7
    ·subst hH;refine fin (some (.exit id)) (S3.mask mk) iH ?_ (by simp);rw[hP];refine .inr ⟨rfl,nK,rfl,_,id,ρ3,cO,?_,rfl,cA,.inl ⟨e5,rfl⟩⟩;rw[aA];simp only[PC.ev,jn];rw[nO,e4]
   |ret=>
    obtain⟨e4,e6⟩:=kA;have cA:(cj,S3.mask mk)∈q2.ex:=by rw[If.2];exact List.mem_map.2 ⟨_,e6,rfl⟩
    have iH:=(iF.maskR mk).restore (ρ':=ρ1.put [] [] lo (lo.map ρ3.o)) (a':=aM) (Snap.noOpt _ _) kp (fun t ht=>Il t (by
        cases e:ak mk t with
        |false=>rfl
        |true=>rw[yI,if_pos e] at ht;cases ht)) (fun j hj=>H4 (S3.mask mk) (List.mem_cons_of_mem _ (List.mem_map.2 ⟨_,cA,rfl⟩)) j hj)
    rcases IL with⟨hH,ρ',e7,_⟩|⟨hH,nK,br,ρ',e7⟩
    ·rw[e4] at e7;cases e7
    ·subst hH;refine fin (some .ret) (S3.mask mk) iH ?_ (by simp);rw[hP];refine .inr ⟨rfl,nK,rfl,_,cj,ρ3,cO,?_,rfl,cA,.inr ⟨rfl,rfl⟩⟩;rw[aA];simp only[PC.ev,jn];rw[nO,e4]
   |_=>exact kA.elim
  |exit id=>obtain⟨_,_,e6⟩:=gA;rw[PQ] at e6;cases e6
  |ret=>obtain⟨_,e6⟩:=gA;rw[PQ] at e6;cases e6
  |_=>exact gA.elim
 ·rintro e' w' ⟨⟨v,rfl⟩,fx,cx,hF⟩;rw[show({tmps:=a.tmps,defers:=[{target:=Target.collected w.heap.size,args:=#[]}]++a.defers}:Act)=aM from Ho];obtain⟨i',vo,Sx,st,pe,σa,rU,hva,e1,e2,iA,Ca,xr,BM,H2,PU,xV,tp⟩:=hF.ex;have h9:=congrArg List.length (congrArg D.l e1);simp only[D.l_list,List.length_take] at h9;have cv:(rec st pe).state≠.busy:=by
   rw[hP] at e2;rw[fu];rcases e2 with⟨_,_,_,e3,_⟩|⟨_,_,e3,_⟩<;>(rw[e3];intro e;cases e)
  have pf:(rec st pe).pending=pe:=by rw[fu]
  have HB:(Instr.endLoop L).run C.P w'=.ok pe (w'.putObj L (.loop {rec st pe with state:=.exhausted})):=(run_endLoop (P:=C.P) BM cv).trans (congrArg (fun z=>Result.ok z _) pf);have iF:=iA.putL (by omega:w0.heap.size≤L) xr (fun t' f c hf xI=>((oQ _ _ _ _ hf.F).1 L xI).2 rfl) (.loop {rec st pe with state:=.exhausted});rw[←hσR] at iF;have iG:=i1.ofRnd HC (fun k hk e=>by have:=afR k hk;omega) iF;have gC:SameBut wr a aM:=⟨by rw[xw],fun t _=>by rw[xw]⟩
  refine⟨pe,_,HB,?_⟩;rw[hP] at e2;rcases e2 with⟨e3,rfl,xt,_,rfl⟩|⟨rfl,nK,_,y,id,ρ',g1,g2,rfl,g4,g5⟩
  ·rcases hZ with⟨g1,g2⟩|⟨g1,_⟩
   ·obtain rfl:i'=m:=by omega
    rw[xt] at iG;exact⟨_,q1,g2,rfl,gC,_,_,_,iG⟩
   ·omega
  ·rcases hZ with⟨g6,_⟩|⟨_,y',br,ρ'',k1,k2,k3⟩
   ·omega
   ·rw[g1] at k1;cases k1;rw[g2] at k2;cases k2;rcases k3 with⟨k3,k4⟩|⟨k3,pe',k4,k5⟩
    ·rcases g5 with⟨_,rfl⟩|⟨g5,_⟩
     ·exact wpIn_exit ⟨_,Sx,k4,k3,List.mem_filter.2 ⟨g4,by simp[dO k3]⟩,gC,_,_,_,iG⟩
     ·exact absurd g5 k3
    ·rcases g5 with⟨g5,_⟩|⟨_,rfl⟩
     ·exact absurd k3 g5
     ·subst k3;rw[←pj,Option.bind_eq_some_iff] at k4;obtain⟨M,hM,Ik⟩:=k4;obtain⟨M',PG,nF⟩:=Js (⟨_,_,_,iG⟩:Good C w0 σ0 (Sx.st ids) _ (fun _=>False) aM _) q2.ex none g4;rw[hM] at PG;cases PG;obtain⟨σm,auS,QL,im⟩:=nF;exact wpIn_ret ⟨_,k5,Inv.retD hC (fun _=>rfl) jR Ik _ im rfl,gC⟩
theorem Rz {arr:Array MapEntry}{clock:Nat}(hb:jL arr clock){idx:List Nat}(hi:∀i,i∈idx→i<arr.size){i:Nat}{e:MapEntry}(he:arr[i]?=some e):(eB arr idx).contains e.born=true↔i∈idx:=by
 simp only[eB,List.contains_toArray,List.contains_iff_mem,List.mem_map];constructor
 ·rintro⟨j,hj,h⟩;have ae:=hi j hj;rw[Array.getElem?_eq_getElem ae] at h;simp only at h;have:=hb.2 j i arr[j] e (Array.getElem?_eq_getElem ae) he h;rw[←this];exact hj
 ·intro h;exact⟨i,h,by rw[he]⟩
theorem amW (arr:Array MapEntry)(idx:List Nat){i:Nat}{e:MapEntry}(he:arr[i]?=some e):(eB arr idx).push e.born=eB arr (idx++[i]):=by
 simp[eB,he]
theorem aj9 {P:Program}{w:World}{k m:Nat}{arr:Array MapEntry}{clock:Nat}{idx:List Nat}(hk:w.heap[k]?=some (.mapIter (some m) clock (eB arr idx) clock))(hm:w.heap[m]?=some (.map arr clock))(hb:jL arr clock)(hi:∀i,i∈idx→i<arr.size)(T:TypeId):
 ∃w1:World,(w1=w∨w1=w.drew)∧(((∀i,i<arr.size→i∈idx)∧(Instr.next (.pointer (some ⟨k,0,none⟩)) false T).run P w=.ok (.tuple #[.bool false]) w1)∨
  ∃i e,arr[i]?=some e∧i∉idx∧(Instr.next (.pointer (some ⟨k,0,none⟩)) false T).run P w=.ok (.tuple #[.bool true,e.key,e.val]) {w1 with heap:=w1.heap.setIfInBounds k (.mapIter (some m) clock (eB arr (idx++[i])) clock)}):=by
 have cA:∀{e:MapEntry},e∈arr→∃i:Nat,arr[i]?=some e:=fun he=>by
  obtain⟨i,hi,rfl⟩:=Array.mem_iff_getElem.1 he;exact⟨i,Array.getElem?_eq_getElem hi⟩
 have hold:∀(l:Array MapEntry),(∀e,e∈l→e.born<clock)→l.filter (fun x=>decide (x.born<clock))=l:=fun l h=>by
  rw[Array.filter_eq_self];intro e he;simpa using h e he
 have iQ:∀(l:Array MapEntry),(∀e,e∈l→e.born<clock)→l.filter (fun x=>decide (x.born≥clock))=#[]:=fun l h=>by
  rw[Array.filter_eq_empty_iff];intro e he;have:=h e he;simp;omega
 have PR:∀e,e∈arr→e.born<clock:=fun e he=>by obtain⟨i,hi⟩:=cA he;exact hb.1 i e hi
 have nE:(!(eB arr idx).isEmpty&& !arr.isEmpty&&arr.all (fun x=>decide (x.born≥clock)))=false:=by
  cases ha:arr.isEmpty
  ·have av:arr.size≠0:=by simpa using ha
   have:arr.all (fun x=>decide (x.born≥clock))=false:=by
        rw[Bool.eq_false_iff];intro h;rw[Array.all_eq_true] at h;have h0:=h 0 (by omega);have h1:=PR arr[0] (Array.getElem_mem _);simp at h0;omega
   rw[this,Bool.and_false]
  ·simp
 let left:=arr.filter fun e=> !(eB arr idx).contains e.born
 have hl:∀e,e∈left→e.born<clock:=fun e he=>PR e (Array.mem_filter.1 he).1;by_cases hz:left.size=0
 ·refine⟨w,.inl rfl,.inl ⟨fun i ae=>?_,?_⟩⟩
  ·by_cases bq:i∈idx
   ·exact bq
   ·exfalso;have Cc:arr[i]∈left:=Array.mem_filter.2 ⟨Array.getElem_mem _,by
     have:=Rz hb hi (Array.getElem?_eq_getElem ae);cases hc:(eB arr idx).contains arr[i].born with
     |false=>rfl
     |true=>exact absurd (this.1 hc) bq⟩
    have:left=#[]:=Array.eq_empty_of_size_eq_zero hz;rw[this] at Cc;simp at Cc
  ·have he:left=#[]:=Array.eq_empty_of_size_eq_zero hz;have iO:arr.filter (fun e=> !(eB arr idx).contains e.born)=#[]:=he;simp only[Instr.next,getObj,Sem.run_bind,Sem.run,hk,hm,Result.andThen_ok,nE,iO];simp[Question.forced,Sem.run]
 ·have fo:left.filter (fun x=>decide (x.born<clock))=left:=hold left hl;have gY:left.filter (fun x=>decide (x.born≥clock))=#[]:=iQ left hl;have hem:left.isEmpty=false:=by simpa using hz
  have key:∀c,c<left.size→∃i e,arr[i]?=some e∧i∉idx∧left[c]?=some e:=fun c hc=>by
   have Cc:left[c]∈left:=Array.getElem_mem _;obtain⟨h1,h2⟩:=Array.mem_filter.1 Cc;obtain⟨i,cK⟩:=cA h1;refine⟨i,left[c],cK,fun bq=>?_,Array.getElem?_eq_getElem hc⟩;rw[(Rz hb hi cK).2 bq] at h2;cases h2
  obtain⟨w1,c,ic,hc,mz⟩:∃w1 c,(w1=w∨w1=w.drew)∧c<left.size∧(choose (.mapNext left.size)).run P w=.ok c w1:=by
   by_cases h1:left.size≤1
   ·exact⟨w,0,.inl rfl,by omega,by simp[Question.forced,h1]⟩
   ·exact⟨w.drew,_,.inr rfl,Nat.mod_lt _ (by omega),by simp[Question.forced,h1,Question.cut];rfl⟩
  obtain⟨i,e,h1,h2,h3⟩:=key c hc;refine⟨w1,ic,.inr ⟨i,e,h1,h2,?_⟩⟩;have q8:arr.filter (fun e=> !(eB arr idx).contains e.born)=left:=rfl;have xM:(getObj k).run P w=.ok (.mapIter (some m) clock (eB arr idx) clock) w:=by simp[getObj,Sem.run,hk]
  have fp:(getObj m).run P w=.ok (.map arr clock) w:=by simp[getObj,Sem.run,hm]
  have bV:w1.heap[k]?=some (.mapIter (some m) clock (eB arr idx) clock):=by rcases ic with rfl|rfl<;>exact hk
  have P5:(setObj k (.mapIter (some m) clock ((eB arr idx).push e.born) clock)).run P w1=.ok () {w1 with heap:=w1.heap.setIfInBounds k (.mapIter (some m) clock ((eB arr idx).push e.born) clock)}:=by simp[setObj,Sem.run,bV]
  have afr:((if false=true then #[none] else #[])++Array.map some (left++#[]):Array (Option MapEntry))=left.map some:=by simp
  have gV:(left.map some)[c]?=some (some e):=by simp[h3]
  have P7:∀(vx:Array (Option MapEntry)) (cc:Nat),(choose (.mapNext vx.size)).run P w=.ok cc w1→vx[cc]?=some (some e)→(do
        match vx[←choose (.mapNext vx.size)]? with
        |some (some e)=>
         setObj k (.mapIter (some m) clock ((eB arr idx).push e.born) clock)
         pure (.tuple #[.bool true,e.key,e.val])
        |some none=>(pure (.tuple #[.bool false]):Sem Value)
        |none=>stuck "Next: no such candidate" :Sem Value).run P w=.ok (.tuple #[.bool true,e.key,e.val]) {w1 with heap:=w1.heap.setIfInBounds k (.mapIter (some m) clock ((eB arr idx).push e.born) clock)}:=by
   intro vx cc h4 h5;rw[Sem.run_bind,h4];simp only[Result.andThen_ok,h5];rw[Sem.run_bind,P5];rfl
  rw[amW arr idx h1] at P7 P5;have:=P7 (left.map some) c (by rw[Array.size_map];exact mz) gV;simp only[Instr.next];rw[Sem.run_bind,xM];simp only[Result.andThen_ok];rw[Sem.run_bind,fp];simp only[Result.andThen_ok,nE,q8,fo,gY,hem];rw[afr,if_neg (by decide)];exact this
theorem ach {P:Program}{w:World}{k m:Nat}{arr:Array MapEntry}{clock:Nat}{idx:List Nat}{i:Nat}{e:MapEntry}(hk:w.heap[k]?=some (.mapIter (some m) clock (eB arr (idx++[i])) clock))(hm:w.heap[m]?=some (.map arr clock))(hb:jL arr clock)(he:arr[i]?=some e):
 (Instr.entry (.pointer (some ⟨k,0,none⟩))).run P w=.ok (.tuple #[e.key,e.val]) w:=by
 have afo:(eB arr (idx++[i])).back?=some e.born:=by simp[eB,he]
 have xJ:arr.find? (fun x=>x.born==e.born)=some e:=by
  have ae:i<arr.size:=(Array.getElem?_eq_some_iff.1 he).1;have hei:arr[i]=e:=(Array.getElem?_eq_some_iff.1 he).2;rw[Array.find?_eq_some_iff_getElem];refine⟨by simp,i,ae,hei,fun j hj=>?_⟩;have ei:j<arr.size:=by omega
  cases hc:(arr[j].born==e.born) with
  |false=>rfl
  |true=>
   have:=hb.2 j i arr[j] e (Array.getElem?_eq_getElem ei) he (by simpa using hc);omega
 simp[Instr.entry,getObj,Sem.run_bind,Sem.run,hk,hm,afo,xJ]
theorem ajO {x y z:Code}{k:Nat}{p:MP}(h:tV x y k z=some p):∃i1 i2 o1 o2 o3 l,x=.region i1 p.ops1 false∧y=.cond (.tmp p.mo) .skip (.exit p.out)∧z=.region i2 p.ops2 false∧p.next=k∧p.ops1.toList=[o1,o2]∧p.ops2.toList=o3::l∧
 o1.dst=some p.nx∧o1.guard=none∧o1.op=.next (.tmp p.it) false∧o2.dst=some p.mo∧o2.guard=none∧o2.op=.extract (.tmp p.nx) 0∧o3.dst=some p.pr∧o3.guard=none∧o3.op=.entry (.tmp p.it)∧iu p.pr l []=some p.as∧
 p.it≠p.nx∧p.it≠p.mo∧p.it≠p.pr∧p.nx≠p.mo∧p.out≠cj∧k≠cj:=by
 unfold tV at h;split at h
 case h_2=>cases h
 rename_i i1 ops1 mo out i2 ops2;split at h
 case h_2=>cases h
 rename_i o1 o2 o3 l e1 e2;split at h
 case h_2=>cases h
 rename_i nx it mo' Tt pr Q5 d1 g1 q1 d2 g2 q2 d3 g3 q3;rw[Bool.cond_eq_ite] at h;split at h
 case isFalse=>cases h
 rename_i hc;simp only[Option.map_eq_some_iff] at h;obtain⟨as,h4,rfl⟩:=h;simp only[Bool.and_eq_true,Bool.not_eq_true'] at hc;obtain⟨⟨⟨⟨⟨⟨⟨⟨c1,c2⟩,c3⟩,c4⟩,c5⟩,c6⟩,c7⟩,c8⟩,c9⟩:=hc;have ne:∀{a b:Nat},Nat.beq a b=false→a≠b:=fun h e=>by subst e;simp at h
 obtain rfl:=Nat.eq_of_beq_eq_true c1;obtain rfl:=Nat.eq_of_beq_eq_true c2;obtain rfl:=Nat.eq_of_beq_eq_true c3;exact⟨i1,i2,o1,o2,o3,l,rfl,rfl,rfl,rfl,e1,e2,d1,g1,q1,d2,g2,q2,d3,g3,q3,h4,ne c4,ne c5,ne c6,ne c7,ne c8,ne c9⟩
theorem C3 {pr:Nat}:∀(l:List Oper) {acc as:List (Nat×Nat)},iu pr l acc=some as→∀x,x∈acc→x∈as
 |[],acc,as,h,x,hx=>by simp only[iu,Option.some.injEq] at h;subst h;exact hx
 |o::l,acc,as,h,x,hx=>by
  simp only[iu] at h;split at h
  case h_2=>cases h
  rw[Bool.cond_eq_ite] at h;split at h
  ·cases h
  split at h
  ·rw[Bool.cond_eq_ite] at h;split at h
   ·exact C3 l h x (List.mem_append_left _ hx)
   ·cases h
  ·simp only[Option.bind_eq_some_iff] at h;obtain⟨i,_,h⟩:=h;exact C3 l h x (List.mem_append_left _ hx)
  ·simp only[Option.bind_eq_some_iff] at h;obtain⟨i,_,h⟩:=h;exact C3 l h x (List.mem_append_left _ hx)
  ·cases h
theorem yG:∀{l:List (Nat×Nat)} {t i:Nat},pC l t=some i→(t,i)∈l
 |x::l,t,i,h=>by
  simp only[pC] at h;cases hb:Nat.beq x.1 t<;>simp only[hb,cond_true,cond_false] at h
  ·exact List.mem_cons_of_mem _ (yG h)
  ·cases h;have:=Nat.eq_of_beq_eq_true hb;subst this;exact List.mem_cons_self ..
theorem Rs:∀{l:List (Nat×Nat)} {t:Nat},(pC l t).isSome=false→∀x,x∈l→x.1≠t
 |y::l,t,h,x,hx=>by
  simp only[pC] at h;cases hb:Nat.beq y.1 t<;>simp only[hb,cond_true,cond_false] at h
  ·rcases List.mem_cons.1 hx with e|hx
   ·subst e;intro e;subst e;simp at hb
   ·exact Rs h x hx
  ·cases h
theorem Kc {pr:Nat}:∀(l:List Oper) {acc as:List (Nat×Nat)},iu pr l acc=some as→(∀x,x∈acc→x.2≤1)→∀x,x∈as→x∈acc∨(x.2≤1∧∃o,o∈l∧o.dst=some x.1)
 |[],acc,as,h,_,x,hx=>by simp only[iu,Option.some.injEq] at h;subst h;exact .inl hx
 |o::l,acc,as,h,ha,x,hx=>by
  simp only[iu] at h;split at h
  case h_2=>cases h
  rename_i d hd fb;rw[Bool.cond_eq_ite] at h;split at h
  ·cases h
  have go:∀(pt:Nat),pt≤1→iu pr l (acc++[(d,pt)])=some as→x∈acc∨(x.2≤1∧∃o',o'∈o::l∧o'.dst=some x.1):=by
   intro pt pg hp
   rcases Kc l hp (fun y hy=>by
        rcases List.mem_append.1 hy with h|h
        ·exact ha y h
        ·simp at h;subst h;exact pg) x hx with h|⟨h1,o',h2,h3⟩
   ·rcases List.mem_append.1 h with h|h
    ·exact .inl h
    ·simp at h;subst h;exact .inr ⟨pg,o,List.mem_cons_self ..,hd⟩
   ·exact .inr ⟨h1,o',List.mem_cons_of_mem _ h2,h3⟩
  split at h
  ·rw[Bool.cond_eq_ite] at h;split at h
   case isFalse=>cases h
   rename_i gV;simp only[Bool.and_eq_true] at gV;exact go _ (Nat.le_of_ble_eq_true gV.2) h
  ·simp only[Option.bind_eq_some_iff] at h;obtain⟨i,hi,h⟩:=h;exact go i (ha _ (yG hi)) h
  ·simp only[Option.bind_eq_some_iff] at h;obtain⟨i,hi,h⟩:=h;exact go i (ha _ (yG hi)) h
  ·cases h
theorem uw {P:Program}{ops:Array Oper}{i:Nat}{rest:List Nat}{o:Oper}{rd:Option Nat}{a:Act}{w w':World}{Q:Exit→Act→World→Prop}{v:Value}(ho:ops[i]?=some o)(hg:o.guard=none)(bk:nX o.op=true)(hx:(execOp a.eval o).run P w=.ok (.value v) w')
 (k:wpOpsIn (FR rd) 0 P ops Q rest (a.put o.dst v) w'):wpOpsIn (FR rd) 0 P ops Q (i::rest) a w:=by
 simp only[wpOpsIn,ho];rw[if_pos (by simp[Region.wanted,hg])];exact Ux bk (by unfold Oper.wp;rw[hx];exact k)
theorem amR {ops:Array Oper}{o:Oper}(ho:o∈ops.toList)(a:Act)(v:Value):SameBut (mj ops) a (a.put o.dst v):=by
 have:=SameBut.put a o.dst v a.defers;exact this.mono fun t e=>⟨o,ho,e⟩
theorem uA {a:Act}{d:Nat}{v:Value}(h:d<a.tmps.size):(a.put (some d) v).tmps.getD d undef=v:=by rw[zZ];simp[h]
theorem EB {a:Act}{d t:Nat}{v:Value}(h:t≠d):(a.put (some d) v).tmps.getD t undef=a.tmps.getD t undef:=by rw[zZ];simp[h]
theorem put_defers (a:Act)(d:Option Nat)(v:Value):(a.put d v).defers=a.defers:=by cases d<;>rfl
def yS (kv vv:Value)(i:Nat):Value:=if i=0 then kv else vv
theorem UD {P:Program}{ops:Array Oper}{rd:Option Nat}{Q:Exit→Act→World→Prop}{pr:Nat}{kv vv:Value}{w:World}:∀(l:List Oper) (acc as:List (Nat×Nat)) (i:Nat) (a:Act),iu pr l acc=some as→ops.toList.drop i=l→(∀x,x∈as→x.1<a.tmps.size)→a.tmps.getD pr undef=.tuple #[kv,vv]→
 (∀x,x∈acc→a.tmps.getD x.1 undef=yS kv vv x.2)→(∀a',SameBut (mj ops) a a'→a'.defers=a.defers→(∀x,x∈as→a'.tmps.getD x.1 undef=yS kv vv x.2)→Q .normal a' w)→wpOpsIn (FR rd) 0 P ops Q (List.range' i (ops.size-i)) a w
 |[],acc,as,i,a,h,hl,ae,lI,xx,hQ=>by
  simp only[iu,Option.some.injEq] at h;subst h;have:ops.size-i=0:=by
    have:=List.drop_eq_nil_iff.1 hl;simp at this;omega
  rw[this];exact hQ a (.refl _ _) rfl xx
 |o::l,acc,as,i,a,h,hl,ae,lI,xx,hQ=>by
  have hi:i<ops.toList.length:=by
   refine Nat.lt_of_not_le fun hle=>?_;rw[List.drop_eq_nil_iff.2 hle] at hl;cases hl
  rw[List.drop_eq_getElem_cons hi] at hl;have ho:ops[i]?=some o:=by
   have:ops.toList[i]=o:=by injection hl
   rw[←this];simp at hi ⊢
  have tC:ops.toList.drop (i+1)=l:=by injection hl
  have aD:ops.size-i=(ops.size-(i+1))+1:=by simp at hi;omega
  rw[aD,List.range'_succ];have cA:o∈ops.toList:=by simpa using Array.mem_of_getElem? ho
  simp only[iu] at h;split at h
  case h_2=>cases h
  rename_i d hd fb;rw[Bool.cond_eq_ite] at h;split at h
  ·cases h
  rename_i hc;simp only[Bool.or_eq_true,not_or,Bool.not_eq_true] at hc;have hdp:pr≠d:=fun e=>by subst e;simp at hc
  have hda:∀x,x∈acc→x.1≠d:=Rs hc.2;have go:∀(pt:Nat) (v:Value),iu pr l (acc++[(d,pt)])=some as→nX o.op=true→v=yS kv vv pt→(execOp a.eval o).run P w=.ok (.value v) w→wpOpsIn (FR rd) 0 P ops Q (i::List.range' (i+1) (ops.size-(i+1))) a w:=by
   intro pt v hp bk hv hx;have Hw:d<a.tmps.size:=ae _ (C3 l hp (d,pt) (by simp));refine uw ho fb bk hx ?_;have gC:=amR cA a v;rw[hd] at gC ⊢;refine UD l _ as (i+1) _ hp tC (fun x hx=>by rw[gC.size];exact ae x hx) (by rw[EB hdp];exact lI) (fun x hx=>?_) (fun a' h1 h2 h3=>hQ a' (gC.trans h1) (h2.trans (put_defers _ _ _)) h3);rcases List.mem_append.1 hx with hx|hx
   ·rw[EB (hda x hx)];exact xx x hx
   ·simp at hx;subst hx;rw[uA Hw];exact hv
  split at h
  ·rename_i t pt e;rw[Bool.cond_eq_ite] at h;split at h
   case isFalse=>cases h
   rename_i gV;simp only[Bool.and_eq_true] at gV;have ht:=Nat.eq_of_beq_eq_true gV.1;have pg:=Nat.le_of_ble_eq_true gV.2;subst ht;have bp:a.eval (.tmp t)=.tuple #[kv,vv]:=by simpa [Act.eval] using lI
   refine go pt (yS kv vv pt) h (by rw[e];rfl) rfl ?_;rcases(by omega:pt=0∨pt=1) with rfl|rfl<;>simp[execOp,e,bp,Instr.extract,yS]
  ·rename_i t e;simp only[Option.bind_eq_some_iff] at h;obtain⟨pt,q8,h⟩:=h;have:=xx _ (yG q8);exact go pt (a.eval (.tmp t)) h (by rw[e];rfl) (by simpa [Act.eval] using this) (by simp[execOp,e])
  ·rename_i t e;simp only[Option.bind_eq_some_iff] at h;obtain⟨pt,q8,h⟩:=h;have:=xx _ (yG q8);exact go pt (a.eval (.tmp t)) h (by rw[e];rfl) (by simpa [Act.eval] using this) (by simp[execOp,e])
  ·cases h
theorem IX (ids:List Nat)(J j:Nat)(S:Snap):((S.kill ids J).st ids).o j=if j=J then .dead else(S.st ids).o j:=by
 show cP ids (rC ids J S.os) j=_;have:∀(is:List Nat) (os:List Ob),cP is (rC is J os) j=if j=J then .dead else cP is os j:=by
  intro is
  induction is with
  |nil=>intro os;simp[rC,cP]
  |cons i is ih=>
   intro os;cases os with
   |nil=>simp[rC,cP]
   |cons o os=>
    simp only[rC,cP];cases hb:Nat.beq i j
    ·simp only[cond_false];exact ih os
    ·have:=Nat.eq_of_beq_eq_true hb;subst this;simp only[cond_true];by_cases cu:i=J
     ·subst cu;simp
     ·simp[dO cu,cu]
 exact this ids S.os
theorem N4 {N:Nat}{id:Nat}(B4:id≠cj){rm:Bool}{wr:Nat→Prop}{a:Act}{q:Res2}{x xi:Out}(mB:(∀t,t∈q.pc.modR→ak q.mr t=true)∧∀j,j∈q.pc.modO→j∈q.mo)(cO:q.pc.ev Φ N ρ=some xi)(bp:(eD ids id q).pc.ev Φ N ρ=some x){e:Exit}{a':Act}{w':World}
 (eH:eM C w0 σ0 ids fn s rm wr a q.out q.ex xi e a' w'):Exit.inBlock id (eM C w0 σ0 ids fn s rm wr a (eD ids id q).out (eD ids id q).ex x) e a' w':=by
 have P2:∀br S1,(br,S1)∈q.ex→br≠id→(br,S1)∈q.ex.filter fun x=> !Nat.beq x.1 id:=fun br S1 hm av=>List.mem_filter.2 ⟨hm,by simp[dO av]⟩;have main:∀(o:Option Snap) (lr lo:List Nat),kF id q.ex q.out=o→(∀M,o=some M→lr=gG M q.mr∧lo=fR ids M q.mo)→(PC.block id lr lo q.pc).ev Φ N ρ=some x→
        Exit.inBlock id (eM C w0 σ0 ids fn s rm wr a o (q.ex.filter fun x=> !Nat.beq x.1 id) x) e a' w':=by
  intro o lr lo ho hl bp;simp only[PC.ev] at bp;rw[cO] at bp
  have fin:∀{ρ1:Env} {a':Act} {w':World},(∃M,o=some M∧Good C w0 σ0 (M.st ids) ρ1 (fun _=>False) a' w')→xi.env?=some ρ1→x=.next (ρ.join lr lo ρ1)→SameBut wr a a'→
   eM C w0 σ0 ids fn s rm wr a o (q.ex.filter fun x=> !Nat.beq x.1 id) x .normal a' w':=by
        intro ρ1 a' w' hM qZ hx dG;obtain⟨M,hM,nF⟩:=hM;obtain⟨l1,l2⟩:=hl M hM;subst l1 l2;exact⟨_,M,hx,hM,dG,nF.joined (PC.ev_but q.pc ρ _ ρ1 cO qZ) mB.1 mB.2⟩
  cases e with
  |normal=>
   obtain⟨ρ1,S2,e1,e2,dG,fp⟩:=eH;subst e1;simp only[Option.some.injEq] at bp;refine fin ?_ rfl bp.symm dG;rw[e2] at ho;obtain⟨M,h1,h2⟩:=CK (id:=id) q.ex fp;rw[ho] at h1;exact⟨M,h1,h2⟩
  |exit br=>
   obtain⟨ρ1,S2,e1,e0,e2,dG,fp⟩:=eH;subst e1;simp only at bp;show if br=id then _ else _;by_cases cm:br=id
   ·subst cm;simp only[Nat.beq_refl,cond_true,Option.some.injEq] at bp;simp only[if_true];refine fin ?_ rfl bp.symm dG;rw[←ho];exact Js fp q.ex q.out e2
   ·simp only[dO cm,cond_false,Option.some.injEq] at bp;subst bp;simp only[cm,if_false];exact⟨ρ1,S2,rfl,e0,P2 _ _ e2 cm,dG,fp⟩
  |ret=>
   cases rm with
   |false=>
    have hy:=eH;obtain⟨d,e1,_⟩:=hy;subst e1;simp only[Option.some.injEq] at bp;subst bp;exact eH
   |true=>
    obtain⟨ρ1,S2,e1,e2,dG,fp⟩:=eH;subst e1;simp only[dO (fun e=>B4 e.symm:cj≠id),cond_false,Option.some.injEq] at bp;subst bp;exact⟨ρ1,S2,rfl,P2 _ _ e2 (fun e=>B4 e.symm),dG,fp⟩
  |_=>exact eH.elim
 unfold eD at bp ⊢;cases hm:kF id q.ex q.out with
 |none=>
  simp only[hm] at bp ⊢;exact main none [] [] hm (fun M e=>by cases e) bp
 |some M=>
  simp only[hm] at bp ⊢;exact main (some M) _ _ hm (fun M' e=>by cases e;exact⟨rfl,rfl⟩) bp
theorem N2 {N id:Nat}{q:Res2}{x:Out}(bp:(eD ids id q).pc.ev Φ N ρ=some x):∃xi,q.pc.ev Φ N ρ=some xi:=by
 unfold eD at bp;cases hm:kF id q.ex q.out<;>simp only[hm,PC.ev] at bp<;>cases cO:q.pc.ev Φ N ρ<;>first|exact⟨_,rfl⟩|(rw[cO] at bp;cases bp)
theorem VU {es:List (D×D)}{idx:List Nat}(hn:idx.Nodup)(ae:∀i,i∈idx→i<es.length)(aJ:∀i,i<es.length→i∈idx):(eJ es idx).Perm (fi (.map es)):=by
 have h1:idx.Perm (List.range es.length):=by
  rw[List.perm_ext_iff_of_nodup hn List.nodup_range];intro i;rw[List.mem_range];exact⟨ae i,aJ i⟩
 have h2:eJ es (List.range es.length)=fi (.map es):=by
  refine List.ext_getElem (by simp[eJ,fi,D.m]) fun i g1 g2=>?_;have hi:i<es.length:=by simpa [eJ] using g1
  simp[eJ,fi,D.m,List.getElem?_eq_getElem hi]
 rw[←h2];exact h1.map _
theorem amX {es:List (D×D)}{idx:List Nat}(hn:idx.Nodup)(ae:∀i,i∈idx→i<es.length):∃rest,(eJ es idx++rest).Perm (fi (.map es)):=by
 refine⟨eJ es ((List.range es.length).filter fun i=> !idx.contains i),?_⟩;have e:eJ es idx++eJ es ((List.range es.length).filter fun i=> !idx.contains i)=eJ es (idx++(List.range es.length).filter fun i=> !idx.contains i):=by simp[eJ]
 rw[e];refine VU ?_ (fun i hi=>?_) (fun i hi=>?_)
 ·rw[List.nodup_append];refine⟨hn,List.nodup_range.filter _,fun a ha b hb e=>?_⟩;subst e;have:=(List.mem_filter.1 hb).2;simp[ha] at this
 ·rcases List.mem_append.1 hi with h|h
  ·exact ae i h
  ·exact List.mem_range.1 (List.mem_filter.1 h).1
 ·by_cases h:i∈idx
  ·exact List.mem_append_left _ h
  ·exact List.mem_append_right _ (List.mem_filter.2 ⟨List.mem_range.2 hi,by simp[h]⟩)
theorem VV (es:List (D×D))(idx:List Nat){i:Nat}{p:D×D}(h:es[i]?=some p):eJ es (idx++[i])=eJ es idx++[.tup [p.1,p.2]]:=by simp[eJ,h]
theorem ajQ {N:Nat}{x y z code:Code}{k:Nat}{p:MP}(hp:tV x y k z=some p)(ihc:qw C Φ fn s n ids R N code){rm:Bool}{S:Snap}{r:Res2}
 (hr:tW ids n p (bK x++(bK y++(bK z++bK code))) (fun S=>comp C fn s n ids R rm code S) S=some r) {rd:Option Nat} {wr:Nat→Prop} {x0:Out} (eI:rm=false→rd=none∧σ0.fin) (hC:CtxOK C σ0) (hY:ma C Φ w0 σ0)
 (fg:∀t,t∈bK (.loop (.seq x (.seq y (.block k (.seq z code)))))→wr t) (hn:a.tmps.size=n) (hg:Good C w0 σ0 (S.st ids) ρ (fun _=>False) a w) (he:r.pc.ev Φ N ρ=some x0):
 (Code.loop (.seq x (.seq y (.block k (.seq z code))))).wpIn (FR rd) 0 C.P (eM C w0 σ0 ids fn s rm wr a r.out r.ex x0) a w:=by
 obtain⟨i1,i2,o1,o2,o3,l,rfl,rfl,rfl,hk,e1,e2,d1,g1,q1,d2,g2,q2,d3,g3,q3,jW,n1,n2,n3,n4,n5,n6⟩:=ajO hp;subst hk;unfold tW at hr;split at hr
 case h_2=>cases hr;exact absurd he (jE _ _ _ _)
 rename_i J hJ;split at hr
 case h_2=>cases hr;exact absurd he (jE _ _ _ _)
 rename_i kt et B8;simp only at hr;split at hr
 case h_2=>cases hr;exact absurd he (jE _ _ _ _)
 rename_i q hq;rw[Bool.cond_eq_ite] at hr;split at hr
 case isFalse=>cases hr;exact absurd he (jE _ _ _ _)
 rename_i qW;cases hr;generalize Cv:bK (.region i1 p.ops1 false)++(bK (.cond (.tmp p.mo) .skip (.exit p.out))++(bK (.region i2 p.ops2 false)++bK code))=ws at*;simp only[Bool.and_eq_true,Bool.not_eq_true'] at qW;obtain⟨⟨⟨⟨⟨⟨⟨⟨c1,c2⟩,c3⟩,c4⟩,c5⟩,c6⟩,c7⟩,c8⟩,c9⟩:=qW;have hex:q.2.ex=[]:=List.isEmpty_iff.1 c1;have Px:J∉q.2.mo:=fun h=>by rw[(lM _ _).2 h] at c2;cases c2
 simp only[Q0,Bool.and_eq_true,Bool.not_eq_true'] at c3;obtain⟨⟨Zv,Zw⟩,Zx⟩:=c3;have ag1:q.1.rs.getD p.it .none=.obj J 0:=Sh.beq_eq _ _ Zv;have Cj:cP ids q.1.os J=.it kt et:=Ob.beq_eq _ _ Zw;have agS:∀t,t∈p.as.map (·.1)→t<n:=fun t ht=>by have:=List.all_eq_true.1 c5 t ht;rwa [Nat.blt_eq] at this
 have hnx:p.nx<n:=by rwa [Nat.blt_eq] at c6
 have HS:p.mo<n:=by rwa [Nat.blt_eq] at c7
 have lI:p.pr<n:=by rwa [Nat.blt_eq] at c8
 have xY:=Nat.eq_of_beq_eq_true c9;obtain⟨hs,tu,bq⟩:=yA (C:=C) (w0:=w0) (σ0:=σ0) (ids:=ids) 8 hq;simp only[Option.map_eq_some_iff] at hs;obtain⟨q0,ri,fN⟩:=hs;obtain⟨qS,qR⟩:=q;simp only at*;subst fN;generalize hm:rI ws=m at*;generalize q9:fR ids qS (eD ids p.next q0).mo=lo at*;have HU:=N3 (ids:=ids) (id:=p.next) (oH code ri);have agj:∀j,j∈lo→j∈(eD ids p.next q0).mo:=fun j hj=>by rw[←q9] at hj;exact tX hj
 have atp:J∉lo:=fun h=>Px (agj J h);have yi:∃u4,Ev ((eD ids p.next q0).pc.ev Φ N) ρ J (p.as.map (·.1)) (p.as.map (·.2)) lo u4∧x0=.exit p.out (ρ.put [] [] lo u4):=by
  simp only[PC.ev] at he;cases lI:Ew ((eD ids p.next q0).pc.ev Φ N) ρ J (p.as.map (·.1)) (p.as.map (·.2)) lo with
  |none=>rw[lI] at he;cases he
  |some y=>
   obtain⟨u4,h1,rfl⟩:=rW.1 lI;rw[lI] at he;simp only[Option.some.injEq] at he;exact⟨u4,h1,he.symm⟩
 obtain⟨u4,⟨ye,afd⟩,hx0⟩:=yi;generalize fL:(ρ.o J).tget 1=es at*
 have ic:∀o,o∈p.ops1.toList→∀d,o.dst=some d→d∈ws:=fun o ho d hd=>by
  rw[←Cv];exact List.mem_append_left _ (List.mem_filterMap.2 ⟨o,ho,hd⟩)
 have ej:∀o,o∈p.ops2.toList→∀d,o.dst=some d→d∈ws:=fun o ho d hd=>by
  rw[←Cv];exact List.mem_append_right _ (List.mem_append_right _ (List.mem_append_left _ (List.mem_filterMap.2 ⟨o,ho,hd⟩)))
 have hwc:∀d,d∈bK code→d∈ws:=fun d hd=>by
  rw[←Cv];exact List.mem_append_right _ (List.mem_append_right _ (List.mem_append_right _ hd))
 have II:∀t,t∈ws→wr t:=fun t ht=>fg t (by rw[←Cv] at ht;exact ht);have nN:∀t,t∈ws→ak m t=true:=fun t ht=>by rw[←hm];exact N1 ht
 have HR:∀t,ak m t=true→((qS.mask m).st ids).r t=.none:=fun t ht=>by rw[yI,if_pos ht]
 have agp:∀t,isNone (((qS.mask m).st ids).r t)=false→ak m t=false:=fun t ht=>by
  cases hb:ak m t with
  |false=>rfl
  |true=>rw[HR t hb] at ht;cases ht
 have ia:((qS.mask m).st ids).r p.it=.obj J 0:=by
  rw[yI,Zx];show bU (qS.rs.getD p.it .none)=_;rw[ag1];rfl
 have bX:((qS.mask m).st ids).o J=.it kt et:=Cj;have gi:p.ops1[0]?=some o1:=by rw[←Array.getElem?_toList,e1];rfl
 have gz:p.ops1[1]?=some o2:=by rw[←Array.getElem?_toList,e1];rfl
 have ho3:p.ops2[0]?=some o3:=by rw[←Array.getElem?_toList,e2];rfl
 have ahg:List.range p.ops1.size=[0,1]:=by
  have:p.ops1.size=2:=by rw[←Array.length_toList,e1];rfl
  rw[this];rfl
 have Iv:List.range p.ops2.size=0::List.range' 1 (p.ops2.size-1):=by
  have:p.ops2.size=l.length+1:=by rw[←Array.length_toList,e2];rfl
  rw[this,List.range_eq_range',List.range'_succ];rfl
 have key:∀(kk:Nat) (done vo:List D) (a':Act) (w':World),SameBut wr a a'→Good C w0 σ0 ((qS.mask m).st ids) ((ρ.put [] [] lo vo).setO J (.tup [.list done,es])) (fun _=>False) a' w'→
  (∀ys,(done++ys).Perm (fi es)→iU ((eD ids p.next q0).pc.ev Φ N) ρ J es (p.as.map (·.1)) (p.as.map (·.2)) lo ys done vo=some u4)→done.length+kk=(fi es).length+1→
  Code.roundsIn (FR rd) 0 C.P (.seq (.region i1 p.ops1 false) (.seq (.cond (.tmp p.mo) .skip (.exit p.out)) (.block p.next (.seq (.region i2 p.ops2 false) code)))) (eM C w0 σ0 ids fn s rm wr a none [(p.out,(qS.mask m).kill ids J)] x0) kk a' w':=by
  intro kk
  induction kk with
  |zero=>
   intro done vo a' w' _ dR _ hlen;exfalso;obtain⟨σ,own,hv,h⟩:=dR;have aW:=h.objs J;rw[bX] at aW;obtain⟨kb,mb,arr,clock,eE,idx,h1,h2,h3,av,h4,h5,h6,h7,h8,h9,km,nB⟩:=aW;simp only[Env.setO,aI] at h6;injection h6 with h6;injection h6 with qP qQ;injection qQ with qQ _;injection qP with qP;subst qP;subst qQ;have hle:idx.length≤arr.size:=by
        have:=List.Nodup.length_le_of_subset h7 (l₂:=List.range arr.size) (fun i hi=>List.mem_range.2 (h8 i hi));simpa using this
   simp[eJ,fi,D.m] at hlen;omega
  |succ kk ih=>
   intro done vo a' w' gC dR aJ hlen;rw[roundsIn_succ];obtain⟨σ,own,hv,h⟩:=dR;have aW:=h.objs J;rw[bX] at aW;obtain⟨kb,mb,arr,clock,eE,idx,h1,h2,h3,av,h4,h5,h6,h7,h8,h9,km,nB⟩:=aW;simp only[Env.setO,aI] at h6;injection h6 with h6;injection h6 with qP qQ;injection qQ with qQ _;injection qP with qP;subst qP;subst qQ;have gk:=h.regs p.it;rw[ia] at gk;have B6:a'.eval (.tmp p.it)=.pointer (some ⟨kb,0,none⟩):=by
        have:=gk.2 rfl;simp only[Act.eval];rw[this];exact h1
   have mH:a'.tmps.size=n:=gC.size.trans hn;obtain⟨w1,QN,Ch⟩:=aj9 (P:=C.P) h5 h4 km h8 o1.type;have yt:Below w'.heap.size w' w1:=by rcases QN with rfl|rfl;exact .refl _ _;exact⟨rfl,rfl,rfl,Nat.le_refl _,fun _ _=>rfl⟩
   have tL:w1.heap=w'.heap:=by rcases QN with rfl|rfl<;>rfl
   have Qd:kb<w'.heap.size:=(h.owns kb J h2).2.1;have nK:mb<w'.heap.size:=(h.owns mb J h3).2.1;refine wpIn_seq (wpIn_region ?_);rw[ahg];rcases Ch with⟨HD,af⟩|⟨i,e,nG,B3,af⟩
   ·
        refine uw gi g1 (by rw[q1];rfl) (v:=.tuple #[.bool false]) (w':=w1) (by simp only[execOp,q1,B6];simp[af]) ?_;rw[d1]
        refine uw gz g2 (by rw[q2];rfl) (v:=.bool false) (w':=w1) (by
         have:(a'.put (some p.nx) (.tuple #[.bool false])).eval (.tmp p.nx)=.tuple #[.bool false]:=by simp only[Act.eval];exact uA (by omega)
         simp only[execOp,q2,this];simp[Instr.extract]) ?_
        rw[d2];simp only[wpOpsIn]
        have rl:SameBut (fun t=>t∈ws) a' ((a'.put (some p.nx) (.tuple #[.bool false])).put (some p.mo) (.bool false)):=by
         have s1:=SameBut.put a' (some p.nx) (.tuple #[.bool false]) a'.defers;have s2:=SameBut.put (a'.put (some p.nx) (.tuple #[.bool false])) (some p.mo) (.bool false) (a'.put (some p.nx) (.tuple #[.bool false])).defers;exact(s1.mono fun t e=>by cases e;exact ic o1 (by rw[e1];simp) _ d1).trans (s2.mono fun t e=>by cases e;exact ic o2 (by rw[e1];simp) _ d2)
        generalize xu:(a'.put (some p.nx) (.tuple #[.bool false])).put (some p.mo) (.bool false)=a1 at rl;have HT:a1.eval (.tmp p.mo)=.bool false:=by
         rw[←xu];simp only[Act.eval];exact uA (by rw[size_put];omega)
        have kp:a1.defers=a'.defers:=by rw[←xu,put_defers,put_defers]
        refine wpIn_seq (wpIn_cond_false HT (wpIn_exit ?_));have agN:(eJ eE idx++[]).Perm (fi (.map eE)):=by
         rw[List.append_nil];exact VU h7 (fun i hi=>by rw[h9];exact h8 i hi) (fun i hi=>HD i (by omega))
        have QM:=aJ [] agN;simp only[iU,Option.some.injEq] at QM;subst QM;refine⟨_,_,hx0,n5,List.mem_singleton.2 rfl,gC.trans (rl.mono II),?_⟩;refine⟨σ,own,hv,?_⟩
        refine h.step (S':=((qS.mask m).kill ids J).st ids) (ρ':=ρ.put [] [] lo vo) (A':=fun _=>False) (fun j=>j=J) kp (.refl σ) (h.ok.below yt) (fun _ _ _ hx=>.inl hx) (fun _ _ hx=>.inl hx) (yt.mono h.below.size) ⟨fun _=>Nat.le_refl _,fun _ _=>rfl⟩
         (fun j hj=>⟨by rw[IX,if_neg hj],by simp[Env.setO,ba _ _ hj],rfl,fun b hb=>⟨hb,by rw[tL]⟩⟩) (fun j hj=>?_) (fun b j hb=>?_) (fun _=>id) (fun t=>?_) (fun _ hf=>hf.elim) (fun b hb _=>by rw[tL]) (fun b j hb=>.inl ⟨j,hb⟩) (fun j hj=>?_)
        ·rw[IX,if_pos hj];trivial
        ·obtain⟨b1,b2,b3,b4⟩:=h.owns b j hb;exact⟨b1,by rw[tL];exact b2,b3,b4⟩
        ·by_cases ht:t∈ws
         ·refine .inr ⟨?_,fun gs s' e=>absurd e (Snap.noOpt _ _ t gs s')⟩;have:(((qS.mask m).kill ids J).st ids).r t=.none:=HR t (nN t ht);rw[this];trivial
         ·exact .inl ⟨rfl,rl.get t ht,rfl⟩
        ·rw[IX,if_pos hj];intro e;cases e
   ·
        obtain⟨pd,Ic⟩:∃pd,eE[i]?=some pd:=⟨_,List.getElem?_eq_getElem (by rw[h9];exact(Array.getElem?_eq_some_iff.1 nG).1)⟩
        obtain⟨bV,bW⟩:=nB i e pd nG Ic;generalize tM:({w1 with heap:=w1.heap.setIfInBounds kb (.mapIter (some mb) clock (eB arr (idx++[i])) clock)}:World)=w2 at af;have QO:w2.heap[kb]?=some (.mapIter (some mb) clock (eB arr (idx++[i])) clock):=by rw[←tM];simp[tL,Qd]
        have tN:∀b,b≠kb→w2.heap[b]?=w'.heap[b]?:=fun b hb=>by rw[←tM];simp only[tL];rw[Array.getElem?_setIfInBounds_ne (Ne.symm hb)]
        have at3:w2.heap.size=w'.heap.size:=by rw[←tM];simp[tL]
        have QP:w2.heap[mb]?=some (.map arr clock):=by rw[tN mb (Ne.symm av)];exact h4
        refine uw gi g1 (by rw[q1];rfl) (v:=.tuple #[.bool true,e.key,e.val]) (w':=w2) (by simp only[execOp,q1,B6];simp[af]) ?_;rw[d1]
        refine uw gz g2 (by rw[q2];rfl) (v:=.bool true) (w':=w2) (by
         have:(a'.put (some p.nx) (.tuple #[.bool true,e.key,e.val])).eval (.tmp p.nx)=.tuple #[.bool true,e.key,e.val]:=by simp only[Act.eval];exact uA (by omega)
         simp only[execOp,q2,this];simp[Instr.extract]) ?_
        rw[d2];simp only[wpOpsIn]
        have rl:SameBut (fun t=>t∈ws) a' ((a'.put (some p.nx) (.tuple #[.bool true,e.key,e.val])).put (some p.mo) (.bool true)):=by
         have s1:=SameBut.put a' (some p.nx) (.tuple #[.bool true,e.key,e.val]) a'.defers;have s2:=SameBut.put (a'.put (some p.nx) (.tuple #[.bool true,e.key,e.val])) (some p.mo) (.bool true) (a'.put (some p.nx) (.tuple #[.bool true,e.key,e.val])).defers;exact(s1.mono fun t e=>by cases e;exact ic o1 (by rw[e1];simp) _ d1).trans (s2.mono fun t e=>by cases e;exact ic o2 (by rw[e1];simp) _ d2)
        have Qc:(((a'.put (some p.nx) (.tuple #[.bool true,e.key,e.val])).put (some p.mo) (.bool true))).eval (.tmp p.it)=.pointer (some ⟨kb,0,none⟩):=by
         simp only[Act.eval] at B6 ⊢;rw[EB n2,EB n1];exact B6
        generalize xu:(a'.put (some p.nx) (.tuple #[.bool true,e.key,e.val])).put (some p.mo) (.bool true)=a1 at rl Qc;have HT:a1.eval (.tmp p.mo)=.bool true:=by
         rw[←xu];simp only[Act.eval];exact uA (by rw[size_put];omega)
        have kp:a1.defers=a'.defers:=by rw[←xu,put_defers,put_defers]
        refine wpIn_seq (wpIn_cond_true HT (wpIn_skip ?_));refine wpIn_block (wpIn_seq (wpIn_region ?_));rw[Iv];refine uw ho3 g3 (by rw[q3];rfl) (v:=.tuple #[e.key,e.val]) (w':=w2) (by simp only[execOp,q3,Qc];simp[ach QO QP km nG]) ?_;rw[d3]
        have QC:SameBut (fun t=>t∈ws) a1 (a1.put (some p.pr) (.tuple #[e.key,e.val])):=
         (SameBut.put a1 (some p.pr) (.tuple #[e.key,e.val]) a1.defers).mono fun t e=>by cases e;exact ej o3 (by rw[e2];simp) _ d3
        have QF:a1.tmps.size=n:=rl.size.trans mH;refine UD (kv:=e.key) (vv:=e.val) l [] p.as 1 _ jW (by rw[e2];rfl) (fun x hx=>by rw[QC.size,QF];exact agS _ (List.mem_map.2 ⟨x,hx,rfl⟩)) (uA (by rw[QF];exact lI)) (fun x hx=>by cases hx) (fun a2 dG cX agL=>?_);have Ip:SameBut (fun t=>t∈ws) a' a2:=(rl.trans QC).trans (dG.mono fun t ⟨o,ho,hd⟩=>ej o ho t hd);have afG:a2.defers=a'.defers:=by rw[cX,put_defers,kp]
        have ahe:Good C w0 σ0 (((qS.mask m).start (p.as.map (·.1)) (p.as.map fun x=>bif Nat.beq x.2 0 then kt else et)).st ids) ((ρ.put (p.as.map (·.1)) ((p.as.map (·.2)).map (D.tup [pd.1,pd.2]).tget) lo vo).setO J (.tup [.list (eJ eE idx++[.tup [pd.1,pd.2]]),.map eE])) (fun _=>False) a2 w2:=by
         have xA:Below w0.heap.size w' w2:=⟨by rw[←tM];exact yt.os,by rw[←tM];exact yt.tape,by rw[←tM];exact yt.output,by omega,fun b hb=>tN b (fun e=>by subst e;have:=(h.owns b J h2).1;omega)⟩
         have gj:σ.ok w2:=by
          refine⟨fun b o v hc=>?_,fun b es hc=>?_⟩
          ·have Hr:b≠kb:=fun e=>by subst e;rw[(h.owns b J h2).2.2.1 o] at hc;cases hc
           have:=h.ok.c b o v hc;simp only[World.cell?] at this ⊢;rw[tN b Hr];exact this
          ·have Hr:b≠kb:=fun e=>by subst e;rw[(h.owns b J h2).2.2.2] at hc;cases hc
           exact(h.ok.m b es hc).keep (tN b Hr)
         have eH:∀j,((ρ.put (p.as.map (·.1)) ((p.as.map (·.2)).map (D.tup [pd.1,pd.2]).tget) lo vo).setO J (.tup [.list (eJ eE idx++[.tup [pd.1,pd.2]]),.map eE])).o j=if j=J then .tup [.list (eJ eE idx++[.tup [pd.1,pd.2]]),.map eE] else putL ρ.o lo vo j:=fun j=>by
          simp only[Env.setO,eC];rfl
         refine⟨σ,own,hv,h.step (fun j=>j=J) afG (.refl σ) gj (fun _ _ _ hx=>.inl hx) (fun _ _ hx=>.inl hx) xA ⟨fun _=>Nat.le_refl _,fun _ _=>rfl⟩
          (fun j hj=>⟨rfl,by rw[eH,if_neg hj];simp[Env.setO,ba _ _ hj,Env.put],rfl,fun b hb=>⟨hb,tN b (fun e=>by subst e;rw[h2] at hb;cases hb;exact hj rfl)⟩⟩) (fun j hj=>?_) (fun b j hb=>?_) (fun _=>id) (fun t=>?_) (fun _ hf=>hf.elim)
          (fun b hb ho=>tN b (fun e=>by subst e;rw[h2] at ho;cases ho)) (fun b j hb=>.inl ⟨j,hb⟩) (fun j hj=>?_)⟩
         ·subst hj;have:(((qS.mask m).start (p.as.map (·.1)) (p.as.map fun x=>bif Nat.beq x.2 0 then kt else et)).st ids).o j=.it kt et:=Cj;rw[this];refine⟨kb,mb,arr,clock,eE,idx++[i],h1,h2,h3,av,QP,QO,by rw[eH,if_pos rfl,VV eE idx Ic],?_,?_,h9,km,nB⟩
          ·rw[List.nodup_append];exact⟨h7,by simp,fun a ha b hb e=>by simp at hb;subst hb;subst e;exact B3 ha⟩
          ·intro i' cK;rcases List.mem_append.1 cK with h|h
           ·exact h8 i' h
           ·simp at h;subst h;exact(Array.getElem?_eq_some_iff.1 nG).1
         ·obtain⟨b1,b2,b3,b4⟩:=h.owns b j hb;exact⟨b1,by omega,b3,b4⟩
         ·have hc:Compat ((qS.mask m).st ids) hv (((qS.mask m).start (p.as.map (·.1)) (p.as.map fun x=>bif Nat.beq x.2 0 then kt else et)).st ids) hv:=⟨fun _=>Nat.le_refl _,fun _ _=>rfl⟩
          refine .inr ⟨?_,fun gs s' e=>absurd e (Snap.noOpt _ _ t gs s')⟩;show ay C _ _ σ hv (bU ((m4 (p.as.map (·.1)) (p.as.map fun x=>bif Nat.beq x.2 0 then kt else et) ((qS.mask m).rs.map nH)).getD t .none)) (a2.tmps.getD t undef) (putL ρ.r (p.as.map (·.1)) ((p.as.map (·.2)).map (D.tup [pd.1,pd.2]).tget) t);rcases LN (p.as.map (·.1)) (p.as.map fun x=>bif Nat.beq x.2 0 then kt else et) ((qS.mask m).rs.map nH) (by simp) c4 t with e|⟨sS,oI⟩|⟨i',y,sS,oI,GM⟩
          ·rw[e];trivial
          ·rw[oI,uz _ _ _ _ sS];have e3:((qS.mask m).rs.map nH).getD t .none=nH ((qS.mask m).rs.getD t .none):=by
            simp only[List.getD_eq_getElem?_getD,List.getElem?_map];cases(qS.mask m).rs[t]?<;>rfl
           rw[e3];by_cases QI:t∈ws
           ·have tE:=HR t (nN t QI);change bU ((qS.mask m).rs.getD t .none)=.none at tE;generalize (qS.mask m).rs.getD t .none=s' at tE;cases s'<;>simp[bU] at tE<;>trivial
           ·have hr:=h.regs t;change ay C _ _ σ hv (bU ((qS.mask m).rs.getD t .none)) _ (ρ.r t) at hr;rw[Ip.get t QI];generalize (qS.mask m).rs.getD t .none=s' at hr;cases s' with
            |yv=>trivial
            |opt gs s=>trivial
            |none=>trivial
            |fclo f c=>exact ay.mono' (.refl σ) hc (fun _ _ e=>by cases e) hr
            |dat t=>exact hr
            |obj j v=>exact ay.mono' (.refl σ) hc (fun _ _ e=>by cases e) hr
            |ptr j v o=>exact ay.mono' (.refl σ) hc (fun _ _ e=>by cases e) hr
            |eptr j v o q=>exact ay.mono' (.refl σ) hc (fun _ _ e=>by cases e) hr
          ·rw[GM];have af3:i'<p.as.length:=by have:=(List.getElem?_eq_some_iff.1 sS).1;simpa using this
           rw[KB _ (p.as.map (·.1)) _ i' t (j6 c4) (by simp) sS];obtain⟨xa,jn⟩:∃xa,p.as[i']?=some xa:=⟨_,List.getElem?_eq_getElem af3⟩
           simp only[List.getElem?_map,jn,Option.map_some,Option.some.injEq] at sS oI;subst sS;subst oI;rw[agL xa (List.mem_of_getElem? jn)];have hd:((p.as.map (·.2)).map (D.tup [pd.1,pd.2]).tget).getD i' .none=(D.tup [pd.1,pd.2]).tget xa.2:=by simp[List.getD_eq_getElem?_getD,jn]
           rw[hd];have h2x:xa.2≤1:=by
            rcases Kc l jW (fun x hx=>by cases hx) xa (List.mem_of_getElem? jn) with h|h
            ·cases h
            ·exact h.1
           rcases(by omega:xa.2=0∨xa.2=1) with e0|e0<;>rw[e0]
           ·exact bV
           ·exact bW
         ·have:(((qS.mask m).start (p.as.map (·.1)) (p.as.map fun x=>bif Nat.beq x.2 0 then kt else et)).st ids).o j=.it kt et:=by rw[hj];exact Cj
          rw[this];intro e;cases e
        have agM:=VV eE idx Ic;obtain⟨rest,ph⟩:∃rest,(eJ eE idx++(D.tup [pd.1,pd.2])::rest).Perm (fi (.map eE)):=by
         obtain⟨rest,hr⟩:=amX (es:=eE) (idx:=idx++[i]) (by rw[List.nodup_append];exact⟨h7,by simp,fun a ha b hb e=>by simp at hb;subst hb;subst e;exact B3 ha⟩) (fun i' cK=>by
          rcases List.mem_append.1 cK with h|h
          ·rw[h9];exact h8 i' h
          ·simp at h;subst h;rw[h9];exact(Array.getElem?_eq_some_iff.1 nG).1)
         rw[agM] at hr;exact⟨rest,by simpa using hr⟩
        have gy:=aJ _ ph;simp only[iU] at gy;split at gy
        case h_2=>cases gy
        rename_i ρ2 BS;obtain⟨xi,cO⟩:=N2 BS;refine wpIn_mono (ihc rm _ q0 ri rd w0 σ0 wr _ xi a2 w2 eI hC hY (fun t ht=>II t (hwc t ht)) (Ip.size.trans mH) ahe cO) fun ee a3 w3 eH=>?_;have gB:=N4 n6 (oH code ri) cO BS eH;have conv:∀ee a3 w3,eM C w0 σ0 ids fn s rm wr a2 (eD ids p.next q0).out (eD ids p.next q0).ex (.next ρ2) ee a3 w3→Exit.then (Code.roundsIn (FR rd) 0 C.P (.seq (.region i1 p.ops1 false) (.seq (.cond (.tmp p.mo) .skip (.exit p.out)) (.block p.next (.seq (.region i2 p.ops2 false) code)))) (eM C w0 σ0 ids fn s rm wr a none [(p.out,(qS.mask m).kill ids J)] x0) kk) (eM C w0 σ0 ids fn s rm wr a none [(p.out,(qS.mask m).kill ids J)] x0) ee a3 w3:=by
         intro ee a3 w3 ho;cases ee with
         |normal=>
          obtain⟨ρ3,T,f1,f2,f3,f4⟩:=ho;cases f1;refine ih (eJ eE idx++[.tup [pd.1,pd.2]]) (lo.map ρ2.o) a3 w3 (gC.trans ((Ip.mono II).trans f3)) ?_ (fun ys rz=>?_) (by simp at hlen ⊢;omega)
          ·have nF:Good C w0 σ0 (qS.st ids) ρ2 (fun _=>False) a3 w3:=by
            have:=f4.meet2 (x:=qS)
            rwa [tu T f2] at this
           obtain⟨σ3,rT,yq,iN⟩:=nF;have Ht:=PC.ev_but _ _ _ ρ2 BS rfl;refine⟨σ3,rT,yq,(iN.maskR m).env (Snap.noOpt _ _) (fun t ht=>?_) (fun j hj=>?_)⟩
           ·have tE:=agp t ht
            have cM:t∉(eD ids p.next q0).pc.modR:=fun dE=>by
                 have:=HU.1 t dE;have h2:ak (Nat.lor m (eD ids p.next q0).mr) t=true:=by rw[dB,this,Bool.or_true]
                 rw[xY,tE] at h2;cases h2
            rw[Ht.r t cM]
            have mC:t∉p.as.map (·.1):=fun aN=>by
                 have:ak m t=true:=by
                  refine nN t ?_;obtain⟨xa,jn,rfl⟩:=List.mem_map.1 aN;rcases Kc l jW (fun x hx=>by cases hx) xa jn with h|⟨_,o,ho,hd⟩
                  ·cases h
                  ·exact ej o (by rw[e2];exact List.mem_cons_of_mem _ ho) _ hd
                 rw[tE] at this;cases this
            show ρ.r t=putL ρ.r (p.as.map (·.1)) _ t;rw[uz _ _ _ _ mC]
           ·have hjd:kD (cP ids qS.os j)=false:=hj;show bC (putL ρ.o lo (lo.map ρ2.o)) J _ j=ρ2.o j;by_cases tz:j=J
            ·subst tz;rw[aI,Ht.o j (fun dE=>Px (HU.2 j dE))];simp[Env.setO,aI]
            ·rw[ba _ _ tz,og];split
             ·rfl
             ·rename_i ei;have cM:j∉(eD ids p.next q0).pc.modO:=fun dE=>ei (by rw[←q9];exact List.mem_filter.2 ⟨HU.2 j dE,by rw[hjd];rfl⟩);rw[Ht.o j cM];simp only[Env.setO,ba _ _ tz];exact(KC _ _ _ _ ei).symm
          ·have:=aJ ((D.tup [pd.1,pd.2])::ys) (by simpa using rz);simp only[iU,BS] at this;exact this
         |exit id=>obtain⟨ρ3,T,f1,_⟩:=ho;cases f1
         |ret=>
          cases rm with
          |false=>obtain⟨d,f1,_⟩:=ho;cases f1
          |true=>obtain⟨ρ3,T,f1,_⟩:=ho;cases f1
         |_=>exact ho.elim
        cases ee with
        |exit id=>
         simp only[Exit.inBlock] at gB;show if id=p.next then _ else _;split
         ·rename_i cm;rw[if_pos cm] at gB;exact conv .normal a3 w3 gB
         ·rename_i cm;rw[if_neg cm] at gB;exact conv (.exit id) a3 w3 gB
        |normal=>exact conv .normal a3 w3 gB
        |ret=>exact conv .ret a3 w3 gB
        |panic c=>exact eH.elim
        |goto l=>exact eH.elim
        |_=>exact eH.elim
 have hgq:Good C w0 σ0 (qS.st ids) ρ (fun _=>False) a w:=bq hg;obtain⟨σ,own,hv,h⟩:=hgq;have aW:=h.objs J;have:(qS.st ids).o J=.it kt et:=Cj;rw[this] at aW;obtain⟨kb,mb,arr,clock,eE,idx,h1,h2,h3,av,h4,h5,h6,h7,h8,h9,km,nB⟩:=aW;have hρJ:ρ.o J=.tup [.list [],es]:=by
  rw[h6] at ye fL;simp[D.tget] at ye fL;rw[h6,ye,←fL]
 have qZ:(ρ.put [] [] lo (lo.map ρ.o)).setO J (.tup [.list [],es])=ρ:=by
  rw[Env.put_self];show Env.mk _ _=_;have:bC ρ.o J (.tup [.list [],es])=ρ.o:=by
   funext j;rw[eC];split
   ·rename_i e;rw[e];exact hρJ.symm
   ·rfl
  rw[this]
 exact wpIn_loop_rounds _ (key ((fi es).length+1) [] (lo.map ρ.o) a w (.refl _ _) (by rw[qZ];exact⟨σ,own,hv,h.maskR m⟩) (fun ys rz=>afd ys rz) (by simp))
theorem abj {N:Nat}(fJ:gr C Φ)(hR:FT C n ids Φ R):∀(k:Nat) (c:Code),sizeOf c<k→qw C Φ fn s n ids R N c:=by
 intro k;refine Nat.rec (fun c h=>absurd h (Nat.not_lt_zero _)) (fun k IH=>?_) k;intro c hc;cases c with
 |skip=>
  intro rm S r h rd w0 σ0 wr ρ x a w eI hC hY fg hn hg he;simp only[comp,Option.some.injEq] at h;subst h;simp only[PC.ev,Option.some.injEq] at he;subst he;exact wpIn_skip ⟨ρ,S,rfl,rfl,.refl _ _,hg⟩
 |region id ops draw=>
  intro rm S r h rd w0 σ0 wr ρ x a w eI hC hY fg hn hg he;simp only[comp,Option.map_eq_some_iff] at h;obtain⟨q,hq,rfl⟩:=h;simp only[PC.ev,Option.map_eq_some_iff] at he;obtain⟨ρ',hr,rfl⟩:=he;exact hR id ops draw S q hq rd w0 σ0 ρ ρ' a w _ hC hY hn hg hr (fun a' w' lJ dR=>⟨ρ',q.1,rfl,rfl,lJ.mono (fun t ⟨o,h1,h2⟩=>fg t (List.mem_filterMap.2 ⟨o,h1,h2⟩)),dR⟩)
 |seq c1 c2=>
  have px:=IH c1 (by simp at hc;omega);have jr:=IH c2 (by simp at hc;omega);intro rm S r h rd w0 σ0 wr ρ x a w eI hC hY fg hn hg he;have ic:∀t,t∈bK c1→wr t:=fun t ht=>fg t (List.mem_append_left _ ht);have ej:∀t,t∈bK c2→wr t:=fun t ht=>fg t (List.mem_append_right _ ht);simp only[comp,Option.bind_eq_some_iff] at h;obtain⟨q,hq,h⟩:=h;split at h
  ·rename_i gA;cases h;refine wpIn_seq (wpIn_mono (px rm S _ hq rd w0 σ0 wr ρ x a w eI hC hY ic hn hg he) fun e a' w' ho=>?_);cases e with
   |normal=>obtain⟨_,_,_,h2,_⟩:=ho;rw[gA] at h2;cases h2
   |_=>exact ho
  ·rename_i S1 gA;simp only[Option.map_eq_some_iff] at h;obtain⟨p,hp,rfl⟩:=h;simp only[PC.ev] at he
   have key:∀x1,q.pc.ev Φ N ρ=some x1→(match some x1 with|some (.next ρ')=>p.pc.ev Φ N ρ'|y=>y)=some x→(Code.seq c1 c2).wpIn (FR rd) 0 C.P (eM C w0 σ0 ids fn s rm wr a p.out (q.ex++p.ex) x) a w:=by
      intro x1 h1 h2;refine wpIn_seq (wpIn_mono (px rm S _ hq rd w0 σ0 wr ρ x1 a w eI hC hY ic hn hg h1) fun e a' w' ho=>?_);have other:∀{e:Exit},e≠.normal→eM C w0 σ0 ids fn s rm wr a q.out q.ex x1 e a' w'→x1=x→eM C w0 σ0 ids fn s rm wr a p.out (q.ex++p.ex) x e a' w':=by
       intro e av ho hx;subst hx;exact ho.mono (fun y hy=>List.mem_append_left _ hy) (.refl _ _) (fun e=>absurd e av)
      cases e with
      |normal=>
       obtain⟨ρ1,S2,e1,e2,dG,fp⟩:=ho;subst e1;rw[gA] at e2;cases e2;simp only at h2;refine wpIn_mono (jr rm S1 _ hp rd w0 σ0 wr ρ1 x a' w' eI hC hY ej (dG.size.trans hn) fp h2) fun e a2 w2 gz=>?_;exact gz.mono (fun y hy=>List.mem_append_right _ hy) dG (fun _=>rfl)
      |exit id=>
       refine other (by simp) ho ?_;obtain⟨ρ1,S2,e1,_⟩:=ho;subst e1;simpa using h2
      |ret=>
       refine other (by simp) ho ?_;cases rm with
       |false=>obtain⟨d,e1,_⟩:=ho;subst e1;simpa using h2
       |true=>obtain⟨ρ1,S2,e1,_⟩:=ho;subst e1;simpa using h2
      |_=>exact ho.elim
   cases h1:q.pc.ev Φ N ρ with
   |none=>rw[h1] at he;simp at he
   |some x1=>rw[h1] at he;exact key x1 h1 he
 |cond c c1 c2=>
  have px:=IH c1 (by simp at hc;omega);have jr:=IH c2 (by simp at hc;omega);intro rm S r h rd w0 σ0 wr ρ x a w eI hC hY fg hn hg he;have ic:∀t,t∈bK c1→wr t:=fun t ht=>fg t (List.mem_append_left _ ht);have ej:∀t,t∈bK c2→wr t:=fun t ht=>fg t (List.mem_append_right _ ht);simp only[comp] at h;split at h
  case h_2=>cases h;exact absurd he (jE _ _ _ _)
  rename_i e hu;simp only[Option.bind_eq_some_iff,Option.map_eq_some_iff] at h;obtain⟨q,hq,p,hp,rfl⟩:=h;have hb:∃b,a.eval c=.bool b∧e.ev ρ=.v (.bool b):=by
   obtain⟨σ,own,hv,hi⟩:=hg;have:=bD (gs:=[]) hi hC rfl hu;generalize a.eval c=v at this;generalize e.ev ρ=d at this;cases this with|bool b=>exact⟨b,rfl,rfl⟩
  obtain⟨b,gy,dq⟩:=hb;have mB:=oH c1 hq;have xX:=oH c2 hp;have main:∀(o:Option Snap) (lr lo:List Nat) (rx:Res2),rx=⟨.ite e lr lo q.pc p.pc,o,q.ex++p.ex,Nat.lor q.mr p.mr,fW q.mo p.mo⟩→
        (∀M,o=some M→lr=gG M (Nat.lor q.mr p.mr)∧lo=fR ids M (fW q.mo p.mo))→
        (∀S1 ρ1 a w,q.out=some S1→Good C w0 σ0 (S1.st ids) ρ1 (fun _=>False) a w→∃M,o=some M∧Good C w0 σ0 (M.st ids) ρ1 (fun _=>False) a w)→
        (∀S1 ρ1 a w,p.out=some S1→Good C w0 σ0 (S1.st ids) ρ1 (fun _=>False) a w→∃M,o=some M∧Good C w0 σ0 (M.st ids) ρ1 (fun _=>False) a w)→
        rx.pc.ev Φ N ρ=some x→(Code.cond c c1 c2).wpIn (FR rd) 0 C.P (eM C w0 σ0 ids fn s rm wr a rx.out rx.ex x) a w:=by
   intro o lr lo rx hrx hl mE jW bp;subst hrx;simp only[PC.ev,dq,D.b_bool] at bp;have fin:∀(ci:Code) (qi:Res2) (xi:Out),(∀y,y∈qi.ex→y∈q.ex++p.ex)→(∀t,t∈qi.pc.modR→ak (Nat.lor q.mr p.mr) t=true)→(∀j,j∈qi.pc.modO→j∈fW q.mo p.mo)→
    (∀S1 ρ1 a w,qi.out=some S1→Good C w0 σ0 (S1.st ids) ρ1 (fun _=>False) a w→∃M,o=some M∧Good C w0 σ0 (M.st ids) ρ1 (fun _=>False) a w)→
    qi.pc.ev Φ N ρ=some xi→(match some xi with|some (.next ρ')=>some (Out.next (ρ.join lr lo ρ'))|y=>y)=some x→
    ci.wpIn (FR rd) 0 C.P (eM C w0 σ0 ids fn s rm wr a qi.out qi.ex xi) a w→ci.wpIn (FR rd) 0 C.P (eM C w0 σ0 ids fn s rm wr a o (q.ex++p.ex) x) a w:=by
        intro ci qi xi hex fq mF gA cO hx hwp;refine wpIn_mono hwp fun ee a' w' ho=>?_;have other:ee≠.normal→xi=x→eM C w0 σ0 ids fn s rm wr a o (q.ex++p.ex) x ee a' w':=by
         intro av gD;subst gD;exact ho.mono hex (.refl _ _) (fun e=>absurd e av)
        cases ee with
        |normal=>
         obtain⟨ρ1,S2,e1,e2,dG,fp⟩:=ho;subst e1;simp only[Option.some.injEq] at hx;subst hx;obtain⟨M,hM,nF⟩:=gA S2 ρ1 a' w' e2 fp;obtain⟨l1,l2⟩:=hl M hM;subst l1 l2;exact⟨_,M,rfl,hM,dG,nF.joined (PC.ev_but qi.pc ρ _ ρ1 cO rfl) fq mF⟩
        |exit id=>
         refine other (by simp) ?_;obtain⟨ρ1,S2,e1,_⟩:=ho;subst e1;simpa using hx
        |ret=>
         refine other (by simp) ?_;cases rm with
         |false=>obtain⟨d,e1,_⟩:=ho;subst e1;simpa using hx
         |true=>obtain⟨ρ1,S2,e1,_⟩:=ho;subst e1;simpa using hx
        |_=>exact ho.elim
   refine wpIn_cond gy ?_;cases b with
   |true=>
    simp only[cond_true] at bp;cases cO:q.pc.ev Φ N ρ with
    |none=>rw[cO] at bp;simp at bp
    |some xi=>
     rw[cO] at bp;refine fin c1 q xi (fun y hy=>List.mem_append_left _ hy) (fun t ht=>?_) (fun j hj=>lN.2 (.inl (mB.2 j hj))) mE cO bp (px rm S _ hq rd w0 σ0 wr ρ xi a w eI hC hY ic hn hg cO);rw[dB,mB.1 t ht];rfl
   |false=>
    simp only[cond_false] at bp;cases cO:p.pc.ev Φ N ρ with
    |none=>rw[cO] at bp;simp at bp
    |some xi=>
     rw[cO] at bp;refine fin c2 p xi (fun y hy=>List.mem_append_right _ hy) (fun t ht=>?_) (fun j hj=>lN.2 (.inr (xX.2 j hj))) jW cO bp (jr rm S _ hp rd w0 σ0 wr ρ xi a w eI hC hY ej hn hg cO);rw[dB,xX.1 t ht,Bool.or_true]
  have mE:∀S1 ρ1 a w,q.out=some S1→Good C w0 σ0 (S1.st ids) ρ1 (fun _=>False) a w→∃M,jv q.out p.out=some M∧Good C w0 σ0 (M.st ids) ρ1 (fun _=>False) a w:=by
   intro S1 ρ1 a w e1 g1;rw[e1];obtain⟨M,hM⟩:=@RL S1 p.out;exact⟨M,hM,RJ g1 hM⟩
  have jW:∀S1 ρ1 a w,p.out=some S1→Good C w0 σ0 (S1.st ids) ρ1 (fun _=>False) a w→∃M,jv q.out p.out=some M∧Good C w0 σ0 (M.st ids) ρ1 (fun _=>False) a w:=by
   intro S1 ρ1 a w e1 g1;rw[e1];obtain⟨M,hM⟩:=@RM q.out S1;exact⟨M,hM,RK g1 hM⟩
  cases hm:jv q.out p.out with
  |none=>
   rw[hm] at mE jW;simp only[hm] at he ⊢;exact main none [] [] _ rfl (fun M e=>by cases e) mE jW he
  |some M=>
   rw[hm] at mE jW;simp only[hm] at he ⊢;exact main (some M) _ _ _ rfl (fun M' e=>by cases e;exact⟨rfl,rfl⟩) mE jW he
 |block id c1=>
  have px:=IH c1 (by simp at hc;omega);intro rm S r h rd w0 σ0 wr ρ x a w eI hC hY fg hn hg he;simp only[comp] at h;cases cm:Nat.beq id cj<;>simp only[cm,cond_true,cond_false] at h
  case true=>cases h;exact absurd he (jE _ _ _ _)
  have B4:id≠cj:=fun e=>by subst e;simp at cm
  simp only[Option.map_eq_some_iff] at h;obtain⟨q,hq,rfl⟩:=h;obtain⟨xi,cO⟩:=N2 he;exact wpIn_block (wpIn_mono (px rm S _ hq rd w0 σ0 wr ρ xi a w eI hC hY fg hn hg cO) fun e a' w' eH=>N4 B4 (oH c1 hq) cO he eH)
 |loop c1=>
  have px:=IH c1 (by simp at hc;omega);intro rm S r h rd w0 σ0 wr ρ x a w eI hC hY fg hn hg he;rw[OI] at h;split at h
  ·rename_i qb yj;obtain⟨p,code,ws⟩:=qb;unfold rG at yj;split at yj
   case h_2=>cases yj
   rename_i cx cy ck cz cc;simp only[Option.map_eq_some_iff] at yj;obtain⟨p',aN,ep⟩:=yj;cases ep;exact ajQ aN (IH _ (by simp at hc;omega)) h eI hC hY fg hn hg he
  split at h
  case h_2=>cases h;exact absurd he (jE _ _ _ _)
  rename_i q hq;cases h;obtain⟨hs,tu,bq⟩:=yA (C:=C) (w0:=w0) (σ0:=σ0) (ids:=ids) 8 hq;have mB:=oH c1 hs;simp only[PC.ev] at he
  have hg0:Good C w0 σ0 (q.1.st ids) (ρ.put (gG q.1 q.2.mr) ((gG q.1 q.2.mr).map ρ.r) (fR ids q.1 q.2.mo) ((fR ids q.1 q.2.mo).map ρ.o)) (fun _=>False) a w:=by
   exact Good.joined (bq hg) (.refl ρ q.2.pc.modR q.2.pc.modO) mB.1 mB.2
  have key:∀(k:Nat) (ρ1:Env) (a':Act) (w:World),SameBut wr a a'→dW (q.2.pc.ev Φ N) ρ (gG q.1 q.2.mr) (fR ids q.1 q.2.mo) k ((gG q.1 q.2.mr).map ρ1.r) ((fR ids q.1 q.2.mo).map ρ1.o)=some x→
        Good C w0 σ0 (q.1.st ids) (ρ.join (gG q.1 q.2.mr) (fR ids q.1 q.2.mo) ρ1) (fun _=>False) a' w→Code.roundsIn (FR rd) 0 C.P c1 (eM C w0 σ0 ids fn s rm wr a none q.2.ex x) k a' w:=by
   intro k
   induction k with
   |zero=>intro ρ1 a' w hn hl hg;simp[dW] at hl
   |succ k ih=>
    intro ρ1 a' w gC hl hg;rw[roundsIn_succ];simp only[dW] at hl;change (match q.2.pc.ev Φ N (ρ.join (gG q.1 q.2.mr) (fR ids q.1 q.2.mo) ρ1) with|some (.next ρ')=>_|y=>y)=some x at hl;cases cO:q.2.pc.ev Φ N (ρ.join (gG q.1 q.2.mr) (fR ids q.1 q.2.mo) ρ1) with
    |none=>rw[cO] at hl;simp at hl
    |some xi=>
     rw[cO] at hl;refine wpIn_mono (px rm _ _ hs rd w0 σ0 wr _ xi a' w eI hC hY fg (gC.size.trans hn) hg cO) fun e a2 w' eH=>?_;have other:e≠.normal→xi=x→eM C w0 σ0 ids fn s rm wr a none q.2.ex x e a2 w':=by
         intro av gD;subst gD;exact eH.mono (fun y hy=>hy) gC (fun e=>absurd e av)
     cases e with
     |normal=>
      obtain⟨ρ2,S2,e1,e2,dG,fp⟩:=eH;subst e1;simp only at hl;refine ih ρ2 a2 w' (gC.trans dG) hl ?_
      have nF:Good C w0 σ0 (q.1.st ids) ρ2 (fun _=>False) a2 w':=by
       have:=fp.meet2 (x:=q.1)
       rwa [tu S2 e2] at this
      refine nF.joined (mr':=gG q.1 q.2.mr++q.2.pc.modR) (mo':=fR ids q.1 q.2.mo++q.2.pc.modO) ?_ (fun t ht=>?_) (fun j hj=>?_)
      ·exact((Env.but.join ρ ρ1 _ _).mono (fun t ht=>List.mem_append_left _ ht) (fun t ht=>List.mem_append_left _ ht)).trans
        ((PC.ev_but q.2.pc _ _ ρ2 cO rfl).mono (fun t ht=>List.mem_append_right _ ht) (fun t ht=>List.mem_append_right _ ht))
      ·exact(List.mem_append.1 ht).elim CL (mB.1 t)
      ·exact(List.mem_append.1 hj).elim tX (mB.2 j)
     |exit id=>
      refine other (by simp) ?_;obtain⟨ρ1,S2,e1,_⟩:=eH;subst e1;simpa using hl
     |ret=>
      refine other (by simp) ?_;cases rm with
      |false=>obtain⟨d,e1,_⟩:=eH;subst e1;simpa using hl
      |true=>obtain⟨ρ1,S2,e1,_⟩:=eH;subst e1;simpa using hl
     |_=>exact eH.elim
  exact wpIn_loop_rounds N (key N ρ a w (.refl _ _) he hg0)
 |exit id=>
  intro rm S r h rd w0 σ0 wr ρ x a w eI hC hY fg hn hg he;simp only[comp] at h;cases cm:Nat.beq id cj<;>simp only[cm,cond_true,cond_false] at h
  case true=>cases h;exact absurd he (jE _ _ _ _)
  cases h;simp only[PC.ev,Option.some.injEq] at he;subst he;exact wpIn_exit ⟨ρ,S,rfl,fun e=>by subst e;simp at cm,by simp,.refl _ _,hg⟩
 |ret=>
  intro rm S r h rd w0 σ0 wr ρ x a w eI hC hY fg hn hg he;simp only[comp] at h;cases rm<;>simp only[cond_true,cond_false] at h
  case true=>
   cases h;simp only[PC.ev,Option.some.injEq] at he;subst he;exact wpIn_ret ⟨ρ,S,rfl,by simp,.refl _ _,hg⟩
  split at h
  ·rename_i e Ik;cases h;simp only[PC.ev,Option.some.injEq] at he;subst he;obtain⟨σ,own,hv,hi⟩:=hg;exact wpIn_ret ⟨_,rfl,Inv.retD hC (fun _=>rfl) (eI rfl).2 Ik _ hi rfl,.refl _ _⟩
  ·cases h;exact absurd he (jE _ _ _ _)
 |rangeFunc g ps ca cb=>exact alW fJ (IH ca (by simp at hc;omega)) (IH cb (by simp at hc;omega))
 |_=>intro rm S r h rd w0 σ0 wr ρ x a w eI hC hY fg hn hg he;simp only[comp,Option.some.injEq] at h;subst h;exact absurd he (jE _ _ _ _)
theorem abi {N:Nat}(fJ:gr C Φ)(hR:FT C n ids Φ R)(c:Code):qw C Φ fn s n ids R N c:=abj fJ hR _ c (Nat.lt_succ_self _)
end
end Cx
