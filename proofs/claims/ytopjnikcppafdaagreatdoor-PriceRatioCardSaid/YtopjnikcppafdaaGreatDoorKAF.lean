/-
  Code: sequences, choices, blocks, loops.
-/
import Derived.LoopNIn
import Derived.Test.YtopjnikcppafdaaGreatDoorKAE
import Derived.LoopN
set_option linter.unusedSimpArgs false
set_option linter.unusedVariables false
namespace Cx
open Go Go.RowKit
def aU (m t:Nat):Bool:= !Nat.beq (Nat.land 1 (Nat.shiftRight m t)) 0
theorem xU (m t:Nat):aU m t=m.testBit t:=by
 unfold aU Nat.testBit;show(!Nat.beq (1&&& (m>>>t)) 0)=((1&&& (m>>>t))!=0)
 generalize 1&&& (m>>>t)=x;cases x<;>rfl
def iu (t:Nat):Nat:=Nat.shiftLeft 1 t
theorem rZ (t:Nat):aU (iu t) t=true:=by
 rw[xU];show(1<<<t).testBit t=true;simp[Nat.testBit_shiftLeft]
theorem gJ (m k t:Nat):aU (Nat.lor m k) t=(aU m t||aU k t):=by
 simp only[xU];exact Nat.testBit_or m k t
def PI.mask:PI→Nat
 |.setR t _=>iu t|.call _ t _ _=>iu t|.callc _ t _ _=>iu t|_=>0
def My:List PI→Nat
 |[]=>0
 |p::l=>Nat.lor p.mask (My l)
def PI.objs:PI→List Nat
 |.setO j _=>[j]|.mcall j _ _=>[j]|_=>[]
def fR (l:List Nat)(x:Nat):Bool:=l.any (Nat.beq x)
def jT (a b:List Nat):List Nat:=a.foldl (fun acc x=>bif fR acc x then acc else x::acc) b
def agd (l:List PI):List Nat:=l.foldl (fun acc p=>jT p.objs acc) []
theorem sU (l:List Nat)(x:Nat):fR l x=true↔x∈l:=by
 unfold fR;rw[xu];constructor
 ·rintro⟨y,hy,h⟩;rw[aD h];exact hy
 ·intro h;exact⟨x,h,lP x⟩
theorem re {x:Nat}:∀{a b:List Nat},x∈jT a b↔x∈a∨x∈b
 |[],b=>by simp[jT]
 |y::a,b=>by
  have ih:=@re x a (bif fR b y then b else y::b);have e:jT (y::a) b=jT a (bif fR b y then b else y::b):=rfl;rw[e,ih];cases hb:fR b y
  ·simp[or_assoc,or_left_comm]
  ·have:=(sU b y).1 hb;simp only[cond_true,cC];constructor
   ·rintro(h|h)
    ·exact .inl (.inr h)
    ·exact .inr h
   ·rintro((h|h)|h)
    ·subst h;exact .inr this
    ·exact .inl h
    ·exact .inr h
theorem avz {x:Nat}(l:List PI)(h:x∈l.flatMap PI.modO):x∈agd l:=by
 have key:∀(l:List PI) (acc:List Nat),(x∈l.flatMap PI.modO∨x∈acc)→x∈l.foldl (fun acc p=>jT p.objs acc) acc:=by
  intro l
  induction l with
  |nil=>intro acc h;simpa using h
  |cons p l ih=>
   intro acc h;refine ih _ ?_;rw[vd,dN] at h;rcases h with(h|h)|h
   ·refine .inr (re.2 (.inl ?_));cases p<;>simp_all [PI.modO,PI.objs]
   ·exact .inl h
   ·exact .inr (re.2 (.inr h))
 exact key l [] (.inl h)
theorem afO {t:Nat}:∀(l:List PI),t∈l.flatMap PI.modR→aU (My l) t=true
 |[],h=>by simp at h
 |p::l,h=>by
  rw[vd,dN] at h;simp only[My,gJ,lN];rcases h with h|h
  ·left;cases p<;>simp[PI.modR] at h<;>subst h<;>exact rZ _
  ·exact .inr (afO l h)
structure Res2 where
 pc:PC
 out:Option Snap
 ex:List (Nat×Snap)
 mr:Nat
 mo:List Nat
 deriving Inhabited
def mR:Option Snap→Option Snap→Option Snap
 |none,x=>x
 |x,none=>x
 |some a,some b=>some (a.meet b)
def pE (id:Nat):List (Nat×Snap)→Option Snap→Option Snap
 |[],acc=>acc
 |x::l,acc=>pE id l (bif Nat.beq x.1 id then mR acc (some x.2) else acc)
def iter (step:Snap→Option Res2):Nat→Snap→Option (Snap×Res2)
 |0,_=>none
 |k+1,S=>(step S).bind fun r=>
  match r.out with
  |none=>some (S,r)
  |some T=>bif (S.meet T).beq S then some (S,r) else iter step k (S.meet T)
def kJ (S:Snap)(m:Nat):List Nat:=(List.range S.rs.length).filter fun t=>aU m t&& !isNone (cO (S.rs.getD t .none))
def jM (ids:List Nat)(S:Snap)(l:List Nat):List Nat:=l.filter fun j=> !py (eH ids S.os j)
def ib:Res2:=⟨.is [Iu],none,[],0,[]⟩
theorem ng (Φ:aW)(N:Nat)(ρ:Env)(x:Out):ib.pc.ev Φ N ρ≠some x:=by
 intro h;simp[ib,PC.ev,PI.runs,PI.run,Iu,PE.ev,D.b_bool] at h
theorem ni:(∀t,t∈ib.pc.modR→aU ib.mr t=true)∧∀j,j∈ib.pc.modO→j∈ib.mo:=by
 constructor<;>intro t h<;>simp[ib,PC.modR,PC.modO,PI.modR,PI.modO,Iu] at h
def cP:Code→List Nat
 |.region _ ops _=>ops.toList.filterMap (·.dst)
 |.seq a b=>cP a++cP b
 |.cond _ a b=>cP a++cP b
 |.block _ a=>cP a
 |.loop a=>cP a
 |_=>[]
def zf (l:List Nat):Nat:=l.foldr (fun t m=>Nat.lor (iu t) m) 0
def uL (m:Nat):Nat→List Sh→List Sh
 |_,[]=>[]
 |t,s::l=>(bif aU m t then .none else s)::uL m (t+1) l
def Snap.mask (m:Nat)(S:Snap):Snap:=⟨uL m 0 S.rs,S.os⟩
def uD:Sh→Sh
 |.yv=>.none
 |s=>s
def tq:List Nat→List Ty→List Sh→List Sh
 |p::ps,y::ys,l=>tq ps ys (l.set p (.dat y))
 |_,_,l=>l
def Snap.start (ps:List Nat)(ys:List Ty)(S:Snap):Snap:=⟨tq ps ys (S.rs.map uD),S.os⟩
def afH (ids:List Nat)(l:List Snap)(mo:List Nat):List Nat:=mo.filter fun j=>l.any fun S=> !py (eH ids S.os j)
def axZ (wm:Nat)(ra rb:Res2):Res2:=
 let m:=Nat.lor wm (Nat.lor ra.mr rb.mr)
 ⟨.seq ra.pc rb.pc,rb.out.map (Snap.mask m),rb.ex.map (fun x=>(x.1,x.2.mask m)),m,jT ra.mo rb.mo⟩
def gK (ids:List Nat)(id:Nat)(r:Res2):Res2:=
    match pE id r.ex r.out with
    |some M=>⟨.block id (kJ M r.mr) (jM ids M r.mo) r.pc,some M,r.ex.filter fun x=> !Nat.beq x.1 id,r.mr,r.mo⟩
    |none=>⟨.block id [] [] r.pc,none,r.ex.filter fun x=> !Nat.beq x.1 id,r.mr,r.mo⟩
def wu:List (Nat×Nat)→Nat→Option Nat
 |[],_=>none
 |x::l,t=>bif Nat.beq x.1 t then some x.2 else wu l t
def lD (pr:Nat):List Oper→List (Nat×Nat)→Option (List (Nat×Nat))
 |[],acc=>some acc
 |o::l,acc=>
  match o.dst,o.guard with
  |some d,none=>
   bif Nat.beq d pr||(wu acc d).isSome then none else
   match o.op with
   |.extract (.tmp t) i=>bif Nat.beq t pr&&Nat.ble i 1 then lD pr l (acc++[(d,i)]) else none
   |.assign (.tmp t)=>(wu acc t).bind fun i=>lD pr l (acc++[(d,i)])
   |.move (.tmp t)=>(wu acc t).bind fun i=>lD pr l (acc++[(d,i)])
   |_=>none
  |_,_=>none
structure MP where
 it:Nat
 nx:Nat
 mo:Nat
 out:Nat
 next:Nat
 pr:Nat
 ops1:Array Oper
 ops2:Array Oper
 aa:List (Nat×Nat)
 deriving Inhabited
def CD (x y:Code)(k:Nat)(z:Code):Option MP:=
 match x,y,z with
 |.region _ ops1 false,.cond (.tmp mo) .skip (.exit out),.region _ ops2 false=>
  match ops1.toList,ops2.toList with
  |[o1,o2],o3::l=>
   match o1.dst,o1.guard,o1.op,o2.dst,o2.guard,o2.op,o3.dst,o3.guard,o3.op with
   |some nx,none,.next (.tmp it) false,some mo',none,.extract (.tmp nx') 0,some pr,none,.entry (.tmp it')=>
    bif Nat.beq mo mo'&&Nat.beq nx nx'&&Nat.beq it it'&& !Nat.beq it nx&& !Nat.beq it mo&& !Nat.beq it pr&& !Nat.beq nx mo&& !Nat.beq out cR&& !Nat.beq k cR then
     (lD pr l []).map fun aa=>⟨it,nx,mo,out,k,pr,ops1,ops2,aa⟩
    else none
   |_,_,_,_,_,_,_,_,_=>none
  |_,_=>none
 |_,_,_=>none
def y6:List Nat→Nat→List Ob→List Ob
 |i::is,J,o::os=>(bif Nat.beq i J then .dead else o)::y6 is J os
 |_,_,os=>os
def Snap.kill (ids:List Nat)(J:Nat)(S:Snap):Snap:=⟨S.rs,y6 ids J S.os⟩
def ae4 (J:Nat)(kt et:Ty)(ids:List Nat)(p:MP)(m:Nat)(S:Snap):Bool:=
 Sh.beq (S.rs.getD p.it .none) (.obj J 0)&&Ob.beq (eH ids S.os J) (.it kt et)&& !aU m p.it
def CE (ids:List Nat)(n:Nat)(p:MP)(ws:List Nat)(f:Snap→Option Res2)(S:Snap):Option Res2:=
 match cO (S.rs.getD p.it .none) with
 |.obj J 0=>
  match eH ids S.os J with
  |.it kt et=>
   let ps:=p.aa.map (·.1)
   let ys:=p.aa.map fun x=>bif Nat.beq x.2 0 then kt else et
   let m:=zf ws
   match iter (fun S=>(f ((S.mask m).start ps ys)).map (gK ids p.next)) 8 S with
   |some r=>
    bif r.2.ex.isEmpty&& !fR r.2.mo J&&ae4 J kt et ids p m r.1&&kf ps&&ps.all (fun t=>Nat.blt t n)&&Nat.blt p.nx n&&Nat.blt p.mo n&&Nat.blt p.pr n&&Nat.beq (Nat.lor m r.2.mr) m then
       some ⟨.seq (.meach J ps (p.aa.map (·.2)) (jM ids r.1 r.2.mo) r.2.pc) (.exit p.out),none,[(p.out,(r.1.mask m).kill ids J)],0,r.2.mo⟩
    else some ib
   |none=>some ib
  |_=>some ib
 |_=>some ib
def comp (C:Ctx)(fn:Func)(s:Sig)(n:Nat)(ids:List Nat)(R:Array Oper→Bool→Snap→Option (Snap×List PI)):Bool→Code→Snap→Option Res2
 |_,.skip,S=>some ⟨.skip,some S,[],0,[]⟩
 |_,.region _ ops draw,S=>(R ops draw S).map fun r=>⟨.is r.2,some r.1,[],My r.2,agd r.2⟩
 |rm,.seq a b,S=>(comp C fn s n ids R rm a S).bind fun r=>
  match r.out with
  |none=>some r
  |some S1=>(comp C fn s n ids R rm b S1).map fun q=>⟨.seq r.pc q.pc,q.out,r.ex++q.ex,Nat.lor r.mr q.mr,jT r.mo q.mo⟩
 |rm,.cond c a b,S=>
  match use C (S.st ids) [] c with
  |some (.bool,e)=>
   (comp C fn s n ids R rm a S).bind fun r=>(comp C fn s n ids R rm b S).map fun q=>
     match mR r.out q.out with
     |some M=>⟨.ite e (kJ M (Nat.lor r.mr q.mr)) (jM ids M (jT r.mo q.mo)) r.pc q.pc,some M,r.ex++q.ex,Nat.lor r.mr q.mr,jT r.mo q.mo⟩
     |none=>⟨.ite e [] [] r.pc q.pc,none,r.ex++q.ex,Nat.lor r.mr q.mr,jT r.mo q.mo⟩
  |_=>some ib
 |rm,.block id a,S=>bif Nat.beq id cR then some ib else(comp C fn s n ids R rm a S).map (gK ids id)
 |rm,.loop (.seq x (.seq y (.block k (.seq z code)))),S=>
  (match CD x y k z with
  |some p=>CE ids n p (cP x++(cP y++(cP z++cP code))) (fun S=>comp C fn s n ids R rm code S) S
  |none=>
  match iter (fun S=>comp C fn s n ids R rm (.seq x (.seq y (.block k (.seq z code)))) S) 8 S with
  |some r=>some ⟨.loop (kJ r.1 r.2.mr) (jM ids r.1 r.2.mo) r.2.pc,none,r.2.ex,r.2.mr,r.2.mo⟩
  |none=>some ib)
 |rm,.loop a,S=>
  match iter (fun S=>comp C fn s n ids R rm a S) 8 S with
  |some r=>some ⟨.loop (kJ r.1 r.2.mr) (jM ids r.1 r.2.mo) r.2.pc,none,r.2.ex,r.2.mr,r.2.mo⟩
  |none=>some ib
 |_,.exit id,S=>bif Nat.beq id cR then some ib else some ⟨.exit id,none,[(id,S)],0,[]⟩
 |rm,.ret,S=>
  bif rm then some ⟨.exit cR,none,[(cR,S)],0,[]⟩ else
  match zN C fn s (S.st ids) with
  |some e=>some ⟨.ret e,none,[],0,[]⟩
  |none=>some ib
 |rm,.rangeFunc g ps a b,S=>
  match rm,C.yl,use C (S.st ids) [] g with
  |false,none,some (.fn aa r,e)=>
   match og aa r with
   |some ys=>
    match iter (fun S=>(comp C fn s n ids R true a (S.start ps.toList ys)).bind fun ra=>
          match ra.out,ra.ex with
          |some S1,[]=>(comp C fn s n ids R true b S1).map (axZ (zf (ps.toList++cP a++cP b)) ra)
          |_,_=>none) 8 S with
    |some r=>
     bif Nat.beq ys.length ps.size&&kf ps.toList&&ps.toList.all (fun p=>Nat.blt p n)&&Nat.ble r.1.rs.length n then
           some ⟨.seq (.is [.callc [] n e []]) (.each (.r n) ps.toList (afH ids (r.1::r.2.ex.map (·.2)) r.2.mo) ((pE cR r.2.ex none).bind fun M=>zN C fn s (M.st ids)) r.2.pc),
            some r.1,r.2.ex.filter (fun x=> !Nat.beq x.1 cR),iu n,r.2.mo⟩
     else some ib
    |none=>some ib
   |none=>some ib
  |_,_,_=>some ib
 |_,_,_=>some ib
termination_by structural _ c=>c
def zd:Code→Option (MP×Code×List Nat)
 |.seq x (.seq y (.block k (.seq z code)))=>(CD x y k z).map fun p=>(p,code,cP x++(cP y++(cP z++cP code)))
 |_=>none
theorem ab4 (C:Ctx)(fn:Func)(s:Sig)(n:Nat)(ids:List Nat)(R:Array Oper→Bool→Snap→Option (Snap×List PI))(rm:Bool)(a:Code)(S:Snap):comp C fn s n ids R rm (.loop a) S=
 match zd a with
 |some q=>CE ids n q.1 q.2.2 (fun S=>comp C fn s n ids R rm q.2.1 S) S
 |none=>
  match iter (fun S=>comp C fn s n ids R rm a S) 8 S with
  |some r=>some ⟨.loop (kJ r.1 r.2.mr) (jM ids r.1 r.2.mo) r.2.pc,none,r.2.ex,r.2.mr,r.2.mo⟩
  |none=>some ib:=by
 by_cases h:∃x y k z code,a=.seq x (.seq y (.block k (.seq z code)))
 ·obtain⟨x,y,k,z,code,rfl⟩:=h
  conv=>lhs;unfold comp
  simp only[zd];cases CD x y k z<;>rfl
 ·have e:zd a=none:=by
   unfold zd;split
   ·rename_i x y k z code;exact absurd ⟨x,y,k,z,code,rfl⟩ h
   ·rfl
  rw[e];rw[comp];intro x y k z code e;exact h ⟨x,y,k,z,code,e⟩
def subs:Code→List Code
 |.seq a b=>.seq a b::(subs a++subs b)
 |.cond c a b=>.cond c a b::(subs a++subs b)
 |.block i a=>.block i a::subs a
 |.loop a=>.loop a::subs a
 |.rangeFunc g ps a b=>.rangeFunc g ps a b::(subs a++subs b)
 |c=>[c]
theorem ayH (c:Code):c∈subs c:=by cases c<;>simp[subs]
theorem aH7 {a code:Code}{p:MP}{ws:List Nat}(h:zd a=some (p,code,ws)):code∈subs a:=by
 unfold zd at h;split at h
 ·simp only[aC] at h;obtain⟨q,_,e⟩:=h;cases e;simp[subs,ayH]
 ·cases h
def PW (C:Ctx)(n:Nat)(ids:List Nat)(Φ:aW)(R:Array Oper→Bool→Snap→Option (Snap×List PI)):Prop:=
 ∀(id:Nat) (ops:Array Oper) (draw:Bool) (S:Snap) (r:Snap×List PI),R ops draw S=some r→
  ∀(rd:Option Nat) (w0:World) (σ0:Base) (ρ ρ':Env) (a:Act) (w:World) (Q:Exit→Act→World→Prop),CtxOK C σ0→tR C Φ w0 σ0→a.tmps.size=n→Good C w0 σ0 (S.st ids) ρ (fun _=>False) a w→PI.runs Φ r.2 ρ=some ρ'→
   (∀a' w',SameBut (BH ops) a a'→Good C w0 σ0 (r.1.st ids) ρ' (fun _=>False) a' w'→Q .normal a' w')→(Code.region id ops draw).wpIn (FR rd) 0 C.P Q a w
section
variable {C:Ctx} {ρ ρ':Env} {σ:Im} {own:Nat→Option Nat} {hv:Nat→Value} {w0:World} {σ0:Base} {A:Nat→Prop} {a:Act} {w:World} {Φ:aW} {n:Nat} {ids:List Nat} {fn:Func} {s:Sig}
 {R:Array Oper→Bool→Snap→Option (Snap×List PI)}
def ir (C:Ctx)(w0:World)(σ0:Base)(ids:List Nat)(fn:Func)(s:Sig)(rm:Bool)(wr:Nat→Prop)(a0:Act)(out:Option Snap)(ex:List (Nat×Snap))(x:Out):Exit→Act→World→Prop
 |.normal,a,w=>∃ρ S,x=.next ρ∧out=some S∧SameBut wr a0 a∧Good C w0 σ0 (S.st ids) ρ (fun _=>False) a w
 |.exit id,a,w=>∃ρ S,x=.exit id ρ∧id≠cR∧(id,S)∈ex∧SameBut wr a0 a∧Good C w0 σ0 (S.st ids) ρ (fun _=>False) a w
 |.ret,a,w=>match rm with
  |false=>∃d,x=.ret d∧tP C w0 σ0 fn s d a.tmps a.defers w∧SameBut wr a0 a
  |true=>∃ρ S,x=.exit cR ρ∧(cR,S)∈ex∧SameBut wr a0 a∧Good C w0 σ0 (S.st ids) ρ (fun _=>False) a w
 |_,_,_=>False
theorem Good.meet1 {x y:Snap}(h:Good C w0 σ0 (x.st ids) ρ A a w):Good C w0 σ0 ((x.meet y).st ids) ρ (fun _=>False) a w:=by
 obtain⟨σ,own,hv,h⟩:=h;exact⟨σ,own,hv,Snap.meet_ok1 h⟩
theorem Good.meet2 {x y:Snap}(h:Good C w0 σ0 (y.st ids) ρ A a w):Good C w0 σ0 ((x.meet y).st ids) ρ (fun _=>False) a w:=by
 obtain⟨σ,own,hv,h⟩:=h;exact⟨σ,own,hv,Snap.meet_ok2 h⟩
theorem afV {x:Snap}{y:Option Snap}{M:Snap}(h:Good C w0 σ0 (x.st ids) ρ (fun _=>False) a w)(hm:mR (some x) y=some M):Good C w0 σ0 (M.st ids) ρ (fun _=>False) a w:=by
 cases y<;>simp[mR] at hm<;>subst hm
 ·exact h
 ·exact h.meet1
theorem afW {x:Option Snap}{y:Snap}{M:Snap}(h:Good C w0 σ0 (y.st ids) ρ (fun _=>False) a w)(hm:mR x (some y)=some M):Good C w0 σ0 (M.st ids) ρ (fun _=>False) a w:=by
 cases x<;>simp[mR] at hm<;>subst hm
 ·exact h
 ·exact h.meet2
theorem afX {x:Snap}{y:Option Snap}:∃M,mR (some x) y=some M:=by cases y<;>simp[mR]
theorem afY {x:Option Snap}{y:Snap}:∃M,mR x (some y)=some M:=by cases x<;>simp[mR]
theorem Mz {id:Nat}:∀(l:List (Nat×Snap)) {x:Snap},Good C w0 σ0 (x.st ids) ρ (fun _=>False) a w→∃M,pE id l (some x)=some M∧Good C w0 σ0 (M.st ids) ρ (fun _=>False) a w
 |[],x,h=>⟨x,rfl,h⟩
 |y::l,x,h=>by
  simp only[pE];cases Nat.beq y.1 id
  ·exact Mz l h
  ·obtain⟨M,hM⟩:=@afX x (some y.2);simp only[cond_true,hM];exact Mz l (afV h hM)
theorem Ua {id:Nat}{S:Snap}(h:Good C w0 σ0 (S.st ids) ρ (fun _=>False) a w):∀(l:List (Nat×Snap)) (x:Option Snap),(id,S)∈l→∃M,pE id l x=some M∧Good C w0 σ0 (M.st ids) ρ (fun _=>False) a w
 |y::l,x,hm=>by
  simp only[pE];rcases cC.1 hm with e|hm
  ·subst e;simp only[lP,cond_true];obtain⟨M,hM⟩:=@afY x S;rw[hM];exact Mz l (afW h hM)
  ·exact Ua h l _ hm
theorem Gm {step:Snap→Option Res2}:∀(k:Nat) {S:Snap} {r:Snap×Res2},iter step k S=some r→
 step r.1=some r.2∧(∀T,r.2.out=some T→r.1.meet T=r.1)∧∀{ρ:Env} {a:Act} {w:World},Good C w0 σ0 (S.st ids) ρ (fun _=>False) a w→Good C w0 σ0 (r.1.st ids) ρ (fun _=>False) a w
 |0,S,r,h=>by simp[iter] at h
 |k+1,S,r,h=>by
  simp only[iter,aA] at h;obtain⟨q,hq,h⟩:=h;split at h
  ·rename_i ho;cases h;exact⟨hq,fun T hT=>by simp[ho] at hT,fun g=>g⟩
  ·rename_i T ho;cases hb:(S.meet T).beq S<;>simp only[hb,cond_true,cond_false] at h
   ·obtain⟨h1,h2,h3⟩:=Gm k h;exact⟨h1,h2,fun g=>h3 g.meet1⟩
   ·cases h;refine⟨hq,fun T' hT=>?_,fun g=>g⟩;simp only[ho,bj] at hT;subst hT;exact Snap.beq_eq _ _ hb
theorem afb {step:Snap→Option Res2}{hv:Nat→Value}:∀(k:Nat) {S:Snap} {r:Snap×Res2},iter step k S=some r→Inv C (S.st ids) ρ σ own hv w0 σ0 (fun _=>False) a w→Inv C (r.1.st ids) ρ σ own hv w0 σ0 (fun _=>False) a w
 |0,S,r,h,_=>by simp[iter] at h
 |k+1,S,r,h,i=>by
  simp only[iter,aA] at h;obtain⟨q,hq,h⟩:=h;split at h
  ·cases h;exact i
  ·rename_i T ho;cases hb:(S.meet T).beq S<;>simp only[hb,cond_true,cond_false] at h
   ·exact afb k h (Snap.meet_ok1 i)
   ·cases h;exact i
theorem Good.joined {M:Snap}{m:Nat}{mo mr' mo':List Nat}(h:Good C w0 σ0 (M.st ids) ρ' (fun _=>False) a w)(hb:ρ.but ρ' mr' mo')(h1:∀t,t∈mr'→aU m t=true)(h2:∀j,j∈mo'→j∈mo):
 Good C w0 σ0 (M.st ids) (ρ.join (kJ M m) (jM ids M mo) ρ') (fun _=>False) a w:=by
 obtain⟨σ,own,hv,h⟩:=h;refine⟨σ,own,hv,h.env (Snap.noOpt _ _) (fun t ht=>?_) (fun j hj=>?_)⟩
 ·simp only[Env.join,Env.put,uS];split
  ·rfl
  ·rename_i hm;refine(hb.r t fun FO=>hm ?_).symm;have af:t<M.rs.length:=by
        refine abb fun hle=>?_;simp only[Snap.st,aI,jW hle,Option.getD_none,cO,isNone] at ht;cases ht
   exact eu.2 ⟨fY.2 af,by rw[h1 t FO];simpa [Snap.st] using ht⟩
 ·simp only[Env.join,Env.put,uS];split
  ·rfl
  ·rename_i hm;refine(hb.o j fun FO=>hm ?_).symm;exact eu.2 ⟨h2 j FO,by simpa [Snap.st] using hj⟩
theorem MA {S:Snap}{m t:Nat}(h:t∈kJ S m):aU m t=true:=by
 have:=(eu.1 h).2;simp only[aw] at this;exact this.1
theorem CF {S:Snap}{l:List Nat}{j:Nat}(h:j∈jM ids S l):j∈l:=(eu.1 h).1
theorem abH {id:Nat}{q:Res2}(h:(∀t,t∈q.pc.modR→aU q.mr t=true)∧∀j,j∈q.pc.modO→j∈q.mo):(∀t,t∈(gK ids id q).pc.modR→aU (gK ids id q).mr t=true)∧∀j,j∈(gK ids id q).pc.modO→j∈(gK ids id q).mo:=by
 unfold gK;cases hm:pE id q.ex q.out<;>simp only
 ·simpa [PC.modR,PC.modO] using h
 ·refine⟨fun t ht=>?_,fun j hj=>?_⟩
  ·simp only[PC.modR,dN] at ht;exact ht.elim MA (h.1 t)
  ·simp only[PC.modO,dN] at hj;exact hj.elim CF (h.2 j)
theorem avs {p:MP}{ws:List Nat}{f:Snap→Option Res2}{S:Snap}{r:Res2}(h:CE ids n p ws f S=some r):(∀t,t∈r.pc.modR→aU r.mr t=true)∧∀j,j∈r.pc.modO→j∈r.mo:=by
 unfold CE at h;split at h
 case h_2=>cases h;exact ni
 split at h
 case h_2=>cases h;exact ni
 simp only at h;split at h
 case h_2=>cases h;exact ni
 rw[qg] at h;split at h
 ·cases h;refine⟨fun t ht=>by simp[PC.modR] at ht,fun j hj=>?_⟩;simp only[PC.modO,tK] at hj;exact CF hj
 ·cases h;exact ni
theorem vn:∀(c:Code) {rm:Bool} {S:Snap} {r:Res2},comp C fn s n ids R rm c S=some r→(∀t,t∈r.pc.modR→aU r.mr t=true)∧∀j,j∈r.pc.modO→j∈r.mo:=by
 intro c
 induction c with
 |skip=>intro rm S r h;simp only[comp,bj] at h;subst h;simp[PC.modR,PC.modO]
 |region id ops draw=>
  intro rm S r h;simp only[comp,aC] at h;obtain⟨q,_,rfl⟩:=h;exact⟨fun t ht=>afO _ ht,fun j hj=>avz _ hj⟩
 |seq x y jI y1=>
  intro rm S r h;simp only[comp,aA] at h;obtain⟨q,hq,h⟩:=h;split at h
  ·cases h;exact jI hq
  ·simp only[aC] at h;obtain⟨p,hp,rfl⟩:=h;refine⟨fun t ht=>?_,fun j hj=>?_⟩
   ·simp only[PC.modR,dN] at ht;rw[gJ,lN];exact ht.imp ((jI hq).1 t) ((y1 hp).1 t)
   ·simp only[PC.modO,dN] at hj;rw[re];exact hj.imp ((jI hq).2 j) ((y1 hp).2 j)
 |cond c x y jI y1=>
  intro rm S r h;simp only[comp] at h;split at h
  case h_2=>cases h;exact ni
  rename_i e _;simp only[aA,aC] at h;obtain⟨q,hq,p,hp,rfl⟩:=h;cases hm:mR q.out p.out<;>simp only[hm]
  ·refine⟨fun t ht=>?_,fun j hj=>?_⟩
   ·simp only[PC.modR,dN,xC] at ht;rw[gJ,lN];exact ht.imp ((jI hq).1 t) ((y1 hp).1 t)
   ·simp only[PC.modO,dN,xC] at hj;rw[re];exact hj.imp ((jI hq).2 j) ((y1 hp).2 j)
  ·refine⟨fun t ht=>?_,fun j hj=>?_⟩
   ·simp only[PC.modR,dN] at ht;rw[gJ,lN];rcases ht with(ht|ht)|ht
    ·have:=MA ht;rw[gJ,lN] at this;exact this
    ·exact .inl ((jI hq).1 t ht)
    ·exact .inr ((y1 hp).1 t ht)
   ·simp only[PC.modO,dN] at hj;rcases hj with(hj|hj)|hj
    ·exact CF hj
    ·exact re.2 (.inl ((jI hq).2 j hj))
    ·exact re.2 (.inr ((y1 hp).2 j hj))
 |block id x jI=>
  intro rm S r h;simp only[comp] at h;cases cL:Nat.beq id cR<;>simp only[cL,cond_true,cond_false] at h
  case true=>cases h;exact ni
  simp only[aC] at h;obtain⟨q,hq,rfl⟩:=h;exact abH (jI hq)
 |loop x jI=>
  intro rm S r h;rw[ab4] at h;split at h
  ·exact avs h
  split at h
  case h_2=>cases h;exact ni
  rename_i q hq;cases h;have hs:=(Gm (C:=C) (w0:=default) (σ0:=Base.mk0 ⟨fun _ _=>none,fun _=>none⟩ 0) (ids:=ids) 8 hq).1;refine⟨fun t ht=>?_,fun j hj=>?_⟩
  ·simp only[PC.modR,dN] at ht;exact ht.elim MA ((jI hs).1 t)
  ·simp only[PC.modO,dN] at hj;exact hj.elim CF ((jI hs).2 j)
 |exit id=>
  intro rm S r h;simp only[comp] at h;cases cL:Nat.beq id cR<;>simp only[cL,cond_true,cond_false] at h<;>cases h
  ·simp[PC.modR,PC.modO]
  ·exact ni
 |ret=>
  intro rm S r h;simp only[comp] at h;cases rm<;>simp only[cond_true,cond_false] at h
  case true=>cases h;simp[PC.modR,PC.modO]
  split at h
  ·cases h;simp[PC.modR,PC.modO]
  ·cases h;exact ni
 |rangeFunc g ps x y _ _=>
  intro rm S r h;simp only[comp] at h;split at h
  case h_2=>cases h;exact ni
  split at h
  case h_2=>cases h;exact ni
  split at h
  case h_2=>cases h;exact ni
  rename_i q hq;rw[qg] at h;split at h
  ·cases h;refine⟨fun t ht=>?_,fun j hj=>?_⟩
   ·simp[PC.modR,PI.modR] at ht;subst ht;exact rZ _
   ·simp only[PC.modO,PI.modO,vd,List.flatMap_nil,tK,xC] at hj;exact(eu.1 hj).1
  ·cases h;exact ni
 |_=>intro rm S r h;simp only[comp,bj] at h;subst h;exact ni
theorem ir.mono {rm:Bool}{wr:Nat→Prop}{a0 a1:Act}{out ah2:Option Snap}{ex ex':List (Nat×Snap)}{x:Out}{e:Exit}(h:ir C w0 σ0 ids fn s rm wr a0 out ex x e a w)(he:∀y,y∈ex→y∈ex')(hs:SameBut wr a1 a0)
 (ho:e=.normal→ah2=out):ir C w0 σ0 ids fn s rm wr a1 ah2 ex' x e a w:=by
 cases e with
 |normal=>obtain⟨ρ,S,h1,h2,h3,h4⟩:=h;exact⟨ρ,S,h1,by rw[ho rfl];exact h2,hs.trans h3,h4⟩
 |exit id=>obtain⟨ρ,S,h1,h2,h3,h4,h5⟩:=h;exact⟨ρ,S,h1,h2,he _ h3,hs.trans h4,h5⟩
 |ret=>
  cases rm with
  |false=>obtain⟨d,h1,h2,h3⟩:=h;exact⟨d,h1,h2,hs.trans h3⟩
  |true=>obtain⟨ρ,S,h1,h3,h4,h5⟩:=h;exact⟨ρ,S,h1,he _ h3,hs.trans h4,h5⟩
 |_=>exact h.elim
theorem acs {body:Env→Option Out}{ρ:Env}{ps lo:List Nat}{rt:Option PE}{x:Out}:∀{xs vo:List D},jh body ρ ps lo rt xs vo=some x→
 ∃(m:Nat) (nk:Nat→List D),m≤xs.length∧nk 0=vo∧
  (∀i,i<m→∃y ρ',xs[i]?=some y∧body (ρ.put ps (partsOf ps y) lo (nk i))=some (.next ρ')∧lo.map ρ'.o=nk (i+1))∧
  ((m=xs.length∧x=.next (ρ.put [] [] lo (nk m)))∨
   (m<xs.length∧∃y id ρ',xs[m]?=some y∧body (ρ.put ps (partsOf ps y) lo (nk m))=some (.exit id ρ')∧
    ((id≠cR∧x=.exit id (ρ.put [] [] lo (lo.map ρ'.o)))∨(id=cR∧∃e,rt=some e∧x=.ret (e.ev (ρ.put [] [] lo (lo.map ρ'.o)))))))
 |[],vo,h=>by
  simp only[jh,bj] at h;exact⟨0,fun _=>vo,bn _,rfl,fun i hi=>by omega,.inl ⟨rfl,h.symm⟩⟩
 |y::xs,vo,h=>by
  simp only[jh] at h;split at h
  ·rename_i ρ' hb;obtain⟨m,nk,h1,h2,h3,h4⟩:=acs h;refine⟨m+1,fun i=>match i with|0=>vo|i+1=>nk i,by simp;omega,rfl,fun i hi=>?_,?_⟩
   ·cases i with
    |zero=>exact⟨y,ρ',rfl,hb,h2.symm⟩
    |succ i=>simpa using h3 i (by omega)
   ·rcases h4 with⟨e1,e2⟩|⟨e1,z,id,ρ2,e2,e3,e4⟩
    ·exact .inl ⟨by simp[e1],e2⟩
    ·exact .inr ⟨by simp;omega,z,id,ρ2,by simpa using e2,e3,e4⟩
  ·rename_i id ρ' hb;refine⟨0,fun _=>vo,kU _,rfl,fun i hi=>by omega,.inr ⟨by simp,y,id,ρ',rfl,hb,?_⟩⟩;cases cL:Nat.beq id cR<;>simp only[cL,cond_true,cond_false] at h
   ·refine .inl ⟨fun e=>?_,(tO h).symm⟩;subst e;simp at cL
   ·simp only[aC] at h;obtain⟨e,he,e2⟩:=h;exact .inr ⟨aD cL,e,he,e2.symm⟩
  ·cases h
theorem abE {l:List Nat}{t:Nat}(h:t∈l):aU (zf l) t=true:=by
 induction l with
 |nil=>cases h
 |cons x l ih=>
  have e:zf (x::l)=Nat.lor (iu x) (zf l):=rfl;rw[e,gJ];rcases cC.1 h with e|e
  ·subst e;rw[rZ];rfl
  ·rw[ih e];simp
theorem T8 (m:Nat):∀(l:List Sh) (k t:Nat),(uL m k l).getD t .none=if aU m (k+t)=true then .none else l.getD t .none
 |[],k,t=>by simp[uL]
 |s::l,k,0=>by
  simp only[uL,oI,mq];cases aU m k<;>rfl
 |s::l,k,t+1=>by
  simp only[uL,xx];rw[T8 m l (k+1) t,show k+1+t=k+(t+1) by omega]
theorem Gw (m:Nat)(S:Snap)(t:Nat):((S.mask m).st ids).r t=if aU m t=true then .none else(S.st ids).r t:=by
 show cO ((uL m 0 S.rs).getD t .none)=if aU m t=true then .none else cO (S.rs.getD t .none);rw[T8,je];split<;>rfl
theorem avx {m:Nat}{x S:Snap}{t:Nat}(h:aU m t=true):((x.meet (S.mask m)).st ids).r t=.none:=by
 show cO ((List.zipWith jN x.rs (uL m 0 S.rs)).getD t .none)=.none;rcases Pn (f:=jN) x.rs (uL m 0 S.rs) t with h0|⟨s,u,h1,h2,h3⟩
 ·rw[h0];rfl
 ·rw[T8,je,if_pos h] at h2;subst h2;rw[h3];cases s<;>rfl
theorem Inv.maskR {S:Snap}{hv:Nat→Value}(h:Inv C (S.st ids) ρ σ own hv w0 σ0 A a w)(m:Nat):Inv C ((S.mask m).st ids) ρ σ own hv w0 σ0 (fun _=>False) a w:=by
 have hc:Compat (S.st ids) hv ((S.mask m).st ids) hv:=⟨fun _=>bn _,fun _ _=>rfl⟩
 refine h.weaken (fun t=>?_) (fun j=>?_) (Snap.noOpt _ _) (fun j hj=>⟨hj,rfl⟩)
 ·refine aJ.mono' (ρ:=ρ) (.refl σ) hc (Snap.noOpt _ _ t) ?_;rw[Gw];split
  ·trivial
  ·exact h.regs t
 ·exact(h.objs j).mono (.refl σ) hc rfl rfl (fun k hk=>⟨hk,rfl⟩)
theorem Xc:∀(ps:List Nat) (ys:List Ty) (l:List Sh),ps.length=ys.length→kf ps=true→∀t,(tq ps ys l).getD t .none=.none∨(t∉ps∧(tq ps ys l).getD t .none=l.getD t .none)∨∃(i:Nat) (y:Ty),ps[i]?=some t∧ys[i]?=some y∧(tq ps ys l).getD t .none=.dat y
 |[],ys,l,_,_,t=>.inr (.inl ⟨by simp,by cases ys<;>rfl⟩)
 |p::ps,[],l,h,_,t=>by simp at h
 |p::ps,y::ys,l,h,hn,t=>by
  have ll:=rf hn;rw[qk] at ll;have dS:kf ps=true:=by
   simp only[kf,aw] at hn;exact hn.2
  show(tq ps ys (l.set p (.dat y))).getD t .none=_∨_∨_;rcases Xc ps ys (l.set p (.dat y)) (by simpa using h) dS t with e|⟨e1,e2⟩|⟨i,z,e1,e2,e3⟩
  ·exact .inl e
  ·by_cases hp:t=p
   ·subst hp;by_cases af:t<l.length
    ·exact .inr (.inr ⟨0,y,rfl,rfl,by show(tq ps ys (l.set t (.dat y))).getD t .none=_;rw[e2];simp[aI,af]⟩)
    ·left;rw[e2];simp[aI,af]
   ·refine .inr (.inl ⟨by simp[hp,e1],?_⟩);show(tq ps ys (l.set p (.dat y))).getD t .none=_;rw[e2];simp only[aI,IY];rw[if_neg (fun e=>hp e.symm)]
  ·exact .inr (.inr ⟨i+1,z,by simpa using e1,by simpa using e2,e3⟩)
def na:List Nat→List Value→Array Value→Array Value
 |p::ps,v::vs,T=>na ps vs (T.setIfInBounds p v)
 |_,_,T=>T
theorem ayl (ps:Array Nat)(vs:Array Value)(T:Array Value):(ps.zip vs).foldl (fun T x=>T.setIfInBounds x.1 x.2) T=na ps.toList vs.toList T:=by
 rw[←Array.foldl_toList,Array.toList_zip];generalize ps.toList=l;generalize vs.toList=k
 induction l generalizing k T with
 |nil=>rfl
 |cons p l ih=>
  cases k with
  |nil=>rfl
  |cons v k=>simpa [na] using ih (T.setIfInBounds p v) k
theorem ajS:∀(ps:List Nat) (vs:List Value) (T:Array Value),(na ps vs T).size=T.size
 |[],vs,T=>by cases vs<;>rfl
 |p::ps,[],T=>rfl
 |p::ps,v::vs,T=>by simp[na,ajS ps vs]
theorem OF:∀(ps:List Nat) (vs:List Value) (T:Array Value) (t:Nat),t∉ps→(na ps vs T).getD t undef=T.getD t undef
 |[],vs,T,t,_=>by cases vs<;>rfl
 |p::ps,[],T,t,_=>rfl
 |p::ps,v::vs,T,t,h=>by
  simp only[cC,not_or] at h;simp only[na];rw[OF ps vs _ t h.2];simp only[gG,DK];rw[if_neg (fun e=>h.1 e.symm)]
theorem ajR:∀(ps:List Nat) (vs:List Value) (T:Array Value) (i t:Nat),ps.Nodup→ps.length=vs.length→(∀p,p∈ps→p<T.size)→ps[i]?=some t→(na ps vs T).getD t undef=vs.getD i undef
 |p::ps,v::vs,T,0,t,hn,hl,af,h=>by
  simp at h;subst h;rw[qk] at hn;simp only[na];rw[OF ps vs _ p hn.1];simp[DK,af p (fK ..)]
 |p::ps,v::vs,T,i+1,t,hn,hl,af,h=>by
  rw[qk] at hn;simp only[na];have:=ajR ps vs (T.setIfInBounds p v) i t hn.2 (by simpa using hl) (fun q hq=>by simpa using af q (fy _ hq)) (by simpa using h);simpa using this
 |p::ps,[],T,i,t,hn,hl,af,h=>by simp at hl
 |[],vs,T,i,t,hn,hl,af,h=>by simp at h
theorem CX (f:Nat→D):∀(ps:List Nat) (vs:List D) (t:Nat),t∉ps→putL f ps vs t=f t
 |[],vs,t,_=>by cases vs<;>rfl
 |p::ps,[],t,_=>rfl
 |p::ps,v::vs,t,h=>by
  simp only[cC,not_or] at h;simp only[putL,bM _ _ h.1];exact CX f ps vs t h.2
theorem Vw (f:Nat→D):∀(ps:List Nat) (vs:List D) (i t:Nat),ps.Nodup→ps.length=vs.length→ps[i]?=some t→putL f ps vs t=vs.getD i .none
 |p::ps,v::vs,0,t,hn,hl,h=>by
  simp at h;subst h;simp[putL,aS]
 |p::ps,v::vs,i+1,t,hn,hl,h=>by
  rw[qk] at hn;have ht:t∈ps:=ko (by simpa using h);have ay:t≠p:=fun e=>hn.1 (e▸ht);simp only[putL,bM _ _ ay];have:=Vw f ps vs i t hn.2 (by simpa using hl) (by simpa using h);simpa using this
 |p::ps,[],i,t,hn,hl,h=>by simp at hl
 |[],vs,i,t,hn,hl,h=>by simp at h
theorem awA (ps:List Nat)(ds:List D)(i:Nat)(h:i<ps.length):(partsOf ps (.tup ds)).getD i .none=ds.getD i .none:=by
 simp[partsOf,aI,h,D.tget]
theorem awz (ps:List Nat)(x:D):(partsOf ps x).length=ps.length:=by simp[partsOf]
theorem Inv.startR {S:Snap}{hv:Nat→Value}(h:Inv C (S.st ids) ρ σ own hv w0 σ0 A a w){ps:List Nat}{ys:List Ty}{args:List Value}{ds:List D}{lo:List Nat}{vo:List D}(hl:ps.length=ys.length)(bx:kf ps=true)(af:∀p,p∈ps→p<a.tmps.size)(ha:qd C σ ys args ds)
 (hρ:ρ=ρ'.put [] [] lo vo):Inv C ((S.start ps ys).st ids) (ρ'.put ps (partsOf ps (.tup ds)) lo vo) σ own hv w0 σ0 (fun _=>False) {tmps:=na ps args a.tmps,defers:=[]} w:=by
 obtain⟨a1,a2,a3⟩:=ha;have hn:=rf bx;have hc:Compat (S.st ids) hv ((S.start ps ys).st ids) hv:=⟨fun _=>bn _,fun _ _=>rfl⟩
 have ho:∀j,(ρ'.put ps (partsOf ps (.tup ds)) lo vo).o j=ρ.o j:=fun j=>by rw[hρ];rfl
 refine⟨trivial,h.ok,h.le,h.old,h.newc,h.newm,h.below,h.bw,h.owns,fun t=>?_,fun j=>(h.objs j).mono (.refl σ) hc rfl (ho j) (fun k hk=>⟨hk,rfl⟩),fun t gs s e=>absurd e (Snap.noOpt _ _ t gs s),?_⟩
 ·show aJ C _ _ σ hv (cO ((tq ps ys (S.rs.map uD)).getD t .none)) ((na ps args a.tmps).getD t undef) (putL ρ'.r ps (partsOf ps (.tup ds)) t);rcases Xc ps ys (S.rs.map uD) hl bx t with e|⟨e1,e2⟩|⟨i,y,e1,e2,e3⟩
  ·rw[e];trivial
  ·rw[e2,OF _ _ _ _ e1,CX _ _ _ _ e1];have hr:=h.regs t;change aJ C _ ρ σ hv (cO (S.rs.getD t .none)) _ _ at hr;have hρr:ρ.r t=ρ'.r t:=by rw[hρ];show putL ρ'.r [] [] t=_;rfl
   rw[hρr] at hr;have e3:(S.rs.map uD).getD t .none=uD (S.rs.getD t .none):=by
        simp only[aI,ct];cases S.rs[t]?<;>rfl
   rw[e3];generalize S.rs.getD t .none=s at hr;cases s with
   |yv=>trivial
   |opt gs s=>trivial
   |none=>trivial
   |fclo f c=>exact aJ.mono' (.refl σ) hc (fun _ _ e=>by cases e) hr
   |agg l=>exact aJ.mono' (.refl σ) hc (fun _ _ e=>by cases e) hr
   |dat t=>exact hr
   |obj j v=>exact aJ.mono' (.refl σ) hc (fun _ _ e=>by cases e) hr
   |ptr j v o=>exact aJ.mono' (.refl σ) hc (fun _ _ e=>by cases e) hr
   |eptr j v o q=>exact aJ.mono' (.refl σ) hc (fun _ _ e=>by cases e) hr
  ·rw[e3];have hi:i<ps.length:=(fe.1 e1).1;rw[ajR ps args a.tmps i t hn (by omega) af e1,Vw _ ps _ i t hn (by rw[awz]) e1,awA _ _ _ hi];exact a3 i y e2
 ·obtain⟨t,fx,cx,h1,h2⟩:=h.frame;exact⟨t,fx,cx,h1,fun j hj=>⟨(h2 j hj).1,by rw[ho j];exact(h2 j hj).2⟩⟩
def xO (C:Ctx)(Φ:aW)(fn:Func)(s:Sig)(n:Nat)(ids:List Nat)(R:Array Oper→Bool→Snap→Option (Snap×List PI))(N:Nat)(c:Code):Prop:=
 ∀(rm:Bool) (S:Snap) (r:Res2),comp C fn s n ids R rm c S=some r→∀(rd:Option Nat) (w0:World) (σ0:Base) (wr:Nat→Prop) (ρ:Env) (x:Out) (a:Act) (w:World),(rm=false→rd=none∧σ0.fin)→CtxOK C σ0→tR C Φ w0 σ0→(∀t,t∈cP c→wr t)→a.tmps.size=n→
  Good C w0 σ0 (S.st ids) ρ (fun _=>False) a w→r.pc.ev Φ N ρ=some x→c.wpIn (FR rd) 0 C.P (ir C w0 σ0 ids fn s rm wr a r.out r.ex x) a w
structure Seg (σ:Im) (own:Nat→Option Nat) (w:World) (σ':Im) (own':Nat→Option Nat) (w':World):Prop where
 le:σ.le σ'
 below:Below 0 w w'
 same:∀k,k<w.heap.size→own k=none→w'.heap[k]?=w.heap[k]?
 ow:∀k j,own' k=some j→(∃i,own k=some i)∨w.heap.size≤k
 imm:∀k,((∃o x,σ'.c k o=some x)∨∃x,σ'.m k=some x)→(∃o x,σ.c k o=some x)∨(∃x,σ.m k=some x)∨(∃i,own k=some i)∨w.heap.size≤k
structure Free (L:Nat) (σ:Im) (own:Nat→Option Nat):Prop where
 own:own L=none
 c:∀o,σ.c L o=none
 m:σ.m L=none
theorem Free.seg {L:Nat}{σ':Im}{own':Nat→Option Nat}{w':World}(h:Free L σ own)(hL:L<w.heap.size)(k:Seg σ own w σ' own' w'):Free L σ' own':=by
 have FD:¬((∃o x,σ'.c L o=some x)∨∃x,σ'.m L=some x):=fun e=>by
  rcases k.imm L e with⟨o,x,e⟩|⟨x,e⟩|⟨i,e⟩|e
  ·rw[h.c o] at e;cases e
  ·rw[h.m] at e;cases e
  ·rw[h.own] at e;cases e
  ·omega
 refine⟨?_,fun o=>?_,?_⟩
 ·cases e:own' L with
  |none=>rfl
  |some j=>
   rcases k.ow L j e with⟨i,e⟩|e
   ·rw[h.own] at e;cases e
   ·omega
 ·cases e:σ'.c L o with
  |none=>rfl
  |some x=>exact absurd (.inl ⟨o,x,e⟩) FD
 ·cases e:σ'.m L with
  |none=>rfl
  |some x=>exact absurd (.inr ⟨x,e⟩) FD
def aln (C:Ctx)(w0:World)(σ0:Base)(ids:List Nat)(wr:Nat→Prop)(a0:Act)(σ:Im)(own:Nat→Option Nat)(w:World)(out:Option Snap)(ex:List (Nat×Snap))(x:Out)(e:Exit)(a':Act)(w':World):Prop:=
 ∃ρ' S' σ' own' hv',Inv C (S'.st ids) ρ' σ' own' hv' w0 σ0 (fun _=>False) a' w'∧Seg σ own w σ' own' w'∧SameBut wr a0 a'∧
  match e with
  |.normal=>x=.next ρ'∧out=some S'
  |.exit id=>x=.exit id ρ'∧id≠cR∧(id,S')∈ex
  |.ret=>x=.exit cR ρ'∧(cR,S')∈ex
  |_=>False
theorem ajN {N:Nat}{c:Code}(hc:xO C Φ fn s n ids R N c){S:Snap}{r:Res2}(hr:comp C fn s n ids R true c S=some r)(oc:C.yl=none)(hC:CtxOK C σ0){wr:Nat→Prop}{ρ:Env}{x:Out}{hv:Nat→Value}(h:Inv C (S.st ids) ρ σ own hv w0 σ0 (fun _=>False) a w)
 (eW:∀t,t∈cP c→wr t) (hn:a.tmps.size=n) (he:r.pc.ev Φ N ρ=some x) (L:Nat):c.wpIn (FR (some L)) 0 C.P (aln C w0 σ0 ids wr a σ own w r.out r.ex x) a w:=by
 obtain⟨t,fx,cx,fj,ht⟩:=h.frame;have h1:=h.toRnd (X:=fun _=>False) ht;refine wpIn_mono (hc true S r hr (some L) w0 (σ0.rnd σ own w t fun _=>False) wr ρ x a w (fun e=>by cases e) (hC.mono h.le) (fun J ys e=>by rw[oc] at e;cases e) eW hn ⟨_,_,_,h1⟩ he) fun e a' w' ho=>?_
 have main:∀{S':Snap} {ρ':Env},SameBut wr a a'→Good C w0 (σ0.rnd σ own w t fun _=>False) (S'.st ids) ρ' (fun _=>False) a' w'→∃σ' own' hv',Inv C (S'.st ids) ρ' σ' own' hv' w0 σ0 (fun _=>False) a' w'∧Seg σ own w σ' own' w'∧SameBut wr a a':=by
  intro S' ρ' hs hg;obtain⟨σ',own',hv',h2⟩:=hg;exact⟨σ',own',hv',h.ofRnd fj (fun _ _=>id) h2,⟨h2.le,h.rndBelow h2,fun k hk ho=>Inv.rndSame h.ok h2 hk ho id,fun k j e=>Inv.rndOwn h2 e id,fun k e=>Inv.rndC h2 e id⟩,hs⟩
 cases e with
 |normal=>
  obtain⟨ρ',S',e1,e2,e3,e4⟩:=ho;obtain⟨σ',own',hv',g1,g2,g3⟩:=main e3 e4;exact⟨ρ',S',σ',own',hv',g1,g2,g3,e1,e2⟩
 |exit id=>
  obtain⟨ρ',S',e1,e0,e2,e3,e4⟩:=ho;obtain⟨σ',own',hv',g1,g2,g3⟩:=main e3 e4;exact⟨ρ',S',σ',own',hv',g1,g2,g3,e1,e0,e2⟩
 |ret=>
  obtain⟨ρ',S',e1,e2,e3,e4⟩:=ho;obtain⟨σ',own',hv',g1,g2,g3⟩:=main e3 e4;exact⟨ρ',S',σ',own',hv',g1,g2,g3,e1,e2⟩
 |_=>exact ho.elim
theorem Inv.putL {L:Nat}{hv:Nat→Value}{S:St}{ρ:Env}(h:Inv C S ρ σ own hv w0 σ0 A a w)(hL:w0.heap.size≤L)(hf:Free L σ own)(hx:∀t fx cx,FrOK σ own w0.heap.size σ0 w t fx cx→¬fx L)(o:Obj):Inv C S ρ σ own hv w0 σ0 A a (w.putObj L o):=
 h.keep (X:=fun k=>k≠L) ⟨rfl,rfl,rfl,by simp,fun k hk=>by omega⟩ (fun k hk=>World.putObj_heap_other hk) (fun k hk=>by omega) (fun k j e1 e2=>by subst e2;rw[hf.own] at e1;cases e1) (fun k o v e1 e2=>by subst e2;rw[hf.c] at e1;cases e1)
  (fun k v e1 e2=>by subst e2;rw[hf.m] at e1;cases e1) (fun t fx cx fj k hk e=>by subst e;exact hx t fx cx fj hk)
theorem aCk {o:Oper}{L:Nat}{x:Operand}{aa:Array Operand}{ts:Array TypeId}{r:Loop}(eE:o.op=.call {callee:=.value x,args:=aa,argTypes:=ts})(hx:a.eval x=.func (.yield L) #[] #[])(hL:w.heap[L]?=some (.loop r))(hs:aa.size=r.params.size):
 (execOp a.eval o).run C.P w=.ok (.round L r.fn ((r.params.zip (aa.map a.eval)).foldl (fun tmps (t,v)=>tmps.setIfInBounds t v) r.tmps) r.assign r.body) w:=by
 have hy:=run_yield (P:=C.P) (args:=aa.map a.eval) hL (by simpa using hs);simp[execOp,eE,resolve,hx,Deferred.ofValue,invoke,hy]
theorem axr {g:Operand}{f:Nat}{vs:List Value}{L:Nat}(hf:∃fn,C.P.funcs[f]?=some fn∧fn.body.isSome=true∧(fn.name== "runtime.NumGoroutine")=false)(hg:a.eval g=.func (.func f) #[] vs.toArray):
 (resolve a.eval (rangeCall g L) 0).run C.P w=.ok {target:=.fn (.func f) vs.toArray,args:=#[.func (.yield L) #[] #[]]} w∧
 (invoke (.fn (.func f) vs.toArray) #[.func (.yield L) #[] #[]]).run C.P w=.ok (.enter f (#[.func (.yield L) #[] #[]]++vs.toArray)) w:=by
 obtain⟨fn,h1,h2,h3⟩:=hf;obtain⟨bd,iP⟩:=abe.1 h2;have h4:¬fn.name= "runtime.NumGoroutine" :=by simpa using h3
 constructor
 ·simp only[resolve,hg];simp[go_sem]
 ·simp[invoke,callFunc,h1,iP,h4]
theorem FrOK.enter {hv:Nat→Value}{S:St}{ρ:Env}(h:Inv C S ρ σ own hv w0 σ0 A a w){t:D}{fx cx:Nat→Prop}(hf:FrOK σ own w0.heap.size σ0 w t fx cx)(r:Loop):FrOK (σ.mark w.heap.size) own w0.heap.size σ0 ((w.alloc (.deferred (some []))).alloc (.loop r)) t fx cx:=by
 have hb:=acx w (.deferred (some [])) (.loop r);have af:=σ0.lt _ _ _ _ hf.F;have cM:=σ0.sub _ _ _ _ hf.F;have yI:∀k x,(σ.mark w.heap.size).m k=some x→σ.m k=some x∨k=w.heap.size:=by
  intro k x e;simp only[Im.mark] at e;split at e
  ·rename_i e2;exact .inr e2
  ·exact .inl e
 refine⟨σ0.keep _ _ _ _ _ hf.F (hb.mono (kU _)) fun k hk=>hb.block k (af k hk),hf.own,hf.c,fun k x e hc=>?_,fun k e hB hk=>?_⟩
 ·rcases yI k x e with e|e
  ·exact hf.m k x e hc
  ·have:=af k (cM k hc);omega
 ·rcases yI k _ e with e|e
  ·exact hf.d k e hB hk
  ·have:=af k hk;omega
structure RSt (C:Ctx) (w0:World) (σR:Base) (ids:List Nat) (ρ1:Env) (lo:List Nat) (aM:Act) (L:Nat) (W1:World) (σ1:Im) (rec:LoopState→Option Code→Loop) (xs:List D) (P:Nat→List D→Snap→LoopState→Option Code→Prop) (t:D) (fx cx:Nat→Prop) (w:World):Prop where
 lt:∀k,fx k→k<w.heap.size
 sub:∀k,cx k→fx k
 old:∀k,k<W1.heap.size→fx k
 ex:∃(i:Nat) (vo:List D) (Sx:Snap) (st:LoopState) (pe:Option Code) (σ:Im) (own:Nat→Option Nat) (hv:Nat→Value),t=.list (xs.take i)∧P i vo Sx st pe∧Inv C (Sx.st ids) (ρ1.put [] [] lo vo) σ own hv w0 σR (fun _=>False) aM w∧
  σ1.le σ∧Free L σ own∧w.heap[L]?=some (.loop (rec st pe))∧(∀k j,own k=some j→fx k)∧(∀k o x,σ.c k o=some x→fx k)∧(∀k x,σ.m k=some x→fx k)∧∀k,cx k↔((∃j,own k=some j)∨k=L)
theorem RSt.keep {σR:Base}{ρ1:Env}{lo:List Nat}{aM:Act}{L:Nat}{W1:World}{σ1:Im}{rec:LoopState→Option Code→Loop}{xs:List D}{P:Nat→List D→Snap→LoopState→Option Code→Prop}{t:D}{fx cx:Nat→Prop}{w w':World}
 (h0:w0.heap.size≤W1.heap.size) (hL:L<W1.heap.size) (hR:∀t f c w,σR.F t f c w→∀k,f k→k<W1.heap.size) (h:RSt C w0 σR ids ρ1 lo aM L W1 σ1 rec xs P t fx cx w) (hb:Below 0 w w') (hs:∀k,fx k→w'.heap[k]?=w.heap[k]?):
 RSt C w0 σR ids ρ1 lo aM L W1 σ1 rec xs P t fx cx w':=by
 obtain⟨i,vo,Sx,st,pe,σ,own,hv,e1,e2,e3,e4,e5,e6,e7,e8,e9,e10⟩:=h.ex;refine⟨fun k hk=>lR (h.lt k hk) hb.size,h.sub,h.old,i,vo,Sx,st,pe,σ,own,hv,e1,e2,?_,e4,e5,(hs L (h.old L hL)).trans e6,e7,e8,e9,e10⟩;exact e3.keep (X:=fx) hb hs (fun k hk=>h.old k (by omega)) e7 e8 e9 (fun t f c hf k hk=>h.old k (hR _ _ _ _ hf.F k hk))
theorem Im.noM_m {σ:Im}{k:Nat}{v:List (Value×Value)}(h:σ.noM.m k=some v):σ.m k=some v∧v≠cI:=by
 simp only[Im.noM] at h;split at h
 ·cases h
 ·rename_i ay;exact⟨h,fun e=>ay (by rw[h,e])⟩
structure SegL (L:Nat) (σ:Im) (own:Nat→Option Nat) (w:World) (σ':Im) (own':Nat→Option Nat) (w':World):Prop where
 le:σ.le σ'
 below:Below 0 w w'
 same:∀k,k<w.heap.size→own k=none→k≠L→w'.heap[k]?=w.heap[k]?
 ow:∀k j,own' k=some j→(∃i,own k=some i)∨w.heap.size≤k
 imm:∀k,((∃o x,σ'.c k o=some x)∨∃x,σ'.m k=some x)→(∃o x,σ.c k o=some x)∨(∃x,σ.m k=some x)∨(∃i,own k=some i)∨w.heap.size≤k
theorem aio (w:World)(L:Nat)(o:Obj):Below 0 w (w.putObj L o):=⟨rfl,rfl,rfl,by simp,fun k hk=>by omega⟩
theorem Seg.round {L:Nat}{σ' σ'':Im}{own' ah3:Nat→Option Nat}{w' lL:World}{o o':Obj}(h:Seg σ own w σ' own' w')(k:Seg σ' own' (w'.putObj L o) σ'' ah3 lL):SegL L σ own w σ'' ah3 (lL.putObj L o'):=by
 have aP:=h.below.size;have vR:=k.below.size;simp only[World.putObj_size] at vR;refine⟨h.le.trans k.le,h.below.trans ((aio _ _ _).trans (k.below.trans (aio _ _ _))),fun q hq ho hL=>?_,fun q j e=>?_,fun q e=>?_⟩
 ·have h1:own' q=none:=by
   cases e:own' q with
   |none=>rfl
   |some j=>
    rcases h.ow q j e with⟨i,e⟩|e
    ·rw[ho] at e;cases e
    ·omega
  rw[World.putObj_heap_other hL,k.same q (by simp;omega) h1,World.putObj_heap_other hL,h.same q hq ho]
 ·rcases k.ow q j e with⟨i,e⟩|e
  ·exact h.ow q i e
  ·simp only[World.putObj_size] at e;exact .inr (by omega)
 ·rcases k.imm q e with e|e|⟨i,e⟩|e
  ·exact h.imm q (.inl e)
  ·exact h.imm q (.inr e)
  ·rcases h.ow q i e with e|e
   ·exact .inr (.inr (.inl e))
   ·exact .inr (.inr (.inr e))
  ·simp only[World.putObj_size] at e;exact .inr (.inr (.inr (by omega)))
theorem Env.put_self (ρ:Env)(lo:List Nat):ρ.put [] [] lo (lo.map ρ.o)=ρ:=by
 have h2:∀u,putL ρ.o lo (lo.map ρ.o) u=ρ.o u:=fun u=>by rw[uS];split<;>rfl
 show Env.mk ρ.r (putL ρ.o lo (lo.map ρ.o))=ρ;rw[funext h2]
theorem axs {N:Nat}(dY:gH C Φ){g:Operand}{ps:Array Tmp}{ca cb:Code}(bH:xO C Φ fn s n ids R N ca)(eG:xO C Φ fn s n ids R N cb):xO C Φ fn s n ids R N (.rangeFunc g ps ca cb):=by
 intro rm S r hr rd w0 σ0 wr ρ x a w gm hC hY eW hn hg he;simp only[comp] at hr;split at hr
 case h_2=>cases hr;exact absurd he (ng _ _ _ _)
 rename_i aa rr e oc hu;split at hr
 case h_2=>cases hr;exact absurd he (ng _ _ _ _)
 rename_i ys od;split at hr
 case h_2=>cases hr;exact absurd he (ng _ _ _ _)
 rename_i q hq;rw[qg] at hr;split at hr
 case isFalse=>cases hr;exact absurd he (ng _ _ _ _)
 rename_i sy;cases hr;simp only[aw] at sy;obtain⟨⟨⟨hl,bx⟩,af⟩,F3⟩:=sy;have hl:=aD hl;have F3:=lQ F3;obtain⟨hrd,j4⟩:=gm rfl;subst hrd;obtain⟨hs,B8,_⟩:=Gm (C:=C) (w0:=w0) (σ0:=σ0) (ids:=ids) 8 hq;simp only[aA] at hs;obtain⟨ra,Th,hs⟩:=hs;split at hs
 case h_2=>cases hs
 rename_i S1 hao hax;simp only[aC] at hs;obtain⟨rb,hrb,fO⟩:=hs;have hma:=vn ca Th;have hmb:=vn cb hrb;obtain⟨q1,q2⟩:=q;simp only at Th fO F3 B8 he ⊢;generalize mH:afH ids (q1::q2.ex.map (·.2)) q2.mo=lo at he;generalize vM:((pE cR q2.ex none).bind fun M=>zN C fn s (M.st ids))=rt at he;have F0:∃f caps d,e.ev ρ=.clo f caps∧Φ f caps=some d∧jh (q2.pc.ev Φ N) (ρ.setR n d) ps.toList lo rt d.l (lo.map ρ.o)=some x:=by
  simp only[PC.ev,PI.runs,PI.run,holds,List.all_nil,cond_true] at he;cases bN:e.ev ρ with
  |clo f caps=>
   rw[bN] at he;simp only[PE.evs,xC] at he;cases hΦ:Φ f caps with
   |none=>rw[hΦ] at he;simp at he
   |some d=>
    rw[hΦ] at he;simp only[kW,tN,PE.ev,Env.setR,aS] at he;exact⟨f,caps,d,rfl,hΦ,he⟩
  |_=>rw[bN] at he;simp at he
 obtain⟨f,caps,d,bN,hΦ,he⟩:=F0;obtain⟨σ,own,hv,i⟩:=hg;have hx:=cw (gs:=[]) i hC rfl hu;rw[bN] at hx;generalize hgv:a.eval g=gv at hx;generalize br:Ty.fn aa rr=ty at hx;cases hx with
 |fn f cs vs ds eR h1 h2 aO=>
 cases br;obtain⟨hfn,arE⟩:=dY f cs ys eR od;obtain⟨xs,rfl,aHN,Su⟩:=arE caps d hΦ;simp only[D.l_list] at he;obtain⟨m,nk,hm,eT,L2,lj⟩:=acs he;have iq0:=afb 8 hq i
 have iq:Inv C (q1.st ids) (ρ.setR n (.list xs)) σ own hv w0 σ0 (fun _=>False) a w:=by
  refine iq0.env (Snap.noOpt _ _) (fun t ht=>?_) (fun _ _=>rfl);have af:t<q1.rs.length:=by
   refine abb fun hle=>?_;simp only[Snap.st,aI,jW hle,Option.getD_none,cO,isNone] at ht;cases ht
  simp[Env.setR,bM _ _ (show t≠n by omega)]
 obtain⟨ρ1,hρ1⟩:∃ρ1,ρ.setR n (.list xs)=ρ1:=⟨_,rfl⟩
 rw[hρ1] at he iq L2 lj;have j6:ρ.o=ρ1.o:=by rw[←hρ1];rfl
 rw[j6] at eT;refine wpIn_rangeFunc ?_;intro RK aHh;obtain⟨L,adf⟩:∃L,w.heap.size+1=L:=⟨_,rfl⟩
 obtain⟨rec,jr⟩:∃rec:LoopState→Option Code→Loop,rec=fun st pe=>{state:=st,pending:=pe,fn:=RK,tmps:=a.tmps,params:=ps,assign:=ca,body:=cb,defers:=w.heap.size}:=⟨_,rfl⟩
 have i1:=iq.enter (rec .ready none);obtain⟨t,fx0,cx0,adJ,ht0⟩:=iq.frame;have arf:=σ0.lt _ _ _ _ adJ.F;have Sn:=FrOK.enter iq adJ (rec .ready none);have aHL:=iq.below.size;have BX:Free L (σ.mark w.heap.size) own:=by
  refine⟨?_,fun o=>?_,?_⟩
  ·cases e:own L with
   |none=>rfl
   |some j=>have:=(iq.owns L j e).2.1;omega
  ·cases e:σ.c L o with
   |none=>exact e
   |some x=>have:=iq.lt e;omega
  ·simp only[Im.mark,show L≠w.heap.size by omega,if_false];cases e:σ.m L with
   |none=>rfl
   |some x=>have:=iq.ltm e;omega
 have mG:σ.le (σ.mark w.heap.size):=by
  refine⟨fun _ _ _ e=>e,fun k x e=>?_⟩;have:k≠w.heap.size:=by have:=iq.ltm e;omega
  simp[Im.mark,this,e]
 have hL1:((w.alloc (.deferred (some []))).alloc (.loop (rec .ready none))).heap[L]?=some (.loop (rec .ready none)):=by
  have:=World.alloc_heap_new (w.alloc (.deferred (some []))) (.loop (rec .ready none));rw[World.size_alloc,adf] at this;exact this
 obtain⟨W1,R1⟩:∃W1,(w.alloc (.deferred (some []))).alloc (.loop (rec .ready none))=W1:=⟨_,rfl⟩
 have aHa:W1.heap.size=w.heap.size+2:=by rw[←R1];simp
 rw[R1] at i1 Sn hL1;have hen:(Instr.enterLoop RK a.tmps ps ca cb none).run C.P w=.ok (L,[{target:=.collected w.heap.size,args:=#[]}]) W1:=by
  rw[←R1,jr,←adf];exact run_enterLoop_outer _ _ _ _ _
 obtain⟨σ1,hσ1⟩:∃σ1,σ.mark w.heap.size=σ1:=⟨_,rfl⟩
 rw[hσ1] at i1 Sn BX mG;obtain⟨aM,R3⟩:∃aM:Act,{a with defers:={target:=.collected w.heap.size,args:=#[]}::a.defers}=aM:=⟨_,rfl⟩
 have Fl:aM.tmps=a.tmps:=by rw[←R3]
 rw[R3] at i1;have iR:=i1.toRnd (t:=t) (X:=fun k=>k=L) ht0;obtain⟨σR,hσR⟩:∃σR,σ0.rnd σ1 own W1 t (fun k=>k=L)=σR:=⟨_,rfl⟩
 have vz:∀t' f c w',σR.F t' f c w'→(∀k,f k→k<W1.heap.size∧k≠L)∧∀k,c k→f k∧(∀o,σ1.c k o=none)∧σ1.m k=none:=by
  rw[←hσR];rintro t' f c w' ⟨_,h2,h3,_⟩;exact⟨fun k hk=>⟨((h2 k).1 hk).1,((h2 k).1 hk).2.2.2⟩,fun k hk=>(h3 k).1 hk⟩
 have hRC:CtxOK C σR:=by rw[←hσR];exact hC.mono i1.le
 rw[hσR] at iR
 obtain⟨P,hP⟩:∃P:Nat→List D→Snap→LoopState→Option Code→Prop,P=fun i vo Sx st pe=>(i≤m∧vo=nk i∧Sx=q1∧st=.ready∧pe=none)∨
  (i=m+1∧m<xs.length∧st=.done∧∃y id ρ',xs[m]?=some y∧q2.pc.ev Φ N (ρ1.put ps.toList (partsOf ps.toList y) lo (nk m))=some (.exit id ρ')∧vo=lo.map ρ'.o∧(id,Sx)∈q2.ex∧((id≠cR∧pe=some (.exit id))∨(id=cR∧pe=some .ret))):=⟨_,rfl⟩
 obtain⟨c1,c2⟩:=axr (C:=C) (w:=W1) (L:=L) hfn hgv;refine⟨L,[{target:=.collected w.heap.size,args:=#[]}],W1,_,W1,f,_,W1,hen,c1,fun _ _=>trivial,c2,(fun e=>by cases e),?_⟩
 refine abN ((Su σ1 W1 (.func (.yield L) #[] #[]) vs (RSt C w0 σR ids ρ1 lo aM L W1 σ1 rec xs P) (fun k=>k<W1.heap.size) (fun k=>(∃j,own k=some j)∨k=L) m i1.ok (hC.mono i1.le) ⟨h1,h2,fun j t e=>(aO j t e).mono mG⟩ hm
  (fun t f c w h=>h.lt) (fun t f c w h=>h.sub) (fun t f c w w' h hb hs=>h.keep (by omega) (by omega) (fun t f c w hF k hk=>((vz t f c w hF).1 k hk).1) hb hs) ?_ ?_ ?_ ?_).mono ?_)
 ·refine⟨fun k hk=>hk,fun k hk=>?_,fun k hk=>hk,0,nk 0,q1,.ready,none,σ1,own,hv,by simp,by rw[hP];exact .inl ⟨kU _,rfl,rfl,rfl,rfl⟩,?_,.refl σ1,BX,hL1,fun k j e=>(iR.owns k j e).2.1,fun k o x e=>iR.lt e,fun k x e=>iR.ltm e,fun k=>.rfl⟩
  ·rcases hk with⟨j,e⟩|e
   ·exact(iR.owns k j e).2.1
   ·show k<W1.heap.size;omega
  ·rw[eT,Env.put_self];exact iR
 ·rintro k o x e (⟨j,hj⟩|rfl)
  ·have:=(iR.owns k j hj).2.2.1 o;rw[e] at this;cases this
  ·rw[BX.c] at e;cases e
 ·rintro k x e (⟨j,hj⟩|rfl)
  ·have:=(iR.owns k j hj).2.2.2;rw[e] at this;cases this
  ·rw[BX.m] at e;cases e
 ·intro i fx cx w1 σx args ds' hi dJ hF hσx jm jn nT eD dv rd' o a' x' aa ts K Q eE cT adr hK;have aHl:i<xs.length:=(fe.1 dJ).1;obtain⟨i',vo,Sx,st,pe,σa,zt,hva,e1,e2,iA,LX,Fi,Lu,SV,hcA,FM,B5⟩:=hF.ex;have hii:i'=i:=by
   have h9:=congrArg List.length (congrArg D.l e1);simp only[D.l_list,ej] at h9;omega
  subst hii;rw[hP] at e2;rcases e2 with⟨_,rfl,Fj,rfl,rfl⟩|⟨e2,_⟩
  case inr=>omega
  rw[Fj] at iA;have adg:L<w1.heap.size:=hF.lt L (hF.old L (by omega));have LD:cx L:=(B5 L).2 (.inr rfl)
  have ar7:∀k o v,σx.c k o=some v→zt k=none:=fun k o v e=>by
   cases e2:zt k with
   |none=>rfl
   |some j=>exact absurd ((B5 k).2 (.inl ⟨j,e2⟩)) (jn k o v e)
  have FQ:∀k v,σx.m k=some v→zt k=none:=fun k v e=>by
   cases e2:zt k with
   |none=>rfl
   |some j=>exact absurd ((B5 k).2 (.inl ⟨j,e2⟩)) (nT k v e)
  have hτok:σx.noM.ok w1:=⟨hσx.c,fun k v e=>hσx.m k v (Im.noM_m e).1,hσx.f⟩
  have iB:=iA.joinIm (τ:=σx.noM) hτok (fun k e=>(Im.noM_m e).2 rfl) ar7 (fun k v e=>FQ k v (Im.noM_m e).1)
   (fun k o v e=>(eD k o v e).imp (fun e=>LX.c k o v e) fun e=>by omega) (fun k v e=>(dv k v (Im.noM_m e).1).imp (fun e=>LX.m k v e) fun e=>by omega)
   (fun t' f c hf=>⟨fun k o v e hc=>by
        obtain⟨g1,g2,g3⟩:=(vz _ _ _ _ hf.F).2 k hc;rcases eD k o v e with e|e
        ·rw[g2 o] at e;cases e
        ·have:=((vz _ _ _ _ hf.F).1 k g1).1;omega,fun k v e hc=>by
        obtain⟨g1,g2,g3⟩:=(vz _ _ _ _ hf.F).2 k hc;rcases dv k v (Im.noM_m e).1 with e|e
        ·rw[g3] at e;cases e
        ·have:=((vz _ _ _ _ hf.F).1 k g1).1;omega⟩)
  have hFB:Free L (σa.plus σx.noM) zt:=by
   refine⟨Fi.own,fun o=>?_,?_⟩
   ·cases e:(σa.plus σx.noM).c L o with
    |none=>rfl
    |some v=>
     rcases Im.plus_c e with e|e
     ·rw[Fi.c] at e;cases e
     ·exact absurd LD (jn L o v e)
   ·cases e:(σa.plus σx.noM).m L with
    |none=>rfl
    |some v=>
     rcases Im.plus_m e with e|e
     ·rw[Fi.m] at e;cases e
     ·exact absurd LD (nT L v (Im.noM_m e).1)
  have vK:ps.toList.length=ys.length:=by rw[Aa];exact hl.symm
  have aqF:qd C (σa.plus σx.noM) ys args ds':=⟨jm.1,jm.2.1,fun j t e=>((jm.2.2 j t e).noM).mono (Im.plus_le2 iA.ok hτok)⟩
  have iC:=iB.startR (ρ':=ρ1) vK bx (fun p hp=>by
   have:=da.1 af p hp;rw[Fl,hn];simpa [ql] using this) aqF rfl
  have Tb:∃xi,q2.pc.ev Φ N (ρ1.put ps.toList (partsOf ps.toList (.tup ds')) lo (nk i'))=some xi∧((i'<m∧∃ρ',xi=.next ρ'∧lo.map ρ'.o=nk (i'+1))∨(i'=m∧m<xs.length∧∃id ρ',xi=.exit id ρ')):=by
   by_cases sB:i'<m
   ·obtain⟨y,ρ',g1,g2,g3⟩:=L2 i' sB;rw[dJ] at g1;cases g1;exact⟨_,g2,.inl ⟨sB,ρ',rfl,g3⟩⟩
   ·obtain rfl:i'=m:=by omega
    rcases lj with⟨g1,_⟩|⟨g1,y,id,ρ',g2,g3,_⟩
    ·omega
    ·rw[dJ] at g2;cases g2;exact⟨_,g3,.inr ⟨rfl,g1,id,ρ',rfl⟩⟩
  obtain⟨xi,uI,TH⟩:=Tb;have ab:q2.pc=.seq ra.pc rb.pc:=by rw[←fO];rfl
  rw[ab] at uI;have aP:(na ps.toList args aM.tmps).size=n:=by rw[ajS,Fl,hn]
  refine⟨fun _ _=>trivial,?_⟩;rw[Oper.semAt_eq _ _ _ (fun c e=>by rw[eE] at e;cases e)];have aqG:aa.size=ps.size:=by
   have:=jm.1;rw[←adr,dM,Aa] at this;omega
  have ao:=aCk (C:=C) eE cT Lu (by rw[jr];exact aqG);have asy:(rec .ready none).fn=RK∧(rec .ready none).tmps=a.tmps∧(rec .ready none).params=ps∧(rec .ready none).assign=ca∧(rec .ready none).body=cb:=by rw[jr];exact⟨rfl,rfl,rfl,rfl,rfl⟩
  obtain⟨r1,r2,r3,r4,r5⟩:=asy;rw[r1,r2,r3,r4,r5] at ao
  have yQ:(ps.zip (aa.map a'.eval)).foldl (fun tmps (t,v)=>tmps.setIfInBounds t v) a.tmps=na ps.toList args aM.tmps:=by
   rw[Fl,←adr,←Ac];exact ayl ps (aa.map a'.eval) a.tmps
  rw[yQ] at ao;rw[ao];refine⟨(fun e=>by cases e),?_⟩;refine roundIn_of_wpIn (F:=FR rd') trivial ?_;show ca.wpIn (FR (some L)) 0 C.P _ _ _;cases mM:ra.pc.ev Φ N (ρ1.put ps.toList (partsOf ps.toList (.tup ds')) lo (nk i')) with
  |none=>simp only[PC.ev,mM] at uI;cases uI
  |some xa=>
  refine wpIn_mono (ajN bH Th oc hRC iC (wr:=fun t=>t∈cP ca) (fun _ h=>h) aP mM L) fun e2 a1 w1' asJ=>?_;obtain⟨ρ2,S2,σ2,jx,gq,iD,sO,jt,kD⟩:=asJ;cases e2 with
  |normal=>
   obtain⟨rfl,BZ⟩:=kD;rw[hao] at BZ;cases BZ;simp only[PC.ev,mM] at uI;have hL2:w1'.heap[L]?=some (.loop (rec .ready none)):=(sO.same L adg hFB.own).trans Lu;have RX:=hFB.seg adg sO;have RZ:L<w1'.heap.size:=(ei.1 hL2).1;have Lt:w0.heap.size≤L:=by omega
   refine⟨_,run_beginRound hL2 (by rw[jr]),?_⟩;have iE:=iD.putL Lt RX (fun t' f c hf Fz=>((vz _ _ _ _ hf.F).1 L Fz).2 rfl) (.loop {rec .ready none with state:=.busy});have hL3:(w1'.putObj L (.loop {rec .ready none with state:=.busy})).heap[L]?=some (.loop {rec .ready none with state:=.busy}):=World.putObj_heap_same RZ;show cb.wpIn (FR (some L)) 0 C.P _ _ _;refine wpIn_mono (ajN eG hrb oc hRC iE (wr:=fun t=>t∈cP cb) (fun _ h=>h) (jt.size.trans aP) uI L) fun e3 a3 w3 asK=>?_;obtain⟨ρ3,S3,σ3,zr,F7,iF,Mb,asH,po⟩:=asK;have hL4:w3.heap[L]?=some (.loop {rec .ready none with state:=.busy}):=(Mb.same L (by simpa using RZ) RX.own).trans hL3;have hF3:=RX.seg (by simpa using RZ) Mb;have aqp:L<w3.heap.size:=(ei.1 hL4).1;obtain⟨mk,vI⟩:∃mk,Nat.lor (zf (ps.toList++cP ca++cP cb)) (Nat.lor ra.mr rb.mr)=mk:=⟨_,rfl⟩
   have arY:∀t,aU mk t=false→t∉ps.toList∧t∉cP ca∧t∉cP cb∧aU ra.mr t=false∧aU rb.mr t=false:=by
        intro t ht;rw[←vI,gJ,gJ,aaI,aaI] at ht;obtain⟨t1,t2,t3⟩:=ht;have:t∉ps.toList++cP ca++cP cb:=fun hm=>by rw[abE hm] at t1;cases t1
        simp only[dN,not_or] at this;exact⟨this.1.1,this.1.2,this.2,t2,t3⟩
   have Tk:∀t,aU mk t=false→aM.tmps.getD t undef=a3.tmps.getD t undef∧(ρ1.put [] [] lo (lo.map ρ3.o)).r t=ρ3.r t:=by
        intro t ht;obtain⟨t1,t2,t3,t4,t5⟩:=arY t ht;refine⟨?_,?_⟩
        ·rw[asH.get t t3,jt.get t t2];exact(OF _ _ _ _ t1).symm
        ·have R8:∀ρ',xi=.next ρ'∨(∃id,xi=.exit id ρ')→ρ'.r t=ρ2.r t:=fun ρ' h=>by
          have yA:xi.env?=some ρ':=by rcases h with h|⟨id,h⟩<;>rw[h]<;>rfl
          exact(PC.ev_but rb.pc _ _ ρ' uI yA).r t fun hm=>by rw[hmb.1 t hm] at t5;cases t5
         have dG:ρ2.r t=putL ρ1.r ps.toList (partsOf ps.toList (.tup ds')) t:=(PC.ev_but ra.pc _ _ ρ2 mM rfl).r t fun hm=>by rw[hma.1 t hm] at t4;cases t4
         rw[CX _ _ _ _ t1] at dG;show ρ1.r t=ρ3.r t;rw[R8 ρ3 (by
          cases e3 with
          |normal=>exact .inl po.1
          |exit id=>exact .inr ⟨id,po.1⟩
          |ret=>exact .inr ⟨_,po.1⟩
          |_=>exact po.elim),dG]
   have SJ:q2.mo=jT ra.mo rb.mo:=by rw[←fO];rfl
   have SZ:∀j,j∉q2.mo→ρ3.o j=ρ1.o j:=by
        intro j hj;rw[SJ,re,not_or] at hj;have yA:xi.env?=some ρ3:=by
         cases e3 with
         |normal=>rw[po.1];rfl
         |exit id=>rw[po.1];rfl
         |ret=>rw[po.1];rfl
         |_=>exact po.elim
        rw[(PC.ev_but rb.pc _ _ ρ3 uI yA).o j fun hm=>hj.2 (hmb.2 j hm),(PC.ev_but ra.pc _ _ ρ2 mM rfl).o j fun hm=>hj.1 (hma.2 j hm)]
        exact CX _ _ _ _ fun hm=>by
         rw[←mH] at hm;have:=(eu.1 hm).1;rw[SJ,re] at this;exact this.elim hj.1 hj.2
   have SY:∀(S:Snap),S∈(q1::q2.ex.map (·.2))→∀j,py ((S.st ids).o j)=false→(ρ1.put [] [] lo (lo.map ρ3.o)).o j=ρ3.o j:=by
        intro S hS j hj;show putL ρ1.o lo (lo.map ρ3.o) j=ρ3.o j;rw[uS];split
        ·rfl
        ·rename_i gS;refine(SZ j fun vE=>gS ?_).symm;rw[←mH];exact eu.2 ⟨vE,xu.2 ⟨S,hS,by simpa [Snap.st] using hj⟩⟩
   have fin:∀(jump:Option Code) (Sx:Snap),Inv C (Sx.st ids) (ρ1.put [] [] lo (lo.map ρ3.o)) σ3 zr F7 w0 σR (fun _=>False) aM w3→P (i'+1) (lo.map ρ3.o) Sx (if jump.isNone then .ready else .done) jump→jump.isNone=decide (i'<m)→
        ∃v w',(Instr.endRound L jump).run C.P w3=.ok v w'∧K (a'.put o.dst v) w':=by
        intro jump Sx iG hPn vE;refine⟨_,_,run_endRound jump hL4,?_⟩;have asx:({{rec .ready none with state:=.busy} with state:=if jump.isNone then .ready else .done,pending:=jump}:Loop)=rec (if jump.isNone then .ready else .done) jump:=by rw[jr]
        rw[asx];have aO:=sO.round (L:=L) (o':=.loop (rec (if jump.isNone then .ready else .done) jump)) Mb;have iH:=iG.putL Lt hF3 (fun t' f c hf Fz=>((vz _ _ _ _ hf.F).1 L Fz).2 rfl) (.loop (rec (if jump.isNone then .ready else .done) jump));obtain⟨w4,TE⟩:∃w4,w3.putObj L (.loop (rec (if jump.isNone then .ready else .done) jump))=w4:=⟨_,rfl⟩
        have hL5:w4.heap[L]?=some (.loop (rec (if jump.isNone then .ready else .done) jump)):=by rw[←TE];exact World.putObj_heap_same aqp
        have aHQ:w4.heap.size=w3.heap.size:=by rw[←TE];simp
        rw[TE] at aO iH ⊢;have aG9:W1.heap.size≤w1.heap.size:=by
         have:=hF.lt (W1.heap.size-1) (hF.old _ (by omega));omega
        have aHM:=aO.below.size
        refine hK _ _ ⟨by rw[vE],aO.below,fun k hk hc=>aO.same k hk (by
         cases e:zt k with
         |none=>rfl
         |some j=>exact absurd ((B5 k).2 (.inl ⟨j,e⟩)) hc) (fun e=>hc (by rw[e];exact LD)),(fun k=>k<w4.heap.size∧(k<W1.heap.size∨(∃j,zr k=some j)∨(∃o x,σ3.c k o=some x)∨∃x,σ3.m k=some x)),(fun k=>(∃j,zr k=some j)∨k=L),?_,?_,?_⟩
        ·refine⟨fun k hk=>hk.1,fun k hk=>?_,fun k hk=>⟨by omega,.inl hk⟩,i'+1,lo.map ρ3.o,Sx,_,jump,σ3,zr,F7,rfl,hPn,iH,LX.trans ((Im.plus_le1 _ _).trans aO.le),hF3,hL5,fun k j e=>⟨(iH.owns k j e).2.1,.inr (.inl ⟨j,e⟩)⟩,fun k o x e=>⟨iH.lt e,.inr (.inr (.inl ⟨o,x,e⟩))⟩,fun k x e=>⟨iH.ltm e,.inr (.inr (.inr ⟨x,e⟩))⟩,fun k=>.rfl⟩;rcases hk with⟨j,e⟩|e
         ·exact⟨(iH.owns k j e).2.1,.inr (.inl ⟨j,e⟩)⟩
         ·exact⟨by omega,.inl (by omega)⟩
        ·rintro k ⟨_,hk⟩ bD
         have FD:((∃o x,σ3.c k o=some x)∨∃x,σ3.m k=some x)→fx k∨(∃o x,σx.c k o=some x)∨(∃x,σx.m k=some x∧x≠cI):=fun h=>by
          rcases aO.imm k h with⟨o,x,e⟩|⟨x,e⟩|⟨j,e⟩|e
          ·rcases Im.plus_c e with e|e
           ·exact .inl (hcA k o x e)
           ·exact .inr (.inl ⟨o,x,e⟩)
          ·rcases Im.plus_m e with e|e
           ·exact .inl (FM k x e)
           ·exact .inr (.inr ⟨x,(Im.noM_m e).1,(Im.noM_m e).2⟩)
          ·exact .inl (SV k j e)
          ·omega
         rcases hk with hk|⟨j,e⟩|e|e
         ·exact .inl (hF.old k hk)
         ·rcases aO.ow k j e with⟨j',e⟩|e
          ·exact .inl (SV k j' e)
          ·omega
         ·exact FD (.inl e)
         ·exact FD (.inr e)
        ·rintro k (⟨j,e⟩|e) bD
         ·rcases aO.ow k j e with⟨j',e⟩|e
          ·exact(B5 k).2 (.inl ⟨j',e⟩)
          ·omega
         ·rw[e];exact LD
   have oZ:kS σ3 w0.heap.size aM.defers:=iA.defers.mono ((Im.plus_le1 _ _).trans (sO.le.trans Mb.le));have Te:q2.out=rb.out.map (Snap.mask mk)∧q2.ex=rb.ex.map (fun x=>(x.1,x.2.mask mk)):=by rw[←fO,←vI];exact⟨rfl,rfl⟩
   cases e3 with
   |normal=>
    obtain⟨e4,e5⟩:=po;have hT:q2.out=some (S3.mask mk):=by rw[Te.1,e5];rfl
    have adK:=B8 _ hT
    have iG:Inv C (q1.st ids) ρ3 σ3 zr F7 w0 σR (fun _=>False) a3 w3:=by
        have:=Snap.meet_ok2 (x:=q1) (iF.maskR mk)
        rwa [adK] at this
    have iH:=iG.restore (ρ':=ρ1.put [] [] lo (lo.map ρ3.o)) (a':=aM) (Snap.noOpt _ _) oZ (fun t ht=>Tk t (by
        cases e:aU mk t with
        |false=>rfl
        |true=>
         have h9:=avx (x:=q1) (S:=S3) (ids:=ids) e;rw[adK] at h9;rw[h9] at ht;cases ht)) (fun j hj=>SY q1 (fK ..) j hj)
    rcases TH with⟨sB,ρ',e6,e7⟩|⟨_,_,id,ρ',e6⟩
    ·rw[e4] at e6;cases e6;exact fin none q1 iH (by rw[hP];exact .inl ⟨by omega,e7,rfl,rfl,rfl⟩) (by simp[sB])
    ·rw[e4] at e6;cases e6
   |exit id=>
    obtain⟨e4,e5,e6⟩:=po;have dc:(id,S3.mask mk)∈q2.ex:=by rw[Te.2];exact cu.2 ⟨_,e6,rfl⟩
    have iH:=(iF.maskR mk).restore (ρ':=ρ1.put [] [] lo (lo.map ρ3.o)) (a':=aM) (Snap.noOpt _ _) oZ (fun t ht=>Tk t (by
        cases e:aU mk t with
        |false=>rfl
        |true=>rw[Gw,if_pos e] at ht;cases ht)) (fun j hj=>SY (S3.mask mk) (fy _ (cu.2 ⟨_,dc,rfl⟩)) j hj)
    rcases TH with⟨sB,ρ',e7,_⟩|⟨sB,qU,bS,ρ',e7⟩
    ·rw[e4] at e7;cases e7
    ·subst sB;refine fin (some (.exit id)) (S3.mask mk) iH ?_ (by simp);rw[hP];refine .inr ⟨rfl,qU,rfl,_,id,ρ3,dJ,?_,rfl,dc,.inl ⟨e5,rfl⟩⟩;rw[ab];simp only[PC.ev,mM];rw[uI,e4]
   |ret=>
    obtain⟨e4,e6⟩:=po;have dc:(cR,S3.mask mk)∈q2.ex:=by rw[Te.2];exact cu.2 ⟨_,e6,rfl⟩
    have iH:=(iF.maskR mk).restore (ρ':=ρ1.put [] [] lo (lo.map ρ3.o)) (a':=aM) (Snap.noOpt _ _) oZ (fun t ht=>Tk t (by
        cases e:aU mk t with
        |false=>rfl
        |true=>rw[Gw,if_pos e] at ht;cases ht)) (fun j hj=>SY (S3.mask mk) (fy _ (cu.2 ⟨_,dc,rfl⟩)) j hj)
    rcases TH with⟨sB,ρ',e7,_⟩|⟨sB,qU,bS,ρ',e7⟩
    ·rw[e4] at e7;cases e7
    ·subst sB;refine fin (some .ret) (S3.mask mk) iH ?_ (by simp);rw[hP];refine .inr ⟨rfl,qU,rfl,_,cR,ρ3,dJ,?_,rfl,dc,.inr ⟨rfl,rfl⟩⟩;rw[ab];simp only[PC.ev,mM];rw[uI,e4]
   |_=>exact po.elim
  |exit id=>obtain⟨_,_,e6⟩:=kD;rw[hax] at e6;cases e6
  |ret=>obtain⟨_,e6⟩:=kD;rw[hax] at e6;cases e6
  |_=>exact kD.elim
 ·rintro e' w' ⟨⟨v,rfl⟩,fx,cx,hF⟩;rw[show({tmps:=a.tmps,defers:=[{target:=Target.collected w.heap.size,args:=#[]}]++a.defers}:Act)=aM from R3];obtain⟨i',vo,Sx,st,pe,σa,zt,hva,e1,e2,iA,LX,Fi,Lu,SV,hcA,FM,B5⟩:=hF.ex;have h9:=congrArg List.length (congrArg D.l e1);simp only[D.l_list,ej] at h9;have df:(rec st pe).state≠.busy:=by
   rw[hP] at e2;rw[jr];rcases e2 with⟨_,_,_,e3,_⟩|⟨_,_,e3,_⟩<;>(rw[e3];intro e;cases e)
  have ln:(rec st pe).pending=pe:=by rw[jr]
  have Sk:(Instr.endLoop L).run C.P w'=.ok pe (w'.putObj L (.loop {rec st pe with state:=.exhausted})):=(run_endLoop (P:=C.P) Lu df).trans (congrArg (fun z=>Result.ok z _) ln);have iF:=iA.putL (by omega:w0.heap.size≤L) Fi (fun t' f c hf Fz=>((vz _ _ _ _ hf.F).1 L Fz).2 rfl) (.loop {rec st pe with state:=.exhausted});rw[←hσR] at iF;have iG:=i1.ofRnd Sn (fun k hk e=>by have:=arf k hk;omega) iF;have kE:SameBut wr a aM:=⟨by rw[Fl],fun t _=>by rw[Fl]⟩
  refine⟨pe,_,Sk,?_⟩;rw[hP] at e2;rcases e2 with⟨e3,rfl,Fj,_,rfl⟩|⟨rfl,qU,_,y,id,ρ',g1,g2,rfl,g4,g5⟩
  ·rcases lj with⟨g1,g2⟩|⟨g1,_⟩
   ·obtain rfl:i'=m:=by omega
    rw[Fj] at iG;exact⟨_,q1,g2,rfl,kE,_,_,_,iG⟩
   ·omega
  ·rcases lj with⟨g6,_⟩|⟨_,y',bS,ρ'',k1,k2,k3⟩
   ·omega
   ·rw[g1] at k1;cases k1;rw[g2] at k2;cases k2;rcases k3 with⟨k3,k4⟩|⟨k3,pe',k4,k5⟩
    ·rcases g5 with⟨_,rfl⟩|⟨g5,_⟩
     ·exact wpIn_exit ⟨_,Sx,k4,k3,eu.2 ⟨g4,by simp[ga k3]⟩,kE,_,_,_,iG⟩
     ·exact absurd g5 k3
    ·rcases g5 with⟨g5,_⟩|⟨_,rfl⟩
     ·exact absurd k3 g5
     ·subst k3;rw[←vM,aA] at k4;obtain⟨M,hM,Tj⟩:=k4;obtain⟨M',hM',uA⟩:=Ua (⟨_,_,_,iG⟩:Good C w0 σ0 (Sx.st ids) _ (fun _=>False) aM _) q2.ex none g4;rw[hM] at hM';cases hM';obtain⟨σm,aIH,hvm,im⟩:=uA;exact wpIn_ret ⟨_,k5,Inv.retD hC (fun _=>rfl) j4 Tj _ im rfl,kE⟩
theorem afL {arr:Array MapEntry}{clock:Nat}(hb:nm arr clock){idx:List Nat}(hi:∀i,i∈idx→i<arr.size){i:Nat}{e:MapEntry}(he:arr[i]?=some e):(gB arr idx).contains e.born=true↔i∈idx:=by
 simp only[gB,List.contains_toArray,List.contains_iff_mem,cu];constructor
 ·rintro⟨j,hj,h⟩;have af:=hi j hj;rw[jz af] at h;simp only at h;have:=hb.2 j i arr[j] e (jz af) he h;rw[←this];exact hj
 ·intro h;exact⟨i,h,by rw[he]⟩
theorem ayh (arr:Array MapEntry)(idx:List Nat){i:Nat}{e:MapEntry}(he:arr[i]?=some e):(gB arr idx).push e.born=gB arr (idx++[i]):=by
 simp[gB,he]
theorem avF {P:Program}{w:World}{k m:Nat}{arr:Array MapEntry}{clock:Nat}{idx:List Nat}(hk:w.heap[k]?=some (.mapIter (some m) clock (gB arr idx) clock))(hm:w.heap[m]?=some (.map arr clock))(hb:nm arr clock)(hi:∀i,i∈idx→i<arr.size)(T:TypeId):
 ∃w1:World,(w1=w∨w1=w.drew)∧(((∀i,i<arr.size→i∈idx)∧(Instr.next (.pointer (some ⟨k,0,none⟩)) false T).run P w=.ok (.tuple #[.bool false]) w1)∨
  ∃i e,arr[i]?=some e∧i∉idx∧(Instr.next (.pointer (some ⟨k,0,none⟩)) false T).run P w=.ok (.tuple #[.bool true,e.key,e.val]) {w1 with heap:=w1.heap.setIfInBounds k (.mapIter (some m) clock (gB arr (idx++[i])) clock)}):=by
 have dc:∀{e:MapEntry},e∈arr→∃i:Nat,arr[i]?=some e:=fun he=>by
  obtain⟨i,hi,rfl⟩:=Array.mem_iff_getElem.1 he;exact⟨i,jz hi⟩
 have hold:∀(l:Array MapEntry),(∀e,e∈l→e.born<clock)→l.filter (fun x=>decide (x.born<clock))=l:=fun l h=>by
  rw[Array.filter_eq_self];intro e he;simpa using h e he
 have lU:∀(l:Array MapEntry),(∀e,e∈l→e.born<clock)→l.filter (fun x=>decide (x.born≥clock))=#[]:=fun l h=>by
  rw[Array.filter_eq_empty_iff];intro e he;have:=h e he;simp;omega
 have R9:∀e,e∈arr→e.born<clock:=fun e he=>by obtain⟨i,hi⟩:=dc he;exact hb.1 i e hi
 have lb:(!(gB arr idx).isEmpty&& !arr.isEmpty&&arr.all (fun x=>decide (x.born≥clock)))=false:=by
  cases ha:arr.isEmpty
  ·have ay:arr.size≠0:=by simpa using ha
   have:arr.all (fun x=>decide (x.born≥clock))=false:=by
        rw[aaH];intro h;rw[Array.all_eq_true] at h;have h0:=h 0 (by omega);have h1:=R9 arr[0] (aaE _);simp at h0;omega
   rw[this,Ad]
  ·simp
 let left:=arr.filter fun e=> !(gB arr idx).contains e.born
 have hl:∀e,e∈left→e.born<clock:=fun e he=>R9 e (aaF.1 he).1;by_cases hz:left.size=0
 ·refine⟨w,.inl rfl,.inl ⟨fun i af=>?_,?_⟩⟩
  ·by_cases cf:i∈idx
   ·exact cf
   ·exfalso;have LY:arr[i]∈left:=aaF.2 ⟨aaE _,by
     have:=afL hb hi (jz af);cases hc:(gB arr idx).contains arr[i].born with
     |false=>rfl
     |true=>exact absurd (this.1 hc) cf⟩
    have:left=#[]:=Po hz;rw[this] at LY;simp at LY
  ·have he:left=#[]:=Po hz;have uy:arr.filter (fun e=> !(gB arr idx).contains e.born)=#[]:=he;simp only[Instr.next,getObj,Sem.run_bind,Sem.run,hk,hm,Result.andThen_ok,lb,uy];simp[Question.forced,Sem.run]
 ·have yz:left.filter (fun x=>decide (x.born<clock))=left:=hold left hl;have Fx:left.filter (fun x=>decide (x.born≥clock))=#[]:=lU left hl;have hem:left.isEmpty=false:=by simpa using hz
  have key:∀c,c<left.size→∃i e,arr[i]?=some e∧i∉idx∧left[c]?=some e:=fun c hc=>by
   have LY:left[c]∈left:=aaE _;obtain⟨h1,h2⟩:=aaF.1 LY;obtain⟨i,db⟩:=dc h1;refine⟨i,left[c],db,fun cf=>?_,jz hc⟩;rw[(afL hb hi db).2 cf] at h2;cases h2
  obtain⟨w1,c,iV,hc,kB⟩:∃w1 c,(w1=w∨w1=w.drew)∧c<left.size∧(choose (.mapNext left.size)).run P w=.ok c w1:=by
   by_cases h1:left.size≤1
   ·exact⟨w,0,.inl rfl,by omega,by simp[Question.forced,h1]⟩
   ·exact⟨w.drew,_,.inr rfl,nr _ (by omega),by simp[Question.forced,h1,Question.cut];rfl⟩
  obtain⟨i,e,h1,h2,h3⟩:=key c hc;refine⟨w1,iV,.inr ⟨i,e,h1,h2,?_⟩⟩;have uF:arr.filter (fun e=> !(gB arr idx).contains e.born)=left:=rfl;have jo:(getObj k).run P w=.ok (.mapIter (some m) clock (gB arr idx) clock) w:=by simp[getObj,Sem.run,hk]
  have gR:(getObj m).run P w=.ok (.map arr clock) w:=by simp[getObj,Sem.run,hm]
  have bD:w1.heap[k]?=some (.mapIter (some m) clock (gB arr idx) clock):=by rcases iV with rfl|rfl<;>exact hk
  have hg3:(setObj k (.mapIter (some m) clock ((gB arr idx).push e.born) clock)).run P w1=.ok () {w1 with heap:=w1.heap.setIfInBounds k (.mapIter (some m) clock ((gB arr idx).push e.born) clock)}:=by simp[setObj,Sem.run,bD]
  have aqN:((if false=true then #[none] else #[])++Array.map some (left++#[]):Array (Option MapEntry))=left.map some:=by simp
  have jn:(left.map some)[c]?=some (some e):=by simp[h3]
  have adN:∀(Es:Array (Option MapEntry)) (cc:Nat),(choose (.mapNext Es.size)).run P w=.ok cc w1→Es[cc]?=some (some e)→(do
        match Es[←choose (.mapNext Es.size)]? with
        |some (some e)=>
         setObj k (.mapIter (some m) clock ((gB arr idx).push e.born) clock)
         pure (.tuple #[.bool true,e.key,e.val])
        |some none=>(pure (.tuple #[.bool false]):Sem Value)
        |none=>stuck "Next: no such candidate" :Sem Value).run P w=.ok (.tuple #[.bool true,e.key,e.val]) {w1 with heap:=w1.heap.setIfInBounds k (.mapIter (some m) clock ((gB arr idx).push e.born) clock)}:=by
   intro Es cc h4 h5;rw[Sem.run_bind,h4];simp only[Result.andThen_ok,h5];rw[Sem.run_bind,hg3];rfl
  rw[ayh arr idx h1] at adN hg3;have:=adN (left.map some) c (by rw[Array.size_map];exact kB) jn;simp only[Instr.next];rw[Sem.run_bind,jo];simp only[Result.andThen_ok];rw[Sem.run_bind,gR];simp only[Result.andThen_ok,lb,uF,yz,Fx,hem];rw[aqN,if_neg (by decide)];exact this
theorem aoq {P:Program}{w:World}{k m:Nat}{arr:Array MapEntry}{clock:Nat}{idx:List Nat}{i:Nat}{e:MapEntry}(hk:w.heap[k]?=some (.mapIter (some m) clock (gB arr (idx++[i])) clock))(hm:w.heap[m]?=some (.map arr clock))(hb:nm arr clock)(he:arr[i]?=some e):
 (Instr.entry (.pointer (some ⟨k,0,none⟩))).run P w=.ok (.tuple #[e.key,e.val]) w:=by
 have aqI:(gB arr (idx++[i])).back?=some e.born:=by simp[gB,he]
 have FA:arr.find? (fun x=>x.born==e.born)=some e:=by
  have af:i<arr.size:=(ei.1 he).1;have hei:arr[i]=e:=(ei.1 he).2;rw[Array.find?_eq_some_iff_getElem];refine⟨by simp,i,af,hei,fun j hj=>?_⟩;have gS:j<arr.size:=by omega
  cases hc:(arr[j].born==e.born) with
  |false=>rfl
  |true=>
   have:=hb.2 j i arr[j] e (jz gS) he (by simpa using hc);omega
 simp[Instr.entry,getObj,Sem.run_bind,Sem.run,hk,hm,aqI,FA]
theorem avr {x y z:Code}{k:Nat}{p:MP}(h:CD x y k z=some p):∃i1 i2 o1 o2 o3 l,x=.region i1 p.ops1 false∧y=.cond (.tmp p.mo) .skip (.exit p.out)∧z=.region i2 p.ops2 false∧p.next=k∧p.ops1.toList=[o1,o2]∧p.ops2.toList=o3::l∧
 o1.dst=some p.nx∧o1.guard=none∧o1.op=.next (.tmp p.it) false∧o2.dst=some p.mo∧o2.guard=none∧o2.op=.extract (.tmp p.nx) 0∧o3.dst=some p.pr∧o3.guard=none∧o3.op=.entry (.tmp p.it)∧lD p.pr l []=some p.aa∧
 p.it≠p.nx∧p.it≠p.mo∧p.it≠p.pr∧p.nx≠p.mo∧p.out≠cR∧k≠cR:=by
 unfold CD at h;split at h
 case h_2=>cases h
 rename_i i1 ops1 mo out i2 ops2;split at h
 case h_2=>cases h
 rename_i o1 o2 o3 l e1 e2;split at h
 case h_2=>cases h
 rename_i nx it mo' nx' pr it' d1 g1 q1 d2 g2 q2 d3 g3 q3;rw[qg] at h;split at h
 case isFalse=>cases h
 rename_i hc;simp only[aC] at h;obtain⟨aa,h4,rfl⟩:=h;simp only[aw,mi] at hc;obtain⟨⟨⟨⟨⟨⟨⟨⟨c1,c2⟩,c3⟩,c4⟩,c5⟩,c6⟩,c7⟩,c8⟩,c9⟩:=hc;have ne:∀{a b:Nat},Nat.beq a b=false→a≠b:=fun h e=>by subst e;simp at h
 obtain rfl:=aD c1;obtain rfl:=aD c2;obtain rfl:=aD c3;exact⟨i1,i2,o1,o2,o3,l,rfl,rfl,rfl,rfl,e1,e2,d1,g1,q1,d2,g2,q2,d3,g3,q3,h4,ne c4,ne c5,ne c6,ne c7,ne c8,ne c9⟩
theorem Na {pr:Nat}:∀(l:List Oper) {acc aa:List (Nat×Nat)},lD pr l acc=some aa→∀x,x∈acc→x∈aa
 |[],acc,aa,h,x,hx=>by simp only[lD,bj] at h;subst h;exact hx
 |o::l,acc,aa,h,x,hx=>by
  simp only[lD] at h;split at h
  case h_2=>cases h
  rw[qg] at h;split at h
  ·cases h
  split at h
  ·rw[qg] at h;split at h
   ·exact Na l h x (jd _ hx)
   ·cases h
  ·simp only[aA] at h;obtain⟨i,_,h⟩:=h;exact Na l h x (jd _ hx)
  ·simp only[aA] at h;obtain⟨i,_,h⟩:=h;exact Na l h x (jd _ hx)
  ·cases h
theorem Gt:∀{l:List (Nat×Nat)} {t i:Nat},wu l t=some i→(t,i)∈l
 |x::l,t,i,h=>by
  simp only[wu] at h;cases hb:Nat.beq x.1 t<;>simp only[hb,cond_true,cond_false] at h
  ·exact fy _ (Gt h)
  ·cases h;have:=aD hb;subst this;exact fK ..
theorem afD:∀{l:List (Nat×Nat)} {t:Nat},(wu l t).isSome=false→∀x,x∈l→x.1≠t
 |y::l,t,h,x,hx=>by
  simp only[wu] at h;cases hb:Nat.beq y.1 t<;>simp only[hb,cond_true,cond_false] at h
  ·rcases cC.1 hx with e|hx
   ·subst e;intro e;subst e;simp at hb
   ·exact afD h x hx
  ·cases h
theorem Vn {pr:Nat}:∀(l:List Oper) {acc aa:List (Nat×Nat)},lD pr l acc=some aa→(∀x,x∈acc→x.2≤1)→∀x,x∈aa→x∈acc∨(x.2≤1∧∃o,o∈l∧o.dst=some x.1)
 |[],acc,aa,h,_,x,hx=>by simp only[lD,bj] at h;subst h;exact .inl hx
 |o::l,acc,aa,h,ha,x,hx=>by
  simp only[lD] at h;split at h
  case h_2=>cases h
  rename_i d hd nV;rw[qg] at h;split at h
  ·cases h
  have go:∀(pt:Nat),pt≤1→lD pr l (acc++[(d,pt)])=some aa→x∈acc∨(x.2≤1∧∃o',o'∈o::l∧o'.dst=some x.1):=by
   intro pt vL hp
   rcases Vn l hp (fun y hy=>by
        rcases dN.1 hy with h|h
        ·exact ha y h
        ·simp at h;subst h;exact vL) x hx with h|⟨h1,o',h2,h3⟩
   ·rcases dN.1 h with h|h
    ·exact .inl h
    ·simp at h;subst h;exact .inr ⟨vL,o,fK ..,hd⟩
   ·exact .inr ⟨h1,o',fy _ h2,h3⟩
  split at h
  ·rw[qg] at h;split at h
   case isFalse=>cases h
   rename_i jn;simp only[aw] at jn;exact go _ (lQ jn.2) h
  ·simp only[aA] at h;obtain⟨i,hi,h⟩:=h;exact go i (ha _ (Gt hi)) h
  ·simp only[aA] at h;obtain⟨i,hi,h⟩:=h;exact go i (ha _ (Gt hi)) h
  ·cases h
theorem CP {P:Program}{ops:Array Oper}{i:Nat}{rest:List Nat}{o:Oper}{rd:Option Nat}{a:Act}{w w':World}{Q:Exit→Act→World→Prop}{v:Value}(ho:ops[i]?=some o)(hg:o.guard=none)(bx:sW o.op=true)(hx:(execOp a.eval o).run P w=.ok (.value v) w')
 (k:wpOpsIn (FR rd) 0 P ops Q rest (a.put o.dst v) w'):wpOpsIn (FR rd) 0 P ops Q (i::rest) a w:=by
 simp only[wpOpsIn,ho];rw[if_pos (by simp[Region.wanted,hg])];exact ah1 bx (by unfold Oper.wp;rw[hx];exact k)
theorem ayc {ops:Array Oper}{o:Oper}(ho:o∈ops.toList)(a:Act)(v:Value):SameBut (BH ops) a (a.put o.dst v):=by
 have:=SameBut.put a o.dst v a.defers;exact this.mono fun t e=>⟨o,ho,e⟩
theorem CY {a:Act}{d:Nat}{v:Value}(h:d<a.tmps.size):(a.put (some d) v).tmps.getD d undef=v:=by rw[IA];simp[h]
theorem Nn {a:Act}{d t:Nat}{v:Value}(h:t≠d):(a.put (some d) v).tmps.getD t undef=a.tmps.getD t undef:=by rw[IA];simp[h]
theorem put_defers (a:Act)(d:Option Nat)(v:Value):(a.put d v).defers=a.defers:=by cases d<;>rfl
def GI (kv vv:Value)(i:Nat):Value:=if i=0 then kv else vv
theorem aib {P:Program}{ops:Array Oper}{rd:Option Nat}{Q:Exit→Act→World→Prop}{pr:Nat}{kv vv:Value}{w:World}:∀(l:List Oper) (acc aa:List (Nat×Nat)) (i:Nat) (a:Act),lD pr l acc=some aa→ops.toList.drop i=l→(∀x,x∈aa→x.1<a.tmps.size)→a.tmps.getD pr undef=.tuple #[kv,vv]→
 (∀x,x∈acc→a.tmps.getD x.1 undef=GI kv vv x.2)→(∀a',SameBut (BH ops) a a'→a'.defers=a.defers→(∀x,x∈aa→a'.tmps.getD x.1 undef=GI kv vv x.2)→Q .normal a' w)→wpOpsIn (FR rd) 0 P ops Q (List.range' i (ops.size-i)) a w
 |[],acc,aa,i,a,h,hl,af,mJ,Fm,hQ=>by
  simp only[lD,bj] at h;subst h;have:ops.size-i=0:=by
    have:=aaU.1 hl;simp at this;omega
  rw[this];exact hQ a (.refl _ _) rfl Fm
 |o::l,acc,aa,i,a,h,hl,af,mJ,Fm,hQ=>by
  have hi:i<ops.toList.length:=by
   refine abb fun hle=>?_;rw[aaU.2 hle] at hl;cases hl
  rw[ak5 hi] at hl;have ho:ops[i]?=some o:=by
   have:ops.toList[i]=o:=by injection hl
   rw[←this];simp at hi ⊢
  have sE:ops.toList.drop (i+1)=l:=by injection hl
  have aP:ops.size-i=(ops.size-(i+1))+1:=by simp at hi;omega
  rw[aP,PH];have dc:o∈ops.toList:=by simpa using qf ho
  simp only[lD] at h;split at h
  case h_2=>cases h
  rename_i d hd nV;rw[qg] at h;split at h
  ·cases h
  rename_i hc;simp only[lN,not_or,Bool.not_eq_true] at hc;have hdp:pr≠d:=fun e=>by subst e;simp at hc
  have Sf:∀x,x∈acc→x.1≠d:=afD hc.2;have go:∀(pt:Nat) (v:Value),lD pr l (acc++[(d,pt)])=some aa→sW o.op=true→v=GI kv vv pt→(execOp a.eval o).run P w=.ok (.value v) w→wpOpsIn (FR rd) 0 P ops Q (i::List.range' (i+1) (ops.size-(i+1))) a w:=by
   intro pt v hp bx hv hx;have Fv:d<a.tmps.size:=af _ (Na l hp (d,pt) (by simp));refine CP ho nV bx hx ?_;have kE:=ayc dc a v;rw[hd] at kE ⊢;refine aib l _ aa (i+1) _ hp sE (fun x hx=>by rw[kE.size];exact af x hx) (by rw[Nn hdp];exact mJ) (fun x hx=>?_) (fun a' h1 h2 h3=>hQ a' (kE.trans h1) (h2.trans (put_defers _ _ _)) h3);rcases dN.1 hx with hx|hx
   ·rw[Nn (Sf x hx)];exact Fm x hx
   ·simp at hx;subst hx;rw[CY Fv];exact hv
  split at h
  ·rename_i t pt e;rw[qg] at h;split at h
   case isFalse=>cases h
   rename_i jn;simp only[aw] at jn;have ht:=aD jn.1;have vL:=lQ jn.2;subst ht;have bN:a.eval (.tmp t)=.tuple #[kv,vv]:=by simpa [Act.eval] using mJ
   refine go pt (GI kv vv pt) h (by rw[e];rfl) rfl ?_;rcases(by omega:pt=0∨pt=1) with rfl|rfl<;>simp[execOp,e,bN,Instr.extract,GI]
  ·rename_i t e;simp only[aA] at h;obtain⟨pt,uF,h⟩:=h;have:=Fm _ (Gt uF);exact go pt (a.eval (.tmp t)) h (by rw[e];rfl) (by simpa [Act.eval] using this) (by simp[execOp,e])
  ·rename_i t e;simp only[aA] at h;obtain⟨pt,uF,h⟩:=h;have:=Fm _ (Gt uF);exact go pt (a.eval (.tmp t)) h (by rw[e];rfl) (by simpa [Act.eval] using this) (by simp[execOp,e])
  ·cases h
theorem TU (ids:List Nat)(J j:Nat)(S:Snap):((S.kill ids J).st ids).o j=if j=J then .dead else(S.st ids).o j:=by
 show eH ids (y6 ids J S.os) j=_;have:∀(is:List Nat) (os:List Ob),eH is (y6 is J os) j=if j=J then .dead else eH is os j:=by
  intro is
  induction is with
  |nil=>intro os;simp[y6,eH]
  |cons i is ih=>
   intro os;cases os with
   |nil=>simp[y6,eH]
   |cons o os=>
    simp only[y6,eH];cases hb:Nat.beq i j
    ·simp only[cond_false];exact ih os
    ·have:=aD hb;subst this;simp only[cond_true];by_cases dH:i=J
     ·subst dH;simp
     ·simp[ga dH,dH]
 exact this ids S.os
theorem abI {N:Nat}{id:Nat}(LO:id≠cR){rm:Bool}{wr:Nat→Prop}{a:Act}{q:Res2}{x xi:Out}(sF:(∀t,t∈q.pc.modR→aU q.mr t=true)∧∀j,j∈q.pc.modO→j∈q.mo)(dJ:q.pc.ev Φ N ρ=some xi)(bN:(gK ids id q).pc.ev Φ N ρ=some x){e:Exit}{a':Act}{w':World}
 (gV:ir C w0 σ0 ids fn s rm wr a q.out q.ex xi e a' w'):Exit.inBlock id (ir C w0 σ0 ids fn s rm wr a (gK ids id q).out (gK ids id q).ex x) e a' w':=by
 have vC:∀bS S1,(bS,S1)∈q.ex→bS≠id→(bS,S1)∈q.ex.filter fun x=> !Nat.beq x.1 id:=fun bS S1 hm ay=>eu.2 ⟨hm,by simp[ga ay]⟩;have main:∀(o:Option Snap) (lr lo:List Nat),pE id q.ex q.out=o→(∀M,o=some M→lr=kJ M q.mr∧lo=jM ids M q.mo)→(PC.block id lr lo q.pc).ev Φ N ρ=some x→
        Exit.inBlock id (ir C w0 σ0 ids fn s rm wr a o (q.ex.filter fun x=> !Nat.beq x.1 id) x) e a' w':=by
  intro o lr lo ho hl bN;simp only[PC.ev] at bN;rw[dJ] at bN
  have fin:∀{ρ1:Env} {a':Act} {w':World},(∃M,o=some M∧Good C w0 σ0 (M.st ids) ρ1 (fun _=>False) a' w')→xi.env?=some ρ1→x=.next (ρ.join lr lo ρ1)→SameBut wr a a'→
   ir C w0 σ0 ids fn s rm wr a o (q.ex.filter fun x=> !Nat.beq x.1 id) x .normal a' w':=by
        intro ρ1 a' w' hM yA hx dT;obtain⟨M,hM,uA⟩:=hM;obtain⟨l1,l2⟩:=hl M hM;subst l1 l2;exact⟨_,M,hx,hM,dT,uA.joined (PC.ev_but q.pc ρ _ ρ1 dJ yA) sF.1 sF.2⟩
  cases e with
  |normal=>
   obtain⟨ρ1,S2,e1,e2,dT,gR⟩:=gV;subst e1;simp only[bj] at bN;refine fin ?_ rfl bN.symm dT;rw[e2] at ho;obtain⟨M,h1,h2⟩:=Mz (id:=id) q.ex gR;rw[ho] at h1;exact⟨M,h1,h2⟩
  |exit bS=>
   obtain⟨ρ1,S2,e1,e0,e2,dT,gR⟩:=gV;subst e1;simp only at bN;show if bS=id then _ else _;by_cases cL:bS=id
   ·subst cL;simp only[lP,cond_true,bj] at bN;simp only[if_true];refine fin ?_ rfl bN.symm dT;rw[←ho];exact Ua gR q.ex q.out e2
   ·simp only[ga cL,cond_false,bj] at bN;subst bN;simp only[cL,if_false];exact⟨ρ1,S2,rfl,e0,vC _ _ e2 cL,dT,gR⟩
  |ret=>
   cases rm with
   |false=>
    have hy:=gV;obtain⟨d,e1,_⟩:=hy;subst e1;simp only[bj] at bN;subst bN;exact gV
   |true=>
    obtain⟨ρ1,S2,e1,e2,dT,gR⟩:=gV;subst e1;simp only[ga (fun e=>LO e.symm:cR≠id),cond_false,bj] at bN;subst bN;exact⟨ρ1,S2,rfl,vC _ _ e2 (fun e=>LO e.symm),dT,gR⟩
  |_=>exact gV.elim
 unfold gK at bN ⊢;cases hm:pE id q.ex q.out with
 |none=>
  simp only[hm] at bN ⊢;exact main none [] [] hm (fun M e=>by cases e) bN
 |some M=>
  simp only[hm] at bN ⊢;exact main (some M) _ _ hm (fun M' e=>by cases e;exact⟨rfl,rfl⟩) bN
theorem abG {N id:Nat}{q:Res2}{x:Out}(bN:(gK ids id q).pc.ev Φ N ρ=some x):∃xi,q.pc.ev Φ N ρ=some xi:=by
 unfold gK at bN;cases hm:pE id q.ex q.out<;>simp only[hm,PC.ev] at bN<;>cases dJ:q.pc.ev Φ N ρ<;>first|exact⟨_,rfl⟩|(rw[dJ] at bN;cases bN)
theorem ajL {es:List (D×D)}{idx:List Nat}(hn:idx.Nodup)(af:∀i,i∈idx→i<es.length)(aO:∀i,i<es.length→i∈idx):(hZ es idx).Perm (iY (.map es)):=by
 have h1:idx.Perm (List.range es.length):=by
  rw[List.perm_ext_iff_of_nodup hn aa3];intro i;rw[fY];exact⟨af i,aO i⟩
 have h2:hZ es (List.range es.length)=iY (.map es):=by
  refine PA (by simp[hZ,iY,D.m]) fun i g1 g2=>?_;have hi:i<es.length:=by simpa [hZ] using g1
  simp[hZ,iY,D.m,aX hi]
 rw[←h2];exact h1.map _
theorem ayi {es:List (D×D)}{idx:List Nat}(hn:idx.Nodup)(af:∀i,i∈idx→i<es.length):∃rest,(hZ es idx++rest).Perm (iY (.map es)):=by
 refine⟨hZ es ((List.range es.length).filter fun i=> !idx.contains i),?_⟩;have e:hZ es idx++hZ es ((List.range es.length).filter fun i=> !idx.contains i)=hZ es (idx++(List.range es.length).filter fun i=> !idx.contains i):=by simp[hZ]
 rw[e];refine ajL ?_ (fun i hi=>?_) (fun i hi=>?_)
 ·rw[IZ];refine⟨hn,aa3.filter _,fun a ha b hb e=>?_⟩;subst e;have:=(eu.1 hb).2;simp[ha] at this
 ·rcases dN.1 hi with h|h
  ·exact af i h
  ·exact fY.1 (eu.1 h).1
 ·by_cases h:i∈idx
  ·exact jd _ h
  ·exact jA _ (eu.2 ⟨fY.2 hi,by simp[h]⟩)
theorem ajM (es:List (D×D))(idx:List Nat){i:Nat}{p:D×D}(h:es[i]?=some p):hZ es (idx++[i])=hZ es idx++[.tup [p.1,p.2]]:=by simp[hZ,h]
theorem avt {N:Nat}{x y z code:Code}{k:Nat}{p:MP}(hp:CD x y k z=some p)(ihc:xO C Φ fn s n ids R N code){rm:Bool}{S:Snap}{r:Res2}
 (hr:CE ids n p (cP x++(cP y++(cP z++cP code))) (fun S=>comp C fn s n ids R rm code S) S=some r) {rd:Option Nat} {wr:Nat→Prop} {x0:Out} (gm:rm=false→rd=none∧σ0.fin) (hC:CtxOK C σ0) (hY:tR C Φ w0 σ0)
 (eW:∀t,t∈cP (.loop (.seq x (.seq y (.block k (.seq z code)))))→wr t) (hn:a.tmps.size=n) (hg:Good C w0 σ0 (S.st ids) ρ (fun _=>False) a w) (he:r.pc.ev Φ N ρ=some x0):
 (Code.loop (.seq x (.seq y (.block k (.seq z code))))).wpIn (FR rd) 0 C.P (ir C w0 σ0 ids fn s rm wr a r.out r.ex x0) a w:=by
 obtain⟨i1,i2,o1,o2,o3,l,rfl,rfl,rfl,hk,e1,e2,d1,g1,q1,d2,g2,q2,d3,g3,q3,nY,n1,n2,n3,n4,n5,n6⟩:=avr hp;subst hk;unfold CE at hr;split at hr
 case h_2=>cases hr;exact absurd he (ng _ _ _ _)
 rename_i J hJ;split at hr
 case h_2=>cases hr;exact absurd he (ng _ _ _ _)
 rename_i kt et LU;simp only at hr;split at hr
 case h_2=>cases hr;exact absurd he (ng _ _ _ _)
 rename_i q hq;rw[qg] at hr;split at hr
 case isFalse=>cases hr;exact absurd he (ng _ _ _ _)
 rename_i sy;cases hr;generalize sQ:cP (.region i1 p.ops1 false)++(cP (.cond (.tmp p.mo) .skip (.exit p.out))++(cP (.region i2 p.ops2 false)++cP code))=ws at*;simp only[aw,mi] at sy;obtain⟨⟨⟨⟨⟨⟨⟨⟨c1,c2⟩,c3⟩,c4⟩,c5⟩,c6⟩,c7⟩,c8⟩,c9⟩:=sy;have hex:q.2.ex=[]:=aa0.1 c1;have ac9:J∉q.2.mo:=fun h=>by rw[(sU _ _).2 h] at c2;cases c2
 simp only[ae4,aw,mi] at c3;obtain⟨⟨c3a,c3b⟩,c3c⟩:=c3;have asA:q.1.rs.getD p.it .none=.obj J 0:=Sh.beq_eq _ _ c3a;have L3:eH ids q.1.os J=.it kt et:=Ob.beq_eq _ _ c3b;have ass:∀t,t∈p.aa.map (·.1)→t<n:=fun t ht=>by have:=da.1 c5 t ht;rwa [ql] at this
 have SU:p.nx<n:=by rwa [ql] at c6
 have SJ:p.mo<n:=by rwa [ql] at c7
 have mJ:p.pr<n:=by rwa [ql] at c8
 have FO:=aD c9;obtain⟨hs,B8,cf⟩:=Gm (C:=C) (w0:=w0) (σ0:=σ0) (ids:=ids) 8 hq;simp only[aC] at hs;obtain⟨q0,sK,fO⟩:=hs;obtain⟨qS,qR⟩:=q;simp only at*;subst fO;generalize hm:zf ws=m at*;generalize mH:jM ids qS (gK ids p.next q0).mo=lo at*;have SL:=abH (ids:=ids) (id:=p.next) (vn code sK);have arQ:∀j,j∈lo→j∈(gK ids p.next q0).mo:=fun j hj=>by rw[←mH] at hj;exact CF hj
 have aG3:J∉lo:=fun h=>ac9 (arQ J h);have F0:∃DE,Nd ((gK ids p.next q0).pc.ev Φ N) ρ J (p.aa.map (·.1)) (p.aa.map (·.2)) lo DE∧x0=.exit p.out (ρ.put [] [] lo DE):=by
  simp only[PC.ev] at he;cases mJ:Nf ((gK ids p.next q0).pc.ev Φ N) ρ J (p.aa.map (·.1)) (p.aa.map (·.2)) lo with
  |none=>rw[mJ] at he;cases he
  |some y=>
   obtain⟨DE,h1,rfl⟩:=CU.1 mJ;rw[mJ] at he;simp only[bj] at he;exact⟨DE,h1,he.symm⟩
 obtain⟨DE,⟨S8,aqz⟩,hx0⟩:=F0;generalize lg:(ρ.o J).tget 1=es at*
 have iV:∀o,o∈p.ops1.toList→∀d,o.dst=some d→d∈ws:=fun o ho d hd=>by
  rw[←sQ];exact jd _ (Aq.2 ⟨o,ho,hd⟩)
 have cQ:∀o,o∈p.ops2.toList→∀d,o.dst=some d→d∈ws:=fun o ho d hd=>by
  rw[←sQ];exact jA _ (jA _ (jd _ (Aq.2 ⟨o,ho,hd⟩)))
 have Ct:∀d,d∈cP code→d∈ws:=fun d hd=>by
  rw[←sQ];exact jA _ (jA _ (jA _ hd))
 have TF:∀t,t∈ws→wr t:=fun t ht=>eW t (by rw[←sQ] at ht;exact ht);have uH:∀t,t∈ws→aU m t=true:=fun t ht=>by rw[←hm];exact abE ht
 have SH:∀t,aU m t=true→((qS.mask m).st ids).r t=.none:=fun t ht=>by rw[Gw,if_pos ht]
 have arX:∀t,isNone (((qS.mask m).st ids).r t)=false→aU m t=false:=fun t ht=>by
  cases hb:aU m t with
  |false=>rfl
  |true=>rw[SH t hb] at ht;cases ht
 have oa:((qS.mask m).st ids).r p.it=.obj J 0:=by
  rw[Gw,c3c];show cO (qS.rs.getD p.it .none)=_;rw[asA];rfl
 have cW:((qS.mask m).st ids).o J=.it kt et:=L3;have j6:p.ops1[0]?=some o1:=by rw[←qe,e1];rfl
 have fF:p.ops1[1]?=some o2:=by rw[←qe,e1];rfl
 have ho3:p.ops2[0]?=some o3:=by rw[←qe,e2];rfl
 have asX:List.range p.ops1.size=[0,1]:=by
  have:p.ops1.size=2:=by rw[←Aa,e1];rfl
  rw[this];rfl
 have vR:List.range p.ops2.size=0::List.range' 1 (p.ops2.size-1):=by
  have:p.ops2.size=l.length+1:=by rw[←Aa,e2];rfl
  rw[this,PJ,PH];rfl
 have key:∀(kk:Nat) (done vo:List D) (a':Act) (w':World),SameBut wr a a'→Good C w0 σ0 ((qS.mask m).st ids) ((ρ.put [] [] lo vo).setO J (.tup [.list done,es])) (fun _=>False) a' w'→
  (∀ys,(done++ys).Perm (iY es)→pJ ((gK ids p.next q0).pc.ev Φ N) ρ J es (p.aa.map (·.1)) (p.aa.map (·.2)) lo ys done vo=some DE)→done.length+kk=(iY es).length+1→
  Code.roundsIn (FR rd) 0 C.P (.seq (.region i1 p.ops1 false) (.seq (.cond (.tmp p.mo) .skip (.exit p.out)) (.block p.next (.seq (.region i2 p.ops2 false) code)))) (ir C w0 σ0 ids fn s rm wr a none [(p.out,(qS.mask m).kill ids J)] x0) kk a' w':=by
  intro kk
  induction kk with
  |zero=>
   intro done vo a' w' _ lh _ hlen;exfalso;obtain⟨σ,own,hv,h⟩:=lh;have bt:=h.objs J;rw[cW] at bt;obtain⟨kb,mb,arr,clock,gO,idx,h1,h2,h3,ay,h4,h5,h6,h7,h8,h9,jk,uu⟩:=bt;simp only[Env.setO,aS] at h6;injection h6 with h6;injection h6 with yo yp;injection yp with yp _;injection yo with yo;subst yo;subst yp;have hle:idx.length≤arr.size:=by
        have:=List.Nodup.length_le_of_subset h7 (l₂:=List.range arr.size) (fun i hi=>fY.2 (h8 i hi));simpa using this
   simp[hZ,iY,D.m] at hlen;omega
  |succ kk ih=>
   intro done vo a' w' kE lh aO hlen;rw[roundsIn_succ];obtain⟨σ,own,hv,h⟩:=lh;have bt:=h.objs J;rw[cW] at bt;obtain⟨kb,mb,arr,clock,gO,idx,h1,h2,h3,ay,h4,h5,h6,h7,h8,h9,jk,uu⟩:=bt;simp only[Env.setO,aS] at h6;injection h6 with h6;injection h6 with yo yp;injection yp with yp _;injection yo with yo;subst yo;subst yp;have mK:=h.regs p.it;rw[oa] at mK;have LQ:a'.eval (.tmp p.it)=.pointer (some ⟨kb,0,none⟩):=by
        have:=mK.2 rfl;simp only[Act.eval];rw[this];exact h1
   have vQ:a'.tmps.size=n:=kE.size.trans hn;obtain⟨w1,aeK,L2⟩:=avF (P:=C.P) h5 h4 jk h8 o1.type;have Ga:Below w'.heap.size w' w1:=by rcases aeK with rfl|rfl;exact .refl _ _;exact⟨rfl,rfl,rfl,bn _,fun _ _=>rfl⟩
   have Cr:w1.heap=w'.heap:=by rcases aeK with rfl|rfl<;>rfl
   have hkl:kb<w'.heap.size:=(h.owns kb J h2).2.1;have qU:mb<w'.heap.size:=(h.owns mb J h3).2.1;refine wpIn_seq (wpIn_region ?_);rw[asX];rcases L2 with⟨Sp,ao⟩|⟨i,e,uC,yD,ao⟩
   ·
        refine CP j6 g1 (by rw[q1];rfl) (v:=.tuple #[.bool false]) (w':=w1) (by simp only[execOp,q1,LQ];simp[ao]) ?_;rw[d1]
        refine CP fF g2 (by rw[q2];rfl) (v:=.bool false) (w':=w1) (by
         have:(a'.put (some p.nx) (.tuple #[.bool false])).eval (.tmp p.nx)=.tuple #[.bool false]:=by simp only[Act.eval];exact CY (by omega)
         simp only[execOp,q2,this];simp[Instr.extract]) ?_
        rw[d2];simp only[wpOpsIn]
        have yP:SameBut (fun t=>t∈ws) a' ((a'.put (some p.nx) (.tuple #[.bool false])).put (some p.mo) (.bool false)):=by
         have s1:=SameBut.put a' (some p.nx) (.tuple #[.bool false]) a'.defers;have s2:=SameBut.put (a'.put (some p.nx) (.tuple #[.bool false])) (some p.mo) (.bool false) (a'.put (some p.nx) (.tuple #[.bool false])).defers;exact(s1.mono fun t e=>by cases e;exact iV o1 (by rw[e1];simp) _ d1).trans (s2.mono fun t e=>by cases e;exact iV o2 (by rw[e1];simp) _ d2)
        generalize yr:(a'.put (some p.nx) (.tuple #[.bool false])).put (some p.mo) (.bool false)=a1 at yP;have SK:a1.eval (.tmp p.mo)=.bool false:=by
         rw[←yr];simp only[Act.eval];exact CY (by rw[size_put];omega)
        have oZ:a1.defers=a'.defers:=by rw[←yr,put_defers,put_defers]
        refine wpIn_seq (wpIn_cond_false SK (wpIn_exit ?_));have yK:(hZ gO idx++[]).Perm (iY (.map gO)):=by
         rw[tK];exact ajL h7 (fun i hi=>by rw[h9];exact h8 i hi) (fun i hi=>Sp i (by omega))
        have aeJ:=aO [] yK;simp only[pJ,bj] at aeJ;subst aeJ;refine⟨_,_,hx0,n5,xB.2 rfl,kE.trans (yP.mono TF),?_⟩;refine⟨σ,own,hv,?_⟩
        refine h.step (S':=((qS.mask m).kill ids J).st ids) (ρ':=ρ.put [] [] lo vo) (A':=fun _=>False) (fun j=>j=J) oZ (.refl σ) (h.ok.below Ga) (fun _ _ _ hx=>.inl hx) (fun _ _ hx=>.inl hx) (Ga.mono h.below.size) ⟨fun _=>bn _,fun _ _=>rfl⟩
         (fun j hj=>⟨by rw[TU,if_neg hj],by simp[Env.setO,bM _ _ hj],rfl,fun b hb=>⟨hb,by rw[Cr]⟩⟩) (fun j hj=>?_) (fun b j hb=>?_) (fun _=>id) (fun t=>?_) (fun _ hf=>hf.elim) (fun b hb _=>by rw[Cr]) (fun b j hb=>.inl ⟨j,hb⟩) (fun j hj=>?_)
        ·rw[TU,if_pos hj];trivial
        ·obtain⟨b1,b2,b3,b4⟩:=h.owns b j hb;exact⟨b1,by rw[Cr];exact b2,b3,b4⟩
        ·by_cases ht:t∈ws
         ·refine .inr ⟨?_,fun gs s' e=>absurd e (Snap.noOpt _ _ t gs s')⟩;have:(((qS.mask m).kill ids J).st ids).r t=.none:=SH t (uH t ht);rw[this];trivial
         ·exact .inl ⟨rfl,yP.get t ht,rfl⟩
        ·rw[TU,if_pos hj];intro e;cases e
   ·
        obtain⟨pd,S9⟩:∃pd,gO[i]?=some pd:=⟨_,aX (by rw[h9];exact(ei.1 uC).1)⟩
        obtain⟨bD,cB⟩:=uu i e pd uC S9;generalize Cs:({w1 with heap:=w1.heap.setIfInBounds kb (.mapIter (some mb) clock (gB arr (idx++[i])) clock)}:World)=w2 at ao;have aeL:w2.heap[kb]?=some (.mapIter (some mb) clock (gB arr (idx++[i])) clock):=by rw[←Cs];simp[Cr,hkl]
        have yY:∀b,b≠kb→w2.heap[b]?=w'.heap[b]?:=fun b hb=>by rw[←Cs];simp only[Cr];rw[aaD (xM hb)]
        have aHP:w2.heap.size=w'.heap.size:=by rw[←Cs];simp[Cr]
        have aeM:w2.heap[mb]?=some (.map arr clock):=by rw[yY mb (xM ay)];exact h4
        refine CP j6 g1 (by rw[q1];rfl) (v:=.tuple #[.bool true,e.key,e.val]) (w':=w2) (by simp only[execOp,q1,LQ];simp[ao]) ?_;rw[d1]
        refine CP fF g2 (by rw[q2];rfl) (v:=.bool true) (w':=w2) (by
         have:(a'.put (some p.nx) (.tuple #[.bool true,e.key,e.val])).eval (.tmp p.nx)=.tuple #[.bool true,e.key,e.val]:=by simp only[Act.eval];exact CY (by omega)
         simp only[execOp,q2,this];simp[Instr.extract]) ?_
        rw[d2];simp only[wpOpsIn]
        have yP:SameBut (fun t=>t∈ws) a' ((a'.put (some p.nx) (.tuple #[.bool true,e.key,e.val])).put (some p.mo) (.bool true)):=by
         have s1:=SameBut.put a' (some p.nx) (.tuple #[.bool true,e.key,e.val]) a'.defers;have s2:=SameBut.put (a'.put (some p.nx) (.tuple #[.bool true,e.key,e.val])) (some p.mo) (.bool true) (a'.put (some p.nx) (.tuple #[.bool true,e.key,e.val])).defers;exact(s1.mono fun t e=>by cases e;exact iV o1 (by rw[e1];simp) _ d1).trans (s2.mono fun t e=>by cases e;exact iV o2 (by rw[e1];simp) _ d2)
        have adV:(((a'.put (some p.nx) (.tuple #[.bool true,e.key,e.val])).put (some p.mo) (.bool true))).eval (.tmp p.it)=.pointer (some ⟨kb,0,none⟩):=by
         simp only[Act.eval] at LQ ⊢;rw[Nn n2,Nn n1];exact LQ
        generalize yr:(a'.put (some p.nx) (.tuple #[.bool true,e.key,e.val])).put (some p.mo) (.bool true)=a1 at yP adV;have SK:a1.eval (.tmp p.mo)=.bool true:=by
         rw[←yr];simp only[Act.eval];exact CY (by rw[size_put];omega)
        have oZ:a1.defers=a'.defers:=by rw[←yr,put_defers,put_defers]
        refine wpIn_seq (wpIn_cond_true SK (wpIn_skip ?_));refine wpIn_block (wpIn_seq (wpIn_region ?_));rw[vR];refine CP ho3 g3 (by rw[q3];rfl) (v:=.tuple #[e.key,e.val]) (w':=w2) (by simp only[execOp,q3,adV];simp[aoq aeL aeM jk uC]) ?_;rw[d3]
        have hs3:SameBut (fun t=>t∈ws) a1 (a1.put (some p.pr) (.tuple #[e.key,e.val])):=
         (SameBut.put a1 (some p.pr) (.tuple #[e.key,e.val]) a1.defers).mono fun t e=>by cases e;exact cQ o3 (by rw[e2];simp) _ d3
        have aeA:a1.tmps.size=n:=yP.size.trans vQ;refine aib (kv:=e.key) (vv:=e.val) l [] p.aa 1 _ nY (by rw[e2];rfl) (fun x hx=>by rw[hs3.size,aeA];exact ass _ (cu.2 ⟨x,hx,rfl⟩)) (CY (by rw[aeA];exact mJ)) (fun x hx=>by cases hx) (fun a2 dT dR asp=>?_);have Tp:SameBut (fun t=>t∈ws) a' a2:=(yP.trans hs3).trans (dT.mono fun t ⟨o,ho,hd⟩=>cQ o ho t hd);have aqX:a2.defers=a'.defers:=by rw[dR,put_defers,oZ]
        have asU:Good C w0 σ0 (((qS.mask m).start (p.aa.map (·.1)) (p.aa.map fun x=>bif Nat.beq x.2 0 then kt else et)).st ids) ((ρ.put (p.aa.map (·.1)) ((p.aa.map (·.2)).map (D.tup [pd.1,pd.2]).tget) lo vo).setO J (.tup [.list (hZ gO idx++[.tup [pd.1,pd.2]]),.map gO])) (fun _=>False) a2 w2:=by
         have hbw:Below w0.heap.size w' w2:=⟨by rw[←Cs];exact Ga.os,by rw[←Cs];exact Ga.tape,by rw[←Cs];exact Ga.output,by omega,fun b hb=>yY b (fun e=>by subst e;have:=(h.owns b J h2).1;omega)⟩
         have j7:σ.ok w2:=by
          refine⟨fun b o v hc=>?_,fun b es hc=>?_,h.ok.fz fun b o v hc=>yY b fun e=>by subst e;rw[(h.owns b J h2).2.2.1 o] at hc;cases hc⟩
          ·have iQ:b≠kb:=fun e=>by subst e;rw[(h.owns b J h2).2.2.1 o] at hc;cases hc
           have:=h.ok.c b o v hc;simp only[World.cell?] at this ⊢;rw[yY b iQ];exact this
          ·have iQ:b≠kb:=fun e=>by subst e;rw[(h.owns b J h2).2.2.2] at hc;cases hc
           exact(h.ok.m b es hc).keep (yY b iQ)
         have gV:∀j,((ρ.put (p.aa.map (·.1)) ((p.aa.map (·.2)).map (D.tup [pd.1,pd.2]).tget) lo vo).setO J (.tup [.list (hZ gO idx++[.tup [pd.1,pd.2]]),.map gO])).o j=if j=J then .tup [.list (hZ gO idx++[.tup [pd.1,pd.2]]),.map gO] else putL ρ.o lo vo j:=fun j=>by
          simp only[Env.setO,fJ];rfl
         refine⟨σ,own,hv,h.step (fun j=>j=J) aqX (.refl σ) j7 (fun _ _ _ hx=>.inl hx) (fun _ _ hx=>.inl hx) hbw ⟨fun _=>bn _,fun _ _=>rfl⟩
          (fun j hj=>⟨rfl,by rw[gV,if_neg hj];simp[Env.setO,bM _ _ hj,Env.put],rfl,fun b hb=>⟨hb,yY b (fun e=>by subst e;rw[h2] at hb;cases hb;exact hj rfl)⟩⟩) (fun j hj=>?_) (fun b j hb=>?_) (fun _=>id) (fun t=>?_) (fun _ hf=>hf.elim)
          (fun b hb ho=>yY b (fun e=>by subst e;rw[h2] at ho;cases ho)) (fun b j hb=>.inl ⟨j,hb⟩) (fun j hj=>?_)⟩
         ·subst hj;have:(((qS.mask m).start (p.aa.map (·.1)) (p.aa.map fun x=>bif Nat.beq x.2 0 then kt else et)).st ids).o j=.it kt et:=L3;rw[this];refine⟨kb,mb,arr,clock,gO,idx++[i],h1,h2,h3,ay,aeM,aeL,by rw[gV,if_pos rfl,ajM gO idx S9],?_,?_,h9,jk,uu⟩
          ·rw[IZ];exact⟨h7,by simp,fun a ha b hb e=>by simp at hb;subst hb;subst e;exact yD ha⟩
          ·intro i' db;rcases dN.1 db with h|h
           ·exact h8 i' h
           ·simp at h;subst h;exact(ei.1 uC).1
         ·obtain⟨b1,b2,b3,b4⟩:=h.owns b j hb;exact⟨b1,by omega,b3,b4⟩
         ·have hc:Compat ((qS.mask m).st ids) hv (((qS.mask m).start (p.aa.map (·.1)) (p.aa.map fun x=>bif Nat.beq x.2 0 then kt else et)).st ids) hv:=⟨fun _=>bn _,fun _ _=>rfl⟩
          refine .inr ⟨?_,fun gs s' e=>absurd e (Snap.noOpt _ _ t gs s')⟩;show aJ C _ _ σ hv (cO ((tq (p.aa.map (·.1)) (p.aa.map fun x=>bif Nat.beq x.2 0 then kt else et) ((qS.mask m).rs.map uD)).getD t .none)) (a2.tmps.getD t undef) (putL ρ.r (p.aa.map (·.1)) ((p.aa.map (·.2)).map (D.tup [pd.1,pd.2]).tget) t);rcases Xc (p.aa.map (·.1)) (p.aa.map fun x=>bif Nat.beq x.2 0 then kt else et) ((qS.mask m).rs.map uD) (by simp) c4 t with e|⟨mz,se⟩|⟨i',y,mz,se,EJ⟩
          ·rw[e];trivial
          ·rw[se,CX _ _ _ _ mz];have e3:((qS.mask m).rs.map uD).getD t .none=uD ((qS.mask m).rs.getD t .none):=by
            simp only[aI,ct];cases(qS.mask m).rs[t]?<;>rfl
           rw[e3];by_cases htw:t∈ws
           ·have Ch:=SH t (uH t htw);change cO ((qS.mask m).rs.getD t .none)=.none at Ch;generalize (qS.mask m).rs.getD t .none=s' at Ch;cases s'<;>simp[cO] at Ch<;>trivial
           ·have hr:=h.regs t;change aJ C _ _ σ hv (cO ((qS.mask m).rs.getD t .none)) _ (ρ.r t) at hr;rw[Tp.get t htw];generalize (qS.mask m).rs.getD t .none=s' at hr;cases s' with
            |yv=>trivial
            |opt gs s=>trivial
            |none=>trivial
            |fclo f c=>exact aJ.mono' (.refl σ) hc (fun _ _ e=>by cases e) hr
            |agg l=>exact aJ.mono' (.refl σ) hc (fun _ _ e=>by cases e) hr
            |dat t=>exact hr
            |obj j v=>exact aJ.mono' (.refl σ) hc (fun _ _ e=>by cases e) hr
            |ptr j v o=>exact aJ.mono' (.refl σ) hc (fun _ _ e=>by cases e) hr
            |eptr j v o q=>exact aJ.mono' (.refl σ) hc (fun _ _ e=>by cases e) hr
          ·rw[EJ];have arv:i'<p.aa.length:=by have:=(fe.1 mz).1;simpa using this
           rw[Vw _ (p.aa.map (·.1)) _ i' t (rf c4) (by simp) mz];obtain⟨xa,mM⟩:∃xa,p.aa[i']?=some xa:=⟨_,aX arv⟩
           simp only[ct,mM,kW,bj] at mz se;subst mz;subst se;rw[asp xa (ko mM)];have hd:((p.aa.map (·.2)).map (D.tup [pd.1,pd.2]).tget).getD i' .none=(D.tup [pd.1,pd.2]).tget xa.2:=by simp[aI,mM]
           rw[hd];have h2x:xa.2≤1:=by
            rcases Vn l nY (fun x hx=>by cases hx) xa (ko mM) with h|h
            ·cases h
            ·exact h.1
           rcases(by omega:xa.2=0∨xa.2=1) with e0|e0<;>rw[e0]
           ·exact bD
           ·exact cB
         ·have:(((qS.mask m).start (p.aa.map (·.1)) (p.aa.map fun x=>bif Nat.beq x.2 0 then kt else et)).st ids).o j=.it kt et:=by rw[hj];exact L3
          rw[this];intro e;cases e
        have asq:=ajM gO idx S9;obtain⟨rest,sM⟩:∃rest,(hZ gO idx++(D.tup [pd.1,pd.2])::rest).Perm (iY (.map gO)):=by
         obtain⟨rest,hr⟩:=ayi (es:=gO) (idx:=idx++[i]) (by rw[IZ];exact⟨h7,by simp,fun a ha b hb e=>by simp at hb;subst hb;subst e;exact yD ha⟩) (fun i' db=>by
          rcases dN.1 db with h|h
          ·rw[h9];exact h8 i' h
          ·simp at h;subst h;rw[h9];exact(ei.1 uC).1)
         rw[asq] at hr;exact⟨rest,by simpa using hr⟩
        have jF:=aO _ sM;simp only[pJ] at jF;split at jF
        case h_2=>cases jF
        rename_i ρ2 LB;obtain⟨xi,dJ⟩:=abG LB;refine wpIn_mono (ihc rm _ q0 sK rd w0 σ0 wr _ xi a2 w2 gm hC hY (fun t ht=>TF t (Ct t ht)) (Tp.size.trans vQ) asU dJ) fun ee a3 w3 gV=>?_;have qY:=abI n6 (vn code sK) dJ LB gV;have conv:∀ee a3 w3,ir C w0 σ0 ids fn s rm wr a2 (gK ids p.next q0).out (gK ids p.next q0).ex (.next ρ2) ee a3 w3→Exit.then (Code.roundsIn (FR rd) 0 C.P (.seq (.region i1 p.ops1 false) (.seq (.cond (.tmp p.mo) .skip (.exit p.out)) (.block p.next (.seq (.region i2 p.ops2 false) code)))) (ir C w0 σ0 ids fn s rm wr a none [(p.out,(qS.mask m).kill ids J)] x0) kk) (ir C w0 σ0 ids fn s rm wr a none [(p.out,(qS.mask m).kill ids J)] x0) ee a3 w3:=by
         intro ee a3 w3 ho;cases ee with
         |normal=>
          obtain⟨ρ3,T,f1,f2,f3,f4⟩:=ho;cases f1;refine ih (hZ gO idx++[.tup [pd.1,pd.2]]) (lo.map ρ2.o) a3 w3 (kE.trans ((Tp.mono TF).trans f3)) ?_ (fun ys od=>?_) (by simp at hlen ⊢;omega)
          ·have uA:Good C w0 σ0 (qS.st ids) ρ2 (fun _=>False) a3 w3:=by
            have:=f4.meet2 (x:=qS)
            rwa [B8 T f2] at this
           obtain⟨σ3,zr,F7,fC⟩:=uA;have Sb:=PC.ev_but _ _ _ ρ2 LB rfl;refine⟨σ3,zr,F7,(fC.maskR m).env (Snap.noOpt _ _) (fun t ht=>?_) (fun j hj=>?_)⟩
           ·have Ch:=arX t ht
            have dv:t∉(gK ids p.next q0).pc.modR:=fun fE=>by
                 have:=SL.1 t fE;have h2:aU (Nat.lor m (gK ids p.next q0).mr) t=true:=by rw[gJ,this,tG]
                 rw[FO,Ch] at h2;cases h2
            rw[Sb.r t dv]
            have sI:t∉p.aa.map (·.1):=fun aV=>by
                 have:aU m t=true:=by
                  refine uH t ?_;obtain⟨xa,mM,rfl⟩:=cu.1 aV;rcases Vn l nY (fun x hx=>by cases hx) xa mM with h|⟨_,o,ho,hd⟩
                  ·cases h
                  ·exact cQ o (by rw[e2];exact fy _ ho) _ hd
                 rw[Ch] at this;cases this
            show ρ.r t=putL ρ.r (p.aa.map (·.1)) _ t;rw[CX _ _ _ _ sI]
           ·have hjd:py (eH ids qS.os j)=false:=hj;show cd (putL ρ.o lo (lo.map ρ2.o)) J _ j=ρ2.o j;by_cases Cd:j=J
            ·subst Cd;rw[aS,Sb.o j (fun fE=>ac9 (SL.2 j fE))];simp[Env.setO,aS]
            ·rw[bM _ _ Cd,uS];split
             ·rfl
             ·rename_i gS;have dv:j∉(gK ids p.next q0).pc.modO:=fun fE=>gS (by rw[←mH];exact eu.2 ⟨SL.2 j fE,by rw[hjd];rfl⟩);rw[Sb.o j dv];simp only[Env.setO,bM _ _ Cd];exact(Vx _ _ _ _ gS).symm
          ·have:=aO ((D.tup [pd.1,pd.2])::ys) (by simpa using od);simp only[pJ,LB] at this;exact this
         |exit id=>obtain⟨ρ3,T,f1,_⟩:=ho;cases f1
         |ret=>
          cases rm with
          |false=>obtain⟨d,f1,_⟩:=ho;cases f1
          |true=>obtain⟨ρ3,T,f1,_⟩:=ho;cases f1
         |_=>exact ho.elim
        cases ee with
        |exit id=>
         simp only[Exit.inBlock] at qY;show if id=p.next then _ else _;split
         ·rename_i cL;rw[if_pos cL] at qY;exact conv .normal a3 w3 qY
         ·rename_i cL;rw[if_neg cL] at qY;exact conv (.exit id) a3 w3 qY
        |normal=>exact conv .normal a3 w3 qY
        |ret=>exact conv .ret a3 w3 qY
        |panic c=>exact gV.elim
        |goto l=>exact gV.elim
        |_=>exact gV.elim
 have hgq:Good C w0 σ0 (qS.st ids) ρ (fun _=>False) a w:=cf hg;obtain⟨σ,own,hv,h⟩:=hgq;have bt:=h.objs J;have:(qS.st ids).o J=.it kt et:=L3;rw[this] at bt;obtain⟨kb,mb,arr,clock,gO,idx,h1,h2,h3,ay,h4,h5,h6,h7,h8,h9,jk,uu⟩:=bt;have hρJ:ρ.o J=.tup [.list [],es]:=by
  rw[h6] at S8 lg;simp[D.tget] at S8 lg;rw[h6,S8,←lg]
 have yA:(ρ.put [] [] lo (lo.map ρ.o)).setO J (.tup [.list [],es])=ρ:=by
  rw[Env.put_self];show Env.mk _ _=_;have:cd ρ.o J (.tup [.list [],es])=ρ.o:=by
   funext j;rw[fJ];split
   ·rename_i e;rw[e];exact hρJ.symm
   ·rfl
  rw[this]
 exact wpIn_loop_rounds _ (key ((iY es).length+1) [] (lo.map ρ.o) a w (.refl _ _) (by rw[yA];exact⟨σ,own,hv,h.maskR m⟩) (fun ys od=>aqz ys od) (by simp))
theorem am2 {N:Nat}(dY:gH C Φ)(hR:PW C n ids Φ R):∀(k:Nat) (c:Code),sizeOf c<k→xO C Φ fn s n ids R N c:=by
 intro k;refine Nat.rec (fun c h=>absurd h (Nat.not_lt_zero _)) (fun k IH=>?_) k;intro c hc;cases c with
 |skip=>
  intro rm S r h rd w0 σ0 wr ρ x a w gm hC hY eW hn hg he;simp only[comp,bj] at h;subst h;simp only[PC.ev,bj] at he;subst he;exact wpIn_skip ⟨ρ,S,rfl,rfl,.refl _ _,hg⟩
 |region id ops draw=>
  intro rm S r h rd w0 σ0 wr ρ x a w gm hC hY eW hn hg he;simp only[comp,aC] at h;obtain⟨q,hq,rfl⟩:=h;simp only[PC.ev,aC] at he;obtain⟨ρ',hr,rfl⟩:=he;exact hR id ops draw S q hq rd w0 σ0 ρ ρ' a w _ hC hY hn hg hr (fun a' w' dZ lh=>⟨ρ',q.1,rfl,rfl,dZ.mono (fun t ⟨o,h1,h2⟩=>eW t (Aq.2 ⟨o,h1,h2⟩)),lh⟩)
 |seq c1 c2=>
  have vX:=IH c1 (by simp at hc;omega);have vY:=IH c2 (by simp at hc;omega);intro rm S r h rd w0 σ0 wr ρ x a w gm hC hY eW hn hg he;have iV:∀t,t∈cP c1→wr t:=fun t ht=>eW t (jd _ ht);have cQ:∀t,t∈cP c2→wr t:=fun t ht=>eW t (jA _ ht);simp only[comp,aA] at h;obtain⟨q,hq,h⟩:=h;split at h
  ·rename_i kD;cases h;refine wpIn_seq (wpIn_mono (vX rm S _ hq rd w0 σ0 wr ρ x a w gm hC hY iV hn hg he) fun e a' w' ho=>?_);cases e with
   |normal=>obtain⟨_,_,_,h2,_⟩:=ho;rw[kD] at h2;cases h2
   |_=>exact ho
  ·rename_i S1 kD;simp only[aC] at h;obtain⟨p,hp,rfl⟩:=h;simp only[PC.ev] at he
   have key:∀x1,q.pc.ev Φ N ρ=some x1→(match some x1 with|some (.next ρ')=>p.pc.ev Φ N ρ'|y=>y)=some x→(Code.seq c1 c2).wpIn (FR rd) 0 C.P (ir C w0 σ0 ids fn s rm wr a p.out (q.ex++p.ex) x) a w:=by
      intro x1 h1 h2;refine wpIn_seq (wpIn_mono (vX rm S _ hq rd w0 σ0 wr ρ x1 a w gm hC hY iV hn hg h1) fun e a' w' ho=>?_);have other:∀{e:Exit},e≠.normal→ir C w0 σ0 ids fn s rm wr a q.out q.ex x1 e a' w'→x1=x→ir C w0 σ0 ids fn s rm wr a p.out (q.ex++p.ex) x e a' w':=by
       intro e ay ho hx;subst hx;exact ho.mono (fun y hy=>jd _ hy) (.refl _ _) (fun e=>absurd e ay)
      cases e with
      |normal=>
       obtain⟨ρ1,S2,e1,e2,dT,gR⟩:=ho;subst e1;rw[kD] at e2;cases e2;simp only at h2;refine wpIn_mono (vY rm S1 _ hp rd w0 σ0 wr ρ1 x a' w' gm hC hY cQ (dT.size.trans hn) gR h2) fun e a2 w2 fF=>?_;exact fF.mono (fun y hy=>jA _ hy) dT (fun _=>rfl)
      |exit id=>
       refine other (by simp) ho ?_;obtain⟨ρ1,S2,e1,_⟩:=ho;subst e1;simpa using h2
      |ret=>
       refine other (by simp) ho ?_;cases rm with
       |false=>obtain⟨d,e1,_⟩:=ho;subst e1;simpa using h2
       |true=>obtain⟨ρ1,S2,e1,_⟩:=ho;subst e1;simpa using h2
      |_=>exact ho.elim
   cases h1:q.pc.ev Φ N ρ with
   |none=>rw[h1] at he;simp at he
   |some x1=>rw[h1] at he;exact key x1 h1 he
 |cond c c1 c2=>
  have vX:=IH c1 (by simp at hc;omega);have vY:=IH c2 (by simp at hc;omega);intro rm S r h rd w0 σ0 wr ρ x a w gm hC hY eW hn hg he;have iV:∀t,t∈cP c1→wr t:=fun t ht=>eW t (jd _ ht);have cQ:∀t,t∈cP c2→wr t:=fun t ht=>eW t (jA _ ht);simp only[comp] at h;split at h
  case h_2=>cases h;exact absurd he (ng _ _ _ _)
  rename_i e hu;simp only[aA,aC] at h;obtain⟨q,hq,p,hp,rfl⟩:=h;have hb:∃b,a.eval c=.bool b∧e.ev ρ=.v (.bool b):=by
   obtain⟨σ,own,hv,hi⟩:=hg;have:=cw (gs:=[]) hi hC rfl hu;generalize a.eval c=v at this;generalize e.ev ρ=d at this;cases this with|bool b=>exact⟨b,rfl,rfl⟩
  obtain⟨b,jF,dG⟩:=hb;have sF:=vn c1 hq;have FN:=vn c2 hp;have main:∀(o:Option Snap) (lr lo:List Nat) (rx:Res2),rx=⟨.ite e lr lo q.pc p.pc,o,q.ex++p.ex,Nat.lor q.mr p.mr,jT q.mo p.mo⟩→
        (∀M,o=some M→lr=kJ M (Nat.lor q.mr p.mr)∧lo=jM ids M (jT q.mo p.mo))→
        (∀S1 ρ1 a w,q.out=some S1→Good C w0 σ0 (S1.st ids) ρ1 (fun _=>False) a w→∃M,o=some M∧Good C w0 σ0 (M.st ids) ρ1 (fun _=>False) a w)→
        (∀S1 ρ1 a w,p.out=some S1→Good C w0 σ0 (S1.st ids) ρ1 (fun _=>False) a w→∃M,o=some M∧Good C w0 σ0 (M.st ids) ρ1 (fun _=>False) a w)→
        rx.pc.ev Φ N ρ=some x→(Code.cond c c1 c2).wpIn (FR rd) 0 C.P (ir C w0 σ0 ids fn s rm wr a rx.out rx.ex x) a w:=by
   intro o lr lo rx hrx hl sL nY bN;subst hrx;simp only[PC.ev,dG,D.b_bool] at bN;have fin:∀(ci:Code) (qi:Res2) (xi:Out),(∀y,y∈qi.ex→y∈q.ex++p.ex)→(∀t,t∈qi.pc.modR→aU (Nat.lor q.mr p.mr) t=true)→(∀j,j∈qi.pc.modO→j∈jT q.mo p.mo)→
    (∀S1 ρ1 a w,qi.out=some S1→Good C w0 σ0 (S1.st ids) ρ1 (fun _=>False) a w→∃M,o=some M∧Good C w0 σ0 (M.st ids) ρ1 (fun _=>False) a w)→
    qi.pc.ev Φ N ρ=some xi→(match some xi with|some (.next ρ')=>some (Out.next (ρ.join lr lo ρ'))|y=>y)=some x→
    ci.wpIn (FR rd) 0 C.P (ir C w0 σ0 ids fn s rm wr a qi.out qi.ex xi) a w→ci.wpIn (FR rd) 0 C.P (ir C w0 σ0 ids fn s rm wr a o (q.ex++p.ex) x) a w:=by
        intro ci qi xi hex lV pq kD dJ hx hwp;refine wpIn_mono hwp fun ee a' w' ho=>?_;have other:ee≠.normal→xi=x→ir C w0 σ0 ids fn s rm wr a o (q.ex++p.ex) x ee a' w':=by
         intro ay kG;subst kG;exact ho.mono hex (.refl _ _) (fun e=>absurd e ay)
        cases ee with
        |normal=>
         obtain⟨ρ1,S2,e1,e2,dT,gR⟩:=ho;subst e1;simp only[bj] at hx;subst hx;obtain⟨M,hM,uA⟩:=kD S2 ρ1 a' w' e2 gR;obtain⟨l1,l2⟩:=hl M hM;subst l1 l2;exact⟨_,M,rfl,hM,dT,uA.joined (PC.ev_but qi.pc ρ _ ρ1 dJ rfl) lV pq⟩
        |exit id=>
         refine other (by simp) ?_;obtain⟨ρ1,S2,e1,_⟩:=ho;subst e1;simpa using hx
        |ret=>
         refine other (by simp) ?_;cases rm with
         |false=>obtain⟨d,e1,_⟩:=ho;subst e1;simpa using hx
         |true=>obtain⟨ρ1,S2,e1,_⟩:=ho;subst e1;simpa using hx
        |_=>exact ho.elim
   refine wpIn_cond jF ?_;cases b with
   |true=>
    simp only[cond_true] at bN;cases dJ:q.pc.ev Φ N ρ with
    |none=>rw[dJ] at bN;simp at bN
    |some xi=>
     rw[dJ] at bN;refine fin c1 q xi (fun y hy=>jd _ hy) (fun t ht=>?_) (fun j hj=>re.2 (.inl (sF.2 j hj))) sL dJ bN (vX rm S _ hq rd w0 σ0 wr ρ xi a w gm hC hY iV hn hg dJ);rw[gJ,sF.1 t ht];rfl
   |false=>
    simp only[cond_false] at bN;cases dJ:p.pc.ev Φ N ρ with
    |none=>rw[dJ] at bN;simp at bN
    |some xi=>
     rw[dJ] at bN;refine fin c2 p xi (fun y hy=>jA _ hy) (fun t ht=>?_) (fun j hj=>re.2 (.inr (FN.2 j hj))) nY dJ bN (vY rm S _ hp rd w0 σ0 wr ρ xi a w gm hC hY cQ hn hg dJ);rw[gJ,FN.1 t ht,tG]
  have sL:∀S1 ρ1 a w,q.out=some S1→Good C w0 σ0 (S1.st ids) ρ1 (fun _=>False) a w→∃M,mR q.out p.out=some M∧Good C w0 σ0 (M.st ids) ρ1 (fun _=>False) a w:=by
   intro S1 ρ1 a w e1 g1;rw[e1];obtain⟨M,hM⟩:=@afX S1 p.out;exact⟨M,hM,afV g1 hM⟩
  have nY:∀S1 ρ1 a w,p.out=some S1→Good C w0 σ0 (S1.st ids) ρ1 (fun _=>False) a w→∃M,mR q.out p.out=some M∧Good C w0 σ0 (M.st ids) ρ1 (fun _=>False) a w:=by
   intro S1 ρ1 a w e1 g1;rw[e1];obtain⟨M,hM⟩:=@afY q.out S1;exact⟨M,hM,afW g1 hM⟩
  cases hm:mR q.out p.out with
  |none=>
   rw[hm] at sL nY;simp only[hm] at he ⊢;exact main none [] [] _ rfl (fun M e=>by cases e) sL nY he
  |some M=>
   rw[hm] at sL nY;simp only[hm] at he ⊢;exact main (some M) _ _ _ rfl (fun M' e=>by cases e;exact⟨rfl,rfl⟩) sL nY he
 |block id c1=>
  have vX:=IH c1 (by simp at hc;omega);intro rm S r h rd w0 σ0 wr ρ x a w gm hC hY eW hn hg he;simp only[comp] at h;cases cL:Nat.beq id cR<;>simp only[cL,cond_true,cond_false] at h
  case true=>cases h;exact absurd he (ng _ _ _ _)
  have LO:id≠cR:=fun e=>by subst e;simp at cL
  simp only[aC] at h;obtain⟨q,hq,rfl⟩:=h;obtain⟨xi,dJ⟩:=abG he;exact wpIn_block (wpIn_mono (vX rm S _ hq rd w0 σ0 wr ρ xi a w gm hC hY eW hn hg dJ) fun e a' w' gV=>abI LO (vn c1 hq) dJ he gV)
 |loop c1=>
  have vX:=IH c1 (by simp at hc;omega);intro rm S r h rd w0 σ0 wr ρ x a w gm hC hY eW hn hg he;rw[ab4] at h;split at h
  ·rename_i qb F2;obtain⟨p,code,ws⟩:=qb;unfold zd at F2;split at F2
   case h_2=>cases F2
   rename_i cx cy ck cz cc;simp only[aC] at F2;obtain⟨p',aV,ep⟩:=F2;cases ep;exact avt aV (IH _ (by simp at hc;omega)) h gm hC hY eW hn hg he
  split at h
  case h_2=>cases h;exact absurd he (ng _ _ _ _)
  rename_i q hq;cases h;obtain⟨hs,B8,cf⟩:=Gm (C:=C) (w0:=w0) (σ0:=σ0) (ids:=ids) 8 hq;have sF:=vn c1 hs;simp only[PC.ev] at he
  have Cb:Good C w0 σ0 (q.1.st ids) (ρ.put (kJ q.1 q.2.mr) ((kJ q.1 q.2.mr).map ρ.r) (jM ids q.1 q.2.mo) ((jM ids q.1 q.2.mo).map ρ.o)) (fun _=>False) a w:=by
   exact Good.joined (cf hg) (.refl ρ q.2.pc.modR q.2.pc.modO) sF.1 sF.2
  have key:∀(k:Nat) (ρ1:Env) (a':Act) (w:World),SameBut wr a a'→iX (q.2.pc.ev Φ N) ρ (kJ q.1 q.2.mr) (jM ids q.1 q.2.mo) k ((kJ q.1 q.2.mr).map ρ1.r) ((jM ids q.1 q.2.mo).map ρ1.o)=some x→
        Good C w0 σ0 (q.1.st ids) (ρ.join (kJ q.1 q.2.mr) (jM ids q.1 q.2.mo) ρ1) (fun _=>False) a' w→Code.roundsIn (FR rd) 0 C.P c1 (ir C w0 σ0 ids fn s rm wr a none q.2.ex x) k a' w:=by
   intro k
   induction k with
   |zero=>intro ρ1 a' w hn hl hg;simp[iX] at hl
   |succ k ih=>
    intro ρ1 a' w kE hl hg;rw[roundsIn_succ];simp only[iX] at hl;change (match q.2.pc.ev Φ N (ρ.join (kJ q.1 q.2.mr) (jM ids q.1 q.2.mo) ρ1) with|some (.next ρ')=>_|y=>y)=some x at hl;cases dJ:q.2.pc.ev Φ N (ρ.join (kJ q.1 q.2.mr) (jM ids q.1 q.2.mo) ρ1) with
    |none=>rw[dJ] at hl;simp at hl
    |some xi=>
     rw[dJ] at hl;refine wpIn_mono (vX rm _ _ hs rd w0 σ0 wr _ xi a' w gm hC hY eW (kE.size.trans hn) hg dJ) fun e a2 w' gV=>?_;have other:e≠.normal→xi=x→ir C w0 σ0 ids fn s rm wr a none q.2.ex x e a2 w':=by
         intro ay kG;subst kG;exact gV.mono (fun y hy=>hy) kE (fun e=>absurd e ay)
     cases e with
     |normal=>
      obtain⟨ρ2,S2,e1,e2,dT,gR⟩:=gV;subst e1;simp only at hl;refine ih ρ2 a2 w' (kE.trans dT) hl ?_
      have uA:Good C w0 σ0 (q.1.st ids) ρ2 (fun _=>False) a2 w':=by
       have:=gR.meet2 (x:=q.1)
       rwa [B8 S2 e2] at this
      refine uA.joined (mr':=kJ q.1 q.2.mr++q.2.pc.modR) (mo':=jM ids q.1 q.2.mo++q.2.pc.modO) ?_ (fun t ht=>?_) (fun j hj=>?_)
      ·exact((Env.but.join ρ ρ1 _ _).mono (fun t ht=>jd _ ht) (fun t ht=>jd _ ht)).trans
        ((PC.ev_but q.2.pc _ _ ρ2 dJ rfl).mono (fun t ht=>jA _ ht) (fun t ht=>jA _ ht))
      ·exact(dN.1 ht).elim MA (sF.1 t)
      ·exact(dN.1 hj).elim CF (sF.2 j)
     |exit id=>
      refine other (by simp) ?_;obtain⟨ρ1,S2,e1,_⟩:=gV;subst e1;simpa using hl
     |ret=>
      refine other (by simp) ?_;cases rm with
      |false=>obtain⟨d,e1,_⟩:=gV;subst e1;simpa using hl
      |true=>obtain⟨ρ1,S2,e1,_⟩:=gV;subst e1;simpa using hl
     |_=>exact gV.elim
  exact wpIn_loop_rounds N (key N ρ a w (.refl _ _) he Cb)
 |exit id=>
  intro rm S r h rd w0 σ0 wr ρ x a w gm hC hY eW hn hg he;simp only[comp] at h;cases cL:Nat.beq id cR<;>simp only[cL,cond_true,cond_false] at h
  case true=>cases h;exact absurd he (ng _ _ _ _)
  cases h;simp only[PC.ev,bj] at he;subst he;exact wpIn_exit ⟨ρ,S,rfl,fun e=>by subst e;simp at cL,by simp,.refl _ _,hg⟩
 |ret=>
  intro rm S r h rd w0 σ0 wr ρ x a w gm hC hY eW hn hg he;simp only[comp] at h;cases rm<;>simp only[cond_true,cond_false] at h
  case true=>
   cases h;simp only[PC.ev,bj] at he;subst he;exact wpIn_ret ⟨ρ,S,rfl,by simp,.refl _ _,hg⟩
  split at h
  ·rename_i e Tj;cases h;simp only[PC.ev,bj] at he;subst he;obtain⟨σ,own,hv,hi⟩:=hg;exact wpIn_ret ⟨_,rfl,Inv.retD hC (fun _=>rfl) (gm rfl).2 Tj _ hi rfl,.refl _ _⟩
  ·cases h;exact absurd he (ng _ _ _ _)
 |rangeFunc g ps ca cb=>exact axs dY (IH ca (by simp at hc;omega)) (IH cb (by simp at hc;omega))
 |_=>intro rm S r h rd w0 σ0 wr ρ x a w gm hC hY eW hn hg he;simp only[comp,bj] at h;subst h;exact absurd he (ng _ _ _ _)
theorem am1 {N:Nat}(dY:gH C Φ)(hR:PW C n ids Φ R)(c:Code):xO C Φ fn s n ids R N c:=am2 dY hR _ c (Nat.lt_succ_self _)
end
end Cx
