/-
  Regions: in the order of the text, and in every order that their edges allow.
-/
import Derived.Test.YtipjidjopglknaaGreatDoorNAG
import Derived.OrdersIn
set_option linter.unusedSimpArgs false
set_option linter.unusedVariables false
namespace Cx
open Go Go.RowKit
def lb (S:St):Sh→Sh
 |.opt gs s=>.opt gs (ff S s)
 |s=>ff S s
def St.snapO (n:Nat)(ids:List Nat)(S:St):Snap:=⟨(List.range n).map fun t=>lb S (S.r t),ids.map fun j=>iP S (S.o j)⟩
def Snap.stO (ids:List Nat)(s:Snap):St:=⟨fun t=>s.rs.getD t .none,fun j=>dw ids s.os j,fun _=>0⟩
theorem rA (S:St)(s:Sh):∀gs s',ff S s≠.opt gs s':=by
 intro gs s' e;cases s<;>simp only[ff] at e<;>first|cases e|(revert e;cases Nat.beq _ _<;>intro e<;>cases e)|(revert e;cases List.all _ _<;>intro e<;>cases e)
section
variable {C:Ctx} {S:St} {ρ:Env} {σ:Im} {own:Nat→Option Nat} {hv:Nat→Value} {w0:World} {σ0:Base} {A:Nat→Prop} {a:Act} {w:World} {n:Nat} {ids:List Nat} {Φ:aL}
theorem apC {s:Sh}{v:Value}{d:D}(h:aH C S ρ σ hv s v d){T:St}(hT:T.ver=fun _=>0):aH C T ρ σ hv (lb S s) v d:=by
 have hc:Compat S.norm hv T hv:=⟨fun j=>by rw[hT];exact pA _,fun _ _=>rfl⟩
 have key:∀s,aH C S ρ σ hv s v d→aH C T ρ σ hv (ff S s) v d:=fun s hs=>aH.mono' (.refl σ) hc (rA S s) (JQ hs).1;cases s with
 |opt gs s=>exact⟨fun hh=>key s (h.1 hh),h.2⟩
 |_=>exact key _ h
theorem Good.snapO (h:Good C w0 σ0 S ρ A a w)(n:Nat)(ids:List Nat):Good C w0 σ0 ((S.snapO n ids).stO ids) ρ A a w:=by
 obtain⟨σ,own,hv,h⟩:=h;have h1:=h.norm;have hc:Compat S.norm hv ((S.snapO n ids).stO ids) hv:=⟨fun _=>bf _,fun _ _=>rfl⟩
 refine⟨σ,own,hv,h.defers,h.ok,h.le,h.old,h.newc,h.newm,h.below,h.bw,h.owns,fun t=>?_,fun j=>?_,fun t gs s e=>?_,?_⟩
 rotate_right
 ·obtain⟨t,fx,cx,f1,f5⟩:=h.frame;refine⟨t,fx,cx,f1,fun j hj=>f5 j ?_⟩;exact xn (fun j=>iP S (S.o j)) (fun ob=>ob=.tr→S.o j=.tr) (fun e=>by cases e) j aaH ids hj
 ·show aH C _ ρ σ hv (((List.range n).map fun t=>lb S (S.r t)).getD t .none) _ _;rw[aJ,ct];by_cases ht:t<n
  ·rw[qK ht];exact apC (h.regs t) rfl
  ·rw[sn (by simpa using ht)];trivial
 ·have ho:=(h1.objs j).mono (.refl σ) hc (w:=w) (w':=w) rfl rfl (fun k hk=>⟨hk,rfl⟩);exact xn (fun j=>iP S (S.o j)) (fun ob=>cd C _ ρ σ own hv w w0.heap.size j ob) trivial j ho ids
 ·change ((List.range n).map fun t=>lb S (S.r t)).getD t .none=.opt gs s at e;rw[aJ,ct] at e;by_cases ht:t<n
  ·rw[qK ht] at e;simp only[ka,j9] at e;cases hs:S.r t with
   |opt bO s'=>
    rw[hs] at e;simp only[lb,Sh.opt.injEq] at e;obtain⟨rfl,rfl⟩:=e;exact⟨(h.opts t bO s' hs).1,rA S s'⟩
   |none=>rw[hs] at e;exact absurd e (rA S .none gs s)
   |yv=>rw[hs] at e;exact absurd e (rA S .yv gs s)
   |fclo f c=>rw[hs] at e;exact absurd e (rA S (.fclo f c) gs s)
   |agg l=>rw[hs] at e;exact absurd e (rA S (.agg l) gs s)
   |dat t=>rw[hs] at e;exact absurd e (rA S (.dat t) gs s)
   |obj t u=>rw[hs] at e;exact absurd e (rA S (.obj t u) gs s)
   |ptr t u v=>rw[hs] at e;exact absurd e (rA S (.ptr t u v) gs s)
   |eptr t u v x=>rw[hs] at e;exact absurd e (rA S (.eptr t u v x) gs s)
  ·rw[sn (by simpa using ht)] at e;cases e
theorem Good.snapF (h:Good C w0 σ0 S ρ A a w)(n:Nat)(ids:List Nat):Good C w0 σ0 ((S.snap n ids).st ids) ρ (fun _=>False) a w:=by
 obtain⟨σ,own,hv,h⟩:=h;exact⟨σ,own,hv,h.snap n ids⟩
theorem Good.drew (h:Good C w0 σ0 S ρ A a w):Good C w0 σ0 S ρ A a {w with drawn:=w.drawn+1}:=by
 obtain⟨σ,own,hv,h⟩:=h;refine⟨σ,own,hv,h.defers,⟨fun k o v e=>h.ok.c k o v e,fun k es e=>h.ok.m k es e,fun k o n e=>h.ok.f k o n e⟩,h.le,h.old,h.newc,h.newm,h.below.drew,h.bw,h.owns,h.regs,fun j=>?_,h.opts,?_⟩
 rotate_right
 ·obtain⟨t,fx,cx,f1,f2⟩:=h.frame;exact⟨t,fx,cx,⟨σ0.keep _ _ _ _ _ f1.F (Below.drew (.refl _ _)) (fun _ _=>rfl),f1.own,f1.c,f1.m,f1.d⟩,f2⟩
 exact(h.objs j).mono (.refl σ) (.refl S hv) rfl rfl (fun k hk=>⟨hk,rfl⟩)
end
def vt (g:Sh→Sh)(S:St)(rs:List Sh)(ds:List Nat):List Sh:=(ds.foldl (fun l d=>l.set d (S.r d)) rs).map g
theorem XK (S:St):∀(ds:List Nat) (rs:List Sh),(ds.foldl (fun l d=>l.set d (S.r d)) rs).length=rs.length∧∀t,t<rs.length→(ds.foldl (fun l d=>l.set d (S.r d)) rs).getD t .none=if t∈ds then S.r t else rs.getD t .none
 |[],rs=>⟨rfl,fun t _=>by simp⟩
 |d::ds,rs=>by
  obtain⟨h1,h2⟩:=XK S ds (rs.set d (S.r d));simp only[List.length_set] at h1 h2;refine⟨h1,fun t ht=>?_⟩;rw[GJ,h2 t ht];simp only[cT,aJ,B6];by_cases hm:t∈ds
  ·simp[hm]
  ·by_cases e:d=t
   ·subst e;simp[hm,ht]
   ·have e':¬t=d:=fun h=>e h.symm;simp[hm,e,e']
theorem Gq {g:Sh→Sh}{S:St}{rs:List Sh}{ds:List Nat}(h:∀t,t∉ds→g (rs.getD t .none)=g (S.r t)):vt g S rs ds=(List.range rs.length).map fun t=>g (S.r t):=by
 obtain⟨h1,h2⟩:=XK S ds rs;unfold vt;apply VQ;intro t;simp only[ct];by_cases ht:t<rs.length
 ·have:=h2 t ht;rw[aJ,bA (by omega)] at this;rw[bA (by omega),qK ht];simp only[j9,ka] at this ⊢;rw[this];by_cases hm:t∈ds
  ·simp[hm]
  ·simp only[hm,if_false];rw[h t hm]
 ·rw[sn (by omega),sn (by simpa using ht)];rfl
def Sh.hd {α:Type}(s:Sh)(k:Sh→α):α:=
 match s with
 |.none=>k .none
 |.dat t=>k (.dat t)
 |.obj j v=>k (.obj j v)
 |.ptr j v o=>k (.ptr j v o)
 |.eptr j v z o=>k (.eptr j v z o)
 |.opt gs s=>k (.opt gs s)
 |.yv=>k .yv
 |.fclo f c=>k (.fclo f c)
 |.agg l=>k (.agg l)
theorem Sh.hd_eq {α:Type}(s:Sh)(k:Sh→α):s.hd k=k s:=by cases s<;>rfl
def Ab {α:Type}:List Sh→(List Sh→α)→α
 |[],k=>k []
 |s::l,k=>s.hd fun s=>Ab l fun l=>k (s::l)
theorem NX {α:Type}:∀(l:List Sh) (k:List Sh→α),Ab l k=k l
 |[],_=>rfl
 |s::l,k=>by rw[Ab,Sh.hd_eq,NX l]
def Ob.hd {α:Type}(s:Ob)(k:Ob→α):α:=
 match s with
 |.dead=>k .dead
 |.fz t=>k (.fz t)
 |.fbox t=>k (.fbox t)
 |.box true l=>Ab l fun l=>k (.box true l)
 |.box false l=>Ab l fun l=>k (.box false l)
 |.row T e=>k (.row T e)
 |.mp a b=>k (.mp a b)
 |.it a b=>k (.it a b)
 |.tr=>k .tr
theorem Ob.hd_eq {α:Type}(s:Ob)(k:Ob→α):s.hd k=k s:=by
 cases s with
 |box ag l=>cases ag<;>simp only[Ob.hd,NX]
 |_=>rfl
def IK {α:Type}:List Ob→(List Ob→α)→α
 |[],k=>k []
 |s::l,k=>s.hd fun s=>IK l fun l=>k (s::l)
theorem X7 {α:Type}:∀(l:List Ob) (k:List Ob→α),IK l k=k l
 |[],_=>rfl
 |s::l,k=>by rw[IK,Ob.hd_eq,X7 l]
def Snap.hard {α:Type}(s:Snap)(k:Snap→α):α:=Ab s.rs fun a=>IK s.os fun b=>k ⟨a,b⟩
theorem Snap.hard_eq {α:Type}(s:Snap)(k:Snap→α):s.hard k=k s:=by rw[Snap.hard,NX,X7]
def IL {α β:Type}:List β→(List β→α)→α
 |[],k=>k []
 |s::l,k=>IL l fun l=>k (s::l)
theorem X9 {α β:Type}:∀(l:List β) (k:List β→α),IL l k=k l
 |[],_=>rfl
 |s::l,k=>by rw[IL,X9 l]
def DE {α β:Type}:List (List β)→(List (List β)→α)→α
 |[],k=>k []
 |s::l,k=>IL s fun s=>DE l fun l=>k (s::l)
theorem X8 {α β:Type}:∀(l:List (List β)) (k:List (List β)→α),DE l k=k l
 |[],_=>rfl
 |s::l,k=>by rw[DE,X9,X8 l]
def aA (P:Program){α:Type}(s:Sem α):Prop:=(∃a,∀w,s.run P w=.ok a w)∨∀w,∃h w',s.run P w=.halt h w'
section
variable {P:Program}
theorem aA.pure {α:Type}(a:α):aA P (Sem.pure a):=.inl ⟨a,fun w=>rfl⟩
theorem aA.pure' {α:Type}(a:α):aA P (Pure.pure a:Sem α):=.inl ⟨a,fun w=>rfl⟩
theorem aA.halt {α:Type}(h:Halt):aA P (Sem.halt h:Sem α):=.inr fun w=>⟨h,w,rfl⟩
theorem aA.bind' {α β:Type}{s:Sem α}{f:α→Sem β}(h:aA P s)(hf:∀a,(∀w,s.run P w=.ok a w)→aA P (f a)):aA P (s>>=f):=by
 rcases h with⟨a,ha⟩|hd
 ·rcases hf a ha with⟨b,hb⟩|hd
  ·exact .inl ⟨b,fun w=>by rw[Sem.run_bind,ha w];exact hb w⟩
  ·refine .inr fun w=>?_;obtain⟨x,w',e⟩:=hd w;exact⟨x,w',by rw[Sem.run_bind,ha w];exact e⟩
 ·refine .inr fun w=>?_;obtain⟨x,w',e⟩:=hd w;exact⟨x,w',by rw[Sem.run_bind,e];rfl⟩
theorem aA.bind {α β:Type}{s:Sem α}{f:α→Sem β}(h:aA P s)(hf:∀a,aA P (f a)):aA P (s>>=f):=h.bind' fun a _=>hf a
def cj {α:Type}(s:Sem α):Prop:=∀P w,∃h w',s.run P w=.halt h w'
theorem cj.noW {α:Type}{s:Sem α}(h:cj s):aA P s:=.inr (h P)
theorem cj.halt {α:Type}(h:Halt):cj (Sem.halt h:Sem α):=fun P w=>⟨h,w,rfl⟩
theorem cj.of_bind {α β:Type}{s:Sem α}{f:α→Sem β}(hf:∀a,cj (f a)):cj (s>>=f):=by
 intro P w;rw[Sem.run_bind];cases e:s.run P w with
 |ok a w'=>exact hf a P w'
 |halt h w'=>exact⟨h,w',rfl⟩
theorem aA.asBool (v:Value):aA P (Go.asBool v):=by
 cases v<;>first|exact .pure _|exact .halt _
theorem aA.asIntOf (v:Value):aA P (Go.asIntOf v):=by
 unfold Go.asIntOf;split<;>first|exact .pure _|exact .halt _
theorem aA.sureAddr (v:Value):aA P (Instr.sureAddr v):=by
 unfold Instr.sureAddr;split<;>first|exact .pure _|exact .halt _
theorem aA.prog:aA P Go.program:=.inl ⟨P,fun w=>rfl⟩
theorem aA.underlying (t:TypeId):aA P (Go.underlying t):=by
 unfold Go.underlying;refine .bind .prog fun p=>?_;split<;>first|exact .pure _|exact .halt _
theorem aA.sizeOf (t:TypeId):aA P (Go.sizeOf t):=by
 unfold Go.sizeOf Go.typeInfo;refine .bind (.bind .prog fun p=>?_) fun _=>.pure _;split<;>first|exact .pure _|exact .halt _
theorem cj.runtimePanic {α:Type}(e:RuntimeError):cj (Go.runtimePanic e:Sem α):=by
 unfold Go.runtimePanic;refine .of_bind fun p=>?_;cases e<;>first|exact .halt _|exact .of_bind fun _=>.halt _|exact .of_bind fun _=>.of_bind fun _=>.halt _
theorem cj.boundsPanic {α:Type}(k:IntKind)(x y:Int)(c:BoundsCode):cj (Go.boundsPanic k x y c:Sem α):=by
 unfold Go.boundsPanic;dsimp only;split<;>exact .of_bind fun _=>.runtimePanic _
theorem aA.indexAt (t:TypeId)(x i:Value):aA P (Instr.indexAt t x i):=by
 unfold Instr.indexAt
 repeat' (first|(first|exact aA.pure _|exact aA.pure' _|exact aA.halt _|exact cj.noW (cj.boundsPanic _ _ _ _)|exact cj.noW (cj.runtimePanic _)|exact aA.prog|exact aA.underlying _|exact aA.sizeOf _|exact aA.asIntOf _|exact aA.sureAddr _|exact aA.asBool _)|(refine aA.bind ?_ fun _=>?_)|dsimp only|split)
theorem aA.sliceBound (x:Value)(y:Nat)(c:BoundsCode):aA P (Instr.sliceBound x y c):=by
 unfold Instr.sliceBound
 repeat' (first|(first|exact aA.pure _|exact aA.pure' _|exact aA.halt _|exact cj.noW (cj.boundsPanic _ _ _ _)|exact cj.noW (cj.runtimePanic _)|exact aA.prog|exact aA.underlying _|exact aA.sizeOf _|exact aA.asIntOf _|exact aA.sureAddr _|exact aA.asBool _)|(refine aA.bind ?_ fun _=>?_)|dsimp only|split)
theorem aA.sliceBounds (b:Bool)(n m:Nat)(lo hi mx:Option Value):aA P (Instr.sliceBounds b n m lo hi mx):=by
 unfold Instr.sliceBounds
 repeat' (first|exact aA.sliceBound _ _ _|(first|exact aA.pure _|exact aA.pure' _|exact aA.halt _|exact cj.noW (cj.boundsPanic _ _ _ _)|exact cj.noW (cj.runtimePanic _)|exact aA.prog|exact aA.underlying _|exact aA.sizeOf _|exact aA.asIntOf _|exact aA.sureAddr _|exact aA.asBool _)|(refine aA.bind ?_ fun _=>?_)|dsimp only|split)
theorem aA.asAddr (v:Value):aA P (Go.asAddr v):=by
 unfold Go.asAddr
 repeat' (first|(first|exact aA.pure _|exact aA.pure' _|exact aA.halt _|exact cj.noW (cj.boundsPanic _ _ _ _)|exact cj.noW (cj.runtimePanic _)|exact aA.prog|exact aA.underlying _|exact aA.sizeOf _|exact aA.asIntOf _|exact aA.sureAddr _|exact aA.asBool _)|(refine aA.bind ?_ fun _=>?_)|dsimp only|split)
theorem aA.slice (t:TypeId)(x:Value)(lo hi mx:Option Value):aA P (Instr.slice t x lo hi mx):=by
 unfold Instr.slice
 repeat' (first|exact aA.sliceBounds _ _ _ _ _ _|exact aA.asAddr _|(first|exact aA.pure _|exact aA.pure' _|exact aA.halt _|exact cj.noW (cj.boundsPanic _ _ _ _)|exact cj.noW (cj.runtimePanic _)|exact aA.prog|exact aA.underlying _|exact aA.sizeOf _|exact aA.asIntOf _|exact aA.sureAddr _|exact aA.asBool _)|(refine aA.bind ?_ fun _=>?_)|dsimp only|split)
theorem aA.sliceAt (t:TypeId)(x:Value)(lo hi mx:Option Value):aA P (Instr.sliceAt t x lo hi mx):=by
 unfold Instr.sliceAt
 repeat' (first|exact aA.sliceBounds _ _ _ _ _ _|exact aA.slice _ _ _ _ _|(first|exact aA.pure _|exact aA.pure' _|exact aA.halt _|exact cj.noW (cj.boundsPanic _ _ _ _)|exact cj.noW (cj.runtimePanic _)|exact aA.prog|exact aA.underlying _|exact aA.sizeOf _|exact aA.asIntOf _|exact aA.sureAddr _|exact aA.asBool _)|(refine aA.bind ?_ fun _=>?_)|dsimp only|split)
def SR (P:Program)(s:TypeId)(i:Nat):Bool:=
 match P.underlying s with
 |some (.struct fs)=>(match fs[i]? with
  |some f=>(match P.info? f.type with|some d=> !Nat.beq d.size 0|none=>false)
  |none=>false)
 |_=>false
theorem aA.fieldAt {s:TypeId}{i:Nat}(h:SR P s i=true)(a:Value):aA P (Instr.fieldAt s a i):=by
 unfold Instr.fieldAt;refine .bind' (.underlying _) fun d hd=>?_;have hu:P.underlying s=some d:=by
  have:=hd default;unfold Go.underlying at this;rw[Sem.run_bind] at this;change Result.andThen (.ok P default) _=_ at this;simp only[Result.andThen_ok] at this;cases hp:P.underlying s with
  |none=>rw[hp] at this;cases this
  |some d'=>
   rw[hp] at this;change Result.ok d' default=_ at this;cases this;rfl
 unfold SR at h;rw[hu] at h;cases d<;>dsimp only at h ⊢<;>try (first|exact aA.pure _|exact aA.pure' _|exact aA.halt _|exact cj.noW (cj.boundsPanic _ _ _ _)|exact cj.noW (cj.runtimePanic _)|exact aA.prog|exact aA.underlying _|exact aA.sizeOf _|exact aA.asIntOf _|exact aA.sureAddr _|exact aA.asBool _)
 rename_i fs;cases hf:fs[i]? with
 |none=>dsimp only;(first|exact aA.pure _|exact aA.pure' _|exact aA.halt _|exact cj.noW (cj.boundsPanic _ _ _ _)|exact cj.noW (cj.runtimePanic _)|exact aA.prog|exact aA.underlying _|exact aA.sizeOf _|exact aA.asIntOf _|exact aA.sureAddr _|exact aA.asBool _)
 |some f=>
  rw[hf] at h;dsimp only at h ⊢;refine .bind (.sureAddr _) fun a=>.bind ?_ fun _=>.pure _;unfold Go.fieldPlace;refine .bind' (.sizeOf _) fun n hn=>?_;have hz:n≠0:=by
   intro e;have:=hn default;unfold Go.sizeOf Go.typeInfo at this;cases hi:P.info? f.type with
   |none=>rw[hi] at h;cases h
   |some inf=>
    rw[hi] at h;rw[Sem.run_bind,Sem.run_bind] at this;change Result.andThen (Result.andThen (.ok P default) _) _=_ at this;simp only[Result.andThen_ok,hi] at this;change Result.ok inf.size default=_ at this;cases this;dsimp only at h;rw[e] at h;cases h
  rw[if_neg hz]
  (first|exact aA.pure _|exact aA.pure' _|exact aA.halt _|exact cj.noW (cj.boundsPanic _ _ _ _)|exact cj.noW (cj.runtimePanic _)|exact aA.prog|exact aA.underlying _|exact aA.sizeOf _|exact aA.asIntOf _|exact aA.sureAddr _|exact aA.asBool _)
def EY (P:Program):Op→Bool
 |.move _=>true
 |.assign _=>true
 |.pick ..=>true
 |.fieldAddr s _ i=>SR P s i
 |.indexAddr ..=>true
 |.slice ..=>true
 |_=>false
theorem aqQ {o:Oper}(hp:EY P o.op=true)(ρ:Operand→Value):(∃v,∀w,(execOp ρ o).run P w=.ok (.value v) w)∨∀w,∃h w',(execOp ρ o).run P w=.halt h w':=by
 have key:∀s:Sem Value,aA P s→(∃v,∀w,(do Pure.pure (Next.value (←s)):Sem Next).run P w=.ok (.value v) w)∨∀w,∃h w',(do Pure.pure (Next.value (←s)):Sem Next).run P w=.halt h w':=by
  intro s hs;rcases hs with⟨a,ha⟩|hd
  ·exact .inl ⟨a,fun w=>by rw[Sem.run_bind,ha w];rfl⟩
  ·refine .inr fun w=>?_;obtain⟨x,w',e⟩:=hd w;exact⟨x,w',by rw[Sem.run_bind,e];rfl⟩
 obtain⟨dst,op,type,pos,after,guard⟩:=o;cases op<;>first|(cases hp;done)|skip
 case move x=>exact .inl ⟨_,fun w=>rfl⟩
 case assign x=>exact .inl ⟨_,fun w=>rfl⟩
 case pick c a b=>
  have:=key (do Pure.pure (if←Go.asBool (ρ c) then ρ a else ρ b)) (.bind (.asBool _) fun _=>.pure _);simp only[execOp];rcases aA.asBool (P:=P) (ρ c) with⟨t,ht⟩|hd
  ·exact .inl ⟨_,fun w=>by rw[Sem.run_bind,ht w];rfl⟩
  ·refine .inr fun w=>?_;obtain⟨x,w',e⟩:=hd w;exact⟨x,w',by rw[Sem.run_bind,e];rfl⟩
 case fieldAddr s x i=>exact key _ (.fieldAt hp _)
 case indexAddr t x i=>exact key _ (.indexAt _ _ _)
 case slice t x lo hi mx=>exact key _ (.sliceAt _ _ _ _ _)
theorem aqR {rd:Option Nat}{ops:Array Oper}{i:Nat}{o:Oper}{a:Act}{w:World}{K:Act→World→Prop}(hi:ops[i]?=some o)(hp:EY P o.op=true)
 (h:wpOpIn (FR rd) 0 P ops (fun _ _ _=>False) i K a w):∃v,YieldsFenced P ops o v a∧K (a.put o.dst v) w:=by
 have bn:∀c,o.op≠.defer c:=fun c e=>by rw[e] at hp;cases hp
 have z8:∀w,o.about P w a.eval=none:=fun w=>by
  unfold Oper.about;cases ho:o.op<;>first|rfl|(rw[ho] at hp;cases hp)
 unfold wpOpIn at h;rw[hi] at h;dsimp only at h;cases hw:Region.wanted o (yielded ops a.tmps) with
 |false=>
  rw[hw] at h;exact⟨undef,⟨.inr ⟨hw,rfl⟩,z8⟩,h.2⟩
 |true=>
  rw[hw,if_pos rfl] at h;have h2:=h.2;rw[Oper.semAt_eq _ _ _ bn] at h2;rcases aqQ hp a.eval with⟨v,hv⟩|hd
  ·rw[hv w] at h2;exact⟨v,⟨.inl ⟨hw,hv⟩,z8⟩,h2⟩
  ·obtain⟨x,w',e⟩:=hd w;rw[e] at h2;cases x<;>exact h2.elim
section
variable {F:Fence} {n:Nat} {ops:Array Oper} {Q:Exit→Act→World→Prop} {md:Region.Mode}
theorem YF.wpOpIn {i:Nat}{o:Oper}{v:Value}{a:Act}(bn:oL o.op=true)(hi:ops[i]?=some o)(hy:YieldsFenced P ops o v a)
 {K:Act→World→Prop} {w:World} (h:K (a.put o.dst v) w):wpOpIn F n P ops Q i K a w:=by
 have jU:∀c,o.op≠.defer c:=fun c e=>by rw[e] at bn;cases bn
 unfold Go.wpOpIn;simp only[hi];have z8:∀f,o.about P w a.eval=some f→F.fn f:=fun f hf=>by rw[hy.2 w] at hf;cases hf
 rcases hy.1 with⟨hw,hv⟩|⟨hw,rfl⟩
 ·simp only[hw,if_true,Oper.wpIn,Oper.semAt_eq _ _ _ jU,hv w,Oper.uponIn];exact⟨z8,h⟩
 ·simp only[hw,vI,if_false];exact⟨z8,h⟩
theorem avv {j:Nat}{oi oj:Oper}{v:Value}(bn:oL oj.op=true)(hj:ops[j]?=some oj)(NW:oi.apart ops oj=true)
 (hsi:∀cs b,oi.op≠.select cs b) (hsj:∀cs b,oj.op≠.select cs b)
 (hQ:∀c a w,Q (.panic c) (a.put oi.dst v) w→Q (.panic c) a w) {K:Act→World→Prop} {a:Act} {w:World}
 (hy:YieldsFenced P ops oi v a) (h:wpOpIn F n P ops Q j K (a.put oi.dst v) w):
 wpOpIn F n P ops Q j (fun a' w'=>YieldsFenced P ops oi v a'∧K (a'.put oi.dst v) w') a w:=by
 have jU:∀c,oj.op≠.defer c:=fun c e=>by rw[e] at bn;cases bn
 obtain⟨h1,h2,h3⟩:=Oper.apart_spec NW;have keep:∀(a:Act),YieldsFenced P ops oi v a→∀u,YieldsFenced P ops oi v (a.put oj.dst u):=fun a hy u=>
  hy.of_same (execOp_put oi hsi a oj.dst u h3) (wanted_put oi a oj.dst u h3) (fun w=>about_put oi w a oj.dst u h3)
 have anO:∀d,YieldsFenced P ops oi v {a with defers:=d::a.defers}:=fun d=>hy.of_same rfl rfl (fun _=>rfl);unfold Go.wpOpIn at*;simp only[hj] at*;rw[wanted_put oj a oi.dst v h1,about_put oj w a oi.dst v h1] at h;split
 ·rename_i hw;simp only[hw,if_true] at h;unfold Oper.wpIn at*;rw[about_put oj w a oi.dst v h1] at h;refine⟨h.1,?_⟩;have h:=h.2;rw[Oper.semAt_eq _ _ _ jU,execOp_put oj hsj a oi.dst v h1] at h;rw[Oper.semAt_eq _ _ _ jU];generalize (execOp a.eval oj).run P w=r at*;cases r with
  |ok x w'=>
   cases x<;>simp only[Oper.uponIn] at h ⊢
   case value u=>exact⟨keep a hy u,by rw[←Act.put_comm a v u h2];exact h⟩
   case skip=>exact⟨keep a hy _,by rw[←Act.put_comm a v undef h2];exact h⟩
   case defer d=>
        refine⟨keep _ (anO d) _,?_⟩;rw[←Act.put_comm _ v undef h2,←Act.put_defers];exact h
   case enter f args=>
        refine⟨h.1,CallsIn.mono h.2 fun e kH he=>?_⟩;cases e with
        |returned u=>exact⟨keep a hy u,by rw[←Act.put_comm a v u h2];exact he⟩
        |panicked c=>exact hQ _ _ _ he
        |outgrown=>exact he
   case row row args=>exact⟨h.1,RowsIn.mono h.2 fun u kH he=>⟨keep a hy u,by rw[←Act.put_comm a v u h2];exact he⟩⟩
   case round l f tmps assign body=>
        refine⟨h.1,RoundIn.mono h.2 fun e kH he=>?_⟩;cases e with
        |returned u=>exact⟨keep a hy u,by rw[←Act.put_comm a v u h2];exact he⟩
        |panicked c=>exact hQ _ _ _ he
        |outgrown=>exact he
  |halt x w'=>
   cases x<;>simp only[Oper.uponIn] at h ⊢
   case panic u=>exact hQ _ _ _ h
 ·rename_i hw;simp only[hw] at h;exact⟨h.1,keep a hy _,by rw[←Act.put_comm a v undef h2];exact h.2⟩
theorem avu {i:Nat}{oi:Oper}{v:Value}(bn:∀(j:Nat) (o:Oper),ops[j]?=some o→oL o.op=true)(hi:ops[i]?=some oi)(Ax:∀(j:Nat) (o:Oper) cs b,ops[j]?=some o→o.op≠.select cs b)
 (hQ:∀c a w,Q (.panic c) (a.put oi.dst v) w→Q (.panic c) a w):
 ∀(fuel:Nat) (listed:Array Bool) (a:Act) (w:World),
  (∀j oj,ops[j]?=some oj→j≠i→listed.getD j true=false→(∀e∈oj.after,Region.binds md e=true→e.on≠i)→oi.apart ops oj=true)→
  i∈Region.ready md ops listed→YieldsFenced P ops oi v a→
  wpAnyIn F n P md ops Q fuel (listed.setIfInBounds i true) (a.put oi.dst v) w→wpAnyIn F n P md ops Q (fuel+1) listed a w:=by
 intro fuel
 induction fuel with
 |zero=>
  intro listed a w _ hr hy H;refine⟨fun h=>(by rw[h] at hr;cases hr),fun j hj=>?_⟩;by_cases iz:j=i
  ·subst iz;exact YF.wpOpIn (bn _ _ hi) hi hy H
  ·have:=ready_mono hj iz;rw[H.1] at this;cases this
 |succ fuel ih=>
  intro listed a w m6 hr hy H;refine⟨fun h=>(by rw[h] at hr;cases hr),fun j hj=>?_⟩;by_cases iz:j=i
  ·subst iz;exact YF.wpOpIn (bn _ _ hi) hi hy H
  ·have h1:=H.2 j (ready_mono hj iz);obtain⟨YG,oj,rp,aO⟩:=mem_ready.1 hj
   have OG:∀e∈oj.after,Region.binds md e=true→e.on≠i:=fun e he hb heq=>by
        have h1:=aO e he hb;have h0:=(mem_ready.1 hr).1;rw[heq] at h1;rcases L5 i listed.size with h'|h'
        ·simp[h'] at h0 h1;rw[h0] at h1;cases h1
        ·simp[Array.getElem?_eq_none h'] at h1
   have h2:=avv (bn _ _ rp) rp (m6 j oj rp iz YG OG) (fun cs b=>Ax i oi cs b hi) (fun cs b=>Ax j oj cs b rp) hQ hy h1;have alv:∀k ok,ops[k]?=some ok→k≠i→(listed.setIfInBounds j true).getD k true=false→
    (∀e∈ok.after,Region.binds md e=true→e.on≠i)→oi.apart ops ok=true:=fun k ok hk hki nj eI=>by
        refine m6 k ok hk hki ?_ eI;by_cases I5:j=k
        ·subst I5;exact YG
        ·rw[getD_set_ne true I5] at nj;exact nj
   refine wpOpIn_mono (fun a' w' h3=>ih (listed.setIfInBounds j true) a' w' alv (ready_mono hr (vQ iz)) h3.1 ?_) h2;rw[Array.setIfInBounds_comm _ _ iz];exact h3.2
end
end
def sA (P:Program)(ops:Array Oper):List (Option (List Nat)):=(List.range ops.size).map fun i=>match ops[i]? with
 |some oi=>bif EY P oi.op then some ((List.range ops.size).filter fun j=> !(Nat.beq j i||(match ops[j]? with|some oj=>(oj.after.toList.any fun e=>Region.binds .any e&&Nat.beq e.on i)||oi.apart ops oj|none=>true))) else none
 |none=>none
def BN (bad:List (Option (List Nat)))(E:Nat):List Nat→Option Nat
 |[]=>none
 |i::l=>match bad.getD i none with
  |some b=>bif b.all (au E) then some i else BN bad E l
  |none=>BN bad E l
def P5 (ops:Array Oper):Bool:=ops.toList.all fun o=>match o.op with|.select ..=>false|_=>true
theorem Lr {bad:List (Option (List Nat))}{E:Nat}:∀{l:List Nat} {i:Nat},BN bad E l=some i→i∈l∧∃b,bad.getD i none=some b∧b.all (au E)=true
 |[],_,h=>by cases h
 |i::l,j,h=>by
  unfold BN at h;split at h
  ·rename_i b hb;cases hc:b.all (au E) with
   |true=>
    rw[hc] at h;cases h;exact⟨dB ..,b,hb,hc⟩
   |false=>
    rw[hc] at h;obtain⟨h1,h2⟩:=Lr h;exact⟨dy _ h1,h2⟩
  ·obtain⟨h1,h2⟩:=Lr h;exact⟨dy _ h1,h2⟩
theorem agV {P:Program}{ops:Array Oper}{i:Nat}{b:List Nat}(h:(sA P ops).getD i none=some b):∃oi,ops[i]?=some oi∧EY P oi.op=true∧
 ∀j oj,ops[j]?=some oj→j≠i→j∉b→(∀e∈oj.after,Region.binds .any e=true→e.on≠i)→oi.apart ops oj=true:=by
 unfold sA at h;rw[aJ,ct] at h;by_cases hi:i<ops.size
 ·rw[qK hi] at h;simp only[ka,j9] at h;rw[fL hi] at h;dsimp only at h;cases hp:EY P ops[i].op<;>rw[hp] at h<;>simp only[cond_true,cond_false] at h
  ·cases h
  injection h with h
  refine⟨ops[i],fL hi,hp,fun j oj hj iz I4 eI=>?_⟩;have af:j<ops.size:=(gD.1 hj).1;rw[←h] at I4;have h2:¬(!(Nat.beq j i||(match ops[j]? with|some oj=>(oj.after.toList.any fun e=>Region.binds .any e&&Nat.beq e.on i)||ops[i].apart ops oj|none=>true)))=true:=fun hc=>I4 (dX.2 ⟨bZ.2 af,hc⟩);rw[hj,eH iz] at h2;simp only[qH,iU,Bool.not_eq_false,gg] at h2;rcases h2 with h2|h2
  ·obtain⟨e,he,hb⟩:=vM.1 h2;rw[ao] at hb;exact absurd (cU hb.2) (eI e (by simpa using he) hb.1)
  ·exact h2
 ·rw[sn (by simpa using hi)] at h;cases h
def Ew (E:Nat)(T:Snap):List (Nat×Snap)→Option (List (Nat×Snap))
 |[]=>some [(E,T)]
 |x::l=>bif Nat.beq x.1 E then(bif x.2.beq T then some (x::l) else none) else(Ew E T l).map (x::·)
def lY (ops:Array Oper)(E:Nat):List Nat:=
 (List.range ops.size).filter fun i=> !au E i&&(match ops[i]? with|some o=>o.after.toList.all fun e=> !Region.binds .any e||au E e.on|none=>false)
def QM (C:Ctx)(ops:Array Oper)(n:Nat)(ids:List Nat)(X:List (List PI))(nc:List (List Nat))(E:Nat)(T:Snap)(i:Nat):Option (Nat×Snap):=
 match ops[i]? with
 |some o=>(pK C (T.stO ids) ops o).bind fun r=>
  bif PI.beqs r.2 (X.getD i [])&&(nc.getD i []).all (au E) then some (Nat.lor E (dK i),⟨vt (lb r.1) r.1 T.rs o.dst.toList,ids.map fun j=>iP r.1 (r.1.o j)⟩) else none
 |none=>none
def Gr (one:Nat→Option (Nat×Snap)):List Nat→List (Nat×Snap)→Option (List (Nat×Snap))
 |[],acc=>some acc
 |i::l,acc=>(one i).bind fun x=>x.2.hard fun T=>(Ew x.1 T acc).bind fun acc=>Gr one l acc
def pG (ops:Array Oper)(bad:List (Option (List Nat)))(E:Nat):List Nat:=
 match BN bad E (lY ops E) with
 |some i=>[i]
 |none=>lY ops E
def EF (ops:Array Oper)(bad:List (Option (List Nat)))(one:Nat→Snap→Nat→Option (Nat×Snap)):List (Nat×Snap)→List (Nat×Snap)→Option (List (Nat×Snap))
 |[],acc=>some acc
 |x::l,acc=>
  match pG ops bad x.1 with
  |[]=>none
  |rs=>(Gr (one x.1 x.2) rs acc).bind fun acc=>EF ops bad one l acc
def Gj (ops:Array Oper)(bad:List (Option (List Nat)))(one:Nat→Snap→Nat→Option (Nat×Snap)):Nat→List (Nat×Snap)→Option Snap
 |0,L=>
  match L with
  |[x]=>bif (List.range ops.size).all (au x.1) then some x.2 else none
  |_=>none
 |k+1,L=>(EF ops bad one L []).bind fun L=>Gj ops bad one k L
theorem ZH {E:Nat}{T:Snap}:∀{l l':List (Nat×Snap)},Ew E T l=some l'→(E,T)∈l'∧∀x,x∈l→x∈l'
 |[],l',h=>by simp only[Ew,aS] at h;subst h;simp
 |x::l,l',h=>by
  simp only[Ew] at h;cases hb:Nat.beq x.1 E<;>simp only[hb,cond_true,cond_false] at h
  ·simp only[az] at h;obtain⟨l2,h2,rfl⟩:=h;obtain⟨h3,h4⟩:=ZH h2;exact⟨dy _ h3,fun y hy=>(cT.1 hy).elim (fun e=>e▸dB ..) fun hm=>dy _ (h4 y hm)⟩
  ·cases hs:x.2.beq T<;>simp only[hs,cond_true,cond_false] at h
   ·cases h
   ·cases h;refine⟨?_,fun y hy=>hy⟩;have e1:=cU hb;have e2:=Snap.beq_eq _ _ hs;subst e1;subst e2;simp
theorem aeh {one:Nat→Option (Nat×Snap)}:∀{rs:List Nat} {acc Ca:List (Nat×Snap)},Gr one rs acc=some Ca→(∀x,x∈acc→x∈Ca)∧∀i,i∈rs→∃x,one i=some x∧x∈Ca
 |[],acc,Ca,h=>by simp only[Gr,aS] at h;subst h;simp
 |i::rs,acc,Ca,h=>by
  simp only[Gr,Snap.hard_eq,aq] at h;obtain⟨x,hx,afV,h1,h2⟩:=h;obtain⟨h3,h4⟩:=ZH h1;obtain⟨h5,h6⟩:=aeh h2;refine⟨fun y hy=>h5 y (h4 y hy),fun j hj=>?_⟩;rcases cT.1 hj with e|hm
  ·subst e;exact⟨x,hx,h5 _ h3⟩
  ·exact h6 j hm
theorem Z1 {ops:Array Oper}{bad:List (Option (List Nat))}{one:Nat→Snap→Nat→Option (Nat×Snap)}:∀{L acc L':List (Nat×Snap)},EF ops bad one L acc=some L'→
 (∀x,x∈acc→x∈L')∧∀x,x∈L→pG ops bad x.1≠[]∧∀i,i∈pG ops bad x.1→∃y,one x.1 x.2 i=some y∧y∈L'
 |[],acc,L',h=>by simp only[EF,aS] at h;subst h;simp
 |x::L,acc,L',h=>by
  simp only[EF] at h;split at h
  ·cases h
  ·rename_i aw;simp only[aq] at h;obtain⟨afV,h1,h2⟩:=h;obtain⟨h3,h4⟩:=aeh h1;obtain⟨h5,h6⟩:=Z1 h2;refine⟨fun y hy=>h5 y (h3 y hy),fun y hy=>?_⟩;rcases cT.1 hy with e|hm
   ·subst e;refine⟨fun e=>aw e,fun i hi=>?_⟩;obtain⟨z,hz,hm⟩:=h4 i hi;exact⟨z,hz,h5 z hm⟩
   ·exact h6 y hm
def eK (X:List (List PI))(l:List Nat)(E:Nat):List PI:=l.flatMap fun i=>bif au E i then[] else X.getD i []
theorem SB {X:List (List PI)}{E E':Nat}:∀(l:List Nat),(∀i,i∈l→au E i=au E' i)→eK X l E=eK X l E'
 |[],_=>rfl
 |i::l,h=>by
  have ih:=SB (X:=X) l fun j hj=>h j (dy _ hj);unfold eK at ih ⊢;simp only[vO];rw[ih,h i (dB ..)]
theorem Foot.comm_each {a b:List PI}(h:(iy a).comm (iy b)=true):∀p q,p∈a→q∈b→Comm p q:=by
 simp only[Foot.comm,ao] at h;obtain⟨h1,h2,h3,h4,h5,h6⟩:=h;intro p q hp hq;obtain⟨p1,p2,p3,p4⟩:=XL hp;obtain⟨q1,q2,q3,q4⟩:=XL hq;exact⟨fun t x y=>PJ h1 (p1 t x) (q1 t y),fun t x y=>PJ h2 (p1 t x) (q3 t y),fun t x y=>PJ h3 (q1 t x) (p3 t y),fun t x y=>Mk h4 (p2 t x) (q2 t y),fun t x y=>Mk h5 (p2 t x) (q4 t y),fun t x y=>Mk h6 (q2 t x) (p4 t y)⟩
def qn (X:List (List PI))(N:Nat):List (List Nat):=
 (List.range N).map fun i=>(List.range i).filter fun j=> !(iy (X.getD j [])).comm (iy (X.getD i []))
theorem jr (E i j:Nat):au (Nat.lor E (dK i)) j=(au E j||Nat.beq i j):=by
 rw[fp]
 congr 1
 rw[sD];show(1<<<i).testBit j=_;rw[Nat.testBit_shiftLeft];by_cases h:i=j
 ·subst h;simp
 ·have h1:Nat.beq i j=false:=eH h;rw[h1];by_cases h2:i≤j
  ·have:j-i≠0:=by omega
   cases hk:j-i with
   |zero=>omega
   |succ k=>
    have:(1:Nat).testBit (k+1)=false:=by simp[Nat.testBit_succ]
    simp[this]
  ·simp[h2]
theorem adL {X:List (List PI)}{N E i:Nat}(hi:i<N)(hb:au E i=false)(da:((qn X N).getD i []).all (au E)=true)(Φ:aL)(ρ:Env):
 PI.runs Φ (eK X (List.range N) E) ρ=(PI.runs Φ (X.getD i []) ρ).bind (PI.runs Φ (eK X (List.range N) (Nat.lor E (dK i)))):=by
 obtain⟨l1,l2,hl⟩:=VM (bZ.2 hi);have hp:=List.pairwise_lt_range (n:=N);rw[hl,List.pairwise_append] at hp;obtain⟨_,fB,hp3⟩:=hp;rw[GO] at fB;have lt1:∀j,j∈l1→j<i:=fun j hj=>hp3 j hj i (dB ..);have lt2:∀j,j∈l2→i<j:=fun j hj=>fB.1 j hj;have e0:∀E,eK X (l1++i::l2) E=eK X l1 E++((bif au E i then[] else X.getD i [])++eK X l2 E):=fun E=>by simp[eK]
 have e1:eK X l1 (Nat.lor E (dK i))=eK X l1 E:=SB l1 fun j hj=>by
  rw[jr,eH (by have:=lt1 j hj;omega),tU]
 have e2:eK X l2 (Nat.lor E (dK i))=eK X l2 E:=SB l2 fun j hj=>by
  rw[jr,eH (by have:=lt2 j hj;omega),tU]
 have e3:au (Nat.lor E (dK i)) i=true:=by rw[jr,gR,nH]
 rw[hl,e0,e0,e1,e2,e3,hb];simp only[cond_true,cond_false,tZ]
 have alb:PI.runs Φ (eK X l1 E++X.getD i [])=PI.runs Φ (X.getD i []++eK X l1 E):=funext fun ρ=>PI.comms _ _ (fun p q hp hq=>by
  unfold eK at hp;obtain⟨j,hj,hp⟩:=j7.1 hp;cases pW:au E j<;>simp only[pW,cond_true,cond_false] at hp
  case true=>cases hp
  have hc:(iy (X.getD j [])).comm (iy (X.getD i []))=true:=by
   cases jc:(iy (X.getD j [])).comm (iy (X.getD i [])) with
   |true=>rfl
   |false=>
    have p6:(qn X N).getD i []=(List.range i).filter fun j=> !(iy (X.getD j [])).comm (iy (X.getD i [])):=by
     unfold qn;rw[aJ,ct,qK hi];rfl
    rw[p6] at da;have:=bF.1 da j (dX.2 ⟨bZ.2 (lt1 j hj),by rw[jc];rfl⟩);rw[pW] at this;cases this
  exact Foot.comm_each hc p q hp hq) ρ
 rw[←nI,oY,alb];have:=oY (Φ:=Φ) (a:=X.getD i []) (b:=eK X l1 E) (ρ:=ρ);rw[this,Option.bind_assoc]
 congr 1
 funext ρ1;rw[oY]
def fh (C:Ctx)(ops:Array Oper):List Nat→St→Option (List (List PI))
 |[],_=>some []
 |i::l,S=>
  match ops[i]? with
  |some o=>(pK C S ops o).bind fun r=>(fh C ops l r.1).map fun q=>r.2::q
  |none=>none
def XU (ops:Array Oper):Bool:=(List.range ops.size).all fun i=>match ops[i]? with
 |some o=>(match o.guard with|some (j,_)=>Nat.blt j i|none=>true)
 |none=>true
def zX (ops:Array Oper):Bool:=ops.toList.all fun o=>match o.guard with
 |some (j,_)=>o.after.toList.any fun e=>Region.binds .any e&&Nat.beq e.on j
 |none=>true
def bB:Operand→List Nat
 |.tmp t=>[t]
 |_=>[]
def BS:Option Operand→List Nat
 |some x=>bB x
 |none=>[]
def lM:Op→List Nat
 |.move x=>bB x
 |.assign x=>bB x
 |.unOp _ _ x=>bB x
 |.convert _ _ x=>bB x
 |.load _ x=>bB x
 |.fieldAddr _ x _=>bB x
 |.field _ x _=>bB x
 |.extract x _=>bB x
 |.nilCheck x=>bB x
 |.pick c x y=>bB c++bB x++bB y
 |.binOp _ _ x y _=>bB x++bB y
 |.indexAddr _ x i=>bB x++bB i
 |.index _ x i=>bB x++bB i
 |.lookup _ m k _=>bB m++bB k
 |.slice _ x lo hi _=>bB x++BS lo++BS hi
 |.build _ ps=>ps.toList.flatMap fun p=>bB p.2
 |.call c=>(match c.callee with|.value x=>bB x|_=>[])++c.args.toList.flatMap bB
 |.store _ x v=>bB x++bB v
 |.mapUpdate _ m k v=>bB m++bB k++bB v
 |_=>[]
def Iv (ops:Array Oper)(o:Oper):List Nat:=
 match o.guard with
 |some (j,_)=>(match(ops[j]?).bind (·.dst) with|some t=>[t]|none=>[])
 |none=>[]
def St.withR (S:St)(f:Nat→Sh):St:=⟨f,S.o,S.ver⟩
section
variable {C:Ctx} {S:St} {f:Nat→Sh} {gs:List (Nat×Bool)} {dst:Nat}
theorem BJ {t:Nat}(h:f t=S.r t):kE (S.withR f) gs t=kE S gs t:=by
 have e:(S.withR f).r t=S.r t:=h;unfold kE;rw[e]
theorem tM {x:Operand}(h:∀t,t∈bB x→f t=S.r t):fa (S.withR f) gs x=fa S gs x:=by
 cases x<;>first|rfl|exact BJ (h _ (sq.2 rfl))
theorem M7:∀(l:List Sh) (j:PE) (i:Nat),qU (S.withR f) j l i=qU S j l i
 |[],_,_=>rfl
 |s::l,j,i=>by simp only[qU];rw[M7 l j (i+1)];rfl
theorem Mh:∀(l:List AgC),vU (S.withR f) l=vU S l
 |[]=>rfl
 |.dat _::l=>Mh l
 |.obj j ver::l=>by simp only[vU];rw[Mh l];rfl
theorem Wa:∀(l:List Sh),ug (S.withR f) l=ug S l
 |[]=>rfl
 |s::l=>by simp only[ug];rw[Wa l];rfl
theorem eh {x:Operand}(h:∀t,t∈bB x→f t=S.r t):use C (S.withR f) gs x=use C S gs x:=by
 cases x<;>first|rfl|(unfold use;simp only;rw[BJ (h _ (sq.2 rfl))];simp only[M7];rfl)
theorem afd {x:Operand}(h:∀t,t∈bB x→f t=S.r t):view C (S.withR f) gs x=view C S gs x:=by
 unfold view;rw[eh h];cases x<;>first|rfl|(simp only;rw[BJ (h _ (sq.2 rfl))];rfl)
theorem Vo:∀{xs:List Operand},(∀t,t∈xs.flatMap bB→f t=S.r t)→kG C (S.withR f) gs xs=kG C S gs xs
 |[],_=>rfl
 |x::xs,h=>by
  simp only[kG]
  rw[eh fun t ht=>h t (j7.2 ⟨x,dB ..,ht⟩),Vo fun t ht=>by
   obtain⟨y,hy,tc⟩:=j7.1 ht;exact h t (j7.2 ⟨y,dy _ hy,tc⟩)]
theorem avd {x:Option Operand}(h:∀t,t∈BS x→f t=S.r t):Gv C (S.withR f) gs x=Gv C S gs x:=by
 cases x with
 |none=>rfl
 |some x=>exact eh h
theorem avb {e:PE}{x:Option Operand}(h:∀t,t∈BS x→f t=S.r t):Gu C (S.withR f) gs e x=Gu C S gs e x:=by
 cases x with
 |none=>rfl
 |some x=>exact eh h
theorem rD:∀{xs:List Operand},(∀t,t∈xs.flatMap bB→f t=S.r t)→bP (S.withR f) gs xs=bP S gs xs
 |[],_=>rfl
 |x::xs,h=>by
  simp only[bP]
  rw[tM fun t ht=>h t (j7.2 ⟨x,dB ..,ht⟩),rD fun t ht=>by
   obtain⟨y,hy,tc⟩:=j7.1 ht;exact h t (j7.2 ⟨y,dy _ hy,tc⟩)]
  simp only[Mh];rfl
theorem jG {P:Nat→Prop}{a b:List Nat}(h:∀t,t∈a++b→P t):(∀t,t∈a→P t)∧∀t,t∈b→P t:=
 ⟨fun t ht=>h t (iu _ ht),fun t ht=>h t (iV _ ht)⟩
theorem acd {x:Operand}(h:∀t,t∈bB x→f t=S.r t):qp C (S.withR f) gs dst x=qp C S gs dst x:=by
 unfold qp;rw[eh h];cases x<;>first|rfl|(simp only;rw[BJ (h _ (sq.2 rfl))])
theorem aqb {c x y:Operand}(h:∀t,t∈bB c++bB x++bB y→f t=S.r t):A4 C (S.withR f) gs dst c x y=A4 C S gs dst c x y:=by
 obtain⟨h1,h3⟩:=jG h;obtain⟨h1,h2⟩:=jG h1;unfold A4;cases c<;>first|rfl|skip
 simp only;rw[BJ (h1 _ (sq.2 rfl)),eh h2,eh h3]
theorem apM {op:BinOp}{T:TypeId}{x y:Operand}(h:∀t,t∈bB x++bB y→f t=S.r t):AT C (S.withR f) gs dst op T x y=AT C S gs dst op T x y:=by
 obtain⟨h1,h2⟩:=jG h;unfold AT;rw[eh h1,eh h2]
theorem aqg {op:UnOp}{x:Operand}(h:∀t,t∈bB x→f t=S.r t):A6 C (S.withR f) gs dst op x=A6 C S gs dst op x:=by unfold A6;rw[eh h]
theorem apQ {s d:TypeId}{x:Operand}(h:∀t,t∈bB x→f t=S.r t):AV C (S.withR f) gs dst s d x=AV C S gs dst s d x:=by unfold AV;rw[eh h]
theorem ap3 {T:TypeId}{x:Operand}(h:∀t,t∈bB x→f t=S.r t):A1 C (S.withR f) gs dst T x=A1 C S gs dst T x:=by unfold A1;rw[afd h]
theorem aca {b:Bool}{x y:Operand}(h:∀t,t∈bB x++bB y→f t=S.r t):xA C (S.withR f) gs dst b x y=xA C S gs dst b x y:=by
 obtain⟨h1,h2⟩:=jG h;unfold xA;rw[eh h1,eh h2]
theorem ap5 {T:TypeId}{x:Operand}(h:∀t,t∈bB x→f t=S.r t):tp C (S.withR f) gs dst T x=tp C S gs dst T x:=by
 unfold tp;rw[tM h,eh h];simp only[M7,Wa];rfl
theorem apU {T:TypeId}{x:Operand}{i:Nat}(h:∀t,t∈bB x→f t=S.r t):AY C (S.withR f) gs dst T x i=AY C S gs dst T x i:=by
 unfold AY;rw[tM h,eh h];rfl
theorem apW {T:TypeId}{x:Operand}{i:Nat}(h:∀t,t∈bB x→f t=S.r t):AX C (S.withR f) gs dst T x i=AX C S gs dst T x i:=by unfold AX;rw[eh h]
theorem apZ {T:TypeId}{x i:Operand}(h:∀t,t∈bB x++bB i→f t=S.r t):A0 C (S.withR f) gs dst T x i=A0 C S gs dst T x i:=by
 obtain⟨h1,h2⟩:=jG h;unfold A0;rw[eh h1,eh h2,tM h1];rfl
theorem ap1 {T:TypeId}{x i:Operand}(h:∀t,t∈bB x++bB i→f t=S.r t):AZ C (S.withR f) gs dst T x i=AZ C S gs dst T x i:=by
 obtain⟨h1,h2⟩:=jG h;unfold AZ;rw[eh h1,eh h2]
theorem apS {x:Operand}{i:Nat}(h:∀t,t∈bB x→f t=S.r t):AW C (S.withR f) gs dst x i=AW C S gs dst x i:=by unfold AW;rw[eh h]
theorem ap7 {T:TypeId}{m k:Operand}{ok:Bool}(h:∀t,t∈bB m++bB k→f t=S.r t):A2 C (S.withR f) gs dst T m k ok=A2 C S gs dst T m k ok:=by
 obtain⟨h1,h2⟩:=jG h;unfold A2;rw[afd h1,eh h2]
theorem aqe {T:TypeId}{x:Operand}{lo hi mx:Option Operand}(h:∀t,t∈bB x++BS lo++BS hi→f t=S.r t):A5 C (S.withR f) gs dst T x lo hi mx=A5 C S gs dst T x lo hi mx:=by
 obtain⟨h1,h3⟩:=jG h;obtain⟨h1,h2⟩:=jG h1;unfold A5;rw[eh h1];simp only[avd h2,avb h3]
theorem WA {zs:List Value}{parts:List (Nat×Operand)}(h:∀t,t∈(parts.flatMap fun p=>bB p.2)→f t=S.r t):∀(fs:List Field) (i off:Nat),kN C (S.withR f) gs zs parts fs i off=kN C S gs zs parts fs i off
 |[],_,_=>rfl
 |g::fs,i,off=>by
  simp only[kN,WA h fs];cases hp:parts.find? (fun p=>Nat.beq p.1 i) with
  |none=>rfl
  |some p=>
   have hu:∀ft,tq C (S.withR f) gs ft p.2=tq C S gs ft p.2:=fun ft=>by
        unfold tq;rw[eh fun t ht=>h t (j7.2 ⟨p,vP hp,ht⟩),tM fun t ht=>h t (j7.2 ⟨p,vP hp,ht⟩)];rfl
   simp only[hu]
theorem apO {T:TypeId}{ps:List (Nat×Operand)}(h:∀t,t∈(ps.flatMap fun p=>bB p.2)→f t=S.r t):AU C (S.withR f) gs dst T ps=AU C S gs dst T ps:=by
 unfold AU;simp only[WA h];split
 ·rfl
 ·split
  ·split
   ·rename_i x y;rw[eh (x:=x) fun t ht=>h t (by simp[ht]),eh (x:=y) fun t ht=>h t (by simp[ht])]
   ·rfl
  ·rfl
 ·rfl
theorem ap9 {x:Operand}(h:∀t,t∈bB x→f t=S.r t):A3 C (S.withR f) gs dst x=A3 C S gs dst x:=by
 unfold A3;rw[eh h];cases x<;>first|rfl|(simp only;rw[BJ (h _ (sq.2 rfl))];rfl)
def mZ:Op→Bool
 |.move _|.pick ..|.binOp ..|.unOp ..|.convert ..|.load ..|.fieldAddr ..|.field ..|.indexAddr ..|.index ..|.extract ..|.lookup ..|.slice ..|.build ..|.nilCheck _|.makeInterface ..|.call _=>true
 |_=>false
theorem acf {op:Op}(hq:mZ op=true)(h:∀t,t∈lM op→f t=S.r t):oM C (S.withR f) gs dst op=oM C S gs dst op:=by
 cases op<;>simp only[mZ] at hq<;>simp only[lM] at h<;>simp only[oM]
 case move=>exact acd h
 case pick=>exact aqb h
 case binOp=>exact apM h
 case unOp=>exact aqg h
 case convert=>exact apQ h
 case load=>exact ap5 h
 case fieldAddr=>exact apU h
 case field=>exact apW h
 case indexAddr=>exact apZ h
 case index=>exact ap1 h
 case extract=>exact apS h
 case lookup=>exact ap7 h
 case slice=>exact aqe h
 case build=>exact apO h
 case nilCheck=>exact ap9 h
 case call c=>
  obtain⟨_,h2⟩:=jG h;split
  ·rename_i x T _ ha _;exact ap3 fun t ht=>h2 t (by rw[ha];simp[ht])
  ·rename_i x y _ ha;exact aca fun t ht=>h2 t (by rw[ha];simpa using ht)
  ·rename_i x y _ ha;exact aca fun t ht=>h2 t (by rw[ha];simpa using ht)
  ·rfl
 all_goals (cases hq;done)
theorem aqJ {op:Op}(h:∀t,t∈lM op→f t=S.r t)(hq:mZ op=true):tz (S.withR f) gs op=tz S gs op:=by
 cases op<;>simp only[mZ] at hq<;>simp only[lM] at h<;>simp only[tz]
 case build T ps=>exact rD fun t ht=>h t (by
  obtain⟨x,hx,Pr⟩:=j7.1 ht;obtain⟨p,hp,rfl⟩:=ei.1 hx;exact j7.2 ⟨p,hp,Pr⟩)
 case pick c x y=>
  obtain⟨h1,h3⟩:=jG h;obtain⟨h1,h2⟩:=jG h1;refine rD fun t ht=>?_;simp only[vO,VS,lz,dJ] at ht;exact ht.elim (h2 t) (h3 t)
 case slice T x lo hi mx=>
  obtain⟨h1,h3⟩:=jG h;obtain⟨h1,h2⟩:=jG h1;exact rD fun t ht=>h1 t (by simpa using ht)
 all_goals first|rfl|(cases hq;done)
theorem aqK {op:Op}(h:∀t,t∈lM op→f t=S.r t)(hq:mZ op=true):pre C (S.withR f) gs op=pre C S gs op:=by
 have wU:=hq;cases op<;>simp only[mZ] at hq<;>simp only[pre,aqJ h wU]
 case load T x=>simp only[lM] at h;rw[tM h];rfl
 all_goals first|(cases hq;done)|skip
theorem akt {ops:Array Oper}{o:Oper}(h:∀t,t∈Iv ops o→f t=S.r t):pU (S.withR f) ops o=pU S ops o:=by
 unfold pU;cases hg:o.guard with
 |none=>rfl
 |some jw=>
  obtain⟨j,want⟩:=jw;simp only;cases ht:(ops[j]?).bind (·.dst) with
  |none=>rfl
  |some t=>
   simp only;have:(S.withR f).r t=S.r t:=h t (by unfold Iv;rw[hg];simp[ht]);rw[this]
end
def vb (C:Ctx)(c:Callee):Bool:=
 match c with
 |.value (.func f)=>(match C.sig f with|some s=>s.res.pure|none=>false)
 |_=>false
def Dq (C:Ctx)(S:St)(gs:List (Nat×Bool))(dst:Nat)(op:Op):Option (Sh×List PI):=
 match op with
 |.assign x=>
  match gs with
  |[]=>bif C.fr.any (Nat.beq dst)&&(bP S [] [x]).isEmpty then(match qp C S [] dst x with|some r=>bif nl r.1 then some r else none|none=>none) else none
  |_=>none
 |.call c=>
  match oM C S gs dst (.call c) with
  |some r=>bif rB r.1&&jv gs (some dst) r.2 then some (ju gs r.1,r.2) else none
  |none=>
   bif (bP S gs c.args.toList).isEmpty||vb C c.callee then
    match c.callee with
    |.value (.func f)=>(match pO C S gs dst f c.args.toList with|some r=>bif jv gs (some dst) r.2.2 then some (ju gs r.2.1,r.2.2) else none|none=>none)
    |.value x=>(match nZ C S gs dst x c.args.toList with|some r=>bif jv gs (some dst) r.2.2 then some (ju gs r.2.1,r.2.2) else none|none=>none)
    |_=>none
   else none
 |op=>bif mZ op&&(pre C S gs op).isEmpty then(match oM C S gs dst op with|some r=>bif rB r.1&&jv gs (some dst) r.2 then some (ju gs r.1,r.2) else none|none=>none) else none
def Dr (C:Ctx)(S:St)(gs:List (Nat×Bool))(op:Op):Option (List PI):=
 match op,gs with
 |.store T x v,[]=>
  match fa S [] x with
  |.eptr ..=>bif (bP S [] [v]).isEmpty then(um C S T x v).map (·.2) else none
  |_=>none
 |.mapUpdate T m k v,[]=>bif (bP S [] [k,v]).isEmpty then(sG C S T m k v).map (·.2) else none
 |.panic _,[]=>some [.chk (.nt (.con (.bool true)))]
 |_,_=>none
def uw (C:Ctx)(S:St)(ops:Array Oper)(o:Oper):Option (Sh×List PI):=
 match C.yl with
 |some _=>none
 |none=>(pU S ops o).bind fun gs=>
  match o.dst with
  |some dst=>Dq C S gs dst o.op
  |none=>(Dr C S gs o.op).map fun l=>(.none,l)
def nC (S:St)(o:Oper)(s:Sh):St:=match o.dst with|some d=>S.setR d s|none=>S
section
variable {C:Ctx} {S:St} {f:Nat→Sh} {gs:List (Nat×Bool)} {dst:Nat}
theorem aki (j:Nat):(S.withR f).fz j=(S.fz j).withR f:=by
 unfold St.fz St.withR;simp only;split<;>rfl
theorem XN:∀(js:List Nat) {S:St},(S.withR f).fzs js=(S.fzs js).withR f
 |[],_=>rfl
 |j::js,S=>by
  show((S.withR f).fz j).fzs js=((S.fz j).fzs js).withR f;rw[aki,XN js]
theorem aii {g:Nat}{xs:List Operand}(h:∀t,t∈xs.flatMap bB→f t=S.r t):
 (match pO C (S.withR f) gs dst g xs with|some r=>bif jv gs (some dst) r.2.2 then some (ju gs r.2.1,r.2.2) else none|none=>none)=(match pO C S gs dst g xs with|some r=>bif jv gs (some dst) r.2.2 then some (ju gs r.2.1,r.2.2) else none|none=>none):=by
 have ho:=rD (gs:=gs) h;unfold pO;generalize (C.sig g).bind (CY C.fr dst)=q;cases q with
 |none=>rfl
 |some s=>
  simp only[j8];cases s.mode<;>first|rfl|skip
  simp only[ho,XN];rw[Vo (S:=S.fzs (bP S gs xs)) (f:=f) (fun t ht=>by rw[(oc _ S).2];exact h t ht)];cases kG C (S.fzs (bP S gs xs)) gs xs with
  |none=>rfl
  |some u=>
   simp only[j8];cases Ty.subs u.1 s.args<;>rfl
theorem ah8 {x:Operand}{xs:List Operand}(hx:∀t,t∈bB x→f t=S.r t)(h:∀t,t∈xs.flatMap bB→f t=S.r t)(he:(bP S gs xs).isEmpty=true):
 (match nZ C (S.withR f) gs dst x xs with|some r=>bif jv gs (some dst) r.2.2 then some (ju gs r.2.1,r.2.2) else none|none=>none)=(match nZ C S gs dst x xs with|some r=>bif jv gs (some dst) r.2.2 then some (ju gs r.2.1,r.2.2) else none|none=>none):=by
 have ho:=rD (gs:=gs) h;have p5:=tX.1 he;unfold nZ;rw[eh hx];cases use C S gs x with
 |none=>rfl
 |some y=>
  obtain⟨ty,e⟩:=y;cases ty with
  |fn aa r=>
   simp only;cases jY aa r with
   |some _=>rfl
   |none=>
    simp only[ho,p5,St.fzs,List.foldl_nil,Vo h];cases kG C S gs xs with
    |none=>rfl
    |some u=>
     simp only[j8];cases Ty.subs u.1 aa<;>rfl
  |_=>rfl
theorem ajc {op:Op}(h:∀t,t∈lM op→f t=S.r t):Dq C (S.withR f) gs dst op=Dq C S gs dst op:=by
 have other:∀op,(∀t,t∈lM op→f t=S.r t)→(bif mZ op&&(pre C (S.withR f) gs op).isEmpty then(match oM C (S.withR f) gs dst op with|some r=>bif rB r.1&&jv gs (some dst) r.2 then some (ju gs r.1,r.2) else none|none=>none) else none)=
  (bif mZ op&&(pre C S gs op).isEmpty then(match oM C S gs dst op with|some r=>bif rB r.1&&jv gs (some dst) r.2 then some (ju gs r.1,r.2) else none|none=>none) else none):=by
  intro op h;cases hq:mZ op with
  |false=>rfl
  |true=>rw[aqK h hq,acf hq h]
 unfold Dq;split
 ·rename_i x;simp only[lM] at h;rw[acd h,rD (xs:=[x]) fun t ht=>h t (by simpa using ht)]
 ·rename_i c;have h':=h;simp only[lM] at h';obtain⟨h1,h2⟩:=jG h';rw[acf (op:=.call c) rfl h,rD h2];split
  ·rfl
  ·cases he:(bP S gs c.args.toList).isEmpty||vb C c.callee with
   |false=>rfl
   |true=>
    simp only[cond_true];split
    ·exact aii h2
    ·rename_i x hx hc;have hp:vb C c.callee=false:=by
         rw[hc];unfold vb;cases x<;>first|rfl|exact absurd rfl (hx _)
     exact ah8 (fun t ht=>h1 t (by rw[hc];exact ht)) h2 (by rw[hp,tU] at he;exact he)
    ·rfl
 ·exact other _ h
theorem ajd {op:Op}(h:∀t,t∈lM op→f t=S.r t):Dr C (S.withR f) gs op=Dr C S gs op:=by
 unfold Dr;split
 ·rename_i T x v;simp only[lM] at h;obtain⟨h1,h2⟩:=jG h;rw[tM h1,rD (xs:=[v]) fun t ht=>h2 t (by simpa using ht)];split
  ·rename_i j ver size off fV;cases(bP S [] [v]).isEmpty with
   |false=>rfl
   |true=>
    simp only[cond_true];unfold um;rw[tM h1,eh h2,fV];simp only;have eo:(S.withR f).o=S.o:=rfl;have ev:(S.withR f).ver=S.ver:=rfl;rw[eo,ev];cases C.P.info? T with
    |none=>rfl
    |some inf=>
     simp only;cases Nat.beq ver (S.ver j) with
     |false=>rfl
     |true=>
      simp only[cond_true];cases S.o j with
      |row T' e0=>
       cases use C S [] v with
       |none=>cases e0<;>rfl
       |some y=>
        obtain⟨t,e⟩:=y;cases e0<;>simp only<;>(generalize (_&&_:Bool)=b;cases b<;>rfl)
      |_=>rfl
  ·rfl
 ·rename_i T m k v;simp only[lM] at h;obtain⟨h1,h3⟩:=jG h;obtain⟨h1,h2⟩:=jG h1
  rw[rD (xs:=[k,v]) fun t ht=>by
   simp only[vO,VS,lz,dJ] at ht;exact ht.elim (h2 t) (h3 t)]
  cases(bP S [] [k,v]).isEmpty with
  |false=>rfl
  |true=>
   simp only[cond_true];unfold sG;rw[tM h1,eh h2,eh h3];have eo:(S.withR f).o=S.o:=rfl;have ev:(S.withR f).ver=S.ver:=rfl;rw[eo,ev];cases C.P.underlying T with
   |none=>rfl
   |some desc=>
    cases desc with
    |map K E=>
     cases fa S [] m with
     |obj j ver=>
      simp only;cases Nat.beq ver (S.ver j) with
      |false=>rfl
      |true=>
       simp only[cond_true];cases S.o j with
       |mp kt et=>
        cases use C S [] k with
        |none=>rfl
        |some y=>
         cases use C S [] v with
         |none=>rfl
         |some z=>
          obtain⟨tk,ek⟩:=y;obtain⟨tv,ev⟩:=z;simp only;generalize (_&&_:Bool)=b;cases b<;>rfl
       |_=>rfl
     |_=>rfl
    |_=>rfl
 ·rfl
 ·rfl
theorem ajf {ops:Array Oper}{o:Oper}(h:∀t,t∈lM o.op++Iv ops o→f t=S.r t):uw C (S.withR f) ops o=uw C S ops o:=by
 obtain⟨h1,h2⟩:=jG h;unfold uw;rw[akt h2];split
 ·rfl
 ·cases pU S ops o with
  |none=>rfl
  |some gs=>
   simp only[j8];split
   ·exact ajc h1
   ·rw[ajd h1]
theorem arR {S:St}{t:Nat}{s:Sh}(h:S.r t=s)(hs:nl s=true):xX S t t=some (S,[]):=by
 unfold xX;rw[h];cases s<;>first|rfl|cases hs
theorem aje {ops:Array Oper}{o:Oper}{q:Sh×List PI}(h:uw C S ops o=some q):pK C S ops o=some (nC S o q.1,q.2):=by
 unfold uw at h;split at h
 case h_1=>cases h
 rename_i ku;simp only[aq] at h;obtain⟨gs,dO,h⟩:=h;have hY:zI C S ops o=none:=by
  unfold zI;rw[ku];split<;>first|rfl|(rename_i hx;cases hx;done)|(rename_i hx _;cases hx;done)
 have fin:∀{S':St},pre C S gs o.op++qt C S gs o=[]→core C S gs o=some (S',q.2)→jQ C (post C S' o) S'=some (S',[])→jv gs o.dst q.2=true→pK C S ops o=some (S',q.2):=by
  intro S' h1 h2 h3 h4;unfold pK zH CV;rw[hY,dO];simp only[j8,h1,jQ,h2,h3,h4,cond_true,tZ,lz]
 cases hd:o.dst with
 |some dst=>
  simp only[hd] at h;have cH:nC S o q.1=S.setR dst q.1:=by unfold nC;rw[hd]
  rw[cH];unfold Dq at h;split at h
  ·rename_i x bQ;split at h
   case h_2=>cases h
   cases hb:(C.fr.any (Nat.beq dst)&&(bP S [] [x]).isEmpty)<;>simp only[hb,cond_true,cond_false] at h
   ·cases h
   simp only[ao] at hb;split at h
   case h_2=>cases h
   rename_i r hr;cases Yl:nl r.1<;>simp only[Yl,cond_true,cond_false] at h
   ·cases h
   cases h;have he:=tX.1 hb.2;refine fin ?_ ?_ ?_ rfl
   ·rw[bQ];unfold qt;rw[bQ,hd];simp only[hb.1,he,cond_true,pre,tz,yz,lz]
   ·unfold core;rw[hd];simp only[bQ,oM,hb.1,cond_true,hr]
   ·unfold post;rw[bQ,hd];simp only[jQ,Gh.run];rw[arR (s:=q.1) (by simp[St.setR,aK]) Yl];rfl
  ·rename_i c bQ;have OV:pre C S gs o.op++qt C S gs o=[]:=by
        rw[bQ];unfold qt;rw[bQ];simp[pre,tz]
   have kp:∀S':St,jQ C (post C S' o) S'=some (S',[]):=fun S'=>by
        unfold post;rw[bQ];rfl
   split at h
   ·rename_i r hr;cases hb:(rB r.1&&jv gs (some dst) r.2)<;>simp only[hb,cond_true,cond_false] at h
    ·cases h
    cases h;simp only[ao] at hb;refine fin OV ?_ (kp _) (by rw[hd];exact hb.2);unfold core;rw[hd];simp only[bQ,hr,hb.1,cond_true]
   ·rename_i hr;cases he:(bP S gs c.args.toList).isEmpty||vb C c.callee<;>simp only[he,cond_true,cond_false] at h
    ·cases h
    have sfz:∀b:Bool,(bP S gs c.args.toList).isEmpty=true∨b=true→(bif b then S else S.fzs (bP S gs c.args.toList))=S:=fun b hb=>by
     rcases hb with hb|rfl
     ·rw[tX.1 hb];cases b<;>rfl
     ·rfl
    split at h
    ·rename_i f hc;split at h
     case h_2=>cases h
     rename_i r dQ;cases hb:jv gs (some dst) r.2.2<;>simp only[hb,cond_true,cond_false] at h
     ·cases h
     cases h;refine fin OV ?_ (kp _) (by rw[hd];exact hb);have hS:r.1=S:=by
      simp only[pO,aq] at dQ;obtain⟨s,⟨s0,hs,qf⟩,dQ⟩:=dQ;split at dQ
      case h_2=>cases dQ
      simp only[aq] at dQ;obtain⟨u,hu,dQ⟩:=dQ;cases bS:Ty.subs u.1 s.args<;>simp only[bS,cond_true,cond_false] at dQ
      ·cases dQ
      cases dQ;refine sfz _ ?_;have Ej:s.res=s0.res:=by
       unfold CY at qf;split at qf
       ·revert qf
        generalize (_&&_:Bool)=b;intro qf;cases b<;>simp only[cond_true,cond_false,aS] at qf<;>rw[←qf]
       ·simp only[aS] at qf;rw[←qf]
      rw[hc] at he;simp only[vb,hs,gg] at he;rw[Ej];exact he
     unfold core;rw[hd];simp only[bQ,hr,hc,dQ,hS]
    ·rename_i x Jh hc;split at h
     case h_2=>cases h
     rename_i r dQ;cases hb:jv gs (some dst) r.2.2<;>simp only[hb,cond_true,cond_false] at h
     ·cases h
     cases h;refine fin OV ?_ (kp _) (by rw[hd];exact hb);have hS:r.1=S:=by
      unfold nZ at dQ;split at dQ
      case h_2=>cases dQ
      rename_i aa r0 e Pf;split at dQ
      case h_1=>cases dQ
      simp only[aq] at dQ;obtain⟨u,hu,dQ⟩:=dQ;cases bS:Ty.subs u.1 aa<;>simp only[bS,cond_true,cond_false] at dQ
      ·cases dQ
      cases dQ;refine sfz _ (.inl ?_);have hp:vb C c.callee=false:=by
       rw[hc];unfold vb;cases x<;>first|rfl|exact absurd rfl (Jh _)
      rw[hp,tU] at he;exact he
     unfold core;rw[hd];simp only[bQ,hr,hc];cases x with
     |func f=>exact absurd rfl (Jh f)
     |_=>simp only[dQ,hS]
    ·cases h
  ·rename_i YQ da;cases hb:(mZ o.op&&(pre C S gs o.op).isEmpty)<;>simp only[hb,cond_true,cond_false] at h
   ·cases h
   simp only[ao] at hb;split at h
   case h_2=>cases h
   rename_i r hr;cases cf:(rB r.1&&jv gs (some dst) r.2)<;>simp only[cf,cond_true,cond_false] at h
   ·cases h
   cases h;simp only[ao] at cf;have db:qt C S gs o=[]:=by
        unfold qt;split
        ·rename_i x t e _;exact absurd e (YQ x)
        ·rfl
   have kp:∀S':St,jQ C (post C S' o) S'=some (S',[]):=fun S'=>by
        have:post C S' o=[]:=by
         unfold post;split
         ·rename_i x t e _;exact absurd e (YQ x)
         ·rename_i T t e _;rw[e] at hb;simp[mZ] at hb
         ·rename_i T x v e;rw[e] at hb;simp[mZ] at hb
         ·rfl
        rw[this];rfl
   refine fin (by rw[db,tX.1 hb.2];rfl) ?_ (kp _) (by rw[hd];exact cf.2);unfold core;rw[hd];simp only[hr,cf.1,cond_true]
 |none=>
  simp only[hd,az] at h;obtain⟨l,h,rfl⟩:=h;have cH:nC S o (.none:Sh)=S:=by unfold nC;rw[hd]
  show pK C S ops o=some (nC S o .none,l);rw[cH];have db:qt C S gs o=[]:=by unfold qt;rw[hd];split<;>first|rfl|(rename_i hx;cases hx)
  unfold Dr at h;split at h
  ·rename_i T x v bQ;split at h
   case h_2=>cases h
   rename_i j ver size off fV;cases he:(bP S [] [v]).isEmpty<;>simp only[he,cond_true,cond_false] at h
   ·cases h
   simp only[az] at h;obtain⟨r,hr,rfl⟩:=h;have hS:r.1=S:=by
        unfold um at hr;split at hr
        case h_2=>cases hr
        rw[fV] at hr;simp only at hr;cases hv:Nat.beq ver (S.ver j)<;>simp only[hv,cond_true,cond_false] at hr
        ·cases hr
        split at hr
        ·revert hr;generalize (_&&_:Bool)=b;intro hr;cases b<;>simp only[cond_true,cond_false] at hr<;>cases hr;rfl
        ·revert hr;generalize (_&&_:Bool)=b;intro hr;cases b<;>simp only[cond_true,cond_false] at hr<;>cases hr;rfl
        ·cases hr
   refine fin ?_ ?_ ?_ rfl
   ·rw[db,bQ];simp only[pre,tz,fV,tX.1 he,yz,lz]
   ·unfold core;rw[hd];simp only[bQ,hr];rw[←hS]
   ·unfold post;rw[bQ];simp only[fV];rfl
  ·rename_i T m k v bQ;cases he:(bP S [] [k,v]).isEmpty<;>simp only[he,cond_true,cond_false] at h
   ·cases h
   simp only[az] at h;obtain⟨r,hr,rfl⟩:=h;have hS:r.1=S:=by
        unfold sG at hr;split at hr
        ·rename_i K _ j ver _ _;cases hv:Nat.beq ver (S.ver j)<;>simp only[hv,cond_true,cond_false] at hr
         ·cases hr
         split at hr
         ·revert hr;generalize (_&&_:Bool)=b;intro hr;cases b<;>simp only[cond_true,cond_false] at hr<;>cases hr;rfl
         ·cases hr
        ·cases hr
   refine fin ?_ ?_ ?_ rfl
   ·rw[db,bQ];simp only[pre,tz,tX.1 he,yz,lz]
   ·unfold core;rw[hd];simp only[bQ,hr];rw[←hS]
   ·unfold post;rw[bQ];rfl
  ·rename_i x bQ;cases h;refine fin ?_ ?_ ?_ rfl
   ·rw[db,bQ];rfl
   ·unfold core;rw[hd];simp only[bQ]
   ·unfold post;rw[bQ];rfl
  ·cases h
end
def fI (ops:Array Oper)(shs:List Sh)(l:List Nat)(f:Nat→Sh):Nat→Sh:=
 l.foldl (fun f i=>match(ops[i]?).bind (·.dst) with|some d=>bT f d (shs.getD i .none)|none=>f) f
def zS (C:Ctx)(S:St)(ops:Array Oper):Nat→Option (List (Sh×List PI))
 |0=>some []
 |k+1=>(zS C S ops k).bind fun q=>match ops[k]? with
  |some o=>(uw C (S.withR (fI ops (q.map (·.1)) (List.range k) S.r)) ops o).map fun r=>q++[r]
  |none=>none
def dC (ops:Array Oper):Nat→List Nat
 |0=>[]
 |k+1=>dC ops k++[match ops[k]? with
  |some o=>o.after.toList.foldr (fun e m=>bif Region.binds .any e then Nat.lor (Nat.lor (dK e.on) ((dC ops k).getD e.on 0)) m else m) 0
  |none=>0]
def adD (ops:Array Oper)(o:Oper):List Nat:=lM o.op++Iv ops o
def XH (ops:Array Oper)(nc:List (List Nat))(clo:List Nat)(i:Nat):Bool:=
 match ops[i]? with
 |some o=>(nc.getD i []).all (au (clo.getD i 0))&&(o.after.toList.all fun e=> !Region.binds .any e||Nat.blt e.on i)&&
   (adD ops o).all fun t=>(List.range ops.size).all fun j=>match(ops[j]?).bind (·.dst) with
     |some d=> !Nat.beq d t||((Nat.blt j i&&au (clo.getD i 0) j)||au (clo.getD j 0) i)
     |none=>true
 |none=>false
def Is (ops:Array Oper)(i:Nat):Bool:=match ops[i]? with|some o=>o.after.toList.all fun e=> !Region.binds .any e||Nat.blt e.on i|none=>false
def Ds (ops:Array Oper)(nc:List (List Nat))(clo:List Nat)(m:Nat):Bool:=(List.range m).all (XH ops nc clo)&&(List.range ops.size).all (Is ops)
def pg (clo:List Nat):Nat→Nat
 |0=>0
 |k+1=>bif (List.range k).all (au (clo.getD k 0)) then pg clo k else k+1
theorem aek (clo:List Nat):∀k,pg clo k≤k
 |0=>bf _
 |k+1=>by
  unfold pg;cases(List.range k).all (au (clo.getD k 0)) with
  |true=>exact Nat.le_succ_of_le (aek clo k)
  |false=>exact bf _
theorem aej (clo:List Nat):∀k i,pg clo k≤i→i<k→∀j,j<i→au (clo.getD i 0) j=true
 |0,i,_,h=>by omega
 |k+1,i,h1,h2=>by
  unfold pg at h1;cases hb:(List.range k).all (au (clo.getD k 0)) with
  |true=>
   rw[hb] at h1;by_cases e:i=k
   ·subst e;exact fun j hj=>bF.1 hb j (bZ.2 hj)
   ·exact aej clo k i h1 (by omega)
  |false=>rw[hb] at h1;simp only[cond_false] at h1;omega
def XI (C:Ctx)(ops:Array Oper)(S:St):Option (St×List PI):=
 (zS C S ops (pg (dC ops ops.size) ops.size)).bind fun q=>
    bif Ds ops (qn (q.map (·.2)) (pg (dC ops ops.size) ops.size)) (dC ops ops.size) (pg (dC ops ops.size) ops.size) then
     (nX C ops (List.range' (pg (dC ops ops.size) ops.size) (ops.size-pg (dC ops ops.size) ops.size)) (S.withR (fI ops (q.map (·.1)) (List.range (pg (dC ops ops.size) ops.size)) S.r))).map fun r=>(r.1,(q.map (·.2)).flatten++r.2)
    else none
theorem Lh (ops:Array Oper)(shs:List Sh)(i:Nat)(l:List Nat)(f:Nat→Sh):fI ops shs (i::l) f=fI ops shs l (match(ops[i]?).bind (·.dst) with|some d=>bT f d (shs.getD i .none)|none=>f):=rfl
theorem Gl {ops:Array Oper}{shs:List Sh}{t:Nat}:∀{l:List Nat} {f:Nat→Sh},(∀i,i∈l→(ops[i]?).bind (·.dst)≠some t)→fI ops shs l f t=f t
 |[],_,_=>rfl
 |i::l,f,h=>by
  rw[Lh,Gl fun j hj=>h j (dy _ hj)];have:=h i (dB ..);cases hd:(ops[i]?).bind (·.dst) with
  |none=>rfl
  |some d=>exact bo _ _ (fun e=>this (by rw[hd,e]))
def L7 (ops:Array Oper):Prop:=∀(i j t:Nat),(ops[i]?).bind (·.dst)=some t→(ops[j]?).bind (·.dst)=some t→i=j
theorem Lg {ops:Array Oper}(ho:L7 ops){shs:List Sh}{t i:Nat}(ht:(ops[i]?).bind (·.dst)=some t):∀{l:List Nat} {f:Nat→Sh},i∈l→fI ops shs l f t=shs.getD i .none
 |[],_,h=>nomatch h
 |j::l,f,h=>by
  rw[Lh];by_cases hl:i∈l
  ·exact Lg ho ht hl
  ·have e:i=j:=(cT.1 h).resolve_right hl;subst e;rw[Gl fun k hk e=>hl (by rw[ho i k t ht e];exact hk),ht];exact aK _ _ _
theorem ad9 {ops:Array Oper}(ho:L7 ops){shs SO:List Sh}{l m:List Nat}{f:Nat→Sh}{t:Nat}(h1:∀i,(ops[i]?).bind (·.dst)=some t→(i∈l↔i∈m))(h2:∀i,i∈l→(ops[i]?).bind (·.dst)=some t→shs.getD i .none=SO.getD i .none):fI ops shs l f t=fI ops SO m f t:=by
 by_cases hh:∃i,i∈l∧(ops[i]?).bind (·.dst)=some t
 ·obtain⟨i,hi,ht⟩:=hh;rw[Lg ho ht hi,Lg ho ht ((h1 i ht).1 hi),h2 i hi ht]
 ·rw[Gl fun i hi e=>hh ⟨i,hi,e⟩,Gl fun i hi e=>hh ⟨i,(h1 i e).2 hi,e⟩]
theorem apK {ops:Array Oper}(h:(ops.toList.filterMap (·.dst)).Nodup):L7 ops:=by
 intro i j t hi hj;rw[aq] at hi hj;obtain⟨oi,h1,h2⟩:=hi;obtain⟨oj,h3,h4⟩:=hj;by_cases e:i=j
 ·exact e
 ·exact(wg.dst_once h h1 h3 h2 h4 e).elim
theorem ND {C:Ctx}{S:St}{ops:Array Oper}:∀{k:Nat} {q:List (Sh×List PI)},zS C S ops k=some q→q.length=k∧∀i,i<k→∃o,ops[i]?=some o∧
 uw C (S.withR (fI ops (q.map (·.1)) (List.range i) S.r)) ops o=some ((q.map (·.1)).getD i .none,(q.map (·.2)).getD i [])
 |0,q,h=>by simp only[zS,aS] at h;subst h;exact⟨rfl,fun i hi=>by omega⟩
 |k+1,q,h=>by
  simp only[zS,aq] at h;obtain⟨p,hp,h⟩:=h;split at h
  case h_2=>cases h
  rename_i o ho;simp only[az] at h;obtain⟨r,hr,rfl⟩:=h;obtain⟨l1,aO⟩:=ND hp;have same:∀i,i≤k→fI ops ((p++[r]).map (·.1)) (List.range i) S.r=fI ops (p.map (·.1)) (List.range i) S.r:=by
   intro i hi;have key:∀(l:List Nat) (f:Nat→Sh),(∀j,j∈l→j<p.length)→fI ops ((p++[r]).map (·.1)) l f=fI ops (p.map (·.1)) l f:=by
    intro l
    induction l with
    |nil=>intro f _;rfl
    |cons j l ih=>
     intro f hl;have hj:=hl j (dB ..);have e:((p++[r]).map (·.1)).getD j .none=(p.map (·.1)).getD j .none:=by
       rw[px,aJ,j6 (by simpa using hj),←aJ]
     rw[Lh,Lh,e,ih _ fun m hm=>hl m (dy _ hm)]
   exact key _ _ fun j hj=>by have:=bZ.1 hj;omega
  refine⟨by simp[l1],fun i hi=>?_⟩;by_cases e:i=k
  ·subst e;refine⟨o,ho,?_⟩;rw[same i (bf _),hr];have e1:((p++[r]).map (·.1)).getD i .none=r.1:=by
    rw[px,aJ,lC (by simp[l1])];simp[l1]
   have e2:((p++[r]).map (·.2)).getD i []=r.2:=by
    rw[px,aJ,lC (by simp[l1])];simp[l1]
   rw[e1,e2]
  ·obtain⟨o',h1,h2⟩:=aO i (by omega);refine⟨o',h1,?_⟩;rw[same i (by omega),h2];have:i<p.length:=by omega
   simp only[px,aJ];rw[j6 (by simpa using this),j6 (by simpa using this)]
theorem Ic (ops:Array Oper):∀k,(dC ops k).length=k
 |0=>rfl
 |k+1=>by simp[dC,Ic ops k]
theorem WT (ops:Array Oper){k m i:Nat}(h:i<k)(hm:k≤m):(dC ops m).getD i 0=(dC ops k).getD i 0:=by
 induction m with
 |zero=>omega
 |succ m ih=>
  by_cases e:k=m+1
  ·rw[e]
  ·rw[←ih (by omega)];simp only[dC,aJ];rw[j6 (by rw[Ic];omega)]
theorem Ie {ops:Array Oper}{N i m:Nat}{o:Oper}(hi:i<N)(ho:ops[i]?=some o)(af:(o.after.toList.all fun e=> !Region.binds .any e||Nat.blt e.on i)=true)(h:au ((dC ops N).getD i 0) m=true):
 ∃e,e∈o.after.toList∧Region.binds .any e=true∧(m=e.on∨au ((dC ops N).getD e.on 0) m=true):=by
 rw[WT ops (k:=i+1) (by omega) (by omega)] at h
 have e1:(dC ops (i+1)).getD i 0=o.after.toList.foldr (fun e m=>bif Region.binds .any e then Nat.lor (Nat.lor (dK e.on) ((dC ops i).getD e.on 0)) m else m) 0:=by
  simp only[dC,aJ];rw[lC (by rw[Ic];exact bf _),Ic];simp[ho]
 rw[e1] at h;have aO:=bF.1 af;generalize o.after.toList=l at h aO
 induction l with
 |nil=>rw[sD] at h;simp at h
 |cons e l ih=>
  simp only[List.foldr_cons] at h;cases hb:Region.binds .any e<;>rw[hb] at h<;>simp only[cond_true,cond_false] at h
  ·obtain⟨e',h1,h2⟩:=ih h (fun x hx=>aO x (dy _ hx));exact⟨e',dy _ h1,h2⟩
  ·rw[fp,fp,gg,gg] at h;have qa:e.on<i:=by
        have:=aO e (dB ..);rw[hb] at this;simpa [iX] using this
   rcases h with(h|h)|h
   ·refine⟨e,dB ..,hb,.inl ?_⟩;have:=jr 0 e.on m;have z:au 0 m=false:=by rw[sD];simp
    rw[fp,z,qH,qH,h] at this;exact(cU this.symm).symm
   ·refine⟨e,dB ..,hb,.inr ?_⟩;rw[WT ops qa (by omega)];exact h
   ·obtain⟨e',h1,h2⟩:=ih h (fun x hx=>aO x (dy _ hx));exact⟨e',dy _ h1,h2⟩
section
variable {C:Ctx} {S:St} {ρ:Env} {σ:Im} {own:Nat→Option Nat} {hv:Nat→Value} {w0:World} {σ0:Base} {A:Nat→Prop} {a:Act} {w:World} {n:Nat} {ids:List Nat} {Φ:aL}
theorem adE {ops:Array Oper}{listed:Array Bool}{E:Nat}(aE:listed.size=ops.size)(hl:∀i,listed.getD i false=au E i)(i:Nat):i∈Region.ready .any ops listed↔i∈lY ops E:=by
 unfold Region.ready lY;simp only[dX,bZ];refine and_congr_right fun hi=>?_;have h1:listed.getD i true=au E i:=by
  rw[←hl i];simp only[dV];rw[fL (by omega)];rfl
 have h2:ops[i]?=some ops[i]:=fL hi;rw[h1,h2];simp only[ka,j9,←Vx,hl]
def vq (ops:Array Oper)(E:Nat):Nat→Prop:=fun t=>∃i o,au E i=true∧ops[i]?=some o∧o.dst=some t
def rY (ops:Array Oper)(E:Nat):Nat:=((List.range ops.size).filter fun i=> !au E i).length
theorem au4 {ops:Array Oper}{E i:Nat}(hi:i<ops.size)(hb:au E i=false):rY ops E=rY ops (Nat.lor E (dK i))+1:=by
 unfold rY;obtain⟨l1,l2,hl⟩:=VM (bZ.2 hi);have bn:=L2 (n:=ops.size);rw[hl,B7] at bn;obtain⟨_,h2,h3⟩:=bn;rw[mU] at h2;have g1:∀j,j∈l1→j≠i:=fun j hj=>h3 j hj i (dB ..);have g2:∀j,j∈l2→j≠i:=fun j hj e=>h2.1 (e▸hj)
 have c:∀l:List Nat,(∀j,j∈l→j≠i)→(l.filter fun j=> !au (Nat.lor E (dK i)) j)=l.filter fun j=> !au E j:=by
  intro l hl;apply List.filter_congr;intro j hj;rw[jr,eH (fun e=>hl j hj e.symm),tU]
 have df:au (Nat.lor E (dK i)) i=true:=by rw[jr,gR,nH]
 rw[hl];simp only[LV,yu,c l1 g1,c l2 g2,hb,df,sl,Bool.not_false,if_true,vI,if_false,kL,nL];omega
theorem ajh {rd:Option Nat}(hC:CtxOK C σ0)(aY:dt C)(hΦ:cX C Φ)(hY:pB C Φ w0 σ0){a0:Act}(OB:a0.tmps.size=n){ops:Array Oper}(av:rS n ops=true)(fA:zX ops=true){m:Nat}(hm:m≤ops.size){q:List (Sh×List PI)}(hq:zS C S ops m=some q)
 (uG:Ds ops (qn (q.map (·.2)) m) (dC ops ops.size) m=true) (AA:∀i,m≤i→i<ops.size→∀j,j<i→au ((dC ops ops.size).getD i 0) j=true) {Q:Exit→Act→World→Prop} {ρ':Env}
 (hK:∀listed a' w',listed.size=ops.size→(∀i,listed.getD i false=decide (i<m))→SameBut (qW ops) a0 a'→Good C w0 σ0 (S.withR (fI ops (q.map (·.1)) (List.range m) S.r)) ρ' (l5 ops (List.range m)) a' w'→wpAnyIn (FR rd) 0 C.P .any ops Q (ops.size-m) listed a' w'):
 ∀(k E:Nat) (listed:Array Bool) (ρ:Env) (a:Act) (w:World),rY ops E=k→(∀j,au E j=true→j<m)→(∀j,j<ops.size→au E j=true→∀m,au ((dC ops ops.size).getD j 0) m=true→au E m=true)→listed.size=ops.size→(∀i,listed.getD i false=au E i)→SameBut (qW ops) a0 a→
  Good C w0 σ0 (S.withR (fI ops (q.map (·.1)) ((List.range m).filter (au E)) S.r)) ρ (vq ops E) a w→PI.runs Φ (eK (q.map (·.2)) (List.range m) E) ρ=some ρ'→wpAnyIn (FR rd) 0 C.P .any ops Q k listed a w:=by
 have Jj:=av;simp only[rS,ao] at av;have bn:=lL av.1;have OP:=apK bn;obtain⟨hlen,aO⟩:=ND hq;unfold Ds at uG;rw[ao] at uG
 have DC:∀i,i<ops.size→∀o,ops[i]?=some o→(o.after.toList.all fun e=> !Region.binds .any e||Nat.blt e.on i)=true:=by
  intro i hi o ho;have:=bF.1 uG.2 i (bZ.2 hi);unfold Is at this;rw[ho] at this;exact this
 have ams:∀i,i<m→∀o,ops[i]?=some o→((qn (q.map (·.2)) m).getD i []).all (au ((dC ops ops.size).getD i 0))=true∧
  ∀t,t∈adD ops o→∀j,j<ops.size→(ops[j]?).bind (·.dst)=some t→(j<i∧au ((dC ops ops.size).getD i 0) j=true)∨au ((dC ops ops.size).getD j 0) i=true:=by
  intro i hi o ho;have:=bF.1 uG.1 i (bZ.2 hi);unfold XH at this;rw[ho] at this;simp only[ao] at this;refine⟨this.1.1,fun t ht j hj hd=>?_⟩;have:=bF.1 (bF.1 this.2 t ht) j (bZ.2 hj);rw[hd] at this;simp only[gR,sl,qH,gg,ao,iX] at this;exact this
 have Wd:∀(k E:Nat) (listed:Array Bool) (ρ:Env) (a:Act) (w:World),(∀i,i<m→au E i=true)→rY ops E=k→(∀j,au E j=true→j<m)→listed.size=ops.size→(∀i,listed.getD i false=au E i)→SameBut (qW ops) a0 a→
  Good C w0 σ0 (S.withR (fI ops (q.map (·.1)) ((List.range m).filter (au E)) S.r)) ρ (vq ops E) a w→PI.runs Φ (eK (q.map (·.2)) (List.range m) E) ρ=some ρ'→wpAnyIn (FR rd) 0 C.P .any ops Q k listed a w:=by
  intro k E listed ρ a w jb hk wS aE hl hn hg ah;have hb:∀i,au E i=decide (i<m):=by
   intro i;by_cases h:i<m
   ·rw[jb i h,decide_eq_true h]
   ·rw[decide_eq_false h];cases hb:au E i with
    |false=>rfl
    |true=>exact absurd (wS i hb) h
  have Oe:eK (q.map (·.2)) (List.range m) E=[]:=by
   unfold eK;rw[afG];intro i hi;rw[jb i (bZ.1 hi)];rfl
  rw[Oe] at ah;simp only[PI.runs,aS] at ah;subst ah;have ala:rY ops E=ops.size-m:=by
   unfold rY
   have key:∀N,m≤N→((List.range N).filter fun i=> !au E i).length=N-m:=by
        intro N
        induction N with
        |zero=>intro _;simp
        |succ N ih=>
         intro hN;rw[VW,LV,kL];by_cases h:m≤N
         ·rw[ih h];simp[hb N,Nat.not_lt.2 h];omega
         ·have:m=N+1:=by omega
          have e:(List.range N).filter (fun i=> !au E i)=[]:=by
           rw[VR];intro i hi;rw[jb i (by have:=bZ.1 hi;omega)];simp
          have hN':au E N=true:=jb N (by omega);rw[e];simp[hN'];omega
   exact key _ hm
  have ef:(List.range m).filter (au E)=List.range m:=List.filter_eq_self.2 fun i hi=>jb i (bZ.1 hi);rw[ef] at hg;have qg:vq ops E=l5 ops (List.range m):=by
   funext t;apply propext;constructor
   ·rintro⟨i,o,h1,h2,h3⟩;exact⟨i,o,bZ.2 (wS i h1),h2,h3⟩
   ·rintro⟨i,o,h1,h2,h3⟩;exact⟨i,o,jb i (bZ.1 h1),h2,h3⟩
  rw[qg] at hg;rw[←hk,ala];exact hK listed a w aE (fun i=>by rw[hl i,hb i]) hn hg
 intro k
 induction k with
 |zero=>
  intro E listed ρ a w hk wS IS aE hl hn hg ah;refine Wd 0 E listed ρ a w (fun i hi=>?_) hk wS aE hl hn hg ah;cases hb:au E i with
  |true=>rfl
  |false=>
   have:i∈(List.range ops.size).filter fun i=> !au E i:=dX.2 ⟨bZ.2 (by omega),by rw[hb];rfl⟩;unfold rY at hk;rw[afH.1 hk] at this;cases this
 |succ k ih=>
  intro E listed ρ a w hk wS IS aE hl hn hg ah;by_cases jb:∀i,i<m→au E i=true
  ·exact Wd (k+1) E listed ρ a w jb hk wS aE hl hn hg ah
  refine⟨fun he=>?_,fun i hi=>?_⟩
  ·
   obtain⟨i,hi,Jd⟩:∃i,(i<m∧au E i=false)∧∀j,j<i→au E j=true:=by
        have hex:∃i,i<m∧au E i=false:=by
         refine vJ fun eI=>jb fun i hi=>?_;cases hb:au E i with
         |true=>rfl
         |false=>exact absurd ⟨i,hi,hb⟩ eI
        obtain⟨i,hi⟩:=hex
        induction i using Nat.strongRecOn with
        |ind i mz=>
         by_cases hh:∃j,j<i∧au E j=false
         ·obtain⟨j,hj,hb⟩:=hh;exact mz j hj ⟨by omega,hb⟩
         ·refine⟨i,hi,fun j hj=>?_⟩;cases hb:au E j with
          |true=>rfl
          |false=>exact absurd ⟨j,hj,hb⟩ hh
   have ot:i<ops.size:=by omega
   have ho:ops[i]?=some ops[i]:=fL ot;have dg:i∈lY ops E:=by
        unfold lY;simp only[dX,bZ,ao,iU,ho];refine⟨ot,hi.2,?_⟩;rw[bF];intro e gV;have:=bF.1 (DC i ot _ ho) e gV;cases hb:Region.binds .any e with
        |false=>rfl
        |true=>
         rw[hb] at this;simp only[sl,qH,iX] at this;rw[Jd _ this];rfl
   rw[←adE aE hl,he] at dg;cases dg
  ·rw[adE aE hl] at hi;unfold lY at hi;simp only[dX,bZ,ao,iU] at hi;obtain⟨bt,dh,uB⟩:=hi;have YU:ops[i]?=some ops[i]:=fL bt;generalize ops[i]=o at YU;have ho:=YU;rw[ho] at uB;simp only at uB;have o2:=DC i bt o ho;have Ag:∀m,au ((dC ops ops.size).getD i 0) m=true→au E m=true:=by
        intro m hm;obtain⟨e,jS,kQ,Od⟩:=Ie bt ho o2 hm;have hE:au E e.on=true:=by
         have:=bF.1 uB e jS
         rwa [kQ,sl,qH] at this
        rcases Od with rfl|Od
        ·exact hE
        ·have qa:e.on<i:=by
          have:=bF.1 o2 e jS;rw[kQ] at this;simpa [iX] using this
         exact IS e.on (by omega) hE m Od
   have kS:i<m:=by
        refine vJ fun eI=>jb fun j hj=>?_;exact Ag j (AA i (by omega) bt j (by omega))
   obtain⟨o',eA,jz⟩:=aO i kS;rw[ho] at eA;cases eA;obtain⟨o1,o3⟩:=ams i kS o ho;have da:((qn (q.map (·.2)) m).getD i []).all (au E)=true:=by
        rw[bF] at o1 ⊢;exact fun m hm=>Ag m (o1 m hm)
   have ald:uw C (S.withR (fI ops (q.map (·.1)) ((List.range m).filter (au E)) S.r)) ops o=some ((q.map (·.1)).getD i .none,(q.map (·.2)).getD i []):=by
        rw[←jz];refine ajf (S:=S.withR (fI ops (q.map (·.1)) (List.range i) S.r)) fun t ht=>?_;refine ad9 OP (fun j hj=>?_) (fun _ _ _=>rfl);have gr:j<ops.size:=by
         rw[aq] at hj;obtain⟨oj,h1,_⟩:=hj;exact(gD.1 h1).1
        rw[dX,bZ,bZ];rcases o3 t ht j gr hj with⟨h1,h2⟩|h1
        ·exact⟨fun _=>h1,fun _=>⟨by omega,Ag j h2⟩⟩
        ·constructor
         ·rintro⟨_,pW⟩;have:=IS j gr pW i h1;rw[dh] at this;cases this
         ·intro iz;exfalso;have key:∀m j,j<ops.size→au ((dC ops ops.size).getD j 0) m=true→m<j:=by
           intro m j
           induction j using Nat.strongRecOn with
           |ind j mz=>
            intro hj hm;have rp:ops[j]?=some ops[j]:=fL hj;have p2:=DC j hj _ rp;obtain⟨e,e1,e2,e3⟩:=Ie hj rp p2 hm;have qa:e.on<j:=by
                have:=bF.1 p2 e e1;rw[e2] at this;simpa [iX] using this
            rcases e3 with rfl|e3
            ·exact qa
            ·have:=mz e.on qa (by omega) e3;omega
          have:=key i j gr h1;omega
   have hcp:=aje ald;rw[adL kS dh da,aq] at ah;obtain⟨ρ1,hρ1,hρ2⟩:=ah;have rh:∀d,o.dst=some d→¬vq ops E d∧d<a.tmps.size:=by
        intro d hd;refine⟨fun⟨i',o',df,eA,fS⟩=>?_,?_⟩
        ·have aw:i'≠i:=fun e=>by subst e;rw[dh] at df;cases df
         exact wg.dst_once bn eA ho fS hd aw
        ·have:=bF.1 av.2 o (by simpa using il ho);simp only[hd,ao] at this;rw[hn.size,OB];simpa [iX] using this.2
   have jU:oL o.op=true:=by
        have:=bF.1 av.2 o (by simpa using il ho);simp only[ao] at this;exact this.1
   have hj:∀j want t,o.guard=some (j,want)→(ops[j]?).bind (·.dst)=some t→vq ops E t:=by
        intro j want t km ht;rw[aq] at ht;obtain⟨oj,h1,h2⟩:=ht;have uC:=bF.1 fA o (by simpa using il ho);simp only[km] at uC;obtain⟨e,jS,kQ⟩:=vM.1 uC;simp only[ao] at kQ;have h3:=bF.1 uB e jS;rw[kQ.1] at h3;simp only[sl,qH] at h3;exact⟨j,oj,by rw[←cU kQ.2];exact h3,h1,h2⟩
   have ak8:∀j,j<ops.size→au (Nat.lor E (dK i)) j=true→∀m,au ((dC ops ops.size).getD j 0) m=true→au (Nat.lor E (dK i)) m=true:=by
        intro j hj pW m hm;rw[jr,gg] at pW;rw[jr,gg];rcases pW with pW|pW
        ·exact .inl (IS j hj pW m hm)
        ·rw[←cU pW] at hm;exact .inl (Ag m hm)
   have main:=If (rd:=rd) (K:=wpAnyIn (FR rd) 0 C.P .any ops Q k (listed.setIfInBounds i true)) (Q:=Q) hg hC aY hΦ hY jU rh hj hcp hρ1 (fun a' w' fT ru=>by
        have hA:(fun u=>vq ops E u∨o.dst=some u)=vq ops (Nat.lor E (dK i)):=by
         funext u;apply propext;constructor
         ·rintro(⟨i',o',h1,h2,h3⟩|h1)
          ·exact⟨i',o',by rw[jr,h1,yo],h2,h3⟩
          ·exact⟨i,o,by rw[jr,gR,nH],ho,h1⟩
         ·rintro⟨i',o',h1,h2,h3⟩;rw[jr,gg] at h1;rcases h1 with h1|h1
          ·exact .inl ⟨i',o',h1,h2,h3⟩
          ·rw[←cU h1,ho] at h2;cases h2;exact .inr h3
        rw[hA] at fT;have hSt:nC (S.withR (fI ops (q.map (·.1)) ((List.range m).filter (au E)) S.r)) o ((q.map (·.1)).getD i .none)=S.withR (fI ops (q.map (·.1)) ((List.range m).filter (au (Nat.lor E (dK i)))) S.r):=by
         have aly:∀t,(nC (S.withR (fI ops (q.map (·.1)) ((List.range m).filter (au E)) S.r)) o ((q.map (·.1)).getD i .none)).r t=fI ops (q.map (·.1)) ((List.range m).filter (au (Nat.lor E (dK i)))) S.r t:=by
          intro t;by_cases IW:o.dst=some t
          ·have hb:(ops[i]?).bind (·.dst)=some t:=by rw[ho];exact IW
           rw[Lg OP hb (dX.2 ⟨bZ.2 kS,by rw[jr,gR,nH]⟩)];unfold nC;rw[IW];simp[St.setR,aK]
          ·have e1:(nC (S.withR (fI ops (q.map (·.1)) ((List.range m).filter (au E)) S.r)) o ((q.map (·.1)).getD i .none)).r t=fI ops (q.map (·.1)) ((List.range m).filter (au E)) S.r t:=by
            unfold nC;split
            ·rename_i d hd;exact bo _ _ (fun e=>IW (by rw[hd,e]))
            ·rfl
           rw[e1];refine ad9 OP (fun j hj=>?_) (fun _ _ _=>rfl);have iz:¬i=j:=fun e=>by subst e;rw[ho] at hj;exact IW hj
           rw[dX,dX,jr,eH iz,tU]
         have:∀(X Y:St),X.o=Y.o→X.ver=Y.ver→(∀t,X.r t=Y.r t)→X=Y:=by
          intro X Y h1 h2 h3;cases X;cases Y;simp only at h1 h2 h3;subst h1 h2
          congr 1
          exact funext h3
         refine this _ _ ?_ ?_ aly
         ·unfold nC;split<;>rfl
         ·unfold nC;split<;>rfl
        rw[hSt] at fT;refine ih _ _ ρ1 a' w' (by have:=au4 bt dh;omega) (fun j hj=>by rw[jr,gg] at hj;rcases hj with hj|hj;exact wS j hj;rw[←cU hj];exact kS) ak8 (by simpa using aE) (fun j=>?_) (hn.trans (ru.mono fun t e=>⟨o,by simpa using il ho,e⟩)) fT hρ2;rw[jr];simp only[dV,vG];by_cases dk:i=j
        ·subst dk;simp[aE,bt]
        ·rw[if_neg dk,eH dk,tU,←hl j];simp only[dV])
   simp only[wpOpIn,ho];split
   ·rename_i hw;rw[if_pos hw] at main;exact main
   ·rename_i hw;rw[if_neg hw] at main;exact⟨fun _ _=>trivial,main⟩
theorem asA {rd:Option Nat}(hC:CtxOK C σ0)(aY:dt C)(hΦ:cX C Φ)(hY:pB C Φ w0 σ0){ops:Array Oper}(av:rS n ops=true)(fA:zX ops=true)(DC:(List.range ops.size).all (Is ops)=true){m:Nat}
 (AA:∀i,m≤i→i<ops.size→∀j,j<i→au ((dC ops ops.size).getD i 0) j=true) {Q:Exit→Act→World→Prop} {ρ':Env}:
 ∀(k i:Nat) {S:St} {ρ:Env} {a:Act} {w:World} {r:St×List PI} (listed:Array Bool),i+k=ops.size→m≤i→listed.size=ops.size→(∀j,listed.getD j false=decide (j<i))→a.tmps.size=n→
  Good C w0 σ0 S ρ (l5 ops (List.range i)) a w→nX C ops (List.range' i k) S=some r→PI.runs Φ r.2 ρ=some ρ'→
  (∀a' w',SameBut (qW ops) a a'→Good C w0 σ0 r.1 ρ' (l5 ops (List.range ops.size)) a' w'→Q .normal a' w')→wpAnyIn (FR rd) 0 C.P .any ops Q k listed a w:=by
 have Jj:=av;simp only[rS,ao] at av;have bn:=lL av.1
 have Md:∀i,i<ops.size→∀o,ops[i]?=some o→(o.after.toList.all fun e=> !Region.binds .any e||Nat.blt e.on i)=true:=by
  intro i hi o ho;have:=bF.1 DC i (bZ.2 hi);unfold Is at this;rw[ho] at this;exact this
 have mem:∀(listed:Array Bool) (i j:Nat),listed.size=ops.size→(∀j,listed.getD j false=decide (j<i))→(j∈Region.ready .any ops listed↔(j<ops.size∧¬j<i∧∀o,ops[j]?=some o→(o.after.toList.all fun e=> !Region.binds .any e||decide (e.on<i))=true)):=by
  intro listed i j aE hl;unfold Region.ready;simp only[dX,bZ];refine and_congr_right fun hj=>?_;have h1:listed.getD j true=decide (j<i):=by
   rw[←hl j];simp only[dV];rw[fL (by omega)];rfl
  have h2:ops[j]?=some ops[j]:=fL hj;rw[h1,h2];simp only[ka,j9,←Vx,hl,ao,iU,decide_eq_false_iff_not,aS,forall_eq']
 intro k
 induction k with
 |zero=>
  intro i S ρ a w r listed hik hmi aE hl hn hg hr ah hQ;simp only[List.range'_zero,nX,aS] at hr;subst hr;rw[nA ah] at hQ;refine⟨?_,hQ a w (.refl _ _) ?_⟩
  ·rw[VP];intro j hj;rw[mem listed i j aE hl] at hj;exact hj.2.1 (by omega)
  ·have:i=ops.size:=by omega
   rw[←this];exact hg
 |succ k ih=>
  intro i S ρ a w r listed hik hmi aE hl hn hg hr ah hQ;have bt:i<ops.size:=by omega
  have ho:ops[i]?=some ops[i]:=fL bt;generalize ops[i]=o at ho;refine⟨fun he=>?_,fun i' df=>?_⟩
  ·have:i∈Region.ready .any ops listed:=by
        rw[mem listed i i aE hl];refine⟨bt,by omega,fun o' eA=>?_⟩;rw[bF];intro e gV;have:=bF.1 (Md i bt o' eA) e gV;cases hb:Region.binds .any e with
        |false=>rfl
        |true=>
         rw[hb] at this;simp only[sl,qH,iX] at this;simpa using this
   rw[he] at this;cases this
  ·rw[mem listed i i' aE hl] at df;obtain⟨h1,h2,h3⟩:=df;obtain rfl:i'=i:=by
        refine vJ fun aw=>?_;have eA:ops[i']?=some ops[i']:=fL h1;have Ag:=AA i' (by omega) h1 i (by omega);have af:∀m j,j<ops.size→au ((dC ops ops.size).getD j 0) m=true→m<j:=by
         intro m j
         induction j using Nat.strongRecOn with
         |ind j mz=>
          intro hj hm;have rp:ops[j]?=some ops[j]:=fL hj;have p2:=Md j hj _ rp;obtain⟨e,e1,e2,e3⟩:=Ie hj rp p2 hm;have qa:e.on<j:=by
           have:=bF.1 p2 e e1;rw[e2] at this;simpa [iX] using this
          rcases e3 with rfl|e3
          ·exact qa
          ·have:=mz e.on qa (by omega) e3;omega
        obtain⟨e,e1,e2,e3⟩:=Ie h1 eA (Md i' h1 _ eA) Ag;have h4:=bF.1 (h3 _ eA) e e1;rw[e2] at h4;simp only[sl,qH,decide_eq_true_eq] at h4;rcases e3 with e3|e3
        ·omega
        ·have:=af i e.on (by omega) e3;omega
   rw[GP] at hr;simp only[nX,ho] at hr;simp only[aq,az] at hr;obtain⟨r1,jf,q,hq,rfl⟩:=hr;simp only[oY,aq] at ah;obtain⟨ρ1,hρ1,hρ2⟩:=ah;have rh:∀d,o.dst=some d→¬l5 ops (List.range i') d∧d<a.tmps.size:=by
        intro d hd;refine⟨fun⟨i2,o2,wK,eR,ed⟩=>?_,?_⟩
        ·have aw:i2≠i':=by have:=bZ.1 wK;omega
         exact wg.dst_once bn eR ho ed hd aw
        ·have:=bF.1 av.2 o (by simpa using il ho);simp only[hd,ao] at this;rw[hn];simpa [iX] using this.2
   have jU:oL o.op=true:=by
        have:=bF.1 av.2 o (by simpa using il ho);simp only[ao] at this;exact this.1
   have hj:∀j want t,o.guard=some (j,want)→(ops[j]?).bind (·.dst)=some t→l5 ops (List.range i') t:=by
        intro j want t km ht;rw[aq] at ht;obtain⟨oj,h1,h2⟩:=ht;have uC:=bF.1 fA o (by simpa using il ho);simp only[km] at uC;obtain⟨e,jS,kQ⟩:=vM.1 uC;simp only[ao] at kQ;have h4:=bF.1 (h3 o ho) e jS;rw[kQ.1] at h4;simp only[sl,qH,decide_eq_true_eq] at h4;exact⟨j,oj,bZ.2 (by rw[←cU kQ.2];exact h4),h1,h2⟩
   have main:=If (rd:=rd) (K:=wpAnyIn (FR rd) 0 C.P .any ops Q k (listed.setIfInBounds i' true)) (Q:=Q) hg hC aY hΦ hY jU rh hj jf hρ1 (fun a' w' fT jh=>by
        have:(fun u=>l5 ops (List.range i') u∨o.dst=some u)=l5 ops (List.range (i'+1)):=by
         funext u;apply propext;constructor
         ·rintro(⟨i2,o2,h1,h2,h3⟩|h1)
          ·exact⟨i2,o2,bZ.2 (by have:=bZ.1 h1;omega),h2,h3⟩
          ·exact⟨i',o,bZ.2 (by omega),ho,h1⟩
         ·rintro⟨i2,o2,g1,g2,g3⟩;by_cases e:i2=i'
          ·rw[e,ho] at g2;cases g2;exact .inr g3
          ·exact .inl ⟨i2,o2,bZ.2 (by have:=bZ.1 g1;omega),g2,g3⟩
        rw[this] at fT;refine ih (i'+1) _ (by omega) (by omega) (by simpa using aE) (fun j=>?_) (jh.size.trans hn) fT hq hρ2 (fun a2 w2 s2 g2=>hQ a2 w2 ((jh.mono fun t e=>⟨o,by simpa using il ho,e⟩).trans s2) g2);simp only[dV,vG];by_cases dk:i'=j
        ·subst dk;simp[aE,bt]
        ·rw[if_neg dk];have:=hl j;simp only[dV] at this;rw[this];by_cases af:j<i'
         ·rw[decide_eq_true af,decide_eq_true (by omega:j<i'+1)]
         ·rw[decide_eq_false af,decide_eq_false (by omega:¬j<i'+1)])
   simp only[wpOpIn,ho];split
   ·rename_i hw;rw[if_pos hw] at main;exact main
   ·rename_i hw;rw[if_neg hw] at main;exact⟨fun _ _=>trivial,main⟩
end
def K8 (C:Ctx)(n:Nat)(ids:List Nat)(ops:Array Oper)(draw:Bool)(S:Snap):Option (Snap×List PI):=
 bif rS n ops then
    bif draw then
     bif zX ops&&P5 ops&&C.P.follows .mixedOrders then
        match XI C ops (S.st ids) with
        |some r=>some (⟨vt (ff r.1) r.1 S.rs (ops.toList.filterMap (·.dst)),ids.map fun j=>iP r.1 (r.1.o j)⟩,r.2)
        |none=>
        (fh C ops (List.range ops.size) (S.st ids)).bind fun X=>DE X fun X=>DE (qn X ops.size) fun nc=>
         (Snap.hard ⟨S.rs.map fun s=>lb (S.st ids) (cB s),ids.map fun j=>iP (S.st ids) ((S.st ids).o j)⟩ fun T0=>Gj ops (sA C.P ops) (QM C ops n ids X nc) ops.size [(0,T0)]).map fun T=>(⟨T.rs.map (ff (T.stO ids)),ids.map fun j=>iP (T.stO ids) ((T.stO ids).o j)⟩,X.flatten)
     else none
    else bif XU ops then(nX C ops (List.range ops.size) (S.st ids)).map fun r=>(⟨vt (ff r.1) r.1 S.rs (ops.toList.filterMap (·.dst)),ids.map fun j=>iP r.1 (r.1.o j)⟩,r.2) else none
 else none
def K7 (C:Ctx)(n:Nat)(ids:List Nat)(ops:Array Oper)(draw:Bool)(S:Snap):Option (Snap×List PI):=
 (K8 C n ids ops draw S).bind fun r=>r.1.hard fun T=>some (T,r.2)
theorem arL (C:Ctx)(n:Nat)(ids:List Nat)(ops:Array Oper)(draw:Bool)(S:Snap):K7 C n ids ops draw S=K8 C n ids ops draw S:=by
 unfold K7;cases K8 C n ids ops draw S with
 |none=>rfl
 |some r=>rw[j8,Snap.hard_eq]
def x9 (ops:Array Oper)(E:Nat):Nat→Prop:=fun t=>∃i o,au E i=true∧ops[i]?=some o∧o.dst=some t
section
variable {C:Ctx} {S:St} {ρ:Env} {σ:Im} {own:Nat→Option Nat} {hv:Nat→Value} {w0:World} {σ0:Base} {A:Nat→Prop} {a:Act} {w:World} {n:Nat} {ids:List Nat} {Φ:aL}
theorem K5 {ops:Array Oper}{listed:Array Bool}{E:Nat}(aE:listed.size=ops.size)(hl:∀i,listed.getD i false=au E i)(i:Nat):i∈Region.ready .any ops listed↔i∈lY ops E:=by
 unfold Region.ready lY;simp only[dX,bZ];refine and_congr_right fun hi=>?_;have h1:listed.getD i true=au E i:=by
  rw[←hl i];simp only[dV];rw[fL (by omega)];rfl
 have h2:ops[i]?=some ops[i]:=fL hi;rw[h1,h2];simp only[ka,j9,←Vx,hl]
theorem asa {rd:Option Nat}(hC:CtxOK C σ0)(aY:dt C)(hΦ:cX C Φ)(hY:pB C Φ w0 σ0){a0:Act}(OB:a0.tmps.size=n){ops:Array Oper}(av:rS n ops=true)(fA:zX ops=true){X:List (List PI)}{Q:Exit→Act→World→Prop}{ρ':Env}(Ax:P5 ops=true)(hQp:∀c a w,¬Q (.panic c) a w):
 ∀(k:Nat) {L:List (Nat×Snap)} {T:Snap},Gj ops (sA C.P ops) (QM C ops n ids X (qn X ops.size)) k L=some T→
  (∀a' w',SameBut (qW ops) a0 a'→Good C w0 σ0 (T.stO ids) ρ' (fun t=>∃E,x9 ops E t) a' w'→Q .normal a' w')→
  ∀(E:Nat) (U:Snap),(E,U)∈L→∀(listed:Array Bool) (ρ:Env) (a:Act) (w:World),listed.size=ops.size→(∀i,listed.getD i false=au E i)→SameBut (qW ops) a0 a→
   Good C w0 σ0 (U.stO ids) ρ (x9 ops E) a w→PI.runs Φ (eK X (List.range ops.size) E) ρ=some ρ'→wpAnyIn (FR rd) 0 C.P .any ops Q k listed a w:=by
 simp only[rS,ao] at av;have bn:=lL av.1;intro k
 induction k with
 |zero=>
  intro L T hs hQ E U hm listed ρ a w aE hl hn hg ah;simp only[Gj] at hs;split at hs
  case h_2=>cases hs
  rename_i x;cases aO:(List.range ops.size).all (au x.1)<;>simp only[aO,cond_true,cond_false] at hs
  ·cases hs
  cases hs;simp only[sq] at hm;subst hm;simp only at aO hg hQ ah hl;have jb:=bF.1 aO;have Oe:eK X (List.range ops.size) E=[]:=by
   unfold eK;rw[afG];intro i hi;rw[jb i hi];rfl
  rw[Oe] at ah;simp only[PI.runs,aS] at ah;subst ah;refine⟨?_,hQ a w hn ?_⟩
  ·rw[VP];intro i hi;rw[K5 aE hl] at hi;unfold lY at hi;simp only[dX,ao,iU] at hi;rw[jb i hi.1] at hi;cases hi.2.1
  ·obtain⟨σ,own,hv,h⟩:=hg;exact⟨σ,own,hv,h.defers,h.ok,h.le,h.old,h.newc,h.newm,h.below,h.bw,h.owns,h.regs,h.objs,fun t gs s e=>⟨fun g hm=>⟨E,(h.opts t gs s e).1 g hm⟩,(h.opts t gs s e).2⟩,h.frame⟩
 |succ k ih=>
  intro L T hs hQ E U hm listed ρ a w aE hl hn hg ah;simp only[Gj,aq] at hs;obtain⟨L',hL,hs⟩:=hs;obtain⟨_,dg⟩:=Z1 hL;obtain⟨aw,O6⟩:=dg _ hm;have amf:lY ops E≠[]:=fun e=>aw (by unfold pG;rw[e];rfl)
  have bS:∀i,i∈pG ops (sA C.P ops) E→i∈lY ops E:=fun i hi=>by
   unfold pG at hi;split at hi
   ·rename_i i' hp;rw[sq.1 hi];exact(Lr hp).1
   ·exact hi
  have step:∀i,i∈pG ops (sA C.P ops) E→∀Q':Exit→Act→World→Prop,wpOpIn (FR rd) 0 C.P ops Q' i (wpAnyIn (FR rd) 0 C.P .any ops Q k (listed.setIfInBounds i true)) a w:=by
   intro i hi Q';obtain⟨y,hy,hyL⟩:=O6 i hi;have hi:=bS i hi;unfold lY at hi;simp only[dX,bZ,ao,iU] at hi;obtain⟨bt,dh,uB⟩:=hi;simp only[QM] at hy;split at hy
   case h_2=>cases hy
   rename_i o ho;simp only[aq] at hy;obtain⟨r,hr,hy⟩:=hy;cases hc:(PI.beqs r.2 (X.getD i [])&&((qn X ops.size).getD i []).all (au E))<;>simp only[hc,cond_true,cond_false] at hy
   ·cases hy
   cases hy;simp only[ao] at hc;have hX:=PI.beqs_eq _ _ hc.1;rw[adL bt dh hc.2,aq] at ah;obtain⟨ρ1,hρ1,hρ2⟩:=ah;rw[←hX] at hρ1;rw[ho] at uB;simp only at uB;have rh:∀d,o.dst=some d→¬x9 ops E d∧d<a.tmps.size:=by
        intro d hd;refine⟨fun⟨i',o',df,eA,fS⟩=>?_,?_⟩
        ·have aw:i'≠i:=fun e=>by subst e;rw[dh] at df;cases df
         exact wg.dst_once bn eA ho fS hd aw
        ·have:=bF.1 av.2 o (by simpa using il ho);simp only[hd,ao] at this;rw[hn.size,OB];simpa [iX] using this.2
   have jU:oL o.op=true:=by
        have:=bF.1 av.2 o (by simpa using il ho);simp only[ao] at this;exact this.1
   have hj:∀j want t,o.guard=some (j,want)→(ops[j]?).bind (·.dst)=some t→x9 ops E t:=by
        intro j want t km ht;rw[aq] at ht;obtain⟨oj,h1,h2⟩:=ht;have uC:=bF.1 fA o (by simpa using il ho);simp only[km] at uC;obtain⟨e,jS,kQ⟩:=vM.1 uC;simp only[ao] at kQ;have h3:=bF.1 uB e jS;rw[kQ.1] at h3;simp only[sl,qH] at h3;exact⟨j,oj,by rw[←cU kQ.2];exact h3,h1,h2⟩
   have main:=If (rd:=rd) (K:=wpAnyIn (FR rd) 0 C.P .any ops Q k (listed.setIfInBounds i true)) (Q:=Q') hg hC aY hΦ hY jU rh hj hr hρ1 (fun a' w' fT ru=>by
        have hA:(fun u=>x9 ops E u∨o.dst=some u)=x9 ops (Nat.lor E (dK i)):=by
         funext u;apply propext;constructor
         ·rintro(⟨i',o',h1,h2,h3⟩|h1)
          ·exact⟨i',o',by rw[jr,h1,yo],h2,h3⟩
          ·exact⟨i,o,by rw[jr,gR,nH],ho,h1⟩
         ·rintro⟨i',o',h1,h2,h3⟩;rw[jr,gg] at h1;rcases h1 with h1|h1
          ·exact .inl ⟨i',o',h1,h2,h3⟩
          ·rw[←cU h1,ho] at h2;cases h2;exact .inr h3
        rw[hA] at fT
        refine ih hs hQ _ _ hyL _ ρ1 a' w' (by simpa using aE) (fun j=>?_) (hn.trans (ru.mono fun t e=>⟨o,by simpa using il ho,e⟩)) (by
         have:=fT.snapO U.rs.length ids
         rw[show r.1.snapO U.rs.length ids=⟨vt (lb r.1) r.1 U.rs o.dst.toList,ids.map fun j=>iP r.1 (r.1.o j)⟩ from by
          unfold St.snapO;rw[Gq fun t ht=>?_];rw[WV hr t (fun e=>ht (by rw[e];simp))];rfl] at this
         exact this) hρ2
        rw[jr];simp only[dV,vG];by_cases dk:i=j
        ·subst dk;simp[aE,bt]
        ·rw[if_neg dk,eH dk,tU,←hl j];simp only[dV])
   simp only[wpOpIn,ho];split
   ·rename_i hw;rw[if_pos hw] at main;exact main
   ·rename_i hw;rw[if_neg hw] at main;exact⟨fun _ _=>trivial,main⟩
  cases OU:BN (sA C.P ops) E (lY ops E) with
  |none=>
   have mj:pG ops (sA C.P ops) E=lY ops E:=by unfold pG;rw[OU]
   refine⟨fun he=>?_,fun i hi=>step i (by rw[mj];exact(K5 aE hl i).1 hi) Q⟩;exfalso;refine amf ?_;rw[VP];intro i hi;rw[←K5 aE hl,he] at hi;cases hi
  |some i=>
   have mj:pG ops (sA C.P ops) E=[i]:=by unfold pG;rw[OU]
   obtain⟨hir,b,hb,ak1⟩:=Lr OU;obtain⟨oi,YV,OW,NW⟩:=agV hb;obtain⟨v,hv,hK⟩:=aqR YV OW (step i (by rw[mj];simp) _);refine avu (fun j o ho=>?_) YV (fun j o cs b' ho e=>?_) (fun c a' w' h=>(hQp _ _ _ h).elim) k listed a w (fun j oj hj iz nj eI=>NW j oj hj iz (fun I4=>?_) eI) ((K5 aE hl i).2 hir) hv hK
   ·have:=bF.1 av.2 o (by simpa using il ho);simp only[ao] at this;exact this.1
   ·have:=bF.1 Ax o (by simpa using il ho);rw[e] at this;cases this
   ·have h1:=bF.1 ak1 j I4;have h2:=hl j;rw[h1] at h2;simp only[dV] at h2 nj;cases An:listed[j]? with
    |none=>rw[An] at h2;cases h2
    |some x=>
     rw[An] at h2 nj;simp only[j9] at h2 nj;rw[h2] at nj;cases nj
theorem ad3 {ops:Array Oper}:∀{l:List Nat} {S:St} {X:List (List PI)},fh C ops l S=some X→X.length=l.length
 |[],S,X,h=>by simp only[fh,aS] at h;subst h;rfl
 |i::l,S,X,h=>by
  simp only[fh] at h;split at h
  case h_2=>cases h
  simp only[aq,az] at h;obtain⟨r,_,q,hq,rfl⟩:=h;simp[ad3 hq]
theorem adM (X:List (List PI)):eK X (List.range X.length) 0=X.flatten:=by
 have h0:∀i,au 0 i=false:=fun i=>by rw[sD];simp
 have key:∀(Y Z:List (List PI)),eK (Y++Z) (List.range' Y.length Z.length) 0=Z.flatten:=by
  intro Y Z
  induction Z generalizing Y with
  |nil=>rfl
  |cons z Z ih=>
   have:=ih (Y++[z]);simp only[nI,List.singleton_append,kL,nL,yx,gS] at this;rw[nL,GP];have e:eK (Y++z::Z) (Y.length::List.range' (Y.length+1) Z.length) 0=(Y++z::Z).getD Y.length []++eK (Y++z::Z) (List.range' (Y.length+1) Z.length) 0:=by
        unfold eK;rw[vO,h0];rfl
   rw[e,this,GH]
   congr 1
   simp[aJ]
 have:=key [] X;simp only[tZ,yx] at this;rw[L3];exact this
theorem arM (aY:dt C)(hΦ:cX C Φ):L8 C n ids Φ (K7 C n ids):=by
 intro id ops draw S r hr rd w0 σ0 ρ ρ' a w Q hC hY hn hg ah hQ;rw[arL] at hr;unfold K8 at hr;cases av:rS n ops<;>simp only[av,cond_true,cond_false] at hr
 ·cases hr
 cases draw with
 |false=>
  simp only[cond_false] at hr;cases Yv:XU ops<;>simp only[Yv,cond_true,cond_false] at hr
  ·cases hr
  simp only[az] at hr;obtain⟨q,hq,rfl⟩:=hr;refine wpIn_region ?_
  have qg:l5 ops []=fun _=>False:=by
   funext t;apply propext;constructor
   ·rintro⟨i,o,h,_⟩;cases h
   ·intro h;exact h.elim
  refine wg hC aY hΦ hY av (List.range ops.size) [] (by simpa using L2) (fun p i q o j want hl ho km=>?_) hn (by rw[qg];exact hg) hq ah (fun a' w' iJ fT=>hQ a' w' iJ (by
   have:=fT.snapF S.rs.length ids
   rw[show q.1.snap S.rs.length ids=⟨vt (ff q.1) q.1 S.rs (ops.toList.filterMap (·.dst)),ids.map fun j=>iP q.1 (q.1.o j)⟩ from by
        unfold St.snap;rw[Gq fun t ht=>?_];rw[Nd hq t (fun i o hi ho e=>ht (tY.2 ⟨o,by simpa using il ho,e⟩))];show _=ff q.1 (cB (S.rs.getD t .none));cases S.rs.getD t .none<;>rfl] at this
   exact this))
  have hi:i<ops.size:=by
   have:i∈List.range ops.size:=by rw[hl];simp
   exact bZ.1 this
  have hb:=bF.1 Yv i (bZ.2 hi);rw[ho] at hb;simp only[km,iX] at hb;have hp:=List.pairwise_lt_range (n:=ops.size);have uD:j∈List.range ops.size:=bZ.2 (by omega);rw[hl,List.pairwise_append] at hp;obtain⟨_,fB,_⟩:=hp;rw[GO] at fB;rw[hl,dJ] at uD;simp only[tZ];rcases uD with hm|hm
  ·exact hm
  ·rcases cT.1 hm with e|hm
   ·omega
   ·have:=fB.1 j hm;omega
 |true=>
  simp only[cond_true] at hr;cases fA:(zX ops&&P5 ops&&C.P.follows .mixedOrders)<;>simp only[fA,cond_true,cond_false] at hr
  ·cases hr
  simp only[ao] at fA;have Ax:=fA.1.2
  replace fA:zX ops=true∧C.P.follows .mixedOrders=true:=⟨fA.1.1,fA.2⟩
  have h0:∀i,au 0 i=false:=fun i=>by rw[sD];simp
  split at hr
  case h_1=>
   rename_i r jz;cases hr;generalize Pc:pg (dC ops ops.size) ops.size=m at*;unfold XI at jz;rw[Pc] at jz;have amb:m≤ops.size:=Pc▸aek _ _;have AA:∀i,m≤i→i<ops.size→∀j,j<i→au ((dC ops ops.size).getD i 0) j=true:=Pc▸aej _ _;rw[aq] at jz;obtain⟨q,hq,jz⟩:=jz;cases uG:Ds ops (qn (q.map (·.2)) m) (dC ops ops.size) m<;>simp only[uG,cond_true,cond_false] at jz
   ·cases jz
   rw[az] at jz;obtain⟨r1,jf,rfl⟩:=jz;refine wpIn_region_any fA.2 ?_
   have qg:vq ops 0=fun _=>False:=by
        funext t;apply propext;constructor
        ·rintro⟨i,o,h,_⟩;rw[h0] at h;cases h
        ·intro h;exact h.elim
   have hlen:(q.map (·.2)).length=m:=by rw[eN];exact(ND hq).1
   have ani:rY ops 0=ops.size:=by
        unfold rY;have:((List.range ops.size).filter fun i=> !au 0 i)=List.range ops.size:=List.filter_eq_self.2 fun i _=>by rw[h0];rfl
        rw[this,VU]
   have DN:(List.range m).filter (au 0)=[]:=VR.2 fun i _=>by rw[h0];simp
   simp only[oY,aq] at ah;obtain⟨ρ1,hρ1,hρ2⟩:=ah;have OR:=uG;unfold Ds at OR;rw[ao] at OR;refine ajh (w0:=w0) (S:=S.st ids) hC aY hΦ hY hn av fA.1 amb hq uG AA (ρ':=ρ1) (fun listed a' w' aE hl iJ fT=>?_) ops.size 0 _ ρ a _ ani (fun j hj=>by rw[h0] at hj;cases hj) (fun j _ hj=>by rw[h0] at hj;cases hj) (by simp) (fun i=>?_) (.refl _ _) ?_ ?_
   ·refine asA hC aY hΦ hY av fA.1 OR.2 AA (ops.size-m) m listed (by omega) (bf _) aE hl (iJ.size.trans hn) fT jf hρ2 (fun a2 w2 s2 g2=>hQ a2 w2 (iJ.trans s2) (by
     have:=g2.snapF S.rs.length ids
     rw[show r1.1.snap S.rs.length ids=⟨vt (ff r1.1) r1.1 S.rs (ops.toList.filterMap (·.dst)),ids.map fun j=>iP r1.1 (r1.1.o j)⟩ from by
      unfold St.snap;rw[Gq fun t ht=>?_];rw[Nd jf t (fun i o hi ho e=>ht (tY.2 ⟨o,by simpa using il ho,e⟩))]
      have e1:fI ops (q.map (·.1)) (List.range m) (S.st ids).r t=(S.st ids).r t:=Gl fun i hi e=>by
        rw[aq] at e;obtain⟨o,ho,hd⟩:=e;exact ht (tY.2 ⟨o,by simpa using il ho,hd⟩)
      show ff _ (S.rs.getD t .none)=ff _ (fI ops (q.map (·.1)) (List.range m) (S.st ids).r t);rw[e1];show _=ff _ (cB (S.rs.getD t .none));cases S.rs.getD t .none<;>rfl] at this
     exact this))
   ·rw[h0];simp only[dV,afo];split<;>rfl
   ·rw[qg,DN];exact hg.drew
   ·rw[←hlen,adM];exact hρ1
  simp only[X8,Snap.hard_eq,aq,az] at hr;obtain⟨X,hX,T,hT,rfl⟩:=hr;refine wpIn_mono (Q:=fun e a w=>(∀c,e≠.panic c)∧Q e a w) ?_ fun e a w h=>h.2;refine wpIn_region_any fA.2 ?_
  have qg:x9 ops 0=fun _=>False:=by
   funext t;apply propext;constructor
   ·rintro⟨i,o,h,_⟩;rw[h0] at h;cases h
   ·intro h;exact h.elim
  have hlen:=ad3 hX;rw[VU] at hlen
  refine asa (w0:=w0) hC aY hΦ hY hn av fA.1 (ρ':=ρ') Ax (fun c a w h=>h.1 c rfl) ops.size hT (fun a' w' iJ fT=>⟨fun c e=>(by cases e),hQ a' w' iJ (by
   have:=fT.snapF T.rs.length ids
   rw[show(T.stO ids).snap T.rs.length ids=⟨T.rs.map (ff (T.stO ids)),ids.map fun j=>iP (T.stO ids) ((T.stO ids).o j)⟩ from by
        unfold St.snap;have:=Gq (g:=ff (T.stO ids)) (S:=T.stO ids) (rs:=T.rs) (ds:=[]) (fun t _=>rfl);rw[←this];rfl] at this
   exact this)⟩) 0 _ (sq.2 rfl) _ ρ a _ (by simp) (fun i=>?_) (.refl _ _) ?_ ?_
  ·rw[h0];simp only[dV,afo];split<;>rfl
  ·rw[qg];have:=(hg.drew).snapO S.rs.length ids
   rw[show(S.st ids).snapO S.rs.length ids=⟨S.rs.map fun s=>lb (S.st ids) (cB s),ids.map fun j=>iP (S.st ids) ((S.st ids).o j)⟩ from by
        unfold St.snapO
        have:=Gq (g:=fun s=>lb (S.st ids) (cB s)) (S:=S.st ids) (rs:=S.rs) (ds:=[]) (fun t _=>by
         show lb _ (cB (S.rs.getD t .none))=lb _ (cB (cB (S.rs.getD t .none)));cases S.rs.getD t .none<;>rfl)
        have h2:(fun t=>lb (S.st ids) (cB ((S.st ids).r t)))=fun t=>lb (S.st ids) ((S.st ids).r t):=by
         funext t;show lb _ (cB (cB (S.rs.getD t .none)))=lb _ (cB (S.rs.getD t .none));cases S.rs.getD t .none<;>rfl
        rw[h2] at this;rw[←this];rfl] at this
   exact this
  ·rw[←hlen,adM];exact ah
end
end Cx
