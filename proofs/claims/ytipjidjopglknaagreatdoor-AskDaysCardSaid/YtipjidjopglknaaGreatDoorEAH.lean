/-
  Regions: in the order of the text, and in every order that their edges allow.
-/
import Derived.Test.YtipjidjopglknaaGreatDoorEAG
import Derived.OrdersIn
set_option linter.unusedSimpArgs false
set_option linter.unusedVariables false
namespace Cx
open Go Go.RowKit
def kr (S:St):Sh→Sh
 |.opt gs s=>.opt gs (eM S s)
 |s=>eM S s
def St.snapO (n:Nat)(ids:List Nat)(S:St):Snap:=⟨(List.range n).map fun t=>kr S (S.r t),ids.map fun j=>gX S (S.o j)⟩
def Snap.stO (ids:List Nat)(s:Snap):St:=⟨fun t=>s.rs.getD t .none,fun j=>di ids s.os j,fun _=>0⟩
theorem qk (S:St)(s:Sh):∀gs s',eM S s≠.opt gs s':=by
 intro gs s' e;cases s<;>simp only[eM] at e<;>first|cases e|(revert e;cases Nat.beq _ _<;>intro e<;>cases e)|(revert e;cases List.all _ _<;>intro e<;>cases e)
section
variable {C:Ctx} {S:St} {ρ:Env} {σ:Im} {own:Nat→Option Nat} {hv:Nat→Value} {w0:World} {σ0:Base} {A:Nat→Prop} {a:Act} {w:World} {n:Nat} {ids:List Nat} {Φ:aK}
theorem alw {s:Sh}{v:Value}{d:D}(h:aD C S ρ σ hv s v d){T:St}(hT:T.ver=fun _=>0):aD C T ρ σ hv (kr S s) v d:=by
 have hc:Compat S.norm hv T hv:=⟨fun j=>by rw[hT];exact nS _,fun _ _=>rfl⟩
 have key:∀s,aD C S ρ σ hv s v d→aD C T ρ σ hv (eM S s) v d:=fun s hs=>aD.mono' (.refl σ) hc (qk S s) (HO hs).1;cases s with
 |opt gs s=>exact⟨fun hh=>key s (h.1 hh),h.2⟩
 |_=>exact key _ h
theorem Good.snapO (h:Good C w0 σ0 S ρ A a w)(n:Nat)(ids:List Nat):Good C w0 σ0 ((S.snapO n ids).stO ids) ρ A a w:=by
 obtain⟨σ,own,hv,h⟩:=h;have h1:=h.norm;have hc:Compat S.norm hv ((S.snapO n ids).stO ids) hv:=⟨fun _=>aW _,fun _ _=>rfl⟩
 refine⟨σ,own,hv,h.defers,h.ok,h.le,h.old,h.newc,h.newm,h.below,h.bw,h.owns,fun t=>?_,fun j=>?_,fun t gs s e=>?_,?_⟩
 rotate_right
 ·obtain⟨t,fx,cx,f1,f5⟩:=h.frame;refine⟨t,fx,cx,f1,fun j hj=>f5 j ?_⟩;exact vX (fun j=>gX S (S.o j)) (fun ob=>ob=.tr→S.o j=.tr) (fun e=>by cases e) j Xw ids hj
 ·show aD C _ ρ σ hv (((List.range n).map fun t=>kr S (S.r t)).getD t .none) _ _;rw[aG,cg];by_cases ht:t<n
  ·rw[pD ht];exact alw (h.regs t) rfl
  ·rw[qM (by simpa using ht)];trivial
 ·have ho:=(h1.objs j).mono (.refl σ) hc (w:=w) (w':=w) rfl rfl (fun k hk=>⟨hk,rfl⟩);exact vX (fun j=>gX S (S.o j)) (fun ob=>bS C _ ρ σ own hv w w0.heap.size j ob) trivial j ho ids
 ·change ((List.range n).map fun t=>kr S (S.r t)).getD t .none=.opt gs s at e;rw[aG,cg] at e;by_cases ht:t<n
  ·rw[pD ht] at e;simp only[jI,jH] at e;cases hs:S.r t with
   |opt bI s'=>
    rw[hs] at e;simp only[kr,Sh.opt.injEq] at e;obtain⟨rfl,rfl⟩:=e;exact⟨(h.opts t bI s' hs).1,qk S s'⟩
   |none=>rw[hs] at e;exact absurd e (qk S .none gs s)
   |yv=>rw[hs] at e;exact absurd e (qk S .yv gs s)
   |fclo f c=>rw[hs] at e;exact absurd e (qk S (.fclo f c) gs s)
   |agg l=>rw[hs] at e;exact absurd e (qk S (.agg l) gs s)
   |dat t=>rw[hs] at e;exact absurd e (qk S (.dat t) gs s)
   |obj t u=>rw[hs] at e;exact absurd e (qk S (.obj t u) gs s)
   |ptr t u v=>rw[hs] at e;exact absurd e (qk S (.ptr t u v) gs s)
   |eptr t u v x=>rw[hs] at e;exact absurd e (qk S (.eptr t u v x) gs s)
  ·rw[qM (by simpa using ht)] at e;cases e
theorem Good.snapF (h:Good C w0 σ0 S ρ A a w)(n:Nat)(ids:List Nat):Good C w0 σ0 ((S.snap n ids).st ids) ρ (fun _=>False) a w:=by
 obtain⟨σ,own,hv,h⟩:=h;exact⟨σ,own,hv,h.snap n ids⟩
theorem Good.drew (h:Good C w0 σ0 S ρ A a w):Good C w0 σ0 S ρ A a {w with drawn:=w.drawn+1}:=by
 obtain⟨σ,own,hv,h⟩:=h;refine⟨σ,own,hv,h.defers,⟨fun k o v e=>h.ok.c k o v e,fun k es e=>h.ok.m k es e,fun k o n e=>h.ok.f k o n e⟩,h.le,h.old,h.newc,h.newm,h.below.drew,h.bw,h.owns,h.regs,fun j=>?_,h.opts,?_⟩
 rotate_right
 ·obtain⟨t,fx,cx,f1,f2⟩:=h.frame;exact⟨t,fx,cx,⟨σ0.keep _ _ _ _ _ f1.F (Below.drew (.refl _ _)) (fun _ _=>rfl),f1.own,f1.c,f1.m,f1.d⟩,f2⟩
 exact(h.objs j).mono (.refl σ) (.refl S hv) rfl rfl (fun k hk=>⟨hk,rfl⟩)
end
def uj (g:Sh→Sh)(S:St)(rs:List Sh)(ds:List Nat):List Sh:=(ds.foldl (fun l d=>l.set d (S.r d)) rs).map g
theorem UD (S:St):∀(ds:List Nat) (rs:List Sh),(ds.foldl (fun l d=>l.set d (S.r d)) rs).length=rs.length∧∀t,t<rs.length→(ds.foldl (fun l d=>l.set d (S.r d)) rs).getD t .none=if t∈ds then S.r t else rs.getD t .none
 |[],rs=>⟨rfl,fun t _=>by simp⟩
 |d::ds,rs=>by
  obtain⟨h1,h2⟩:=UD S ds (rs.set d (S.r d));simp only[List.length_set] at h1 h2;refine⟨h1,fun t ht=>?_⟩;rw[JL,h2 t ht];simp only[cM,aG,AJ];by_cases hm:t∈ds
  ·simp[hm]
  ·by_cases e:d=t
   ·subst e;simp[hm,ht]
   ·have e':¬t=d:=fun h=>e h.symm;simp[hm,e,e']
theorem EE {g:Sh→Sh}{S:St}{rs:List Sh}{ds:List Nat}(h:∀t,t∉ds→g (rs.getD t .none)=g (S.r t)):uj g S rs ds=(List.range rs.length).map fun t=>g (S.r t):=by
 obtain⟨h1,h2⟩:=UD S ds rs;unfold uj;apply SL;intro t;simp only[cg];by_cases ht:t<rs.length
 ·have:=h2 t ht;rw[aG,bq (by omega)] at this;rw[bq (by omega),pD ht];simp only[jH,jI] at this ⊢;rw[this];by_cases hm:t∈ds
  ·simp[hm]
  ·simp only[hm,if_false];rw[h t hm]
 ·rw[qM (by omega),qM (by simpa using ht)];rfl
def Sh.hd {α:Type}(s:Sh)(k:Sh→α):α:=
 match s with
 |.none=>k .none
 |.dat t=>k (.dat t)
 |.obj j v=>k (.obj j v)
 |.ptr j v o=>k (.ptr j v o)
 |.eptr j v z o=>k (.eptr j v z o)
 |.opt gs s=>k (.opt gs s)
 |.yv=>k .yv
 |.fclo f c=>k (.fclo f c)
 |.agg l=>k (.agg l)
theorem Sh.hd_eq {α:Type}(s:Sh)(k:Sh→α):s.hd k=k s:=by cases s<;>rfl
def yN {α:Type}:List Sh→(List Sh→α)→α
 |[],k=>k []
 |s::l,k=>s.hd fun s=>yN l fun l=>k (s::l)
theorem Lz {α:Type}:∀(l:List Sh) (k:List Sh→α),yN l k=k l
 |[],_=>rfl
 |s::l,k=>by rw[yN,Sh.hd_eq,Lz l]
def Ob.hd {α:Type}(s:Ob)(k:Ob→α):α:=
 match s with
 |.dead=>k .dead
 |.fz t=>k (.fz t)
 |.fbox t=>k (.fbox t)
 |.box true l=>yN l fun l=>k (.box true l)
 |.box false l=>yN l fun l=>k (.box false l)
 |.row T e=>k (.row T e)
 |.mp a b=>k (.mp a b)
 |.it a b=>k (.it a b)
 |.tr=>k .tr
theorem Ob.hd_eq {α:Type}(s:Ob)(k:Ob→α):s.hd k=k s:=by
 cases s with
 |box ag l=>cases ag<;>simp only[Ob.hd,Lz]
 |_=>rfl
def GO {α:Type}:List Ob→(List Ob→α)→α
 |[],k=>k []
 |s::l,k=>s.hd fun s=>GO l fun l=>k (s::l)
theorem U1 {α:Type}:∀(l:List Ob) (k:List Ob→α),GO l k=k l
 |[],_=>rfl
 |s::l,k=>by rw[GO,Ob.hd_eq,U1 l]
def Snap.hard {α:Type}(s:Snap)(k:Snap→α):α:=yN s.rs fun a=>GO s.os fun b=>k ⟨a,b⟩
theorem Snap.hard_eq {α:Type}(s:Snap)(k:Snap→α):s.hard k=k s:=by rw[Snap.hard,Lz,U1]
def GP {α β:Type}:List β→(List β→α)→α
 |[],k=>k []
 |s::l,k=>GP l fun l=>k (s::l)
theorem U3 {α β:Type}:∀(l:List β) (k:List β→α),GP l k=k l
 |[],_=>rfl
 |s::l,k=>by rw[GP,U3 l]
def B9 {α β:Type}:List (List β)→(List (List β)→α)→α
 |[],k=>k []
 |s::l,k=>GP s fun s=>B9 l fun l=>k (s::l)
theorem U2 {α β:Type}:∀(l:List (List β)) (k:List (List β)→α),B9 l k=k l
 |[],_=>rfl
 |s::l,k=>by rw[B9,U3,U2 l]
def aA (P:Program){α:Type}(s:Sem α):Prop:=(∃a,∀w,s.run P w=.ok a w)∨∀w,∃h w',s.run P w=.halt h w'
section
variable {P:Program}
theorem aA.pure {α:Type}(a:α):aA P (Sem.pure a):=.inl ⟨a,fun w=>rfl⟩
theorem aA.pure' {α:Type}(a:α):aA P (Pure.pure a:Sem α):=.inl ⟨a,fun w=>rfl⟩
theorem aA.halt {α:Type}(h:Halt):aA P (Sem.halt h:Sem α):=.inr fun w=>⟨h,w,rfl⟩
theorem aA.bind' {α β:Type}{s:Sem α}{f:α→Sem β}(h:aA P s)(hf:∀a,(∀w,s.run P w=.ok a w)→aA P (f a)):aA P (s>>=f):=by
 rcases h with⟨a,ha⟩|hd
 ·rcases hf a ha with⟨b,hb⟩|hd
  ·exact .inl ⟨b,fun w=>by rw[Sem.run_bind,ha w];exact hb w⟩
  ·refine .inr fun w=>?_;obtain⟨x,w',e⟩:=hd w;exact⟨x,w',by rw[Sem.run_bind,ha w];exact e⟩
 ·refine .inr fun w=>?_;obtain⟨x,w',e⟩:=hd w;exact⟨x,w',by rw[Sem.run_bind,e];rfl⟩
theorem aA.bind {α β:Type}{s:Sem α}{f:α→Sem β}(h:aA P s)(hf:∀a,aA P (f a)):aA P (s>>=f):=h.bind' fun a _=>hf a
def bU {α:Type}(s:Sem α):Prop:=∀P w,∃h w',s.run P w=.halt h w'
theorem bU.noW {α:Type}{s:Sem α}(h:bU s):aA P s:=.inr (h P)
theorem bU.halt {α:Type}(h:Halt):bU (Sem.halt h:Sem α):=fun P w=>⟨h,w,rfl⟩
theorem bU.of_bind {α β:Type}{s:Sem α}{f:α→Sem β}(hf:∀a,bU (f a)):bU (s>>=f):=by
 intro P w;rw[Sem.run_bind];cases e:s.run P w with
 |ok a w'=>exact hf a P w'
 |halt h w'=>exact⟨h,w',rfl⟩
theorem aA.asBool (v:Value):aA P (Go.asBool v):=by
 cases v<;>first|exact .pure _|exact .halt _
theorem aA.asIntOf (v:Value):aA P (Go.asIntOf v):=by
 unfold Go.asIntOf;split<;>first|exact .pure _|exact .halt _
theorem aA.sureAddr (v:Value):aA P (Instr.sureAddr v):=by
 unfold Instr.sureAddr;split<;>first|exact .pure _|exact .halt _
theorem aA.prog:aA P Go.program:=.inl ⟨P,fun w=>rfl⟩
theorem aA.underlying (t:TypeId):aA P (Go.underlying t):=by
 unfold Go.underlying;refine .bind .prog fun p=>?_;split<;>first|exact .pure _|exact .halt _
theorem aA.sizeOf (t:TypeId):aA P (Go.sizeOf t):=by
 unfold Go.sizeOf Go.typeInfo;refine .bind (.bind .prog fun p=>?_) fun _=>.pure _;split<;>first|exact .pure _|exact .halt _
theorem bU.runtimePanic {α:Type}(e:RuntimeError):bU (Go.runtimePanic e:Sem α):=by
 unfold Go.runtimePanic;refine .of_bind fun p=>?_;cases e<;>first|exact .halt _|exact .of_bind fun _=>.halt _|exact .of_bind fun _=>.of_bind fun _=>.halt _
theorem bU.boundsPanic {α:Type}(k:IntKind)(x y:Int)(c:BoundsCode):bU (Go.boundsPanic k x y c:Sem α):=by
 unfold Go.boundsPanic;dsimp only;split<;>exact .of_bind fun _=>.runtimePanic _
theorem aA.indexAt (t:TypeId)(x i:Value):aA P (Instr.indexAt t x i):=by
 unfold Instr.indexAt
 repeat' (first|(first|exact aA.pure _|exact aA.pure' _|exact aA.halt _|exact bU.noW (bU.boundsPanic _ _ _ _)|exact bU.noW (bU.runtimePanic _)|exact aA.prog|exact aA.underlying _|exact aA.sizeOf _|exact aA.asIntOf _|exact aA.sureAddr _|exact aA.asBool _)|(refine aA.bind ?_ fun _=>?_)|dsimp only|split)
theorem aA.sliceBound (x:Value)(y:Nat)(c:BoundsCode):aA P (Instr.sliceBound x y c):=by
 unfold Instr.sliceBound
 repeat' (first|(first|exact aA.pure _|exact aA.pure' _|exact aA.halt _|exact bU.noW (bU.boundsPanic _ _ _ _)|exact bU.noW (bU.runtimePanic _)|exact aA.prog|exact aA.underlying _|exact aA.sizeOf _|exact aA.asIntOf _|exact aA.sureAddr _|exact aA.asBool _)|(refine aA.bind ?_ fun _=>?_)|dsimp only|split)
theorem aA.sliceBounds (b:Bool)(n m:Nat)(lo hi mx:Option Value):aA P (Instr.sliceBounds b n m lo hi mx):=by
 unfold Instr.sliceBounds
 repeat' (first|exact aA.sliceBound _ _ _|(first|exact aA.pure _|exact aA.pure' _|exact aA.halt _|exact bU.noW (bU.boundsPanic _ _ _ _)|exact bU.noW (bU.runtimePanic _)|exact aA.prog|exact aA.underlying _|exact aA.sizeOf _|exact aA.asIntOf _|exact aA.sureAddr _|exact aA.asBool _)|(refine aA.bind ?_ fun _=>?_)|dsimp only|split)
theorem aA.asAddr (v:Value):aA P (Go.asAddr v):=by
 unfold Go.asAddr
 repeat' (first|(first|exact aA.pure _|exact aA.pure' _|exact aA.halt _|exact bU.noW (bU.boundsPanic _ _ _ _)|exact bU.noW (bU.runtimePanic _)|exact aA.prog|exact aA.underlying _|exact aA.sizeOf _|exact aA.asIntOf _|exact aA.sureAddr _|exact aA.asBool _)|(refine aA.bind ?_ fun _=>?_)|dsimp only|split)
theorem aA.slice (t:TypeId)(x:Value)(lo hi mx:Option Value):aA P (Instr.slice t x lo hi mx):=by
 unfold Instr.slice
 repeat' (first|exact aA.sliceBounds _ _ _ _ _ _|exact aA.asAddr _|(first|exact aA.pure _|exact aA.pure' _|exact aA.halt _|exact bU.noW (bU.boundsPanic _ _ _ _)|exact bU.noW (bU.runtimePanic _)|exact aA.prog|exact aA.underlying _|exact aA.sizeOf _|exact aA.asIntOf _|exact aA.sureAddr _|exact aA.asBool _)|(refine aA.bind ?_ fun _=>?_)|dsimp only|split)
theorem aA.sliceAt (t:TypeId)(x:Value)(lo hi mx:Option Value):aA P (Instr.sliceAt t x lo hi mx):=by
 unfold Instr.sliceAt
 repeat' (first|exact aA.sliceBounds _ _ _ _ _ _|exact aA.slice _ _ _ _ _|(first|exact aA.pure _|exact aA.pure' _|exact aA.halt _|exact bU.noW (bU.boundsPanic _ _ _ _)|exact bU.noW (bU.runtimePanic _)|exact aA.prog|exact aA.underlying _|exact aA.sizeOf _|exact aA.asIntOf _|exact aA.sureAddr _|exact aA.asBool _)|(refine aA.bind ?_ fun _=>?_)|dsimp only|split)
def P8 (P:Program)(s:TypeId)(i:Nat):Bool:=
 match P.underlying s with
 |some (.struct fs)=>(match fs[i]? with
  |some f=>(match P.info? f.type with|some d=> !Nat.beq d.size 0|none=>false)
  |none=>false)
 |_=>false
theorem aA.fieldAt {s:TypeId}{i:Nat}(h:P8 P s i=true)(a:Value):aA P (Instr.fieldAt s a i):=by
 unfold Instr.fieldAt;refine .bind' (.underlying _) fun d hd=>?_;have hu:P.underlying s=some d:=by
  have:=hd default;unfold Go.underlying at this;rw[Sem.run_bind] at this;change Result.andThen (.ok P default) _=_ at this;simp only[Result.andThen_ok] at this;cases hp:P.underlying s with
  |none=>rw[hp] at this;cases this
  |some d'=>
   rw[hp] at this;change Result.ok d' default=_ at this;cases this;rfl
 unfold P8 at h;rw[hu] at h;cases d<;>dsimp only at h ⊢<;>try (first|exact aA.pure _|exact aA.pure' _|exact aA.halt _|exact bU.noW (bU.boundsPanic _ _ _ _)|exact bU.noW (bU.runtimePanic _)|exact aA.prog|exact aA.underlying _|exact aA.sizeOf _|exact aA.asIntOf _|exact aA.sureAddr _|exact aA.asBool _)
 rename_i fs;cases hf:fs[i]? with
 |none=>dsimp only;(first|exact aA.pure _|exact aA.pure' _|exact aA.halt _|exact bU.noW (bU.boundsPanic _ _ _ _)|exact bU.noW (bU.runtimePanic _)|exact aA.prog|exact aA.underlying _|exact aA.sizeOf _|exact aA.asIntOf _|exact aA.sureAddr _|exact aA.asBool _)
 |some f=>
  rw[hf] at h;dsimp only at h ⊢;refine .bind (.sureAddr _) fun a=>.bind ?_ fun _=>.pure _;unfold Go.fieldPlace;refine .bind' (.sizeOf _) fun n hn=>?_;have hz:n≠0:=by
   intro e;have:=hn default;unfold Go.sizeOf Go.typeInfo at this;cases hi:P.info? f.type with
   |none=>rw[hi] at h;cases h
   |some inf=>
    rw[hi] at h;rw[Sem.run_bind,Sem.run_bind] at this;change Result.andThen (Result.andThen (.ok P default) _) _=_ at this;simp only[Result.andThen_ok,hi] at this;change Result.ok inf.size default=_ at this;cases this;dsimp only at h;rw[e] at h;cases h
  rw[if_neg hz]
  (first|exact aA.pure _|exact aA.pure' _|exact aA.halt _|exact bU.noW (bU.boundsPanic _ _ _ _)|exact bU.noW (bU.runtimePanic _)|exact aA.prog|exact aA.underlying _|exact aA.sizeOf _|exact aA.asIntOf _|exact aA.sureAddr _|exact aA.asBool _)
def Dr (P:Program):Op→Bool
 |.move _=>true
 |.assign _=>true
 |.pick ..=>true
 |.fieldAddr s _ i=>P8 P s i
 |.indexAddr ..=>true
 |.slice ..=>true
 |_=>false
theorem amF {o:Oper}(hp:Dr P o.op=true)(ρ:Operand→Value):(∃v,∀w,(execOp ρ o).run P w=.ok (.value v) w)∨∀w,∃h w',(execOp ρ o).run P w=.halt h w':=by
 have key:∀s:Sem Value,aA P s→(∃v,∀w,(do Pure.pure (Next.value (←s)):Sem Next).run P w=.ok (.value v) w)∨∀w,∃h w',(do Pure.pure (Next.value (←s)):Sem Next).run P w=.halt h w':=by
  intro s hs;rcases hs with⟨a,ha⟩|hd
  ·exact .inl ⟨a,fun w=>by rw[Sem.run_bind,ha w];rfl⟩
  ·refine .inr fun w=>?_;obtain⟨x,w',e⟩:=hd w;exact⟨x,w',by rw[Sem.run_bind,e];rfl⟩
 obtain⟨dst,op,type,pos,after,guard⟩:=o;cases op<;>first|(cases hp;done)|skip
 case move x=>exact .inl ⟨_,fun w=>rfl⟩
 case assign x=>exact .inl ⟨_,fun w=>rfl⟩
 case pick c a b=>
  have:=key (do Pure.pure (if←Go.asBool (ρ c) then ρ a else ρ b)) (.bind (.asBool _) fun _=>.pure _);simp only[execOp];rcases aA.asBool (P:=P) (ρ c) with⟨t,ht⟩|hd
  ·exact .inl ⟨_,fun w=>by rw[Sem.run_bind,ht w];rfl⟩
  ·refine .inr fun w=>?_;obtain⟨x,w',e⟩:=hd w;exact⟨x,w',by rw[Sem.run_bind,e];rfl⟩
 case fieldAddr s x i=>exact key _ (.fieldAt hp _)
 case indexAddr t x i=>exact key _ (.indexAt _ _ _)
 case slice t x lo hi mx=>exact key _ (.sliceAt _ _ _ _ _)
theorem amG {rd:Option Nat}{ops:Array Oper}{i:Nat}{o:Oper}{a:Act}{w:World}{K:Act→World→Prop}(hi:ops[i]?=some o)(hp:Dr P o.op=true)
 (h:wpOpIn (FR rd) 0 P ops (fun _ _ _=>False) i K a w):∃v,YieldsFenced P ops o v a∧K (a.put o.dst v) w:=by
 have ba:∀c,o.op≠.defer c:=fun c e=>by rw[e] at hp;cases hp
 have yL:∀w,o.about P w a.eval=none:=fun w=>by
  unfold Oper.about;cases ho:o.op<;>first|rfl|(rw[ho] at hp;cases hp)
 unfold wpOpIn at h;rw[hi] at h;dsimp only at h;cases hw:Region.wanted o (yielded ops a.tmps) with
 |false=>
  rw[hw] at h;exact⟨undef,⟨.inr ⟨hw,rfl⟩,yL⟩,h.2⟩
 |true=>
  rw[hw,if_pos rfl] at h;have h2:=h.2;rw[Oper.semAt_eq _ _ _ ba] at h2;rcases amF hp a.eval with⟨v,hv⟩|hd
  ·rw[hv w] at h2;exact⟨v,⟨.inl ⟨hw,hv⟩,yL⟩,h2⟩
  ·obtain⟨x,w',e⟩:=hd w;rw[e] at h2;cases x<;>exact h2.elim
section
variable {F:Fence} {n:Nat} {ops:Array Oper} {Q:Exit→Act→World→Prop} {md:Region.Mode}
theorem YF.wpOpIn {i:Nat}{o:Oper}{v:Value}{a:Act}(ba:nu o.op=true)(hi:ops[i]?=some o)(hy:YieldsFenced P ops o v a)
 {K:Act→World→Prop} {w:World} (h:K (a.put o.dst v) w):wpOpIn F n P ops Q i K a w:=by
 have jv:∀c,o.op≠.defer c:=fun c e=>by rw[e] at ba;cases ba
 unfold Go.wpOpIn;simp only[hi];have yL:∀f,o.about P w a.eval=some f→F.fn f:=fun f hf=>by rw[hy.2 w] at hf;cases hf
 rcases hy.1 with⟨hw,hv⟩|⟨hw,rfl⟩
 ·simp only[hw,if_true,Oper.wpIn,Oper.semAt_eq _ _ _ jv,hv w,Oper.uponIn];exact⟨yL,h⟩
 ·simp only[hw,uB,if_false];exact⟨yL,h⟩
theorem aqC {j:Nat}{oi oj:Oper}{v:Value}(ba:nu oj.op=true)(hj:ops[j]?=some oj)(Ly:oi.apart ops oj=true)
 (hsi:∀cs b,oi.op≠.select cs b) (hsj:∀cs b,oj.op≠.select cs b)
 (hQ:∀c a w,Q (.panic c) (a.put oi.dst v) w→Q (.panic c) a w) {K:Act→World→Prop} {a:Act} {w:World}
 (hy:YieldsFenced P ops oi v a) (h:wpOpIn F n P ops Q j K (a.put oi.dst v) w):
 wpOpIn F n P ops Q j (fun a' w'=>YieldsFenced P ops oi v a'∧K (a'.put oi.dst v) w') a w:=by
 have jv:∀c,oj.op≠.defer c:=fun c e=>by rw[e] at ba;cases ba
 obtain⟨h1,h2,h3⟩:=Oper.apart_spec Ly;have keep:∀(a:Act),YieldsFenced P ops oi v a→∀u,YieldsFenced P ops oi v (a.put oj.dst u):=fun a hy u=>
  hy.of_same (execOp_put oi hsi a oj.dst u h3) (wanted_put oi a oj.dst u h3) (fun w=>about_put oi w a oj.dst u h3)
 have ajV:∀d,YieldsFenced P ops oi v {a with defers:=d::a.defers}:=fun d=>hy.of_same rfl rfl (fun _=>rfl);unfold Go.wpOpIn at*;simp only[hj] at*;rw[wanted_put oj a oi.dst v h1,about_put oj w a oi.dst v h1] at h;split
 ·rename_i hw;simp only[hw,if_true] at h;unfold Oper.wpIn at*;rw[about_put oj w a oi.dst v h1] at h;refine⟨h.1,?_⟩;have h:=h.2;rw[Oper.semAt_eq _ _ _ jv,execOp_put oj hsj a oi.dst v h1] at h;rw[Oper.semAt_eq _ _ _ jv];generalize (execOp a.eval oj).run P w=r at*;cases r with
  |ok x w'=>
   cases x<;>simp only[Oper.uponIn] at h ⊢
   case value u=>exact⟨keep a hy u,by rw[←Act.put_comm a v u h2];exact h⟩
   case skip=>exact⟨keep a hy _,by rw[←Act.put_comm a v undef h2];exact h⟩
   case defer d=>
        refine⟨keep _ (ajV d) _,?_⟩;rw[←Act.put_comm _ v undef h2,←Act.put_defers];exact h
   case enter f args=>
        refine⟨h.1,CallsIn.mono h.2 fun e j4 he=>?_⟩;cases e with
        |returned u=>exact⟨keep a hy u,by rw[←Act.put_comm a v u h2];exact he⟩
        |panicked c=>exact hQ _ _ _ he
        |outgrown=>exact he
   case row row args=>exact⟨h.1,RowsIn.mono h.2 fun u j4 he=>⟨keep a hy u,by rw[←Act.put_comm a v u h2];exact he⟩⟩
   case round l f tmps assign body=>
        refine⟨h.1,RoundIn.mono h.2 fun e j4 he=>?_⟩;cases e with
        |returned u=>exact⟨keep a hy u,by rw[←Act.put_comm a v u h2];exact he⟩
        |panicked c=>exact hQ _ _ _ he
        |outgrown=>exact he
  |halt x w'=>
   cases x<;>simp only[Oper.uponIn] at h ⊢
   case panic u=>exact hQ _ _ _ h
 ·rename_i hw;simp only[hw] at h;exact⟨h.1,keep a hy _,by rw[←Act.put_comm a v undef h2];exact h.2⟩
theorem aqB {i:Nat}{oi:Oper}{v:Value}(ba:∀(j:Nat) (o:Oper),ops[j]?=some o→nu o.op=true)(hi:ops[i]?=some oi)(y9:∀(j:Nat) (o:Oper) cs b,ops[j]?=some o→o.op≠.select cs b)
 (hQ:∀c a w,Q (.panic c) (a.put oi.dst v) w→Q (.panic c) a w):
 ∀(fuel:Nat) (listed:Array Bool) (a:Act) (w:World),
  (∀j oj,ops[j]?=some oj→j≠i→listed.getD j true=false→(∀e∈oj.after,Region.binds md e=true→e.on≠i)→oi.apart ops oj=true)→
  i∈Region.ready md ops listed→YieldsFenced P ops oi v a→
  wpAnyIn F n P md ops Q fuel (listed.setIfInBounds i true) (a.put oi.dst v) w→wpAnyIn F n P md ops Q (fuel+1) listed a w:=by
 intro fuel
 induction fuel with
 |zero=>
  intro listed a w _ hr hy H;refine⟨fun h=>(by rw[h] at hr;cases hr),fun j hj=>?_⟩;by_cases gP:j=i
  ·subst gP;exact YF.wpOpIn (ba _ _ hi) hi hy H
  ·have:=ready_mono hj gP;rw[H.1] at this;cases this
 |succ fuel ih=>
  intro listed a w mf hr hy H;refine⟨fun h=>(by rw[h] at hr;cases hr),fun j hj=>?_⟩;by_cases gP:j=i
  ·subst gP;exact YF.wpOpIn (ba _ _ hi) hi hy H
  ·have h1:=H.2 j (ready_mono hj gP);obtain⟨VA,oj,qa,aN⟩:=mem_ready.1 hj
   have Mi:∀e∈oj.after,Region.binds md e=true→e.on≠i:=fun e he hb heq=>by
        have h1:=aN e he hb;have h0:=(mem_ready.1 hr).1;rw[heq] at h1;rcases JT i listed.size with h'|h'
        ·simp[h'] at h0 h1;rw[h0] at h1;cases h1
        ·simp[Array.getElem?_eq_none h'] at h1
   have h2:=aqC (ba _ _ qa) qa (mf j oj qa gP VA Mi) (fun cs b=>y9 i oi cs b hi) (fun cs b=>y9 j oj cs b qa) hQ hy h1;have ahH:∀k ok,ops[k]?=some ok→k≠i→(listed.setIfInBounds j true).getD k true=false→
    (∀e∈ok.after,Region.binds md e=true→e.on≠i)→oi.apart ops ok=true:=fun k ok hk hki mq eZ=>by
        refine mf k ok hk hki ?_ eZ;by_cases G6:j=k
        ·subst G6;exact VA
        ·rw[getD_set_ne true G6] at mq;exact mq
   refine wpOpIn_mono (fun a' w' h3=>ih (listed.setIfInBounds j true) a' w' ahH (ready_mono hr (uH gP)) h3.1 ?_) h2;rw[Array.setIfInBounds_comm _ _ gP];exact h3.2
end
end
def qX (P:Program)(ops:Array Oper):List (Option (List Nat)):=(List.range ops.size).map fun i=>match ops[i]? with
 |some oi=>bif Dr P oi.op then some ((List.range ops.size).filter fun j=> !(Nat.beq j i||(match ops[j]? with|some oj=>(oj.after.toList.any fun e=>Region.binds .any e&&Nat.beq e.on i)||oi.apart ops oj|none=>true))) else none
 |none=>none
def Ao (bad:List (Option (List Nat)))(E:Nat):List Nat→Option Nat
 |[]=>none
 |i::l=>match bad.getD i none with
  |some b=>bif b.all (ar E) then some i else Ao bad E l
  |none=>Ao bad E l
def NB (ops:Array Oper):Bool:=ops.toList.all fun o=>match o.op with|.select ..=>false|_=>true
theorem Ji {bad:List (Option (List Nat))}{E:Nat}:∀{l:List Nat} {i:Nat},Ao bad E l=some i→i∈l∧∃b,bad.getD i none=some b∧b.all (ar E)=true
 |[],_,h=>by cases h
 |i::l,j,h=>by
  unfold Ao at h;split at h
  ·rename_i b hb;cases hc:b.all (ar E) with
   |true=>
    rw[hc] at h;cases h;exact⟨dp ..,b,hb,hc⟩
   |false=>
    rw[hc] at h;obtain⟨h1,h2⟩:=Ji h;exact⟨dk _ h1,h2⟩
  ·obtain⟨h1,h2⟩:=Ji h;exact⟨dk _ h1,h2⟩
theorem adn {P:Program}{ops:Array Oper}{i:Nat}{b:List Nat}(h:(qX P ops).getD i none=some b):∃oi,ops[i]?=some oi∧Dr P oi.op=true∧
 ∀j oj,ops[j]?=some oj→j≠i→j∉b→(∀e∈oj.after,Region.binds .any e=true→e.on≠i)→oi.apart ops oj=true:=by
 unfold qX at h;rw[aG,cg] at h;by_cases hi:i<ops.size
 ·rw[pD hi] at h;simp only[jI,jH] at h;rw[fj hi] at h;dsimp only at h;cases hp:Dr P ops[i].op<;>rw[hp] at h<;>simp only[cond_true,cond_false] at h
  ·cases h
  injection h with h
  refine⟨ops[i],fj hi,hp,fun j oj hj gP G5 eZ=>?_⟩;have af:j<ops.size:=(fX.1 hj).1;rw[←h] at G5;have h2:¬(!(Nat.beq j i||(match ops[j]? with|some oj=>(oj.after.toList.any fun e=>Region.binds .any e&&Nat.beq e.on i)||ops[i].apart ops oj|none=>true)))=true:=fun hc=>G5 (dO.2 ⟨bV.2 af,hc⟩);rw[hj,dY gP] at h2;simp only[pA,hZ,Bool.not_eq_false,fG] at h2;rcases h2 with h2|h2
  ·obtain⟨e,he,hb⟩:=uE.1 h2;rw[aj] at hb;exact absurd (cI hb.2) (eZ e (by simpa using he) hb.1)
  ·exact h2
 ·rw[qM (by simpa using hi)] at h;cases h
def CX (E:Nat)(T:Snap):List (Nat×Snap)→Option (List (Nat×Snap))
 |[]=>some [(E,T)]
 |x::l=>bif Nat.beq x.1 E then(bif x.2.beq T then some (x::l) else none) else(CX E T l).map (x::·)
def kZ (ops:Array Oper)(E:Nat):List Nat:=
 (List.range ops.size).filter fun i=> !ar E i&&(match ops[i]? with|some o=>o.after.toList.all fun e=> !Region.binds .any e||ar E e.on|none=>false)
def N9 (C:Ctx)(ops:Array Oper)(n:Nat)(ids:List Nat)(X:List (List PI))(nc:List (List Nat))(E:Nat)(T:Snap)(i:Nat):Option (Nat×Snap):=
 match ops[i]? with
 |some o=>(oc C (T.stO ids) ops o).bind fun r=>
  bif PI.beqs r.2 (X.getD i [])&&(nc.getD i []).all (ar E) then some (Nat.lor E (dz i),⟨uj (kr r.1) r.1 T.rs o.dst.toList,ids.map fun j=>gX r.1 (r.1.o j)⟩) else none
 |none=>none
def EF (one:Nat→Option (Nat×Snap)):List Nat→List (Nat×Snap)→Option (List (Nat×Snap))
 |[],acc=>some acc
 |i::l,acc=>(one i).bind fun x=>x.2.hard fun T=>(CX x.1 T acc).bind fun acc=>EF one l acc
def nY (ops:Array Oper)(bad:List (Option (List Nat)))(E:Nat):List Nat:=
 match Ao bad E (kZ ops E) with
 |some i=>[i]
 |none=>kZ ops E
def C6 (ops:Array Oper)(bad:List (Option (List Nat)))(one:Nat→Snap→Nat→Option (Nat×Snap)):List (Nat×Snap)→List (Nat×Snap)→Option (List (Nat×Snap))
 |[],acc=>some acc
 |x::l,acc=>
  match nY ops bad x.1 with
  |[]=>none
  |rs=>(EF (one x.1 x.2) rs acc).bind fun acc=>C6 ops bad one l acc
def Ez (ops:Array Oper)(bad:List (Option (List Nat)))(one:Nat→Snap→Nat→Option (Nat×Snap)):Nat→List (Nat×Snap)→Option Snap
 |0,L=>
  match L with
  |[x]=>bif (List.range ops.size).all (ar x.1) then some x.2 else none
  |_=>none
 |k+1,L=>(C6 ops bad one L []).bind fun L=>Ez ops bad one k L
theorem Ws {E:Nat}{T:Snap}:∀{l l':List (Nat×Snap)},CX E T l=some l'→(E,T)∈l'∧∀x,x∈l→x∈l'
 |[],l',h=>by simp only[CX,aQ] at h;subst h;simp
 |x::l,l',h=>by
  simp only[CX] at h;cases hb:Nat.beq x.1 E<;>simp only[hb,cond_true,cond_false] at h
  ·simp only[ax] at h;obtain⟨l2,h2,rfl⟩:=h;obtain⟨h3,h4⟩:=Ws h2;exact⟨dk _ h3,fun y hy=>(cM.1 hy).elim (fun e=>e▸dp ..) fun hm=>dk _ (h4 y hm)⟩
  ·cases hs:x.2.beq T<;>simp only[hs,cond_true,cond_false] at h
   ·cases h
   ·cases h;refine⟨?_,fun y hy=>hy⟩;have e1:=cI hb;have e2:=Snap.beq_eq _ _ hs;subst e1;subst e2;simp
theorem aaU {one:Nat→Option (Nat×Snap)}:∀{rs:List Nat} {acc AO:List (Nat×Snap)},EF one rs acc=some AO→(∀x,x∈acc→x∈AO)∧∀i,i∈rs→∃x,one i=some x∧x∈AO
 |[],acc,AO,h=>by simp only[EF,aQ] at h;subst h;simp
 |i::rs,acc,AO,h=>by
  simp only[EF,Snap.hard_eq,aq] at h;obtain⟨x,hx,acv,h1,h2⟩:=h;obtain⟨h3,h4⟩:=Ws h1;obtain⟨h5,h6⟩:=aaU h2;refine⟨fun y hy=>h5 y (h4 y hy),fun j hj=>?_⟩;rcases cM.1 hj with e|hm
  ·subst e;exact⟨x,hx,h5 _ h3⟩
  ·exact h6 j hm
theorem WO {ops:Array Oper}{bad:List (Option (List Nat))}{one:Nat→Snap→Nat→Option (Nat×Snap)}:∀{L acc L':List (Nat×Snap)},C6 ops bad one L acc=some L'→
 (∀x,x∈acc→x∈L')∧∀x,x∈L→nY ops bad x.1≠[]∧∀i,i∈nY ops bad x.1→∃y,one x.1 x.2 i=some y∧y∈L'
 |[],acc,L',h=>by simp only[C6,aQ] at h;subst h;simp
 |x::L,acc,L',h=>by
  simp only[C6] at h;split at h
  ·cases h
  ·rename_i ay;simp only[aq] at h;obtain⟨acv,h1,h2⟩:=h;obtain⟨h3,h4⟩:=aaU h1;obtain⟨h5,h6⟩:=WO h2;refine⟨fun y hy=>h5 y (h3 y hy),fun y hy=>?_⟩;rcases cM.1 hy with e|hm
   ·subst e;refine⟨fun e=>ay e,fun i hi=>?_⟩;obtain⟨z,hz,hm⟩:=h4 i hi;exact⟨z,hz,h5 z hm⟩
   ·exact h6 y hm
def ec (X:List (List PI))(l:List Nat)(E:Nat):List PI:=l.flatMap fun i=>bif ar E i then[] else X.getD i []
theorem PS {X:List (List PI)}{E E':Nat}:∀(l:List Nat),(∀i,i∈l→ar E i=ar E' i)→ec X l E=ec X l E'
 |[],_=>rfl
 |i::l,h=>by
  have ih:=PS (X:=X) l fun j hj=>h j (dk _ hj);unfold ec at ih ⊢;simp only[uF];rw[ih,h i (dp ..)]
theorem Foot.comm_each {a b:List PI}(h:(gN a).comm (gN b)=true):∀p q,p∈a→q∈b→Comm p q:=by
 simp only[Foot.comm,aj] at h;obtain⟨h1,h2,h3,h4,h5,h6⟩:=h;intro p q hp hq;obtain⟨p1,p2,p3,p4⟩:=UE hp;obtain⟨q1,q2,q3,q4⟩:=UE hq;exact⟨fun t x y=>Ni h1 (p1 t x) (q1 t y),fun t x y=>Ni h2 (p1 t x) (q3 t y),fun t x y=>Ni h3 (q1 t x) (p3 t y),fun t x y=>J7 h4 (p2 t x) (q2 t y),fun t x y=>J7 h5 (p2 t x) (q4 t y),fun t x y=>J7 h6 (q2 t x) (p4 t y)⟩
def oP (X:List (List PI))(N:Nat):List (List Nat):=
 (List.range N).map fun i=>(List.range i).filter fun j=> !(gN (X.getD j [])).comm (gN (X.getD i []))
theorem iV (E i j:Nat):ar (Nat.lor E (dz i)) j=(ar E j||Nat.beq i j):=by
 rw[eU]
 congr 1
 rw[q6];show(1<<<i).testBit j=_;rw[Nat.testBit_shiftLeft];by_cases h:i=j
 ·subst h;simp
 ·have h1:Nat.beq i j=false:=dY h;rw[h1];by_cases h2:i≤j
  ·have:j-i≠0:=by omega
   cases hk:j-i with
   |zero=>omega
   |succ k=>
    have:(1:Nat).testBit (k+1)=false:=by simp[Nat.testBit_succ]
    simp[this]
  ·simp[h2]
theorem aap {X:List (List PI)}{N E i:Nat}(hi:i<N)(hb:ar E i=false)(cO:((oP X N).getD i []).all (ar E)=true)(Φ:aK)(ρ:Env):
 PI.runs Φ (ec X (List.range N) E) ρ=(PI.runs Φ (X.getD i []) ρ).bind (PI.runs Φ (ec X (List.range N) (Nat.lor E (dz i)))):=by
 obtain⟨l1,l2,hl⟩:=SH (bV.2 hi);have hp:=List.pairwise_lt_range (n:=N);rw[hl,List.pairwise_append] at hp;obtain⟨_,gg,hp3⟩:=hp;rw[EZ] at gg;have W5:∀j,j∈l1→j<i:=fun j hj=>hp3 j hj i (dp ..);have lt2:∀j,j∈l2→i<j:=fun j hj=>gg.1 j hj;have e0:∀E,ec X (l1++i::l2) E=ec X l1 E++((bif ar E i then[] else X.getD i [])++ec X l2 E):=fun E=>by simp[ec]
 have e1:ec X l1 (Nat.lor E (dz i))=ec X l1 E:=PS l1 fun j hj=>by
  rw[iV,dY (by have:=W5 j hj;omega),sD]
 have e2:ec X l2 (Nat.lor E (dz i))=ec X l2 E:=PS l2 fun j hj=>by
  rw[iV,dY (by have:=lt2 j hj;omega),sD]
 have e3:ar (Nat.lor E (dz i)) i=true:=by rw[iV,gu,mN]
 rw[hl,e0,e0,e1,e2,e3,hb];simp only[cond_true,cond_false,sJ]
 have ahq:PI.runs Φ (ec X l1 E++X.getD i [])=PI.runs Φ (X.getD i []++ec X l1 E):=funext fun ρ=>PI.comms _ _ (fun p q hp hq=>by
  unfold ec at hp;obtain⟨j,hj,hp⟩:=j8.1 hp;cases ou:ar E j<;>simp only[ou,cond_true,cond_false] at hp
  case true=>cases hp
  have hc:(gN (X.getD j [])).comm (gN (X.getD i []))=true:=by
   cases iy:(gN (X.getD j [])).comm (gN (X.getD i [])) with
   |true=>rfl
   |false=>
    have oB:(oP X N).getD i []=(List.range i).filter fun j=> !(gN (X.getD j [])).comm (gN (X.getD i [])):=by
     unfold oP;rw[aG,cg,pD hi];rfl
    rw[oB] at cO;have:=bz.1 cO j (dO.2 ⟨bV.2 (W5 j hj),by rw[iy];rfl⟩);rw[ou] at this;cases this
  exact Foot.comm_each hc p q hp hq) ρ
 rw[←pC,nE,ahq];have:=nE (Φ:=Φ) (a:=X.getD i []) (b:=ec X l1 E) (ρ:=ρ);rw[this,Option.bind_assoc]
 congr 1
 funext ρ1;rw[nE]
def eP (C:Ctx)(ops:Array Oper):List Nat→St→Option (List (List PI))
 |[],_=>some []
 |i::l,S=>
  match ops[i]? with
  |some o=>(oc C S ops o).bind fun r=>(eP C ops l r.1).map fun q=>r.2::q
  |none=>none
def UN (ops:Array Oper):Bool:=(List.range ops.size).all fun i=>match ops[i]? with
 |some o=>(match o.guard with|some (j,_)=>Nat.blt j i|none=>true)
 |none=>true
def yG (ops:Array Oper):Bool:=ops.toList.all fun o=>match o.guard with
 |some (j,_)=>o.after.toList.any fun e=>Region.binds .any e&&Nat.beq e.on j
 |none=>true
def bt:Operand→List Nat
 |.tmp t=>[t]
 |_=>[]
def As:Option Operand→List Nat
 |some x=>bt x
 |none=>[]
def kR:Op→List Nat
 |.move x=>bt x
 |.assign x=>bt x
 |.unOp _ _ x=>bt x
 |.convert _ _ x=>bt x
 |.load _ x=>bt x
 |.fieldAddr _ x _=>bt x
 |.field _ x _=>bt x
 |.extract x _=>bt x
 |.nilCheck x=>bt x
 |.pick c x y=>bt c++bt x++bt y
 |.binOp _ _ x y _=>bt x++bt y
 |.indexAddr _ x i=>bt x++bt i
 |.index _ x i=>bt x++bt i
 |.lookup _ m k _=>bt m++bt k
 |.slice _ x lo hi _=>bt x++As lo++As hi
 |.build _ ps=>ps.toList.flatMap fun p=>bt p.2
 |.call c=>(match c.callee with|.value x=>bt x|_=>[])++c.args.toList.flatMap bt
 |.store _ x v=>bt x++bt v
 |.mapUpdate _ m k v=>bt m++bt k++bt v
 |_=>[]
def Gz (ops:Array Oper)(o:Oper):List Nat:=
 match o.guard with
 |some (j,_)=>(match(ops[j]?).bind (·.dst) with|some t=>[t]|none=>[])
 |none=>[]
def St.withR (S:St)(f:Nat→Sh):St:=⟨f,S.o,S.ver⟩
section
variable {C:Ctx} {S:St} {f:Nat→Sh} {gs:List (Nat×Bool)} {dst:Nat}
theorem Al {t:Nat}(h:f t=S.r t):j1 (S.withR f) gs t=j1 S gs t:=by
 have e:(S.withR f).r t=S.r t:=h;unfold j1;rw[e]
theorem sr {x:Operand}(h:∀t,t∈bt x→f t=S.r t):eE (S.withR f) gs x=eE S gs x:=by
 cases x<;>first|rfl|exact Al (h _ (qN.2 rfl))
theorem KO:∀(l:List Sh) (j:PE) (i:Nat),pK (S.withR f) j l i=pK S j l i
 |[],_,_=>rfl
 |s::l,j,i=>by simp only[pK];rw[KO l j (i+1)];rfl
theorem J5:∀(l:List AgC),uQ (S.withR f) l=uQ S l
 |[]=>rfl
 |.dat _::l=>J5 l
 |.obj j ver::l=>by simp only[uQ];rw[J5 l];rfl
theorem S8:∀(l:List Sh),sN (S.withR f) l=sN S l
 |[]=>rfl
 |s::l=>by simp only[sN];rw[S8 l];rfl
theorem dM {x:Operand}(h:∀t,t∈bt x→f t=S.r t):use C (S.withR f) gs x=use C S gs x:=by
 cases x<;>first|rfl|(unfold use;simp only;rw[Al (h _ (qN.2 rfl))];simp only[KO];rfl)
theorem abQ {x:Operand}(h:∀t,t∈bt x→f t=S.r t):view C (S.withR f) gs x=view C S gs x:=by
 unfold view;rw[dM h];cases x<;>first|rfl|(simp only;rw[Al (h _ (qN.2 rfl))];rfl)
theorem Si:∀{xs:List Operand},(∀t,t∈xs.flatMap bt→f t=S.r t)→j2 C (S.withR f) gs xs=j2 C S gs xs
 |[],_=>rfl
 |x::xs,h=>by
  simp only[j2]
  rw[dM fun t ht=>h t (j8.2 ⟨x,dp ..,ht⟩),Si fun t ht=>by
   obtain⟨y,hy,rK⟩:=j8.1 ht;exact h t (j8.2 ⟨y,dk _ hy,rK⟩)]
theorem aqs {x:Option Operand}(h:∀t,t∈As x→f t=S.r t):EK C (S.withR f) gs x=EK C S gs x:=by
 cases x with
 |none=>rfl
 |some x=>exact dM h
theorem aqq {e:PE}{x:Option Operand}(h:∀t,t∈As x→f t=S.r t):EJ C (S.withR f) gs e x=EJ C S gs e x:=by
 cases x with
 |none=>rfl
 |some x=>exact dM h
theorem qn:∀{xs:List Operand},(∀t,t∈xs.flatMap bt→f t=S.r t)→bJ (S.withR f) gs xs=bJ S gs xs
 |[],_=>rfl
 |x::xs,h=>by
  simp only[bJ]
  rw[sr fun t ht=>h t (j8.2 ⟨x,dp ..,ht⟩),qn fun t ht=>by
   obtain⟨y,hy,rK⟩:=j8.1 ht;exact h t (j8.2 ⟨y,dk _ hy,rK⟩)]
  simp only[J5];rfl
theorem jh {P:Nat→Prop}{a b:List Nat}(h:∀t,t∈a++b→P t):(∀t,t∈a→P t)∧∀t,t∈b→P t:=
 ⟨fun t ht=>h t (gJ _ ht),fun t ht=>h t (ia _ ht)⟩
theorem YR {x:Operand}(h:∀t,t∈bt x→f t=S.r t):oR C (S.withR f) gs dst x=oR C S gs dst x:=by
 unfold oR;rw[dM h];cases x<;>first|rfl|(simp only;rw[Al (h _ (qN.2 rfl))])
theorem al6 {c x y:Operand}(h:∀t,t∈bt c++bt x++bt y→f t=S.r t):zH C (S.withR f) gs dst c x y=zH C S gs dst c x y:=by
 obtain⟨h1,h3⟩:=jh h;obtain⟨h1,h2⟩:=jh h1;unfold zH;cases c<;>first|rfl|skip
 simp only;rw[Al (h1 _ (qN.2 rfl)),dM h2,dM h3]
theorem alF {op:BinOp}{T:TypeId}{x y:Operand}(h:∀t,t∈bt x++bt y→f t=S.r t):zw C (S.withR f) gs dst op T x y=zw C S gs dst op T x y:=by
 obtain⟨h1,h2⟩:=jh h;unfold zw;rw[dM h1,dM h2]
theorem amb {op:UnOp}{x:Operand}(h:∀t,t∈bt x→f t=S.r t):zJ C (S.withR f) gs dst op x=zJ C S gs dst op x:=by unfold zJ;rw[dM h]
theorem alJ {s d:TypeId}{x:Operand}(h:∀t,t∈bt x→f t=S.r t):zy C (S.withR f) gs dst s d x=zy C S gs dst s d x:=by unfold zy;rw[dM h]
theorem alW {T:TypeId}{x:Operand}(h:∀t,t∈bt x→f t=S.r t):zE C (S.withR f) gs dst T x=zE C S gs dst T x:=by unfold zE;rw[abQ h]
theorem YP {b:Bool}{x y:Operand}(h:∀t,t∈bt x++bt y→f t=S.r t):wk C (S.withR f) gs dst b x y=wk C S gs dst b x y:=by
 obtain⟨h1,h2⟩:=jh h;unfold wk;rw[dM h1,dM h2]
theorem alY {T:TypeId}{x:Operand}(h:∀t,t∈bt x→f t=S.r t):rQ C (S.withR f) gs dst T x=rQ C S gs dst T x:=by
 unfold rQ;rw[sr h,dM h];simp only[KO,S8];rfl
theorem alN {T:TypeId}{x:Operand}{i:Nat}(h:∀t,t∈bt x→f t=S.r t):zB C (S.withR f) gs dst T x i=zB C S gs dst T x i:=by
 unfold zB;rw[sr h,dM h];rfl
theorem alP {T:TypeId}{x:Operand}{i:Nat}(h:∀t,t∈bt x→f t=S.r t):zA C (S.withR f) gs dst T x i=zA C S gs dst T x i:=by unfold zA;rw[dM h]
theorem alS {T:TypeId}{x i:Operand}(h:∀t,t∈bt x++bt i→f t=S.r t):zD C (S.withR f) gs dst T x i=zD C S gs dst T x i:=by
 obtain⟨h1,h2⟩:=jh h;unfold zD;rw[dM h1,dM h2,sr h1];rfl
theorem alU {T:TypeId}{x i:Operand}(h:∀t,t∈bt x++bt i→f t=S.r t):zC C (S.withR f) gs dst T x i=zC C S gs dst T x i:=by
 obtain⟨h1,h2⟩:=jh h;unfold zC;rw[dM h1,dM h2]
theorem alL {x:Operand}{i:Nat}(h:∀t,t∈bt x→f t=S.r t):zz C (S.withR f) gs dst x i=zz C S gs dst x i:=by unfold zz;rw[dM h]
theorem al0 {T:TypeId}{m k:Operand}{ok:Bool}(h:∀t,t∈bt m++bt k→f t=S.r t):zF C (S.withR f) gs dst T m k ok=zF C S gs dst T m k ok:=by
 obtain⟨h1,h2⟩:=jh h;unfold zF;rw[abQ h1,dM h2]
theorem al9 {T:TypeId}{x:Operand}{lo hi mx:Option Operand}(h:∀t,t∈bt x++As lo++As hi→f t=S.r t):zI C (S.withR f) gs dst T x lo hi mx=zI C S gs dst T x lo hi mx:=by
 obtain⟨h1,h3⟩:=jh h;obtain⟨h1,h2⟩:=jh h1;unfold zI;rw[dM h1];simp only[aqs h2,aqq h3]
theorem TB {zs:List Value}{parts:List (Nat×Operand)}(h:∀t,t∈(parts.flatMap fun p=>bt p.2)→f t=S.r t):∀(fs:List Field) (i off:Nat),ka C (S.withR f) gs zs parts fs i off=ka C S gs zs parts fs i off
 |[],_,_=>rfl
 |g::fs,i,off=>by
  simp only[ka,TB h fs];cases hp:parts.find? (fun p=>Nat.beq p.1 i) with
  |none=>rfl
  |some p=>
   have hu:∀ft,rR C (S.withR f) gs ft p.2=rR C S gs ft p.2:=fun ft=>by
        unfold rR;rw[dM fun t ht=>h t (j8.2 ⟨p,uG hp,ht⟩),sr fun t ht=>h t (j8.2 ⟨p,uG hp,ht⟩)];rfl
   simp only[hu]
theorem alH {T:TypeId}{ps:List (Nat×Operand)}(h:∀t,t∈(ps.flatMap fun p=>bt p.2)→f t=S.r t):zx C (S.withR f) gs dst T ps=zx C S gs dst T ps:=by
 unfold zx;simp only[TB h];split
 ·rfl
 ·split
  ·split
   ·rename_i x y;rw[dM (x:=x) fun t ht=>h t (by simp[ht]),dM (x:=y) fun t ht=>h t (by simp[ht])]
   ·rfl
  ·rfl
 ·rfl
theorem al4 {x:Operand}(h:∀t,t∈bt x→f t=S.r t):zG C (S.withR f) gs dst x=zG C S gs dst x:=by
 unfold zG;rw[dM h];cases x<;>first|rfl|(simp only;rw[Al (h _ (qN.2 rfl))];rfl)
def l9:Op→Bool
 |.move _|.pick ..|.binOp ..|.unOp ..|.convert ..|.load ..|.fieldAddr ..|.field ..|.indexAddr ..|.index ..|.extract ..|.lookup ..|.slice ..|.build ..|.nilCheck _|.makeInterface ..|.call _=>true
 |_=>false
theorem YT {op:Op}(hq:l9 op=true)(h:∀t,t∈kR op→f t=S.r t):nv C (S.withR f) gs dst op=nv C S gs dst op:=by
 cases op<;>simp only[l9] at hq<;>simp only[kR] at h<;>simp only[nv]
 case move=>exact YR h
 case pick=>exact al6 h
 case binOp=>exact alF h
 case unOp=>exact amb h
 case convert=>exact alJ h
 case load=>exact alY h
 case fieldAddr=>exact alN h
 case field=>exact alP h
 case indexAddr=>exact alS h
 case index=>exact alU h
 case extract=>exact alL h
 case lookup=>exact al0 h
 case slice=>exact al9 h
 case build=>exact alH h
 case nilCheck=>exact al4 h
 case call c=>
  obtain⟨_,h2⟩:=jh h;split
  ·rename_i x T _ ha _;exact alW fun t ht=>h2 t (by rw[ha];simp[ht])
  ·rename_i x y _ ha;exact YP fun t ht=>h2 t (by rw[ha];simpa using ht)
  ·rename_i x y _ ha;exact YP fun t ht=>h2 t (by rw[ha];simpa using ht)
  ·rfl
 all_goals (cases hq;done)
theorem amy {op:Op}(h:∀t,t∈kR op→f t=S.r t)(hq:l9 op=true):rU (S.withR f) gs op=rU S gs op:=by
 cases op<;>simp only[l9] at hq<;>simp only[kR] at h<;>simp only[rU]
 case build T ps=>exact qn fun t ht=>h t (by
  obtain⟨x,hx,M3⟩:=j8.1 ht;obtain⟨p,hp,rfl⟩:=dP.1 hx;exact j8.2 ⟨p,hp,M3⟩)
 case pick c x y=>
  obtain⟨h1,h3⟩:=jh h;obtain⟨h1,h2⟩:=jh h1;refine qn fun t ht=>?_;simp only[uF,SN,lZ,dy] at ht;exact ht.elim (h2 t) (h3 t)
 case slice T x lo hi mx=>
  obtain⟨h1,h3⟩:=jh h;obtain⟨h1,h2⟩:=jh h1;exact qn fun t ht=>h1 t (by simpa using ht)
 all_goals first|rfl|(cases hq;done)
theorem amz {op:Op}(h:∀t,t∈kR op→f t=S.r t)(hq:l9 op=true):pre C (S.withR f) gs op=pre C S gs op:=by
 have vE:=hq;cases op<;>simp only[l9] at hq<;>simp only[pre,amy h vE]
 case load T x=>simp only[kR] at h;rw[sr h];rfl
 all_goals first|(cases hq;done)|skip
theorem agH {ops:Array Oper}{o:Oper}(h:∀t,t∈Gz ops o→f t=S.r t):ot (S.withR f) ops o=ot S ops o:=by
 unfold ot;cases hg:o.guard with
 |none=>rfl
 |some jw=>
  obtain⟨j,want⟩:=jw;simp only;cases ht:(ops[j]?).bind (·.dst) with
  |none=>rfl
  |some t=>
   simp only;have:(S.withR f).r t=S.r t:=h t (by unfold Gz;rw[hg];simp[ht]);rw[this]
end
def tS (C:Ctx)(c:Callee):Bool:=
 match c with
 |.value (.func f)=>(match C.sig f with|some s=>s.res.pure|none=>false)
 |_=>false
def BW (C:Ctx)(S:St)(gs:List (Nat×Bool))(dst:Nat)(op:Op):Option (Sh×List PI):=
 match op with
 |.assign x=>
  match gs with
  |[]=>bif C.fr.any (Nat.beq dst)&&(bJ S [] [x]).isEmpty then(match oR C S [] dst x with|some r=>bif mu r.1 then some r else none|none=>none) else none
  |_=>none
 |.call c=>
  match nv C S gs dst (.call c) with
  |some r=>bif ql r.1&&iY gs (some dst) r.2 then some (iX gs r.1,r.2) else none
  |none=>
   bif (bJ S gs c.args.toList).isEmpty||tS C c.callee then
    match c.callee with
    |.value (.func f)=>(match oe C S gs dst f c.args.toList with|some r=>bif iY gs (some dst) r.2.2 then some (iX gs r.2.1,r.2.2) else none|none=>none)
    |.value x=>(match mW C S gs dst x c.args.toList with|some r=>bif iY gs (some dst) r.2.2 then some (iX gs r.2.1,r.2.2) else none|none=>none)
    |_=>none
   else none
 |op=>bif l9 op&&(pre C S gs op).isEmpty then(match nv C S gs dst op with|some r=>bif ql r.1&&iY gs (some dst) r.2 then some (iX gs r.1,r.2) else none|none=>none) else none
def BX (C:Ctx)(S:St)(gs:List (Nat×Bool))(op:Op):Option (List PI):=
 match op,gs with
 |.store T x v,[]=>
  match eE S [] x with
  |.eptr ..=>bif (bJ S [] [v]).isEmpty then(sT C S T x v).map (·.2) else none
  |_=>none
 |.mapUpdate T m k v,[]=>bif (bJ S [] [k,v]).isEmpty then(q9 C S T m k v).map (·.2) else none
 |.panic _,[]=>some [.chk (.nt (.con (.bool true)))]
 |_,_=>none
def sY (C:Ctx)(S:St)(ops:Array Oper)(o:Oper):Option (Sh×List PI):=
 match C.yl with
 |some _=>none
 |none=>(ot S ops o).bind fun gs=>
  match o.dst with
  |some dst=>BW C S gs dst o.op
  |none=>(BX C S gs o.op).map fun l=>(.none,l)
def mK (S:St)(o:Oper)(s:Sh):St:=match o.dst with|some d=>S.setR d s|none=>S
section
variable {C:Ctx} {S:St} {f:Nat→Sh} {gs:List (Nat×Bool)} {dst:Nat}
theorem agu (j:Nat):(S.withR f).fz j=(S.fz j).withR f:=by
 unfold St.fz St.withR;simp only;split<;>rfl
theorem UG:∀(js:List Nat) {S:St},(S.withR f).fzs js=(S.fzs js).withR f
 |[],_=>rfl
 |j::js,S=>by
  show((S.withR f).fz j).fzs js=((S.fz j).fzs js).withR f;rw[agu,UG js]
theorem aeH {g:Nat}{xs:List Operand}(h:∀t,t∈xs.flatMap bt→f t=S.r t):
 (match oe C (S.withR f) gs dst g xs with|some r=>bif iY gs (some dst) r.2.2 then some (iX gs r.2.1,r.2.2) else none|none=>none)=(match oe C S gs dst g xs with|some r=>bif iY gs (some dst) r.2.2 then some (iX gs r.2.1,r.2.2) else none|none=>none):=by
 have ho:=qn (gs:=gs) h;unfold oe;generalize (C.sig g).bind (Bv C.fr dst)=q;cases q with
 |none=>rfl
 |some s=>
  simp only[jG];cases s.mode<;>first|rfl|skip
  simp only[ho,UG];rw[Si (S:=S.fzs (bJ S gs xs)) (f:=f) (fun t ht=>by rw[(mY _ S).2];exact h t ht)];cases j2 C (S.fzs (bJ S gs xs)) gs xs with
  |none=>rfl
  |some u=>
   simp only[jG];cases Ty.subs u.1 s.args<;>rfl
theorem aey {x:Operand}{xs:List Operand}(hx:∀t,t∈bt x→f t=S.r t)(h:∀t,t∈xs.flatMap bt→f t=S.r t)(he:(bJ S gs xs).isEmpty=true):
 (match mW C (S.withR f) gs dst x xs with|some r=>bif iY gs (some dst) r.2.2 then some (iX gs r.2.1,r.2.2) else none|none=>none)=(match mW C S gs dst x xs with|some r=>bif iY gs (some dst) r.2.2 then some (iX gs r.2.1,r.2.2) else none|none=>none):=by
 have ho:=qn (gs:=gs) h;have oA:=sG.1 he;unfold mW;rw[dM hx];cases use C S gs x with
 |none=>rfl
 |some y=>
  obtain⟨ty,e⟩:=y;cases ty with
  |fn aa r=>
   simp only;cases jA aa r with
   |some _=>rfl
   |none=>
    simp only[ho,oA,St.fzs,List.foldl_nil,Si h];cases j2 C S gs xs with
    |none=>rfl
    |some u=>
     simp only[jG];cases Ty.subs u.1 aa<;>rfl
  |_=>rfl
theorem afz {op:Op}(h:∀t,t∈kR op→f t=S.r t):BW C (S.withR f) gs dst op=BW C S gs dst op:=by
 have other:∀op,(∀t,t∈kR op→f t=S.r t)→(bif l9 op&&(pre C (S.withR f) gs op).isEmpty then(match nv C (S.withR f) gs dst op with|some r=>bif ql r.1&&iY gs (some dst) r.2 then some (iX gs r.1,r.2) else none|none=>none) else none)=
  (bif l9 op&&(pre C S gs op).isEmpty then(match nv C S gs dst op with|some r=>bif ql r.1&&iY gs (some dst) r.2 then some (iX gs r.1,r.2) else none|none=>none) else none):=by
  intro op h;cases hq:l9 op with
  |false=>rfl
  |true=>rw[amz h hq,YT hq h]
 unfold BW;split
 ·rename_i x;simp only[kR] at h;rw[YR h,qn (xs:=[x]) fun t ht=>h t (by simpa using ht)]
 ·rename_i c;have h':=h;simp only[kR] at h';obtain⟨h1,h2⟩:=jh h';rw[YT (op:=.call c) rfl h,qn h2];split
  ·rfl
  ·cases he:(bJ S gs c.args.toList).isEmpty||tS C c.callee with
   |false=>rfl
   |true=>
    simp only[cond_true];split
    ·exact aeH h2
    ·rename_i x hx hc;have hp:tS C c.callee=false:=by
         rw[hc];unfold tS;cases x<;>first|rfl|exact absurd rfl (hx _)
     exact aey (fun t ht=>h1 t (by rw[hc];exact ht)) h2 (by rw[hp,sD] at he;exact he)
    ·rfl
 ·exact other _ h
theorem afA {op:Op}(h:∀t,t∈kR op→f t=S.r t):BX C (S.withR f) gs op=BX C S gs op:=by
 unfold BX;split
 ·rename_i T x v;simp only[kR] at h;obtain⟨h1,h2⟩:=jh h;rw[sr h1,qn (xs:=[v]) fun t ht=>h2 t (by simpa using ht)];split
  ·rename_i j ver size off fw;cases(bJ S [] [v]).isEmpty with
   |false=>rfl
   |true=>
    simp only[cond_true];unfold sT;rw[sr h1,dM h2,fw];simp only;have eo:(S.withR f).o=S.o:=rfl;have ev:(S.withR f).ver=S.ver:=rfl;rw[eo,ev];cases C.P.info? T with
    |none=>rfl
    |some inf=>
     simp only;cases Nat.beq ver (S.ver j) with
     |false=>rfl
     |true=>
      simp only[cond_true];cases S.o j with
      |row T' e0=>
       cases use C S [] v with
       |none=>cases e0<;>rfl
       |some y=>
        obtain⟨t,e⟩:=y;cases e0<;>simp only<;>(generalize (_&&_:Bool)=b;cases b<;>rfl)
      |_=>rfl
  ·rfl
 ·rename_i T m k v;simp only[kR] at h;obtain⟨h1,h3⟩:=jh h;obtain⟨h1,h2⟩:=jh h1
  rw[qn (xs:=[k,v]) fun t ht=>by
   simp only[uF,SN,lZ,dy] at ht;exact ht.elim (h2 t) (h3 t)]
  cases(bJ S [] [k,v]).isEmpty with
  |false=>rfl
  |true=>
   simp only[cond_true];unfold q9;rw[sr h1,dM h2,dM h3];have eo:(S.withR f).o=S.o:=rfl;have ev:(S.withR f).ver=S.ver:=rfl;rw[eo,ev];cases C.P.underlying T with
   |none=>rfl
   |some desc=>
    cases desc with
    |map K E=>
     cases eE S [] m with
     |obj j ver=>
      simp only;cases Nat.beq ver (S.ver j) with
      |false=>rfl
      |true=>
       simp only[cond_true];cases S.o j with
       |mp kt et=>
        cases use C S [] k with
        |none=>rfl
        |some y=>
         cases use C S [] v with
         |none=>rfl
         |some z=>
          obtain⟨tk,ek⟩:=y;obtain⟨tv,ev⟩:=z;simp only;generalize (_&&_:Bool)=b;cases b<;>rfl
       |_=>rfl
     |_=>rfl
    |_=>rfl
 ·rfl
 ·rfl
theorem afC {ops:Array Oper}{o:Oper}(h:∀t,t∈kR o.op++Gz ops o→f t=S.r t):sY C (S.withR f) ops o=sY C S ops o:=by
 obtain⟨h1,h2⟩:=jh h;unfold sY;rw[agH h2];split
 ·rfl
 ·cases ot S ops o with
  |none=>rfl
  |some gs=>
   simp only[jG];split
   ·exact afz h1
   ·rw[afA h1]
theorem anx {S:St}{t:Nat}{s:Sh}(h:S.r t=s)(hs:mu s=true):wP S t t=some (S,[]):=by
 unfold wP;rw[h];cases s<;>first|rfl|cases hs
theorem afB {ops:Array Oper}{o:Oper}{q:Sh×List PI}(h:sY C S ops o=some q):oc C S ops o=some (mK S o q.1,q.2):=by
 unfold sY at h;split at h
 case h_1=>cases h
 rename_i jT;simp only[aq] at h;obtain⟨gs,dC,h⟩:=h;have hY:yq C S ops o=none:=by
  unfold yq;rw[jT];split<;>first|rfl|(rename_i hx;cases hx;done)|(rename_i hx _;cases hx;done)
 have fin:∀{S':St},pre C S gs o.op++oU C S gs o=[]→core C S gs o=some (S',q.2)→jq C (post C S' o) S'=some (S',[])→iY gs o.dst q.2=true→oc C S ops o=some (S',q.2):=by
  intro S' h1 h2 h3 h4;unfold oc yp Bt;rw[hY,dC];simp only[jG,h1,jq,h2,h3,h4,cond_true,sJ,lZ]
 cases hd:o.dst with
 |some dst=>
  simp only[hd] at h;have cC:mK S o q.1=S.setR dst q.1:=by unfold mK;rw[hd]
  rw[cC];unfold BW at h;split at h
  ·rename_i x bK;split at h
   case h_2=>cases h
   cases hb:(C.fr.any (Nat.beq dst)&&(bJ S [] [x]).isEmpty)<;>simp only[hb,cond_true,cond_false] at h
   ·cases h
   simp only[aj] at hb;split at h
   case h_2=>cases h
   rename_i r hr;cases Vg:mu r.1<;>simp only[Vg,cond_true,cond_false] at h
   ·cases h
   cases h;have he:=sG.1 hb.2;refine fin ?_ ?_ ?_ rfl
   ·rw[bK];unfold oU;rw[bK,hd];simp only[hb.1,he,cond_true,pre,rU,EY,lZ]
   ·unfold core;rw[hd];simp only[bK,nv,hb.1,cond_true,hr]
   ·unfold post;rw[bK,hd];simp only[jq,Gh.run];rw[anx (s:=q.1) (by simp[St.setR,aJ]) Vg];rfl
  ·rename_i c bK;have Mx:pre C S gs o.op++oU C S gs o=[]:=by
        rw[bK];unfold oU;rw[bK];simp[pre,rU]
   have jQ:∀S':St,jq C (post C S' o) S'=some (S',[]):=fun S'=>by
        unfold post;rw[bK];rfl
   split at h
   ·rename_i r hr;cases hb:(ql r.1&&iY gs (some dst) r.2)<;>simp only[hb,cond_true,cond_false] at h
    ·cases h
    cases h;simp only[aj] at hb;refine fin Mx ?_ (jQ _) (by rw[hd];exact hb.2);unfold core;rw[hd];simp only[bK,hr,hb.1,cond_true]
   ·rename_i hr;cases he:(bJ S gs c.args.toList).isEmpty||tS C c.callee<;>simp only[he,cond_true,cond_false] at h
    ·cases h
    have sfz:∀b:Bool,(bJ S gs c.args.toList).isEmpty=true∨b=true→(bif b then S else S.fzs (bJ S gs c.args.toList))=S:=fun b hb=>by
     rcases hb with hb|rfl
     ·rw[sG.1 hb];cases b<;>rfl
     ·rfl
    split at h
    ·rename_i f hc;split at h
     case h_2=>cases h
     rename_i r dD;cases hb:iY gs (some dst) r.2.2<;>simp only[hb,cond_true,cond_false] at h
     ·cases h
     cases h;refine fin Mx ?_ (jQ _) (by rw[hd];exact hb);have hS:r.1=S:=by
      simp only[oe,aq] at dD;obtain⟨s,⟨s0,hs,oH⟩,dD⟩:=dD;split at dD
      case h_2=>cases dD
      simp only[aq] at dD;obtain⟨u,hu,dD⟩:=dD;cases bM:Ty.subs u.1 s.args<;>simp only[bM,cond_true,cond_false] at dD
      ·cases dD
      cases dD;refine sfz _ ?_;have CL:s.res=s0.res:=by
       unfold Bv at oH;split at oH
       ·revert oH
        generalize (_&&_:Bool)=b;intro oH;cases b<;>simp only[cond_true,cond_false,aQ] at oH<;>rw[←oH]
       ·simp only[aQ] at oH;rw[←oH]
      rw[hc] at he;simp only[tS,hs,fG] at he;rw[CL];exact he
     unfold core;rw[hd];simp only[bK,hr,hc,dD,hS]
    ·rename_i x Hh hc;split at h
     case h_2=>cases h
     rename_i r dD;cases hb:iY gs (some dst) r.2.2<;>simp only[hb,cond_true,cond_false] at h
     ·cases h
     cases h;refine fin Mx ?_ (jQ _) (by rw[hd];exact hb);have hS:r.1=S:=by
      unfold mW at dD;split at dD
      case h_2=>cases dD
      rename_i aa r0 e MT;split at dD
      case h_1=>cases dD
      simp only[aq] at dD;obtain⟨u,hu,dD⟩:=dD;cases bM:Ty.subs u.1 aa<;>simp only[bM,cond_true,cond_false] at dD
      ·cases dD
      cases dD;refine sfz _ (.inl ?_);have hp:tS C c.callee=false:=by
       rw[hc];unfold tS;cases x<;>first|rfl|exact absurd rfl (Hh _)
      rw[hp,sD] at he;exact he
     unfold core;rw[hd];simp only[bK,hr,hc];cases x with
     |func f=>exact absurd rfl (Hh f)
     |_=>simp only[dD,hS]
    ·cases h
  ·rename_i VM cO;cases hb:(l9 o.op&&(pre C S gs o.op).isEmpty)<;>simp only[hb,cond_true,cond_false] at h
   ·cases h
   simp only[aj] at hb;split at h
   case h_2=>cases h
   rename_i r hr;cases bT:(ql r.1&&iY gs (some dst) r.2)<;>simp only[bT,cond_true,cond_false] at h
   ·cases h
   cases h;simp only[aj] at bT;have cQ:oU C S gs o=[]:=by
        unfold oU;split
        ·rename_i x t e _;exact absurd e (VM x)
        ·rfl
   have jQ:∀S':St,jq C (post C S' o) S'=some (S',[]):=fun S'=>by
        have:post C S' o=[]:=by
         unfold post;split
         ·rename_i x t e _;exact absurd e (VM x)
         ·rename_i T t e _;rw[e] at hb;simp[l9] at hb
         ·rename_i T x v e;rw[e] at hb;simp[l9] at hb
         ·rfl
        rw[this];rfl
   refine fin (by rw[cQ,sG.1 hb.2];rfl) ?_ (jQ _) (by rw[hd];exact bT.2);unfold core;rw[hd];simp only[hr,bT.1,cond_true]
 |none=>
  simp only[hd,ax] at h;obtain⟨l,h,rfl⟩:=h;have cC:mK S o (.none:Sh)=S:=by unfold mK;rw[hd]
  show oc C S ops o=some (mK S o .none,l);rw[cC];have cQ:oU C S gs o=[]:=by unfold oU;rw[hd];split<;>first|rfl|(rename_i hx;cases hx)
  unfold BX at h;split at h
  ·rename_i T x v bK;split at h
   case h_2=>cases h
   rename_i j ver size off fw;cases he:(bJ S [] [v]).isEmpty<;>simp only[he,cond_true,cond_false] at h
   ·cases h
   simp only[ax] at h;obtain⟨r,hr,rfl⟩:=h;have hS:r.1=S:=by
        unfold sT at hr;split at hr
        case h_2=>cases hr
        rw[fw] at hr;simp only at hr;cases hv:Nat.beq ver (S.ver j)<;>simp only[hv,cond_true,cond_false] at hr
        ·cases hr
        split at hr
        ·revert hr;generalize (_&&_:Bool)=b;intro hr;cases b<;>simp only[cond_true,cond_false] at hr<;>cases hr;rfl
        ·revert hr;generalize (_&&_:Bool)=b;intro hr;cases b<;>simp only[cond_true,cond_false] at hr<;>cases hr;rfl
        ·cases hr
   refine fin ?_ ?_ ?_ rfl
   ·rw[cQ,bK];simp only[pre,rU,fw,sG.1 he,EY,lZ]
   ·unfold core;rw[hd];simp only[bK,hr];rw[←hS]
   ·unfold post;rw[bK];simp only[fw];rfl
  ·rename_i T m k v bK;cases he:(bJ S [] [k,v]).isEmpty<;>simp only[he,cond_true,cond_false] at h
   ·cases h
   simp only[ax] at h;obtain⟨r,hr,rfl⟩:=h;have hS:r.1=S:=by
        unfold q9 at hr;split at hr
        ·rename_i K _ j ver _ _;cases hv:Nat.beq ver (S.ver j)<;>simp only[hv,cond_true,cond_false] at hr
         ·cases hr
         split at hr
         ·revert hr;generalize (_&&_:Bool)=b;intro hr;cases b<;>simp only[cond_true,cond_false] at hr<;>cases hr;rfl
         ·cases hr
        ·cases hr
   refine fin ?_ ?_ ?_ rfl
   ·rw[cQ,bK];simp only[pre,rU,sG.1 he,EY,lZ]
   ·unfold core;rw[hd];simp only[bK,hr];rw[←hS]
   ·unfold post;rw[bK];rfl
  ·rename_i x bK;cases h;refine fin ?_ ?_ ?_ rfl
   ·rw[cQ,bK];rfl
   ·unfold core;rw[hd];simp only[bK]
   ·unfold post;rw[bK];rfl
  ·cases h
end
def fg (ops:Array Oper)(shs:List Sh)(l:List Nat)(f:Nat→Sh):Nat→Sh:=
 l.foldl (fun f i=>match(ops[i]?).bind (·.dst) with|some d=>bN f d (shs.getD i .none)|none=>f) f
def yB (C:Ctx)(S:St)(ops:Array Oper):Nat→Option (List (Sh×List PI))
 |0=>some []
 |k+1=>(yB C S ops k).bind fun q=>match ops[k]? with
  |some o=>(sY C (S.withR (fg ops (q.map (·.1)) (List.range k) S.r)) ops o).map fun r=>q++[r]
  |none=>none
def dq (ops:Array Oper):Nat→List Nat
 |0=>[]
 |k+1=>dq ops k++[match ops[k]? with
  |some o=>o.after.toList.foldr (fun e m=>bif Region.binds .any e then Nat.lor (Nat.lor (dz e.on) ((dq ops k).getD e.on 0)) m else m) 0
  |none=>0]
def aah (ops:Array Oper)(o:Oper):List Nat:=kR o.op++Gz ops o
def UA (ops:Array Oper)(nc:List (List Nat))(clo:List Nat)(i:Nat):Bool:=
 match ops[i]? with
 |some o=>(nc.getD i []).all (ar (clo.getD i 0))&&(o.after.toList.all fun e=> !Region.binds .any e||Nat.blt e.on i)&&
   (aah ops o).all fun t=>(List.range ops.size).all fun j=>match(ops[j]?).bind (·.dst) with
     |some d=> !Nat.beq d t||((Nat.blt j i&&ar (clo.getD i 0) j)||ar (clo.getD j 0) i)
     |none=>true
 |none=>false
def Gw (ops:Array Oper)(i:Nat):Bool:=match ops[i]? with|some o=>o.after.toList.all fun e=> !Region.binds .any e||Nat.blt e.on i|none=>false
def BY (ops:Array Oper)(nc:List (List Nat))(clo:List Nat)(m:Nat):Bool:=(List.range m).all (UA ops nc clo)&&(List.range ops.size).all (Gw ops)
def nH (clo:List Nat):Nat→Nat
 |0=>0
 |k+1=>bif (List.range k).all (ar (clo.getD k 0)) then nH clo k else k+1
theorem aaX (clo:List Nat):∀k,nH clo k≤k
 |0=>aW _
 |k+1=>by
  unfold nH;cases(List.range k).all (ar (clo.getD k 0)) with
  |true=>exact Nat.le_succ_of_le (aaX clo k)
  |false=>exact aW _
theorem aaW (clo:List Nat):∀k i,nH clo k≤i→i<k→∀j,j<i→ar (clo.getD i 0) j=true
 |0,i,_,h=>by omega
 |k+1,i,h1,h2=>by
  unfold nH at h1;cases hb:(List.range k).all (ar (clo.getD k 0)) with
  |true=>
   rw[hb] at h1;by_cases e:i=k
   ·subst e;exact fun j hj=>bz.1 hb j (bV.2 hj)
   ·exact aaW clo k i h1 (by omega)
  |false=>rw[hb] at h1;simp only[cond_false] at h1;omega
def UB (C:Ctx)(ops:Array Oper)(S:St):Option (St×List PI):=
 (yB C S ops (nH (dq ops ops.size) ops.size)).bind fun q=>
    bif BY ops (oP (q.map (·.2)) (nH (dq ops ops.size) ops.size)) (dq ops ops.size) (nH (dq ops ops.size) ops.size) then
     (mU C ops (List.range' (nH (dq ops ops.size) ops.size) (ops.size-nH (dq ops ops.size) ops.size)) (S.withR (fg ops (q.map (·.1)) (List.range (nH (dq ops ops.size) ops.size)) S.r))).map fun r=>(r.1,(q.map (·.2)).flatten++r.2)
    else none
theorem I9 (ops:Array Oper)(shs:List Sh)(i:Nat)(l:List Nat)(f:Nat→Sh):fg ops shs (i::l) f=fg ops shs l (match(ops[i]?).bind (·.dst) with|some d=>bN f d (shs.getD i .none)|none=>f):=rfl
theorem EB {ops:Array Oper}{shs:List Sh}{t:Nat}:∀{l:List Nat} {f:Nat→Sh},(∀i,i∈l→(ops[i]?).bind (·.dst)≠some t)→fg ops shs l f t=f t
 |[],_,_=>rfl
 |i::l,f,h=>by
  rw[I9,EB fun j hj=>h j (dk _ hj)];have:=h i (dp ..);cases hd:(ops[i]?).bind (·.dst) with
  |none=>rfl
  |some d=>exact bf _ _ (fun e=>this (by rw[hd,e]))
def JV (ops:Array Oper):Prop:=∀(i j t:Nat),(ops[i]?).bind (·.dst)=some t→(ops[j]?).bind (·.dst)=some t→i=j
theorem I8 {ops:Array Oper}(ho:JV ops){shs:List Sh}{t i:Nat}(ht:(ops[i]?).bind (·.dst)=some t):∀{l:List Nat} {f:Nat→Sh},i∈l→fg ops shs l f t=shs.getD i .none
 |[],_,h=>nomatch h
 |j::l,f,h=>by
  rw[I9];by_cases hl:i∈l
  ·exact I8 ho ht hl
  ·have e:i=j:=(cM.1 h).resolve_right hl;subst e;rw[EB fun k hk e=>hl (by rw[ho i k t ht e];exact hk),ht];exact aJ _ _ _
theorem aaN {ops:Array Oper}(ho:JV ops){shs P5:List Sh}{l m:List Nat}{f:Nat→Sh}{t:Nat}(h1:∀i,(ops[i]?).bind (·.dst)=some t→(i∈l↔i∈m))(h2:∀i,i∈l→(ops[i]?).bind (·.dst)=some t→shs.getD i .none=P5.getD i .none):fg ops shs l f t=fg ops P5 m f t:=by
 by_cases hh:∃i,i∈l∧(ops[i]?).bind (·.dst)=some t
 ·obtain⟨i,hi,ht⟩:=hh;rw[I8 ho ht hi,I8 ho ht ((h1 i ht).1 hi),h2 i hi ht]
 ·rw[EB fun i hi e=>hh ⟨i,hi,e⟩,EB fun i hi e=>hh ⟨i,(h1 i e).2 hi,e⟩]
theorem alD {ops:Array Oper}(h:(ops.toList.filterMap (·.dst)).Nodup):JV ops:=by
 intro i j t hi hj;rw[aq] at hi hj;obtain⟨oi,h1,h2⟩:=hi;obtain⟨oj,h3,h4⟩:=hj;by_cases e:i=j
 ·exact e
 ·exact(uZ.dst_once h h1 h3 h2 h4 e).elim
theorem Li {C:Ctx}{S:St}{ops:Array Oper}:∀{k:Nat} {q:List (Sh×List PI)},yB C S ops k=some q→q.length=k∧∀i,i<k→∃o,ops[i]?=some o∧
 sY C (S.withR (fg ops (q.map (·.1)) (List.range i) S.r)) ops o=some ((q.map (·.1)).getD i .none,(q.map (·.2)).getD i [])
 |0,q,h=>by simp only[yB,aQ] at h;subst h;exact⟨rfl,fun i hi=>by omega⟩
 |k+1,q,h=>by
  simp only[yB,aq] at h;obtain⟨p,hp,h⟩:=h;split at h
  case h_2=>cases h
  rename_i o ho;simp only[ax] at h;obtain⟨r,hr,rfl⟩:=h;obtain⟨l1,aN⟩:=Li hp;have same:∀i,i≤k→fg ops ((p++[r]).map (·.1)) (List.range i) S.r=fg ops (p.map (·.1)) (List.range i) S.r:=by
   intro i hi;have key:∀(l:List Nat) (f:Nat→Sh),(∀j,j∈l→j<p.length)→fg ops ((p++[r]).map (·.1)) l f=fg ops (p.map (·.1)) l f:=by
    intro l
    induction l with
    |nil=>intro f _;rfl
    |cons j l ih=>
     intro f hl;have hj:=hl j (dp ..);have e:((p++[r]).map (·.1)).getD j .none=(p.map (·.1)).getD j .none:=by
       rw[nO,aG,jF (by simpa using hj),←aG]
     rw[I9,I9,e,ih _ fun m hm=>hl m (dk _ hm)]
   exact key _ _ fun j hj=>by have:=bV.1 hj;omega
  refine⟨by simp[l1],fun i hi=>?_⟩;by_cases e:i=k
  ·subst e;refine⟨o,ho,?_⟩;rw[same i (aW _),hr];have e1:((p++[r]).map (·.1)).getD i .none=r.1:=by
    rw[nO,aG,kE (by simp[l1])];simp[l1]
   have e2:((p++[r]).map (·.2)).getD i []=r.2:=by
    rw[nO,aG,kE (by simp[l1])];simp[l1]
   rw[e1,e2]
  ·obtain⟨o',h1,h2⟩:=aN i (by omega);refine⟨o',h1,?_⟩;rw[same i (by omega),h2];have:i<p.length:=by omega
   simp only[nO,aG];rw[jF (by simpa using this),jF (by simpa using this)]
theorem Gg (ops:Array Oper):∀k,(dq ops k).length=k
 |0=>rfl
 |k+1=>by simp[dq,Gg ops k]
theorem TQ (ops:Array Oper){k m i:Nat}(h:i<k)(hm:k≤m):(dq ops m).getD i 0=(dq ops k).getD i 0:=by
 induction m with
 |zero=>omega
 |succ m ih=>
  by_cases e:k=m+1
  ·rw[e]
  ·rw[←ih (by omega)];simp only[dq,aG];rw[jF (by rw[Gg];omega)]
theorem Gi {ops:Array Oper}{N i m:Nat}{o:Oper}(hi:i<N)(ho:ops[i]?=some o)(af:(o.after.toList.all fun e=> !Region.binds .any e||Nat.blt e.on i)=true)(h:ar ((dq ops N).getD i 0) m=true):
 ∃e,e∈o.after.toList∧Region.binds .any e=true∧(m=e.on∨ar ((dq ops N).getD e.on 0) m=true):=by
 rw[TQ ops (k:=i+1) (by omega) (by omega)] at h
 have e1:(dq ops (i+1)).getD i 0=o.after.toList.foldr (fun e m=>bif Region.binds .any e then Nat.lor (Nat.lor (dz e.on) ((dq ops i).getD e.on 0)) m else m) 0:=by
  simp only[dq,aG];rw[kE (by rw[Gg];exact aW _),Gg];simp[ho]
 rw[e1] at h;have aN:=bz.1 af;generalize o.after.toList=l at h aN
 induction l with
 |nil=>rw[q6] at h;simp at h
 |cons e l ih=>
  simp only[List.foldr_cons] at h;cases hb:Region.binds .any e<;>rw[hb] at h<;>simp only[cond_true,cond_false] at h
  ·obtain⟨e',h1,h2⟩:=ih h (fun x hx=>aN x (dk _ hx));exact⟨e',dk _ h1,h2⟩
  ·rw[eU,eU,fG,fG] at h;have oE:e.on<i:=by
        have:=aN e (dp ..);rw[hb] at this;simpa [ic] using this
   rcases h with(h|h)|h
   ·refine⟨e,dp ..,hb,.inl ?_⟩;have:=iV 0 e.on m;have z:ar 0 m=false:=by rw[q6];simp
    rw[eU,z,pA,pA,h] at this;exact(cI this.symm).symm
   ·refine⟨e,dp ..,hb,.inr ?_⟩;rw[TQ ops oE (by omega)];exact h
   ·obtain⟨e',h1,h2⟩:=ih h (fun x hx=>aN x (dk _ hx));exact⟨e',dk _ h1,h2⟩
section
variable {C:Ctx} {S:St} {ρ:Env} {σ:Im} {own:Nat→Option Nat} {hv:Nat→Value} {w0:World} {σ0:Base} {A:Nat→Prop} {a:Act} {w:World} {n:Nat} {ids:List Nat} {Φ:aK}
theorem aai {ops:Array Oper}{listed:Array Bool}{E:Nat}(aC:listed.size=ops.size)(hl:∀i,listed.getD i false=ar E i)(i:Nat):i∈Region.ready .any ops listed↔i∈kZ ops E:=by
 unfold Region.ready kZ;simp only[dO,bV];refine and_congr_right fun hi=>?_;have h1:listed.getD i true=ar E i:=by
  rw[←hl i];simp only[dH];rw[fj (by omega)];rfl
 have h2:ops[i]?=some ops[i]:=fj hi;rw[h1,h2];simp only[jI,jH,←Ss,hl]
def ui (ops:Array Oper)(E:Nat):Nat→Prop:=fun t=>∃i o,ar E i=true∧ops[i]?=some o∧o.dst=some t
def qE (ops:Array Oper)(E:Nat):Nat:=((List.range ops.size).filter fun i=> !ar E i).length
theorem aqj {ops:Array Oper}{E i:Nat}(hi:i<ops.size)(hb:ar E i=false):qE ops E=qE ops (Nat.lor E (dz i))+1:=by
 unfold qE;obtain⟨l1,l2,hl⟩:=SH (bV.2 hi);have ba:=JP (n:=ops.size);rw[hl,AL] at ba;obtain⟨_,h2,h3⟩:=ba;rw[l0] at h2;have g1:∀j,j∈l1→j≠i:=fun j hj=>h3 j hj i (dp ..);have g2:∀j,j∈l2→j≠i:=fun j hj e=>h2.1 (e▸hj)
 have c:∀l:List Nat,(∀j,j∈l→j≠i)→(l.filter fun j=> !ar (Nat.lor E (dz i)) j)=l.filter fun j=> !ar E j:=by
  intro l hl;apply SM;intro j hj;rw[iV,dY (fun e=>hl j hj e.symm),sD]
 have cU:ar (Nat.lor E (dz i)) i=true:=by rw[iV,gu,mN]
 rw[hl];simp only[JI,List.filter_cons,c l1 g1,c l2 g2,hb,cU,qL,Bool.not_false,if_true,uB,if_false,kF,pE];omega
theorem afE {rd:Option Nat}(hC:CtxOK C σ0)(aV:de C)(hΦ:cL C Φ)(hY:nU C Φ w0 σ0){a0:Act}(Md:a0.tmps.size=n){ops:Array Oper}(au:qy n ops=true)(eY:yG ops=true){m:Nat}(hm:m≤ops.size){q:List (Sh×List PI)}(hq:yB C S ops m=some q)
 (tt:BY ops (oP (q.map (·.2)) m) (dq ops ops.size) m=true) (zc:∀i,m≤i→i<ops.size→∀j,j<i→ar ((dq ops ops.size).getD i 0) j=true) {Q:Exit→Act→World→Prop} {ρ':Env}
 (hK:∀listed a' w',listed.size=ops.size→(∀i,listed.getD i false=decide (i<m))→SameBut (pO ops) a0 a'→Good C w0 σ0 (S.withR (fg ops (q.map (·.1)) (List.range m) S.r)) ρ' (la ops (List.range m)) a' w'→wpAnyIn (FR rd) 0 C.P .any ops Q (ops.size-m) listed a' w'):
 ∀(k E:Nat) (listed:Array Bool) (ρ:Env) (a:Act) (w:World),qE ops E=k→(∀j,ar E j=true→j<m)→(∀j,j<ops.size→ar E j=true→∀m,ar ((dq ops ops.size).getD j 0) m=true→ar E m=true)→listed.size=ops.size→(∀i,listed.getD i false=ar E i)→SameBut (pO ops) a0 a→
  Good C w0 σ0 (S.withR (fg ops (q.map (·.1)) ((List.range m).filter (ar E)) S.r)) ρ (ui ops E) a w→PI.runs Φ (ec (q.map (·.2)) (List.range m) E) ρ=some ρ'→wpAnyIn (FR rd) 0 C.P .any ops Q k listed a w:=by
 have Hj:=au;simp only[qy,aj] at au;have ba:=kQ au.1;have Mr:=alD ba;obtain⟨hlen,aN⟩:=Li hq;unfold BY at tt;rw[aj] at tt
 have B7:∀i,i<ops.size→∀o,ops[i]?=some o→(o.after.toList.all fun e=> !Region.binds .any e||Nat.blt e.on i)=true:=by
  intro i hi o ho;have:=bz.1 tt.2 i (bV.2 hi);unfold Gw at this;rw[ho] at this;exact this
 have aiE:∀i,i<m→∀o,ops[i]?=some o→((oP (q.map (·.2)) m).getD i []).all (ar ((dq ops ops.size).getD i 0))=true∧
  ∀t,t∈aah ops o→∀j,j<ops.size→(ops[j]?).bind (·.dst)=some t→(j<i∧ar ((dq ops ops.size).getD i 0) j=true)∨ar ((dq ops ops.size).getD j 0) i=true:=by
  intro i hi o ho;have:=bz.1 tt.1 i (bV.2 hi);unfold UA at this;rw[ho] at this;simp only[aj] at this;refine⟨this.1.1,fun t ht j hj hd=>?_⟩;have:=bz.1 (bz.1 this.2 t ht) j (bV.2 hj);rw[hd] at this;simp only[gu,qL,pA,fG,aj,ic] at this;exact this
 have Tc:∀(k E:Nat) (listed:Array Bool) (ρ:Env) (a:Act) (w:World),(∀i,i<m→ar E i=true)→qE ops E=k→(∀j,ar E j=true→j<m)→listed.size=ops.size→(∀i,listed.getD i false=ar E i)→SameBut (pO ops) a0 a→
  Good C w0 σ0 (S.withR (fg ops (q.map (·.1)) ((List.range m).filter (ar E)) S.r)) ρ (ui ops E) a w→PI.runs Φ (ec (q.map (·.2)) (List.range m) E) ρ=some ρ'→wpAnyIn (FR rd) 0 C.P .any ops Q k listed a w:=by
  intro k E listed ρ a w iw hk vC aC hl hn hg ah;have hb:∀i,ar E i=decide (i<m):=by
   intro i;by_cases h:i<m
   ·rw[iw i h,decide_eq_true h]
   ·rw[decide_eq_false h];cases hb:ar E i with
    |false=>rfl
    |true=>exact absurd (vC i hb) h
  have LP:ec (q.map (·.2)) (List.range m) E=[]:=by
   unfold ec;rw[ach];intro i hi;rw[iw i (bV.1 hi)];rfl
  rw[LP] at ah;simp only[PI.runs,aQ] at ah;subst ah;have ahp:qE ops E=ops.size-m:=by
   unfold qE
   have key:∀N,m≤N→((List.range N).filter fun i=> !ar E i).length=N-m:=by
        intro N
        induction N with
        |zero=>intro _;simp
        |succ N ih=>
         intro hN;rw[List.range_succ,JI,kF];by_cases h:m≤N
         ·rw[ih h];simp[hb N,Nat.not_lt.2 h];omega
         ·have:m=N+1:=by omega
          have e:(List.range N).filter (fun i=> !ar E i)=[]:=by
           rw[List.filter_eq_nil_iff];intro i hi;rw[iw i (by have:=bV.1 hi;omega)];simp
          have hN':ar E N=true:=iw N (by omega);rw[e];simp[hN'];omega
   exact key _ hm
  have ef:(List.range m).filter (ar E)=List.range m:=List.filter_eq_self.2 fun i hi=>iw i (bV.1 hi);rw[ef] at hg;have oI:ui ops E=la ops (List.range m):=by
   funext t;apply propext;constructor
   ·rintro⟨i,o,h1,h2,h3⟩;exact⟨i,o,bV.2 (vC i h1),h2,h3⟩
   ·rintro⟨i,o,h1,h2,h3⟩;exact⟨i,o,iw i (bV.1 h1),h2,h3⟩
  rw[oI] at hg;rw[←hk,ahp];exact hK listed a w aC (fun i=>by rw[hl i,hb i]) hn hg
 intro k
 induction k with
 |zero=>
  intro E listed ρ a w hk vC GS aC hl hn hg ah;refine Tc 0 E listed ρ a w (fun i hi=>?_) hk vC aC hl hn hg ah;cases hb:ar E i with
  |true=>rfl
  |false=>
   have:i∈(List.range ops.size).filter fun i=> !ar E i:=dO.2 ⟨bV.2 (by omega),by rw[hb];rfl⟩;unfold qE at hk;rw[List.length_eq_zero_iff.1 hk] at this;cases this
 |succ k ih=>
  intro E listed ρ a w hk vC GS aC hl hn hg ah;by_cases iw:∀i,i<m→ar E i=true
  ·exact Tc (k+1) E listed ρ a w iw hk vC aC hl hn hg ah
  refine⟨fun he=>?_,fun i hi=>?_⟩
  ·
   obtain⟨i,hi,aim⟩:∃i,(i<m∧ar E i=false)∧∀j,j<i→ar E j=true:=by
        have hex:∃i,i<m∧ar E i=false:=by
         refine AG fun eZ=>iw fun i hi=>?_;cases hb:ar E i with
         |true=>rfl
         |false=>exact absurd ⟨i,hi,hb⟩ eZ
        obtain⟨i,hi⟩:=hex
        induction i using Nat.strongRecOn with
        |ind i lF=>
         by_cases hh:∃j,j<i∧ar E j=false
         ·obtain⟨j,hj,hb⟩:=hh;exact lF j hj ⟨by omega,hb⟩
         ·refine⟨i,hi,fun j hj=>?_⟩;cases hb:ar E j with
          |true=>rfl
          |false=>exact absurd ⟨j,hj,hb⟩ hh
   have m5:i<ops.size:=by omega
   have ho:ops[i]?=some ops[i]:=fj m5;have cV:i∈kZ ops E:=by
        unfold kZ;simp only[dO,bV,aj,hZ,ho];refine⟨m5,hi.2,?_⟩;rw[bz];intro e gA;have:=bz.1 (B7 i m5 _ ho) e gA;cases hb:Region.binds .any e with
        |false=>rfl
        |true=>
         rw[hb] at this;simp only[qL,pA,ic] at this;rw[aim _ this];rfl
   rw[←aai aC hl,he] at cV;cases cV
  ·rw[aai aC hl] at hi;unfold kZ at hi;simp only[dO,bV,aj,hZ] at hi;obtain⟨br,cW,tg⟩:=hi;have VQ:ops[i]?=some ops[i]:=fj br;generalize ops[i]=o at VQ;have ho:=VQ;rw[ho] at tg;simp only at tg;have o2:=B7 i br o ho;have yS:∀m,ar ((dq ops ops.size).getD i 0) m=true→ar E m=true:=by
        intro m hm;obtain⟨e,jr,kf,LO⟩:=Gi br ho o2 hm;have hE:ar E e.on=true:=by
         have:=bz.1 tg e jr
         rwa [kf,qL,pA] at this
        rcases LO with rfl|LO
        ·exact hE
        ·have oE:e.on<i:=by
          have:=bz.1 o2 e jr;rw[kf] at this;simpa [ic] using this
         exact GS e.on (by omega) hE m LO
   have kh:i<m:=by
        refine AG fun eZ=>iw fun j hj=>?_;exact yS j (zc i (by omega) br j (by omega))
   obtain⟨o',dQ,jt⟩:=aN i kh;rw[ho] at dQ;cases dQ;obtain⟨o1,o3⟩:=aiE i kh o ho;have cO:((oP (q.map (·.2)) m).getD i []).all (ar E)=true:=by
        rw[bz] at o1 ⊢;exact fun m hm=>yS m (o1 m hm)
   have ahs:sY C (S.withR (fg ops (q.map (·.1)) ((List.range m).filter (ar E)) S.r)) ops o=some ((q.map (·.1)).getD i .none,(q.map (·.2)).getD i []):=by
        rw[←jt];refine afC (S:=S.withR (fg ops (q.map (·.1)) (List.range i) S.r)) fun t ht=>?_;refine aaN Mr (fun j hj=>?_) (fun _ _ _=>rfl);have fN:j<ops.size:=by
         rw[aq] at hj;obtain⟨oj,h1,_⟩:=hj;exact(fX.1 h1).1
        rw[dO,bV,bV];rcases o3 t ht j fN hj with⟨h1,h2⟩|h1
        ·exact⟨fun _=>h1,fun _=>⟨by omega,yS j h2⟩⟩
        ·constructor
         ·rintro⟨_,ou⟩;have:=GS j fN ou i h1;rw[cW] at this;cases this
         ·intro gP;exfalso;have key:∀m j,j<ops.size→ar ((dq ops ops.size).getD j 0) m=true→m<j:=by
           intro m j
           induction j using Nat.strongRecOn with
           |ind j lF=>
            intro hj hm;have qa:ops[j]?=some ops[j]:=fj hj;have p2:=B7 j hj _ qa;obtain⟨e,e1,e2,e3⟩:=Gi hj qa p2 hm;have oE:e.on<j:=by
                have:=bz.1 p2 e e1;rw[e2] at this;simpa [ic] using this
            rcases e3 with rfl|e3
            ·exact oE
            ·have:=lF e.on oE (by omega) e3;omega
          have:=key i j fN h1;omega
   have hcp:=afB ahs;rw[aap kh cW cO,aq] at ah;obtain⟨ρ1,hρ1,hρ2⟩:=ah;have p5:∀d,o.dst=some d→¬ui ops E d∧d<a.tmps.size:=by
        intro d hd;refine⟨fun⟨i',o',cU,dQ,fp⟩=>?_,?_⟩
        ·have ay:i'≠i:=fun e=>by subst e;rw[cW] at cU;cases cU
         exact uZ.dst_once ba dQ ho fp hd ay
        ·have:=bz.1 au.2 o (by simpa using gI ho);simp only[hd,aj] at this;rw[hn.size,Md];simpa [ic] using this.2
   have jv:nu o.op=true:=by
        have:=bz.1 au.2 o (by simpa using gI ho);simp only[aj] at this;exact this.1
   have hj:∀j want t,o.guard=some (j,want)→(ops[j]?).bind (·.dst)=some t→ui ops E t:=by
        intro j want t jO ht;rw[aq] at ht;obtain⟨oj,h1,h2⟩:=ht;have tj:=bz.1 eY o (by simpa using gI ho);simp only[jO] at tj;obtain⟨e,jr,kf⟩:=uE.1 tj;simp only[aj] at kf;have h3:=bz.1 tg e jr;rw[kf.1] at h3;simp only[qL,pA] at h3;exact⟨j,oj,by rw[←cI kf.2];exact h3,h1,h2⟩
   have aho:∀j,j<ops.size→ar (Nat.lor E (dz i)) j=true→∀m,ar ((dq ops ops.size).getD j 0) m=true→ar (Nat.lor E (dz i)) m=true:=by
        intro j hj ou m hm;rw[iV,fG] at ou;rw[iV,fG];rcases ou with ou|ou
        ·exact .inl (GS j hj ou m hm)
        ·rw[←cI ou] at hm;exact .inl (yS m hm)
   have main:=Gj (rd:=rd) (K:=wpAnyIn (FR rd) 0 C.P .any ops Q k (listed.setIfInBounds i true)) (Q:=Q) hg hC aV hΦ hY jv p5 hj hcp hρ1 (fun a' w' fq qf=>by
        have hA:(fun u=>ui ops E u∨o.dst=some u)=ui ops (Nat.lor E (dz i)):=by
         funext u;apply propext;constructor
         ·rintro(⟨i',o',h1,h2,h3⟩|h1)
          ·exact⟨i',o',by rw[iV,h1,xc],h2,h3⟩
          ·exact⟨i,o,by rw[iV,gu,mN],ho,h1⟩
         ·rintro⟨i',o',h1,h2,h3⟩;rw[iV,fG] at h1;rcases h1 with h1|h1
          ·exact .inl ⟨i',o',h1,h2,h3⟩
          ·rw[←cI h1,ho] at h2;cases h2;exact .inr h3
        rw[hA] at fq;have hSt:mK (S.withR (fg ops (q.map (·.1)) ((List.range m).filter (ar E)) S.r)) o ((q.map (·.1)).getD i .none)=S.withR (fg ops (q.map (·.1)) ((List.range m).filter (ar (Nat.lor E (dz i)))) S.r):=by
         have ahK:∀t,(mK (S.withR (fg ops (q.map (·.1)) ((List.range m).filter (ar E)) S.r)) o ((q.map (·.1)).getD i .none)).r t=fg ops (q.map (·.1)) ((List.range m).filter (ar (Nat.lor E (dz i)))) S.r t:=by
          intro t;by_cases GX:o.dst=some t
          ·have hb:(ops[i]?).bind (·.dst)=some t:=by rw[ho];exact GX
           rw[I8 Mr hb (dO.2 ⟨bV.2 kh,by rw[iV,gu,mN]⟩)];unfold mK;rw[GX];simp[St.setR,aJ]
          ·have e1:(mK (S.withR (fg ops (q.map (·.1)) ((List.range m).filter (ar E)) S.r)) o ((q.map (·.1)).getD i .none)).r t=fg ops (q.map (·.1)) ((List.range m).filter (ar E)) S.r t:=by
            unfold mK;split
            ·rename_i d hd;exact bf _ _ (fun e=>GX (by rw[hd,e]))
            ·rfl
           rw[e1];refine aaN Mr (fun j hj=>?_) (fun _ _ _=>rfl);have gP:¬i=j:=fun e=>by subst e;rw[ho] at hj;exact GX hj
           rw[dO,dO,iV,dY gP,sD]
         have:∀(X Y:St),X.o=Y.o→X.ver=Y.ver→(∀t,X.r t=Y.r t)→X=Y:=by
          intro X Y h1 h2 h3;cases X;cases Y;simp only at h1 h2 h3;subst h1 h2
          congr 1
          exact funext h3
         refine this _ _ ?_ ?_ ahK
         ·unfold mK;split<;>rfl
         ·unfold mK;split<;>rfl
        rw[hSt] at fq;refine ih _ _ ρ1 a' w' (by have:=aqj br cW;omega) (fun j hj=>by rw[iV,fG] at hj;rcases hj with hj|hj;exact vC j hj;rw[←cI hj];exact kh) aho (by simpa using aC) (fun j=>?_) (hn.trans (qf.mono fun t e=>⟨o,by simpa using gI ho,e⟩)) fq hρ2;rw[iV];simp only[dH,uz];by_cases da:i=j
        ·subst da;simp[aC,br]
        ·rw[if_neg da,dY da,sD,←hl j];simp only[dH])
   simp only[wpOpIn,ho];split
   ·rename_i hw;rw[if_pos hw] at main;exact main
   ·rename_i hw;rw[if_neg hw] at main;exact⟨fun _ _=>trivial,main⟩
theorem aod {rd:Option Nat}(hC:CtxOK C σ0)(aV:de C)(hΦ:cL C Φ)(hY:nU C Φ w0 σ0){ops:Array Oper}(au:qy n ops=true)(eY:yG ops=true)(B7:(List.range ops.size).all (Gw ops)=true){m:Nat}
 (zc:∀i,m≤i→i<ops.size→∀j,j<i→ar ((dq ops ops.size).getD i 0) j=true) {Q:Exit→Act→World→Prop} {ρ':Env}:
 ∀(k i:Nat) {S:St} {ρ:Env} {a:Act} {w:World} {r:St×List PI} (listed:Array Bool),i+k=ops.size→m≤i→listed.size=ops.size→(∀j,listed.getD j false=decide (j<i))→a.tmps.size=n→
  Good C w0 σ0 S ρ (la ops (List.range i)) a w→mU C ops (List.range' i k) S=some r→PI.runs Φ r.2 ρ=some ρ'→
  (∀a' w',SameBut (pO ops) a a'→Good C w0 σ0 r.1 ρ' (la ops (List.range ops.size)) a' w'→Q .normal a' w')→wpAnyIn (FR rd) 0 C.P .any ops Q k listed a w:=by
 have Hj:=au;simp only[qy,aj] at au;have ba:=kQ au.1
 have J1:∀i,i<ops.size→∀o,ops[i]?=some o→(o.after.toList.all fun e=> !Region.binds .any e||Nat.blt e.on i)=true:=by
  intro i hi o ho;have:=bz.1 B7 i (bV.2 hi);unfold Gw at this;rw[ho] at this;exact this
 have mem:∀(listed:Array Bool) (i j:Nat),listed.size=ops.size→(∀j,listed.getD j false=decide (j<i))→(j∈Region.ready .any ops listed↔(j<ops.size∧¬j<i∧∀o,ops[j]?=some o→(o.after.toList.all fun e=> !Region.binds .any e||decide (e.on<i))=true)):=by
  intro listed i j aC hl;unfold Region.ready;simp only[dO,bV];refine and_congr_right fun hj=>?_;have h1:listed.getD j true=decide (j<i):=by
   rw[←hl j];simp only[dH];rw[fj (by omega)];rfl
  have h2:ops[j]?=some ops[j]:=fj hj;rw[h1,h2];simp only[jI,jH,←Ss,hl,aj,hZ,decide_eq_false_iff_not,aQ,forall_eq']
 intro k
 induction k with
 |zero=>
  intro i S ρ a w r listed hik hmi aC hl hn hg hr ah hQ;simp only[List.range'_zero,mU,aQ] at hr;subst hr;rw[mI ah] at hQ;refine⟨?_,hQ a w (.refl _ _) ?_⟩
  ·rw[SK];intro j hj;rw[mem listed i j aC hl] at hj;exact hj.2.1 (by omega)
  ·have:i=ops.size:=by omega
   rw[←this];exact hg
 |succ k ih=>
  intro i S ρ a w r listed hik hmi aC hl hn hg hr ah hQ;have br:i<ops.size:=by omega
  have ho:ops[i]?=some ops[i]:=fj br;generalize ops[i]=o at ho;refine⟨fun he=>?_,fun i' cU=>?_⟩
  ·have:i∈Region.ready .any ops listed:=by
        rw[mem listed i i aC hl];refine⟨br,by omega,fun o' dQ=>?_⟩;rw[bz];intro e gA;have:=bz.1 (J1 i br o' dQ) e gA;cases hb:Region.binds .any e with
        |false=>rfl
        |true=>
         rw[hb] at this;simp only[qL,pA,ic] at this;simpa using this
   rw[he] at this;cases this
  ·rw[mem listed i i' aC hl] at cU;obtain⟨h1,h2,h3⟩:=cU;obtain rfl:i'=i:=by
        refine AG fun ay=>?_;have dQ:ops[i']?=some ops[i']:=fj h1;have yS:=zc i' (by omega) h1 i (by omega);have af:∀m j,j<ops.size→ar ((dq ops ops.size).getD j 0) m=true→m<j:=by
         intro m j
         induction j using Nat.strongRecOn with
         |ind j lF=>
          intro hj hm;have qa:ops[j]?=some ops[j]:=fj hj;have p2:=J1 j hj _ qa;obtain⟨e,e1,e2,e3⟩:=Gi hj qa p2 hm;have oE:e.on<j:=by
           have:=bz.1 p2 e e1;rw[e2] at this;simpa [ic] using this
          rcases e3 with rfl|e3
          ·exact oE
          ·have:=lF e.on oE (by omega) e3;omega
        obtain⟨e,e1,e2,e3⟩:=Gi h1 dQ (J1 i' h1 _ dQ) yS;have h4:=bz.1 (h3 _ dQ) e e1;rw[e2] at h4;simp only[qL,pA,decide_eq_true_eq] at h4;rcases e3 with e3|e3
        ·omega
        ·have:=af i e.on (by omega) e3;omega
   rw[E0] at hr;simp only[mU,ho] at hr;simp only[aq,ax] at hr;obtain⟨r1,iJ,q,hq,rfl⟩:=hr;simp only[nE,aq] at ah;obtain⟨ρ1,hρ1,hρ2⟩:=ah;have p5:∀d,o.dst=some d→¬la ops (List.range i') d∧d<a.tmps.size:=by
        intro d hd;refine⟨fun⟨i2,o2,vu,ej,dK⟩=>?_,?_⟩
        ·have ay:i2≠i':=by have:=bV.1 vu;omega
         exact uZ.dst_once ba ej ho dK hd ay
        ·have:=bz.1 au.2 o (by simpa using gI ho);simp only[hd,aj] at this;rw[hn];simpa [ic] using this.2
   have jv:nu o.op=true:=by
        have:=bz.1 au.2 o (by simpa using gI ho);simp only[aj] at this;exact this.1
   have hj:∀j want t,o.guard=some (j,want)→(ops[j]?).bind (·.dst)=some t→la ops (List.range i') t:=by
        intro j want t jO ht;rw[aq] at ht;obtain⟨oj,h1,h2⟩:=ht;have tj:=bz.1 eY o (by simpa using gI ho);simp only[jO] at tj;obtain⟨e,jr,kf⟩:=uE.1 tj;simp only[aj] at kf;have h4:=bz.1 (h3 o ho) e jr;rw[kf.1] at h4;simp only[qL,pA,decide_eq_true_eq] at h4;exact⟨j,oj,bV.2 (by rw[←cI kf.2];exact h4),h1,h2⟩
   have main:=Gj (rd:=rd) (K:=wpAnyIn (FR rd) 0 C.P .any ops Q k (listed.setIfInBounds i' true)) (Q:=Q) hg hC aV hΦ hY jv p5 hj iJ hρ1 (fun a' w' fq iK=>by
        have:(fun u=>la ops (List.range i') u∨o.dst=some u)=la ops (List.range (i'+1)):=by
         funext u;apply propext;constructor
         ·rintro(⟨i2,o2,h1,h2,h3⟩|h1)
          ·exact⟨i2,o2,bV.2 (by have:=bV.1 h1;omega),h2,h3⟩
          ·exact⟨i',o,bV.2 (by omega),ho,h1⟩
         ·rintro⟨i2,o2,g1,g2,g3⟩;by_cases e:i2=i'
          ·rw[e,ho] at g2;cases g2;exact .inr g3
          ·exact .inl ⟨i2,o2,bV.2 (by have:=bV.1 g1;omega),g2,g3⟩
        rw[this] at fq;refine ih (i'+1) _ (by omega) (by omega) (by simpa using aC) (fun j=>?_) (iK.size.trans hn) fq hq hρ2 (fun a2 w2 s2 g2=>hQ a2 w2 ((iK.mono fun t e=>⟨o,by simpa using gI ho,e⟩).trans s2) g2);simp only[dH,uz];by_cases da:i'=j
        ·subst da;simp[aC,br]
        ·rw[if_neg da];have:=hl j;simp only[dH] at this;rw[this];by_cases af:j<i'
         ·rw[decide_eq_true af,decide_eq_true (by omega:j<i'+1)]
         ·rw[decide_eq_false af,decide_eq_false (by omega:¬j<i'+1)])
   simp only[wpOpIn,ho];split
   ·rename_i hw;rw[if_pos hw] at main;exact main
   ·rename_i hw;rw[if_neg hw] at main;exact⟨fun _ _=>trivial,main⟩
end
def I1 (C:Ctx)(n:Nat)(ids:List Nat)(ops:Array Oper)(draw:Bool)(S:Snap):Option (Snap×List PI):=
 bif qy n ops then
    bif draw then
     bif yG ops&&NB ops&&C.P.follows .mixedOrders then
        match UB C ops (S.st ids) with
        |some r=>some (⟨uj (eM r.1) r.1 S.rs (ops.toList.filterMap (·.dst)),ids.map fun j=>gX r.1 (r.1.o j)⟩,r.2)
        |none=>
        (eP C ops (List.range ops.size) (S.st ids)).bind fun X=>B9 X fun X=>B9 (oP X ops.size) fun nc=>
         (Snap.hard ⟨S.rs.map fun s=>kr (S.st ids) (cn s),ids.map fun j=>gX (S.st ids) ((S.st ids).o j)⟩ fun T0=>Ez ops (qX C.P ops) (N9 C ops n ids X nc) ops.size [(0,T0)]).map fun T=>(⟨T.rs.map (eM (T.stO ids)),ids.map fun j=>gX (T.stO ids) ((T.stO ids).o j)⟩,X.flatten)
     else none
    else bif UN ops then(mU C ops (List.range ops.size) (S.st ids)).map fun r=>(⟨uj (eM r.1) r.1 S.rs (ops.toList.filterMap (·.dst)),ids.map fun j=>gX r.1 (r.1.o j)⟩,r.2) else none
 else none
def I0 (C:Ctx)(n:Nat)(ids:List Nat)(ops:Array Oper)(draw:Bool)(S:Snap):Option (Snap×List PI):=
 (I1 C n ids ops draw S).bind fun r=>r.1.hard fun T=>some (T,r.2)
theorem anr (C:Ctx)(n:Nat)(ids:List Nat)(ops:Array Oper)(draw:Bool)(S:Snap):I0 C n ids ops draw S=I1 C n ids ops draw S:=by
 unfold I0;cases I1 C n ids ops draw S with
 |none=>rfl
 |some r=>rw[jG,Snap.hard_eq]
def wS (ops:Array Oper)(E:Nat):Nat→Prop:=fun t=>∃i o,ar E i=true∧ops[i]?=some o∧o.dst=some t
section
variable {C:Ctx} {S:St} {ρ:Env} {σ:Im} {own:Nat→Option Nat} {hv:Nat→Value} {w0:World} {σ0:Base} {A:Nat→Prop} {a:Act} {w:World} {n:Nat} {ids:List Nat} {Φ:aK}
theorem IY {ops:Array Oper}{listed:Array Bool}{E:Nat}(aC:listed.size=ops.size)(hl:∀i,listed.getD i false=ar E i)(i:Nat):i∈Region.ready .any ops listed↔i∈kZ ops E:=by
 unfold Region.ready kZ;simp only[dO,bV];refine and_congr_right fun hi=>?_;have h1:listed.getD i true=ar E i:=by
  rw[←hl i];simp only[dH];rw[fj (by omega)];rfl
 have h2:ops[i]?=some ops[i]:=fj hi;rw[h1,h2];simp only[jI,jH,←Ss,hl]
theorem anO {rd:Option Nat}(hC:CtxOK C σ0)(aV:de C)(hΦ:cL C Φ)(hY:nU C Φ w0 σ0){a0:Act}(Md:a0.tmps.size=n){ops:Array Oper}(au:qy n ops=true)(eY:yG ops=true){X:List (List PI)}{Q:Exit→Act→World→Prop}{ρ':Env}(y9:NB ops=true)(hQp:∀c a w,¬Q (.panic c) a w):
 ∀(k:Nat) {L:List (Nat×Snap)} {T:Snap},Ez ops (qX C.P ops) (N9 C ops n ids X (oP X ops.size)) k L=some T→
  (∀a' w',SameBut (pO ops) a0 a'→Good C w0 σ0 (T.stO ids) ρ' (fun t=>∃E,wS ops E t) a' w'→Q .normal a' w')→
  ∀(E:Nat) (U:Snap),(E,U)∈L→∀(listed:Array Bool) (ρ:Env) (a:Act) (w:World),listed.size=ops.size→(∀i,listed.getD i false=ar E i)→SameBut (pO ops) a0 a→
   Good C w0 σ0 (U.stO ids) ρ (wS ops E) a w→PI.runs Φ (ec X (List.range ops.size) E) ρ=some ρ'→wpAnyIn (FR rd) 0 C.P .any ops Q k listed a w:=by
 simp only[qy,aj] at au;have ba:=kQ au.1;intro k
 induction k with
 |zero=>
  intro L T hs hQ E U hm listed ρ a w aC hl hn hg ah;simp only[Ez] at hs;split at hs
  case h_2=>cases hs
  rename_i x;cases aN:(List.range ops.size).all (ar x.1)<;>simp only[aN,cond_true,cond_false] at hs
  ·cases hs
  cases hs;simp only[qN] at hm;subst hm;simp only at aN hg hQ ah hl;have iw:=bz.1 aN;have LP:ec X (List.range ops.size) E=[]:=by
   unfold ec;rw[ach];intro i hi;rw[iw i hi];rfl
  rw[LP] at ah;simp only[PI.runs,aQ] at ah;subst ah;refine⟨?_,hQ a w hn ?_⟩
  ·rw[SK];intro i hi;rw[IY aC hl] at hi;unfold kZ at hi;simp only[dO,aj,hZ] at hi;rw[iw i hi.1] at hi;cases hi.2.1
  ·obtain⟨σ,own,hv,h⟩:=hg;exact⟨σ,own,hv,h.defers,h.ok,h.le,h.old,h.newc,h.newm,h.below,h.bw,h.owns,h.regs,h.objs,fun t gs s e=>⟨fun g hm=>⟨E,(h.opts t gs s e).1 g hm⟩,(h.opts t gs s e).2⟩,h.frame⟩
 |succ k ih=>
  intro L T hs hQ E U hm listed ρ a w aC hl hn hg ah;simp only[Ez,aq] at hs;obtain⟨L',hL,hs⟩:=hs;obtain⟨_,cV⟩:=WO hL;obtain⟨ay,MI⟩:=cV _ hm;have air:kZ ops E≠[]:=fun e=>ay (by unfold nY;rw[e];rfl)
  have bM:∀i,i∈nY ops (qX C.P ops) E→i∈kZ ops E:=fun i hi=>by
   unfold nY at hi;split at hi
   ·rename_i i' hp;rw[qN.1 hi];exact(Ji hp).1
   ·exact hi
  have step:∀i,i∈nY ops (qX C.P ops) E→∀Q':Exit→Act→World→Prop,wpOpIn (FR rd) 0 C.P ops Q' i (wpAnyIn (FR rd) 0 C.P .any ops Q k (listed.setIfInBounds i true)) a w:=by
   intro i hi Q';obtain⟨y,hy,hyL⟩:=MI i hi;have hi:=bM i hi;unfold kZ at hi;simp only[dO,bV,aj,hZ] at hi;obtain⟨br,cW,tg⟩:=hi;simp only[N9] at hy;split at hy
   case h_2=>cases hy
   rename_i o ho;simp only[aq] at hy;obtain⟨r,hr,hy⟩:=hy;cases hc:(PI.beqs r.2 (X.getD i [])&&((oP X ops.size).getD i []).all (ar E))<;>simp only[hc,cond_true,cond_false] at hy
   ·cases hy
   cases hy;simp only[aj] at hc;have hX:=PI.beqs_eq _ _ hc.1;rw[aap br cW hc.2,aq] at ah;obtain⟨ρ1,hρ1,hρ2⟩:=ah;rw[←hX] at hρ1;rw[ho] at tg;simp only at tg;have p5:∀d,o.dst=some d→¬wS ops E d∧d<a.tmps.size:=by
        intro d hd;refine⟨fun⟨i',o',cU,dQ,fp⟩=>?_,?_⟩
        ·have ay:i'≠i:=fun e=>by subst e;rw[cW] at cU;cases cU
         exact uZ.dst_once ba dQ ho fp hd ay
        ·have:=bz.1 au.2 o (by simpa using gI ho);simp only[hd,aj] at this;rw[hn.size,Md];simpa [ic] using this.2
   have jv:nu o.op=true:=by
        have:=bz.1 au.2 o (by simpa using gI ho);simp only[aj] at this;exact this.1
   have hj:∀j want t,o.guard=some (j,want)→(ops[j]?).bind (·.dst)=some t→wS ops E t:=by
        intro j want t jO ht;rw[aq] at ht;obtain⟨oj,h1,h2⟩:=ht;have tj:=bz.1 eY o (by simpa using gI ho);simp only[jO] at tj;obtain⟨e,jr,kf⟩:=uE.1 tj;simp only[aj] at kf;have h3:=bz.1 tg e jr;rw[kf.1] at h3;simp only[qL,pA] at h3;exact⟨j,oj,by rw[←cI kf.2];exact h3,h1,h2⟩
   have main:=Gj (rd:=rd) (K:=wpAnyIn (FR rd) 0 C.P .any ops Q k (listed.setIfInBounds i true)) (Q:=Q') hg hC aV hΦ hY jv p5 hj hr hρ1 (fun a' w' fq qf=>by
        have hA:(fun u=>wS ops E u∨o.dst=some u)=wS ops (Nat.lor E (dz i)):=by
         funext u;apply propext;constructor
         ·rintro(⟨i',o',h1,h2,h3⟩|h1)
          ·exact⟨i',o',by rw[iV,h1,xc],h2,h3⟩
          ·exact⟨i,o,by rw[iV,gu,mN],ho,h1⟩
         ·rintro⟨i',o',h1,h2,h3⟩;rw[iV,fG] at h1;rcases h1 with h1|h1
          ·exact .inl ⟨i',o',h1,h2,h3⟩
          ·rw[←cI h1,ho] at h2;cases h2;exact .inr h3
        rw[hA] at fq
        refine ih hs hQ _ _ hyL _ ρ1 a' w' (by simpa using aC) (fun j=>?_) (hn.trans (qf.mono fun t e=>⟨o,by simpa using gI ho,e⟩)) (by
         have:=fq.snapO U.rs.length ids
         rw[show r.1.snapO U.rs.length ids=⟨uj (kr r.1) r.1 U.rs o.dst.toList,ids.map fun j=>gX r.1 (r.1.o j)⟩ from by
          unfold St.snapO;rw[EE fun t ht=>?_];rw[TR hr t (fun e=>ht (by rw[e];simp))];rfl] at this
         exact this) hρ2
        rw[iV];simp only[dH,uz];by_cases da:i=j
        ·subst da;simp[aC,br]
        ·rw[if_neg da,dY da,sD,←hl j];simp only[dH])
   simp only[wpOpIn,ho];split
   ·rename_i hw;rw[if_pos hw] at main;exact main
   ·rename_i hw;rw[if_neg hw] at main;exact⟨fun _ _=>trivial,main⟩
  cases Mw:Ao (qX C.P ops) E (kZ ops E) with
  |none=>
   have lx:nY ops (qX C.P ops) E=kZ ops E:=by unfold nY;rw[Mw]
   refine⟨fun he=>?_,fun i hi=>step i (by rw[lx];exact(IY aC hl i).1 hi) Q⟩;exfalso;refine air ?_;rw[SK];intro i hi;rw[←IY aC hl,he] at hi;cases hi
  |some i=>
   have lx:nY ops (qX C.P ops) E=[i]:=by unfold nY;rw[Mw]
   obtain⟨hir,b,hb,ahg⟩:=Ji Mw;obtain⟨oi,VR,My,Ly⟩:=adn hb;obtain⟨v,hv,hK⟩:=amG VR My (step i (by rw[lx];simp) _);refine aqB (fun j o ho=>?_) VR (fun j o cs b' ho e=>?_) (fun c a' w' h=>(hQp _ _ _ h).elim) k listed a w (fun j oj hj gP mq eZ=>Ly j oj hj gP (fun G5=>?_) eZ) ((IY aC hl i).2 hir) hv hK
   ·have:=bz.1 au.2 o (by simpa using gI ho);simp only[aj] at this;exact this.1
   ·have:=bz.1 y9 o (by simpa using gI ho);rw[e] at this;cases this
   ·have h1:=bz.1 ahg j G5;have h2:=hl j;rw[h1] at h2;simp only[dH] at h2 mq;cases yZ:listed[j]? with
    |none=>rw[yZ] at h2;cases h2
    |some x=>
     rw[yZ] at h2 mq;simp only[jH] at h2 mq;rw[h2] at mq;cases mq
theorem aaH {ops:Array Oper}:∀{l:List Nat} {S:St} {X:List (List PI)},eP C ops l S=some X→X.length=l.length
 |[],S,X,h=>by simp only[eP,aQ] at h;subst h;rfl
 |i::l,S,X,h=>by
  simp only[eP] at h;split at h
  case h_2=>cases h
  simp only[aq,ax] at h;obtain⟨r,_,q,hq,rfl⟩:=h;simp[aaH hq]
theorem aaq (X:List (List PI)):ec X (List.range X.length) 0=X.flatten:=by
 have h0:∀i,ar 0 i=false:=fun i=>by rw[q6];simp
 have key:∀(Y Z:List (List PI)),ec (Y++Z) (List.range' Y.length Z.length) 0=Z.flatten:=by
  intro Y Z
  induction Z generalizing Y with
  |nil=>rfl
  |cons z Z ih=>
   have:=ih (Y++[z]);simp only[pC,List.singleton_append,kF,pE,AK,gw] at this;rw[pE,E0];have e:ec (Y++z::Z) (Y.length::List.range' (Y.length+1) Z.length) 0=(Y++z::Z).getD Y.length []++ec (Y++z::Z) (List.range' (Y.length+1) Z.length) 0:=by
        unfold ec;rw[uF,h0];rfl
   rw[e,this,SO]
   congr 1
   simp[aG]
 have:=key [] X;simp only[sJ,AK] at this;rw[JQ];exact this
theorem ans (aV:de C)(hΦ:cL C Φ):JW C n ids Φ (I0 C n ids):=by
 intro id ops draw S r hr rd w0 σ0 ρ ρ' a w Q hC hY hn hg ah hQ;rw[anr] at hr;unfold I1 at hr;cases au:qy n ops<;>simp only[au,cond_true,cond_false] at hr
 ·cases hr
 cases draw with
 |false=>
  simp only[cond_false] at hr;cases Vq:UN ops<;>simp only[Vq,cond_true,cond_false] at hr
  ·cases hr
  simp only[ax] at hr;obtain⟨q,hq,rfl⟩:=hr;refine wpIn_region ?_
  have oI:la ops []=fun _=>False:=by
   funext t;apply propext;constructor
   ·rintro⟨i,o,h,_⟩;cases h
   ·intro h;exact h.elim
  refine uZ hC aV hΦ hY au (List.range ops.size) [] (by simpa using JP) (fun p i q o j want hl ho jO=>?_) hn (by rw[oI];exact hg) hq ah (fun a' w' gR fq=>hQ a' w' gR (by
   have:=fq.snapF S.rs.length ids
   rw[show q.1.snap S.rs.length ids=⟨uj (eM q.1) q.1 S.rs (ops.toList.filterMap (·.dst)),ids.map fun j=>gX q.1 (q.1.o j)⟩ from by
        unfold St.snap;rw[EE fun t ht=>?_];rw[KV hq t (fun i o hi ho e=>ht (sI.2 ⟨o,by simpa using gI ho,e⟩))];show _=eM q.1 (cn (S.rs.getD t .none));cases S.rs.getD t .none<;>rfl] at this
   exact this))
  have hi:i<ops.size:=by
   have:i∈List.range ops.size:=by rw[hl];simp
   exact bV.1 this
  have hb:=bz.1 Vq i (bV.2 hi);rw[ho] at hb;simp only[jO,ic] at hb;have hp:=List.pairwise_lt_range (n:=ops.size);have tl:j∈List.range ops.size:=bV.2 (by omega);rw[hl,List.pairwise_append] at hp;obtain⟨_,gg,_⟩:=hp;rw[EZ] at gg;rw[hl,dy] at tl;simp only[sJ];rcases tl with hm|hm
  ·exact hm
  ·rcases cM.1 hm with e|hm
   ·omega
   ·have:=gg.1 j hm;omega
 |true=>
  simp only[cond_true] at hr;cases eY:(yG ops&&NB ops&&C.P.follows .mixedOrders)<;>simp only[eY,cond_true,cond_false] at hr
  ·cases hr
  simp only[aj] at eY;have y9:=eY.1.2
  replace eY:yG ops=true∧C.P.follows .mixedOrders=true:=⟨eY.1.1,eY.2⟩
  have h0:∀i,ar 0 i=false:=fun i=>by rw[q6];simp
  split at hr
  case h_1=>
   rename_i r jt;cases hr;generalize MO:nH (dq ops ops.size) ops.size=m at*;unfold UB at jt;rw[MO] at jt;have aio:m≤ops.size:=MO▸aaX _ _;have zc:∀i,m≤i→i<ops.size→∀j,j<i→ar ((dq ops ops.size).getD i 0) j=true:=MO▸aaW _ _;rw[aq] at jt;obtain⟨q,hq,jt⟩:=jt;cases tt:BY ops (oP (q.map (·.2)) m) (dq ops ops.size) m<;>simp only[tt,cond_true,cond_false] at jt
   ·cases jt
   rw[ax] at jt;obtain⟨r1,iJ,rfl⟩:=jt;refine wpIn_region_any eY.2 ?_
   have oI:ui ops 0=fun _=>False:=by
        funext t;apply propext;constructor
        ·rintro⟨i,o,h,_⟩;rw[h0] at h;cases h
        ·intro h;exact h.elim
   have hlen:(q.map (·.2)).length=m:=by rw[ed];exact(Li hq).1
   have ajr:qE ops 0=ops.size:=by
        unfold qE;have:((List.range ops.size).filter fun i=> !ar 0 i)=List.range ops.size:=List.filter_eq_self.2 fun i _=>by rw[h0];rfl
        rw[this,SQ]
   have Ci:(List.range m).filter (ar 0)=[]:=List.filter_eq_nil_iff.2 fun i _=>by rw[h0];simp
   simp only[nE,aq] at ah;obtain⟨ρ1,hρ1,hρ2⟩:=ah;have Mt:=tt;unfold BY at Mt;rw[aj] at Mt;refine afE (w0:=w0) (S:=S.st ids) hC aV hΦ hY hn au eY.1 aio hq tt zc (ρ':=ρ1) (fun listed a' w' aC hl gR fq=>?_) ops.size 0 _ ρ a _ ajr (fun j hj=>by rw[h0] at hj;cases hj) (fun j _ hj=>by rw[h0] at hj;cases hj) (by simp) (fun i=>?_) (.refl _ _) ?_ ?_
   ·refine aod hC aV hΦ hY au eY.1 Mt.2 zc (ops.size-m) m listed (by omega) (aW _) aC hl (gR.size.trans hn) fq iJ hρ2 (fun a2 w2 s2 g2=>hQ a2 w2 (gR.trans s2) (by
     have:=g2.snapF S.rs.length ids
     rw[show r1.1.snap S.rs.length ids=⟨uj (eM r1.1) r1.1 S.rs (ops.toList.filterMap (·.dst)),ids.map fun j=>gX r1.1 (r1.1.o j)⟩ from by
      unfold St.snap;rw[EE fun t ht=>?_];rw[KV iJ t (fun i o hi ho e=>ht (sI.2 ⟨o,by simpa using gI ho,e⟩))]
      have e1:fg ops (q.map (·.1)) (List.range m) (S.st ids).r t=(S.st ids).r t:=EB fun i hi e=>by
        rw[aq] at e;obtain⟨o,ho,hd⟩:=e;exact ht (sI.2 ⟨o,by simpa using gI ho,hd⟩)
      show eM _ (S.rs.getD t .none)=eM _ (fg ops (q.map (·.1)) (List.range m) (S.st ids).r t);rw[e1];show _=eM _ (cn (S.rs.getD t .none));cases S.rs.getD t .none<;>rfl] at this
     exact this))
   ·rw[h0];simp only[dH,abZ];split<;>rfl
   ·rw[oI,Ci];exact hg.drew
   ·rw[←hlen,aaq];exact hρ1
  simp only[U2,Snap.hard_eq,aq,ax] at hr;obtain⟨X,hX,T,hT,rfl⟩:=hr;refine wpIn_mono (Q:=fun e a w=>(∀c,e≠.panic c)∧Q e a w) ?_ fun e a w h=>h.2;refine wpIn_region_any eY.2 ?_
  have oI:wS ops 0=fun _=>False:=by
   funext t;apply propext;constructor
   ·rintro⟨i,o,h,_⟩;rw[h0] at h;cases h
   ·intro h;exact h.elim
  have hlen:=aaH hX;rw[SQ] at hlen
  refine anO (w0:=w0) hC aV hΦ hY hn au eY.1 (ρ':=ρ') y9 (fun c a w h=>h.1 c rfl) ops.size hT (fun a' w' gR fq=>⟨fun c e=>(by cases e),hQ a' w' gR (by
   have:=fq.snapF T.rs.length ids
   rw[show(T.stO ids).snap T.rs.length ids=⟨T.rs.map (eM (T.stO ids)),ids.map fun j=>gX (T.stO ids) ((T.stO ids).o j)⟩ from by
        unfold St.snap;have:=EE (g:=eM (T.stO ids)) (S:=T.stO ids) (rs:=T.rs) (ds:=[]) (fun t _=>rfl);rw[←this];rfl] at this
   exact this)⟩) 0 _ (qN.2 rfl) _ ρ a _ (by simp) (fun i=>?_) (.refl _ _) ?_ ?_
  ·rw[h0];simp only[dH,abZ];split<;>rfl
  ·rw[oI];have:=(hg.drew).snapO S.rs.length ids
   rw[show(S.st ids).snapO S.rs.length ids=⟨S.rs.map fun s=>kr (S.st ids) (cn s),ids.map fun j=>gX (S.st ids) ((S.st ids).o j)⟩ from by
        unfold St.snapO
        have:=EE (g:=fun s=>kr (S.st ids) (cn s)) (S:=S.st ids) (rs:=S.rs) (ds:=[]) (fun t _=>by
         show kr _ (cn (S.rs.getD t .none))=kr _ (cn (cn (S.rs.getD t .none)));cases S.rs.getD t .none<;>rfl)
        have h2:(fun t=>kr (S.st ids) (cn ((S.st ids).r t)))=fun t=>kr (S.st ids) ((S.st ids).r t):=by
         funext t;show kr _ (cn (cn (S.rs.getD t .none)))=kr _ (cn (S.rs.getD t .none));cases S.rs.getD t .none<;>rfl
        rw[h2] at this;rw[←this];rfl] at this
   exact this
  ·rw[←hlen,aaq];exact ah
end
end Cx
