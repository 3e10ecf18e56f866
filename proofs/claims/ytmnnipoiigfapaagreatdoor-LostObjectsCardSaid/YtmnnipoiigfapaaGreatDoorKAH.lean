/-
  Regions: in the order of the text, and in every order that their edges allow.
-/
import Derived.Test.YtmnnipoiigfapaaGreatDoorKAG
import Derived.OrdersIn
set_option linter.unusedSimpArgs false
set_option linter.unusedVariables false
namespace Cx
open Go Go.RowKit
def kJ (S:St):Sh→Sh
 |.opt gs s=>.opt gs (eH S s)
 |s=>eH S s
def St.snapO (n:Nat)(ids:List Nat)(S:St):Snap:=⟨(List.range n).map fun t=>kJ S (S.r t),ids.map fun j=>gW S (S.o j)⟩
def Snap.stO (ids:List Nat)(s:Snap):St:=⟨fun t=>s.rs.getD t .none,fun j=>di ids s.os j,fun _=>0⟩
theorem qw (S:St)(s:Sh):∀gs s',eH S s≠.opt gs s':=by
 intro gs s' e;cases s<;>simp only[eH] at e<;>first|cases e|(revert e;cases Nat.beq _ _<;>intro e<;>cases e)|(revert e;cases List.all _ _<;>intro e<;>cases e)
section
variable {C:Ctx} {S:St} {ρ:Env} {σ:Im} {own:Nat→Option Nat} {hv:Nat→Value} {w0:World} {σ0:Base} {A:Nat→Prop} {a:Act} {w:World} {n:Nat} {ids:List Nat} {Φ:aP}
theorem alF {s:Sh}{v:Value}{d:D}(h:aH C S ρ σ hv s v d){T:St}(hT:T.ver=fun _=>0):aH C T ρ σ hv (kJ S s) v d:=by
 have hc:Compat S.norm hv T hv:=⟨fun j=>by rw[hT];exact ot _,fun _ _=>rfl⟩
 have key:∀s,aH C S ρ σ hv s v d→aH C T ρ σ hv (eH S s) v d:=fun s hs=>aH.mono' (.refl σ) hc (qw S s) (Ia hs).1;cases s with
 |opt gs s=>exact⟨fun hh=>key s (h.1 hh),h.2⟩
 |_=>exact key _ h
theorem Good.snapO (h:Good C w0 σ0 S ρ A a w)(n:Nat)(ids:List Nat):Good C w0 σ0 ((S.snapO n ids).stO ids) ρ A a w:=by
 obtain⟨σ,own,hv,h⟩:=h;have h1:=h.norm;have hc:Compat S.norm hv ((S.snapO n ids).stO ids) hv:=⟨fun _=>bf _,fun _ _=>rfl⟩
 refine⟨σ,own,hv,h.defers,h.ok,h.le,h.old,h.newc,h.newm,h.below,h.bw,h.owns,fun t=>?_,fun j=>?_,fun t gs s e=>?_,?_⟩
 rotate_right
 ·obtain⟨t,fx,cx,f1,f5⟩:=h.frame;refine⟨t,fx,cx,f1,fun j hj=>f5 j ?_⟩;exact wk (fun j=>gW S (S.o j)) (fun ob=>ob=.tr→S.o j=.tr) (fun e=>by cases e) j X0 ids hj
 ·show aH C _ ρ σ hv (((List.range n).map fun t=>kJ S (S.r t)).getD t .none) _ _;rw[aK,cw];by_cases ht:t<n
  ·rw[pQ ht];exact alF (h.regs t) rfl
  ·rw[re (by simpa using ht)];trivial
 ·have ho:=(h1.objs j).mono (.refl σ) hc (w:=w) (w':=w) rfl rfl (fun k hk=>⟨hk,rfl⟩);exact wk (fun j=>gW S (S.o j)) (fun ob=>cd C _ ρ σ own hv w w0.heap.size j ob) trivial j ho ids
 ·change ((List.range n).map fun t=>kJ S (S.r t)).getD t .none=.opt gs s at e;rw[aK,cw] at e;by_cases ht:t<n
  ·rw[pQ ht] at e;simp only[jO,jj] at e;cases hs:S.r t with
   |opt bI s'=>
    rw[hs] at e;simp only[kJ,Sh.opt.injEq] at e;obtain⟨rfl,rfl⟩:=e;exact⟨(h.opts t bI s' hs).1,qw S s'⟩
   |none=>rw[hs] at e;exact absurd e (qw S .none gs s)
   |yv=>rw[hs] at e;exact absurd e (qw S .yv gs s)
   |fclo f c=>rw[hs] at e;exact absurd e (qw S (.fclo f c) gs s)
   |agg l=>rw[hs] at e;exact absurd e (qw S (.agg l) gs s)
   |dat t=>rw[hs] at e;exact absurd e (qw S (.dat t) gs s)
   |obj t u=>rw[hs] at e;exact absurd e (qw S (.obj t u) gs s)
   |ptr t u v=>rw[hs] at e;exact absurd e (qw S (.ptr t u v) gs s)
   |eptr t u v x=>rw[hs] at e;exact absurd e (qw S (.eptr t u v x) gs s)
  ·rw[re (by simpa using ht)] at e;cases e
theorem Good.snapF (h:Good C w0 σ0 S ρ A a w)(n:Nat)(ids:List Nat):Good C w0 σ0 ((S.snap n ids).st ids) ρ (fun _=>False) a w:=by
 obtain⟨σ,own,hv,h⟩:=h;exact⟨σ,own,hv,h.snap n ids⟩
theorem Good.drew (h:Good C w0 σ0 S ρ A a w):Good C w0 σ0 S ρ A a {w with drawn:=w.drawn+1}:=by
 obtain⟨σ,own,hv,h⟩:=h;refine⟨σ,own,hv,h.defers,⟨fun k o v e=>h.ok.c k o v e,fun k es e=>h.ok.m k es e⟩,h.le,h.old,h.newc,h.newm,h.below.drew,h.bw,h.owns,h.regs,fun j=>?_,h.opts,?_⟩
 rotate_right
 ·obtain⟨t,fx,cx,f1,f2⟩:=h.frame;exact⟨t,fx,cx,⟨σ0.keep _ _ _ _ _ f1.F (Below.drew (.refl _ _)) (fun _ _=>rfl),f1.own,f1.c,f1.m,f1.d⟩,f2⟩
 exact(h.objs j).mono (.refl σ) (.refl S hv) rfl rfl (fun k hk=>⟨hk,rfl⟩)
end
def uK (g:Sh→Sh)(S:St)(rs:List Sh)(ds:List Nat):List Sh:=(ds.foldl (fun l d=>l.set d (S.r d)) rs).map g
theorem U8 (S:St):∀(ds:List Nat) (rs:List Sh),(ds.foldl (fun l d=>l.set d (S.r d)) rs).length=rs.length∧∀t,t<rs.length→(ds.foldl (fun l d=>l.set d (S.r d)) rs).getD t .none=if t∈ds then S.r t else rs.getD t .none
 |[],rs=>⟨rfl,fun t _=>by simp⟩
 |d::ds,rs=>by
  obtain⟨h1,h2⟩:=U8 S ds (rs.set d (S.r d));simp only[List.length_set] at h1 h2;refine⟨h1,fun t ht=>?_⟩;rw[JY,h2 t ht];simp only[cD,aK,AV];by_cases hm:t∈ds
  ·simp[hm]
  ·by_cases e:d=t
   ·subst e;simp[hm,ht]
   ·have e':¬t=d:=fun h=>e h.symm;simp[hm,e,e']
theorem EF {g:Sh→Sh}{S:St}{rs:List Sh}{ds:List Nat}(h:∀t,t∉ds→g (rs.getD t .none)=g (S.r t)):uK g S rs ds=(List.range rs.length).map fun t=>g (S.r t):=by
 obtain⟨h1,h2⟩:=U8 S ds rs;unfold uK;apply Tz;intro t;simp only[cw];by_cases ht:t<rs.length
 ·have:=h2 t ht;rw[aK,bA (by omega)] at this;rw[bA (by omega),pQ ht];simp only[jj,jO] at this ⊢;rw[this];by_cases hm:t∈ds
  ·simp[hm]
  ·simp only[hm,if_false];rw[h t hm]
 ·rw[re (by omega),re (by simpa using ht)];rfl
def Sh.hd {α:Type}(s:Sh)(k:Sh→α):α:=
 match s with
 |.none=>k .none
 |.dat t=>k (.dat t)
 |.obj j v=>k (.obj j v)
 |.ptr j v o=>k (.ptr j v o)
 |.eptr j v z o=>k (.eptr j v z o)
 |.opt gs s=>k (.opt gs s)
 |.yv=>k .yv
 |.fclo f c=>k (.fclo f c)
 |.agg l=>k (.agg l)
theorem Sh.hd_eq {α:Type}(s:Sh)(k:Sh→α):s.hd k=k s:=by cases s<;>rfl
def yY {α:Type}:List Sh→(List Sh→α)→α
 |[],k=>k []
 |s::l,k=>s.hd fun s=>yY l fun l=>k (s::l)
theorem L3 {α:Type}:∀(l:List Sh) (k:List Sh→α),yY l k=k l
 |[],_=>rfl
 |s::l,k=>by rw[yY,Sh.hd_eq,L3 l]
def Ob.hd {α:Type}(s:Ob)(k:Ob→α):α:=
 match s with
 |.dead=>k .dead
 |.fz t=>k (.fz t)
 |.fbox t=>k (.fbox t)
 |.box true l=>yY l fun l=>k (.box true l)
 |.box false l=>yY l fun l=>k (.box false l)
 |.row T e=>k (.row T e)
 |.mp a b=>k (.mp a b)
 |.it a b=>k (.it a b)
 |.tr=>k .tr
theorem Ob.hd_eq {α:Type}(s:Ob)(k:Ob→α):s.hd k=k s:=by
 cases s with
 |box ag l=>cases ag<;>simp only[Ob.hd,L3]
 |_=>rfl
def G2 {α:Type}:List Ob→(List Ob→α)→α
 |[],k=>k []
 |s::l,k=>s.hd fun s=>G2 l fun l=>k (s::l)
theorem Vv {α:Type}:∀(l:List Ob) (k:List Ob→α),G2 l k=k l
 |[],_=>rfl
 |s::l,k=>by rw[G2,Ob.hd_eq,Vv l]
def Snap.hard {α:Type}(s:Snap)(k:Snap→α):α:=yY s.rs fun a=>G2 s.os fun b=>k ⟨a,b⟩
theorem Snap.hard_eq {α:Type}(s:Snap)(k:Snap→α):s.hard k=k s:=by rw[Snap.hard,L3,Vv]
def G3 {α β:Type}:List β→(List β→α)→α
 |[],k=>k []
 |s::l,k=>G3 l fun l=>k (s::l)
theorem Vx {α β:Type}:∀(l:List β) (k:List β→α),G3 l k=k l
 |[],_=>rfl
 |s::l,k=>by rw[G3,Vx l]
def B7 {α β:Type}:List (List β)→(List (List β)→α)→α
 |[],k=>k []
 |s::l,k=>G3 s fun s=>B7 l fun l=>k (s::l)
theorem Vw {α β:Type}:∀(l:List (List β)) (k:List (List β)→α),B7 l k=k l
 |[],_=>rfl
 |s::l,k=>by rw[B7,Vx,Vw l]
def aC (P:Program){α:Type}(s:Sem α):Prop:=(∃a,∀w,s.run P w=.ok a w)∨∀w,∃h w',s.run P w=.halt h w'
section
variable {P:Program}
theorem aC.pure {α:Type}(a:α):aC P (Sem.pure a):=.inl ⟨a,fun w=>rfl⟩
theorem aC.pure' {α:Type}(a:α):aC P (Pure.pure a:Sem α):=.inl ⟨a,fun w=>rfl⟩
theorem aC.halt {α:Type}(h:Halt):aC P (Sem.halt h:Sem α):=.inr fun w=>⟨h,w,rfl⟩
theorem aC.bind' {α β:Type}{s:Sem α}{f:α→Sem β}(h:aC P s)(hf:∀a,(∀w,s.run P w=.ok a w)→aC P (f a)):aC P (s>>=f):=by
 rcases h with⟨a,ha⟩|hd
 ·rcases hf a ha with⟨b,hb⟩|hd
  ·exact .inl ⟨b,fun w=>by rw[Sem.run_bind,ha w];exact hb w⟩
  ·refine .inr fun w=>?_;obtain⟨x,w',e⟩:=hd w;exact⟨x,w',by rw[Sem.run_bind,ha w];exact e⟩
 ·refine .inr fun w=>?_;obtain⟨x,w',e⟩:=hd w;exact⟨x,w',by rw[Sem.run_bind,e];rfl⟩
theorem aC.bind {α β:Type}{s:Sem α}{f:α→Sem β}(h:aC P s)(hf:∀a,aC P (f a)):aC P (s>>=f):=h.bind' fun a _=>hf a
def cj {α:Type}(s:Sem α):Prop:=∀P w,∃h w',s.run P w=.halt h w'
theorem cj.noW {α:Type}{s:Sem α}(h:cj s):aC P s:=.inr (h P)
theorem cj.halt {α:Type}(h:Halt):cj (Sem.halt h:Sem α):=fun P w=>⟨h,w,rfl⟩
theorem cj.of_bind {α β:Type}{s:Sem α}{f:α→Sem β}(hf:∀a,cj (f a)):cj (s>>=f):=by
 intro P w;rw[Sem.run_bind];cases e:s.run P w with
 |ok a w'=>exact hf a P w'
 |halt h w'=>exact⟨h,w',rfl⟩
theorem aC.asBool (v:Value):aC P (Go.asBool v):=by
 cases v<;>first|exact .pure _|exact .halt _
theorem aC.asIntOf (v:Value):aC P (Go.asIntOf v):=by
 unfold Go.asIntOf;split<;>first|exact .pure _|exact .halt _
theorem aC.sureAddr (v:Value):aC P (Instr.sureAddr v):=by
 unfold Instr.sureAddr;split<;>first|exact .pure _|exact .halt _
theorem aC.prog:aC P Go.program:=.inl ⟨P,fun w=>rfl⟩
theorem aC.underlying (t:TypeId):aC P (Go.underlying t):=by
 unfold Go.underlying;refine .bind .prog fun p=>?_;split<;>first|exact .pure _|exact .halt _
theorem aC.sizeOf (t:TypeId):aC P (Go.sizeOf t):=by
 unfold Go.sizeOf Go.typeInfo;refine .bind (.bind .prog fun p=>?_) fun _=>.pure _;split<;>first|exact .pure _|exact .halt _
theorem cj.runtimePanic {α:Type}(e:RuntimeError):cj (Go.runtimePanic e:Sem α):=by
 unfold Go.runtimePanic;refine .of_bind fun p=>?_;cases e<;>first|exact .halt _|exact .of_bind fun _=>.halt _|exact .of_bind fun _=>.of_bind fun _=>.halt _
theorem cj.boundsPanic {α:Type}(k:IntKind)(x y:Int)(c:BoundsCode):cj (Go.boundsPanic k x y c:Sem α):=by
 unfold Go.boundsPanic;dsimp only;split<;>exact .of_bind fun _=>.runtimePanic _
theorem aC.indexAt (t:TypeId)(x i:Value):aC P (Instr.indexAt t x i):=by
 unfold Instr.indexAt
 repeat' (first|(first|exact aC.pure _|exact aC.pure' _|exact aC.halt _|exact cj.noW (cj.boundsPanic _ _ _ _)|exact cj.noW (cj.runtimePanic _)|exact aC.prog|exact aC.underlying _|exact aC.sizeOf _|exact aC.asIntOf _|exact aC.sureAddr _|exact aC.asBool _)|(refine aC.bind ?_ fun _=>?_)|dsimp only|split)
theorem aC.sliceBound (x:Value)(y:Nat)(c:BoundsCode):aC P (Instr.sliceBound x y c):=by
 unfold Instr.sliceBound
 repeat' (first|(first|exact aC.pure _|exact aC.pure' _|exact aC.halt _|exact cj.noW (cj.boundsPanic _ _ _ _)|exact cj.noW (cj.runtimePanic _)|exact aC.prog|exact aC.underlying _|exact aC.sizeOf _|exact aC.asIntOf _|exact aC.sureAddr _|exact aC.asBool _)|(refine aC.bind ?_ fun _=>?_)|dsimp only|split)
theorem aC.sliceBounds (b:Bool)(n m:Nat)(lo hi mx:Option Value):aC P (Instr.sliceBounds b n m lo hi mx):=by
 unfold Instr.sliceBounds
 repeat' (first|exact aC.sliceBound _ _ _|(first|exact aC.pure _|exact aC.pure' _|exact aC.halt _|exact cj.noW (cj.boundsPanic _ _ _ _)|exact cj.noW (cj.runtimePanic _)|exact aC.prog|exact aC.underlying _|exact aC.sizeOf _|exact aC.asIntOf _|exact aC.sureAddr _|exact aC.asBool _)|(refine aC.bind ?_ fun _=>?_)|dsimp only|split)
theorem aC.asAddr (v:Value):aC P (Go.asAddr v):=by
 unfold Go.asAddr
 repeat' (first|(first|exact aC.pure _|exact aC.pure' _|exact aC.halt _|exact cj.noW (cj.boundsPanic _ _ _ _)|exact cj.noW (cj.runtimePanic _)|exact aC.prog|exact aC.underlying _|exact aC.sizeOf _|exact aC.asIntOf _|exact aC.sureAddr _|exact aC.asBool _)|(refine aC.bind ?_ fun _=>?_)|dsimp only|split)
theorem aC.slice (t:TypeId)(x:Value)(lo hi mx:Option Value):aC P (Instr.slice t x lo hi mx):=by
 unfold Instr.slice
 repeat' (first|exact aC.sliceBounds _ _ _ _ _ _|exact aC.asAddr _|(first|exact aC.pure _|exact aC.pure' _|exact aC.halt _|exact cj.noW (cj.boundsPanic _ _ _ _)|exact cj.noW (cj.runtimePanic _)|exact aC.prog|exact aC.underlying _|exact aC.sizeOf _|exact aC.asIntOf _|exact aC.sureAddr _|exact aC.asBool _)|(refine aC.bind ?_ fun _=>?_)|dsimp only|split)
theorem aC.sliceAt (t:TypeId)(x:Value)(lo hi mx:Option Value):aC P (Instr.sliceAt t x lo hi mx):=by
 unfold Instr.sliceAt
 repeat' (first|exact aC.sliceBounds _ _ _ _ _ _|exact aC.slice _ _ _ _ _|(first|exact aC.pure _|exact aC.pure' _|exact aC.halt _|exact cj.noW (cj.boundsPanic _ _ _ _)|exact cj.noW (cj.runtimePanic _)|exact aC.prog|exact aC.underlying _|exact aC.sizeOf _|exact aC.asIntOf _|exact aC.sureAddr _|exact aC.asBool _)|(refine aC.bind ?_ fun _=>?_)|dsimp only|split)
def QE (P:Program)(s:TypeId)(i:Nat):Bool:=
 match P.underlying s with
 |some (.struct fs)=>(match fs[i]? with
  |some f=>(match P.info? f.type with|some d=> !Nat.beq d.size 0|none=>false)
  |none=>false)
 |_=>false
theorem aC.fieldAt {s:TypeId}{i:Nat}(h:QE P s i=true)(a:Value):aC P (Instr.fieldAt s a i):=by
 unfold Instr.fieldAt;refine .bind' (.underlying _) fun d hd=>?_;have hu:P.underlying s=some d:=by
  have:=hd default;unfold Go.underlying at this;rw[Sem.run_bind] at this;change Result.andThen (.ok P default) _=_ at this;simp only[Result.andThen_ok] at this;cases hp:P.underlying s with
  |none=>rw[hp] at this;cases this
  |some d'=>
   rw[hp] at this;change Result.ok d' default=_ at this;cases this;rfl
 unfold QE at h;rw[hu] at h;cases d<;>dsimp only at h ⊢<;>try (first|exact aC.pure _|exact aC.pure' _|exact aC.halt _|exact cj.noW (cj.boundsPanic _ _ _ _)|exact cj.noW (cj.runtimePanic _)|exact aC.prog|exact aC.underlying _|exact aC.sizeOf _|exact aC.asIntOf _|exact aC.sureAddr _|exact aC.asBool _)
 rename_i fs;cases hf:fs[i]? with
 |none=>dsimp only;(first|exact aC.pure _|exact aC.pure' _|exact aC.halt _|exact cj.noW (cj.boundsPanic _ _ _ _)|exact cj.noW (cj.runtimePanic _)|exact aC.prog|exact aC.underlying _|exact aC.sizeOf _|exact aC.asIntOf _|exact aC.sureAddr _|exact aC.asBool _)
 |some f=>
  rw[hf] at h;dsimp only at h ⊢;refine .bind (.sureAddr _) fun a=>.bind ?_ fun _=>.pure _;unfold Go.fieldPlace;refine .bind' (.sizeOf _) fun n hn=>?_;have hz:n≠0:=by
   intro e;have:=hn default;unfold Go.sizeOf Go.typeInfo at this;cases hi:P.info? f.type with
   |none=>rw[hi] at h;cases h
   |some inf=>
    rw[hi] at h;rw[Sem.run_bind,Sem.run_bind] at this;change Result.andThen (Result.andThen (.ok P default) _) _=_ at this;simp only[Result.andThen_ok,hi] at this;change Result.ok inf.size default=_ at this;cases this;dsimp only at h;rw[e] at h;cases h
  rw[if_neg hz]
  (first|exact aC.pure _|exact aC.pure' _|exact aC.halt _|exact cj.noW (cj.boundsPanic _ _ _ _)|exact cj.noW (cj.runtimePanic _)|exact aC.prog|exact aC.underlying _|exact aC.sizeOf _|exact aC.asIntOf _|exact aC.sureAddr _|exact aC.asBool _)
def Ds (P:Program):Op→Bool
 |.move _=>true
 |.assign _=>true
 |.pick ..=>true
 |.fieldAddr s _ i=>QE P s i
 |.indexAddr ..=>true
 |.slice ..=>true
 |_=>false
theorem amT {o:Oper}(hp:Ds P o.op=true)(ρ:Operand→Value):(∃v,∀w,(execOp ρ o).run P w=.ok (.value v) w)∨∀w,∃h w',(execOp ρ o).run P w=.halt h w':=by
 have key:∀s:Sem Value,aC P s→(∃v,∀w,(do Pure.pure (Next.value (←s)):Sem Next).run P w=.ok (.value v) w)∨∀w,∃h w',(do Pure.pure (Next.value (←s)):Sem Next).run P w=.halt h w':=by
  intro s hs;rcases hs with⟨a,ha⟩|hd
  ·exact .inl ⟨a,fun w=>by rw[Sem.run_bind,ha w];rfl⟩
  ·refine .inr fun w=>?_;obtain⟨x,w',e⟩:=hd w;exact⟨x,w',by rw[Sem.run_bind,e];rfl⟩
 obtain⟨dst,op,type,pos,after,guard⟩:=o;cases op<;>first|(cases hp;done)|skip
 case move x=>exact .inl ⟨_,fun w=>rfl⟩
 case assign x=>exact .inl ⟨_,fun w=>rfl⟩
 case pick c a b=>
  have:=key (do Pure.pure (if←Go.asBool (ρ c) then ρ a else ρ b)) (.bind (.asBool _) fun _=>.pure _);simp only[execOp];rcases aC.asBool (P:=P) (ρ c) with⟨t,ht⟩|hd
  ·exact .inl ⟨_,fun w=>by rw[Sem.run_bind,ht w];rfl⟩
  ·refine .inr fun w=>?_;obtain⟨x,w',e⟩:=hd w;exact⟨x,w',by rw[Sem.run_bind,e];rfl⟩
 case fieldAddr s x i=>exact key _ (.fieldAt hp _)
 case indexAddr t x i=>exact key _ (.indexAt _ _ _)
 case slice t x lo hi mx=>exact key _ (.sliceAt _ _ _ _ _)
theorem amU {rd:Option Nat}{ops:Array Oper}{i:Nat}{o:Oper}{a:Act}{w:World}{K:Act→World→Prop}(hi:ops[i]?=some o)(hp:Ds P o.op=true)
 (h:wpOpIn (FR rd) 0 P ops (fun _ _ _=>False) i K a w):∃v,YieldsFenced P ops o v a∧K (a.put o.dst v) w:=by
 have bk:∀c,o.op≠.defer c:=fun c e=>by rw[e] at hp;cases hp
 have B3:∀w,o.about P w a.eval=none:=fun w=>by
  unfold Oper.about;cases ho:o.op<;>first|rfl|(rw[ho] at hp;cases hp)
 unfold wpOpIn at h;rw[hi] at h;dsimp only at h;cases hw:Region.wanted o (yielded ops a.tmps) with
 |false=>
  rw[hw] at h;exact⟨undef,⟨.inr ⟨hw,rfl⟩,B3⟩,h.2⟩
 |true=>
  rw[hw,if_pos rfl] at h;have h2:=h.2;rw[Oper.semAt_eq _ _ _ bk] at h2;rcases amT hp a.eval with⟨v,hv⟩|hd
  ·rw[hv w] at h2;exact⟨v,⟨.inl ⟨hw,hv⟩,B3⟩,h2⟩
  ·obtain⟨x,w',e⟩:=hd w;rw[e] at h2;cases x<;>exact h2.elim
section
variable {F:Fence} {n:Nat} {ops:Array Oper} {Q:Exit→Act→World→Prop} {md:Region.Mode}
theorem YF.wpOpIn {i:Nat}{o:Oper}{v:Value}{a:Act}(bk:nJ o.op=true)(hi:ops[i]?=some o)(hy:YieldsFenced P ops o v a)
 {K:Act→World→Prop} {w:World} (h:K (a.put o.dst v) w):wpOpIn F n P ops Q i K a w:=by
 have jz:∀c,o.op≠.defer c:=fun c e=>by rw[e] at bk;cases bk
 unfold Go.wpOpIn;simp only[hi];have B3:∀f,o.about P w a.eval=some f→F.fn f:=fun f hf=>by rw[hy.2 w] at hf;cases hf
 rcases hy.1 with⟨hw,hv⟩|⟨hw,rfl⟩
 ·simp only[hw,if_true,Oper.wpIn,Oper.semAt_eq _ _ _ jz,hv w,Oper.uponIn];exact⟨B3,h⟩
 ·simp only[hw,uW,if_false];exact⟨B3,h⟩
theorem ara {j:Nat}{oi oj:Oper}{v:Value}(bk:nJ oj.op=true)(hj:ops[j]?=some oj)(L2:oi.apart ops oj=true)
 (hsi:∀cs b,oi.op≠.select cs b) (hsj:∀cs b,oj.op≠.select cs b)
 (hQ:∀c a w,Q (.panic c) (a.put oi.dst v) w→Q (.panic c) a w) {K:Act→World→Prop} {a:Act} {w:World}
 (hy:YieldsFenced P ops oi v a) (h:wpOpIn F n P ops Q j K (a.put oi.dst v) w):
 wpOpIn F n P ops Q j (fun a' w'=>YieldsFenced P ops oi v a'∧K (a'.put oi.dst v) w') a w:=by
 have jz:∀c,oj.op≠.defer c:=fun c e=>by rw[e] at bk;cases bk
 obtain⟨h1,h2,h3⟩:=Oper.apart_spec L2;have keep:∀(a:Act),YieldsFenced P ops oi v a→∀u,YieldsFenced P ops oi v (a.put oj.dst u):=fun a hy u=>
  hy.of_same (execOp_put oi hsi a oj.dst u h3) (wanted_put oi a oj.dst u h3) (fun w=>about_put oi w a oj.dst u h3)
 have ajz:∀d,YieldsFenced P ops oi v {a with defers:=d::a.defers}:=fun d=>hy.of_same rfl rfl (fun _=>rfl);unfold Go.wpOpIn at*;simp only[hj] at*;rw[wanted_put oj a oi.dst v h1,about_put oj w a oi.dst v h1] at h;split
 ·rename_i hw;simp only[hw,if_true] at h;unfold Oper.wpIn at*;rw[about_put oj w a oi.dst v h1] at h;refine⟨h.1,?_⟩;have h:=h.2;rw[Oper.semAt_eq _ _ _ jz,execOp_put oj hsj a oi.dst v h1] at h;rw[Oper.semAt_eq _ _ _ jz];generalize (execOp a.eval oj).run P w=r at*;cases r with
  |ok x w'=>
   cases x<;>simp only[Oper.uponIn] at h ⊢
   case value u=>exact⟨keep a hy u,by rw[←Act.put_comm a v u h2];exact h⟩
   case skip=>exact⟨keep a hy _,by rw[←Act.put_comm a v undef h2];exact h⟩
   case defer d=>
        refine⟨keep _ (ajz d) _,?_⟩;rw[←Act.put_comm _ v undef h2,←Act.put_defers];exact h
   case enter f args=>
        refine⟨h.1,CallsIn.mono h.2 fun e kh he=>?_⟩;cases e with
        |returned u=>exact⟨keep a hy u,by rw[←Act.put_comm a v u h2];exact he⟩
        |panicked c=>exact hQ _ _ _ he
        |outgrown=>exact he
   case row row args=>exact⟨h.1,RowsIn.mono h.2 fun u kh he=>⟨keep a hy u,by rw[←Act.put_comm a v u h2];exact he⟩⟩
   case round l f tmps assign body=>
        refine⟨h.1,RoundIn.mono h.2 fun e kh he=>?_⟩;cases e with
        |returned u=>exact⟨keep a hy u,by rw[←Act.put_comm a v u h2];exact he⟩
        |panicked c=>exact hQ _ _ _ he
        |outgrown=>exact he
  |halt x w'=>
   cases x<;>simp only[Oper.uponIn] at h ⊢
   case panic u=>exact hQ _ _ _ h
 ·rename_i hw;simp only[hw] at h;exact⟨h.1,keep a hy _,by rw[←Act.put_comm a v undef h2];exact h.2⟩
theorem aq9 {i:Nat}{oi:Oper}{v:Value}(bk:∀(j:Nat) (o:Oper),ops[j]?=some o→nJ o.op=true)(hi:ops[i]?=some oi)(zg:∀(j:Nat) (o:Oper) cs b,ops[j]?=some o→o.op≠.select cs b)
 (hQ:∀c a w,Q (.panic c) (a.put oi.dst v) w→Q (.panic c) a w):
 ∀(fuel:Nat) (listed:Array Bool) (a:Act) (w:World),
  (∀j oj,ops[j]?=some oj→j≠i→listed.getD j true=false→(∀e∈oj.after,Region.binds md e=true→e.on≠i)→oi.apart ops oj=true)→
  i∈Region.ready md ops listed→YieldsFenced P ops oi v a→
  wpAnyIn F n P md ops Q fuel (listed.setIfInBounds i true) (a.put oi.dst v) w→wpAnyIn F n P md ops Q (fuel+1) listed a w:=by
 intro fuel
 induction fuel with
 |zero=>
  intro listed a w _ hr hy H;refine⟨fun h=>(by rw[h] at hr;cases hr),fun j hj=>?_⟩;by_cases gQ:j=i
  ·subst gQ;exact YF.wpOpIn (bk _ _ hi) hi hy H
  ·have:=ready_mono hj gQ;rw[H.1] at this;cases this
 |succ fuel ih=>
  intro listed a w mH hr hy H;refine⟨fun h=>(by rw[h] at hr;cases hr),fun j hj=>?_⟩;by_cases gQ:j=i
  ·subst gQ;exact YF.wpOpIn (bk _ _ hi) hi hy H
  ·have h1:=H.2 j (ready_mono hj gQ);obtain⟨VX,oj,qn,aO⟩:=mem_ready.1 hj
   have ME:∀e∈oj.after,Region.binds md e=true→e.on≠i:=fun e he hb heq=>by
        have h1:=aO e he hb;have h0:=(mem_ready.1 hr).1;rw[heq] at h1;rcases J6 i listed.size with h'|h'
        ·simp[h'] at h0 h1;rw[h0] at h1;cases h1
        ·simp[Array.getElem?_eq_none h'] at h1
   have h2:=ara (bk _ _ qn) qn (mH j oj qn gQ VX ME) (fun cs b=>zg i oi cs b hi) (fun cs b=>zg j oj cs b qn) hQ hy h1;have ahy:∀k ok,ops[k]?=some ok→k≠i→(listed.setIfInBounds j true).getD k true=false→
    (∀e∈ok.after,Region.binds md e=true→e.on≠i)→oi.apart ops ok=true:=fun k ok hk hki mM dZ=>by
        refine mH k ok hk hki ?_ dZ;by_cases Hm:j=k
        ·subst Hm;exact VX
        ·rw[getD_set_ne true Hm] at mM;exact mM
   refine wpOpIn_mono (fun a' w' h3=>ih (listed.setIfInBounds j true) a' w' ahy (ready_mono hr (sX gQ)) h3.1 ?_) h2;rw[Array.setIfInBounds_comm _ _ gQ];exact h3.2
end
end
def ru (P:Program)(ops:Array Oper):List (Option (List Nat)):=(List.range ops.size).map fun i=>match ops[i]? with
 |some oi=>bif Ds P oi.op then some ((List.range ops.size).filter fun j=> !(Nat.beq j i||(match ops[j]? with|some oj=>(oj.after.toList.any fun e=>Region.binds .any e&&Nat.beq e.on i)||oi.apart ops oj|none=>true))) else none
 |none=>none
def AE (bad:List (Option (List Nat)))(E:Nat):List Nat→Option Nat
 |[]=>none
 |i::l=>match bad.getD i none with
  |some b=>bif b.all (av E) then some i else AE bad E l
  |none=>AE bad E l
def NT (ops:Array Oper):Bool:=ops.toList.all fun o=>match o.op with|.select ..=>false|_=>true
theorem JC {bad:List (Option (List Nat))}{E:Nat}:∀{l:List Nat} {i:Nat},AE bad E l=some i→i∈l∧∃b,bad.getD i none=some b∧b.all (av E)=true
 |[],_,h=>by cases h
 |i::l,j,h=>by
  unfold AE at h;split at h
  ·rename_i b hb;cases hc:b.all (av E) with
   |true=>
    rw[hc] at h;cases h;exact⟨dt ..,b,hb,hc⟩
   |false=>
    rw[hc] at h;obtain⟨h1,h2⟩:=JC h;exact⟨dk _ h1,h2⟩
  ·obtain⟨h1,h2⟩:=JC h;exact⟨dk _ h1,h2⟩
theorem acZ {P:Program}{ops:Array Oper}{i:Nat}{b:List Nat}(h:(ru P ops).getD i none=some b):∃oi,ops[i]?=some oi∧Ds P oi.op=true∧
 ∀j oj,ops[j]?=some oj→j≠i→j∉b→(∀e∈oj.after,Region.binds .any e=true→e.on≠i)→oi.apart ops oj=true:=by
 unfold ru at h;rw[aK,cw] at h;by_cases hi:i<ops.size
 ·rw[pQ hi] at h;simp only[jO,jj] at h;rw[fi hi] at h;dsimp only at h;cases hp:Ds P ops[i].op<;>rw[hp] at h<;>simp only[cond_true,cond_false] at h
  ·cases h
  injection h with h
  refine⟨ops[i],fi hi,hp,fun j oj hj gQ Hl dZ=>?_⟩;have af:j<ops.size:=(ga.1 hj).1;rw[←h] at Hl;have h2:¬(!(Nat.beq j i||(match ops[j]? with|some oj=>(oj.after.toList.any fun e=>Region.binds .any e&&Nat.beq e.on i)||ops[i].apart ops oj|none=>true)))=true:=fun hc=>Hl (du.2 ⟨bX.2 af,hc⟩);rw[hj,dY gQ] at h2;simp only[pM,gd,Bool.not_eq_false,gr] at h2;rcases h2 with h2|h2
  ·obtain⟨e,he,hb⟩:=jL.1 h2;rw[ak] at hb;exact absurd (cM hb.2) (dZ e (by simpa using he) hb.1)
  ·exact h2
 ·rw[re (by simpa using hi)] at h;cases h
def C6 (E:Nat)(T:Snap):List (Nat×Snap)→Option (List (Nat×Snap))
 |[]=>some [(E,T)]
 |x::l=>bif Nat.beq x.1 E then(bif x.2.beq T then some (x::l) else none) else(C6 E T l).map (x::·)
def lq (ops:Array Oper)(E:Nat):List Nat:=
 (List.range ops.size).filter fun i=> !av E i&&(match ops[i]? with|some o=>o.after.toList.all fun e=> !Region.binds .any e||av E e.on|none=>false)
def OF (C:Ctx)(ops:Array Oper)(n:Nat)(ids:List Nat)(X:List (List PI))(nc:List (List Nat))(E:Nat)(T:Snap)(i:Nat):Option (Nat×Snap):=
 match ops[i]? with
 |some o=>(oD C (T.stO ids) ops o).bind fun r=>
  bif PI.beqs r.2 (X.getD i [])&&(nc.getD i []).all (av E) then some (Nat.lor E (dC i),⟨uK (kJ r.1) r.1 T.rs o.dst.toList,ids.map fun j=>gW r.1 (r.1.o j)⟩) else none
 |none=>none
def EG (one:Nat→Option (Nat×Snap)):List Nat→List (Nat×Snap)→Option (List (Nat×Snap))
 |[],acc=>some acc
 |i::l,acc=>(one i).bind fun x=>x.2.hard fun T=>(C6 x.1 T acc).bind fun acc=>EG one l acc
def oz (ops:Array Oper)(bad:List (Option (List Nat)))(E:Nat):List Nat:=
 match AE bad E (lq ops E) with
 |some i=>[i]
 |none=>lq ops E
def De (ops:Array Oper)(bad:List (Option (List Nat)))(one:Nat→Snap→Nat→Option (Nat×Snap)):List (Nat×Snap)→List (Nat×Snap)→Option (List (Nat×Snap))
 |[],acc=>some acc
 |x::l,acc=>
  match oz ops bad x.1 with
  |[]=>none
  |rs=>(EG (one x.1 x.2) rs acc).bind fun acc=>De ops bad one l acc
def EB (ops:Array Oper)(bad:List (Option (List Nat)))(one:Nat→Snap→Nat→Option (Nat×Snap)):Nat→List (Nat×Snap)→Option Snap
 |0,L=>
  match L with
  |[x]=>bif (List.range ops.size).all (av x.1) then some x.2 else none
  |_=>none
 |k+1,L=>(De ops bad one L []).bind fun L=>EB ops bad one k L
theorem WL {E:Nat}{T:Snap}:∀{l l':List (Nat×Snap)},C6 E T l=some l'→(E,T)∈l'∧∀x,x∈l→x∈l'
 |[],l',h=>by simp only[C6,aR] at h;subst h;simp
 |x::l,l',h=>by
  simp only[C6] at h;cases hb:Nat.beq x.1 E<;>simp only[hb,cond_true,cond_false] at h
  ·simp only[az] at h;obtain⟨l2,h2,rfl⟩:=h;obtain⟨h3,h4⟩:=WL h2;exact⟨dk _ h3,fun y hy=>(cD.1 hy).elim (fun e=>e▸dt ..) fun hm=>dk _ (h4 y hm)⟩
  ·cases hs:x.2.beq T<;>simp only[hs,cond_true,cond_false] at h
   ·cases h
   ·cases h;refine⟨?_,fun y hy=>hy⟩;have e1:=cM hb;have e2:=Snap.beq_eq _ _ hs;subst e1;subst e2;simp
theorem abg {one:Nat→Option (Nat×Snap)}:∀{rs:List Nat} {acc AZ:List (Nat×Snap)},EG one rs acc=some AZ→(∀x,x∈acc→x∈AZ)∧∀i,i∈rs→∃x,one i=some x∧x∈AZ
 |[],acc,AZ,h=>by simp only[EG,aR] at h;subst h;simp
 |i::rs,acc,AZ,h=>by
  simp only[EG,Snap.hard_eq,au] at h;obtain⟨x,hx,acp,h1,h2⟩:=h;obtain⟨h3,h4⟩:=WL h1;obtain⟨h5,h6⟩:=abg h2;refine⟨fun y hy=>h5 y (h4 y hy),fun j hj=>?_⟩;rcases cD.1 hj with e|hm
  ·subst e;exact⟨x,hx,h5 _ h3⟩
  ·exact h6 j hm
theorem W5 {ops:Array Oper}{bad:List (Option (List Nat))}{one:Nat→Snap→Nat→Option (Nat×Snap)}:∀{L acc L':List (Nat×Snap)},De ops bad one L acc=some L'→
 (∀x,x∈acc→x∈L')∧∀x,x∈L→oz ops bad x.1≠[]∧∀i,i∈oz ops bad x.1→∃y,one x.1 x.2 i=some y∧y∈L'
 |[],acc,L',h=>by simp only[De,aR] at h;subst h;simp
 |x::L,acc,L',h=>by
  simp only[De] at h;split at h
  ·cases h
  ·rename_i aB;simp only[au] at h;obtain⟨acp,h1,h2⟩:=h;obtain⟨h3,h4⟩:=abg h1;obtain⟨h5,h6⟩:=W5 h2;refine⟨fun y hy=>h5 y (h3 y hy),fun y hy=>?_⟩;rcases cD.1 hy with e|hm
   ·subst e;refine⟨fun e=>aB e,fun i hi=>?_⟩;obtain⟨z,hz,hm⟩:=h4 i hi;exact⟨z,hz,h5 z hm⟩
   ·exact h6 y hm
def eg (X:List (List PI))(l:List Nat)(E:Nat):List PI:=l.flatMap fun i=>bif av E i then[] else X.getD i []
theorem Qo {X:List (List PI)}{E E':Nat}:∀(l:List Nat),(∀i,i∈l→av E i=av E' i)→eg X l E=eg X l E'
 |[],_=>rfl
 |i::l,h=>by
  have ih:=Qo (X:=X) l fun j hj=>h j (dk _ hj);unfold eg at ih ⊢;simp only[uX];rw[ih,h i (dt ..)]
theorem Foot.comm_each {a b:List PI}(h:(gO a).comm (gO b)=true):∀p q,p∈a→q∈b→Comm p q:=by
 simp only[Foot.comm,ak] at h;obtain⟨h1,h2,h3,h4,h5,h6⟩:=h;intro p q hp hq;obtain⟨p1,p2,p3,p4⟩:=U9 hp;obtain⟨q1,q2,q3,q4⟩:=U9 hq;exact⟨fun t x y=>Nv h1 (p1 t x) (q1 t y),fun t x y=>Nv h2 (p1 t x) (q3 t y),fun t x y=>Nv h3 (q1 t x) (p3 t y),fun t x y=>Kj h4 (p2 t x) (q2 t y),fun t x y=>Kj h5 (p2 t x) (q4 t y),fun t x y=>Kj h6 (q2 t x) (p4 t y)⟩
def pk (X:List (List PI))(N:Nat):List (List Nat):=
 (List.range N).map fun i=>(List.range i).filter fun j=> !(gO (X.getD j [])).comm (gO (X.getD i []))
theorem iK (E i j:Nat):av (Nat.lor E (dC i)) j=(av E j||Nat.beq i j):=by
 rw[eP]
 congr 1
 rw[ry];show(1<<<i).testBit j=_;rw[Nat.testBit_shiftLeft];by_cases h:i=j
 ·subst h;simp
 ·have h1:Nat.beq i j=false:=dY h;rw[h1];by_cases h2:i≤j
  ·have:j-i≠0:=by omega
   cases hk:j-i with
   |zero=>omega
   |succ k=>
    have:(1:Nat).testBit (k+1)=false:=by simp[Nat.testBit_succ]
    simp[this]
  ·simp[h2]
theorem aaO {X:List (List PI)}{N E i:Nat}(hi:i<N)(hb:av E i=false)(cP:((pk X N).getD i []).all (av E)=true)(Φ:aP)(ρ:Env):
 PI.runs Φ (eg X (List.range N) E) ρ=(PI.runs Φ (X.getD i []) ρ).bind (PI.runs Φ (eg X (List.range N) (Nat.lor E (dC i)))):=by
 obtain⟨l1,l2,hl⟩:=Tw (bX.2 hi);have hp:=List.pairwise_lt_range (n:=N);rw[hl,List.pairwise_append] at hp;obtain⟨_,eW,hp3⟩:=hp;rw[List.pairwise_cons] at eW;have Xz:∀j,j∈l1→j<i:=fun j hj=>hp3 j hj i (dt ..);have lt2:∀j,j∈l2→i<j:=fun j hj=>eW.1 j hj;have e0:∀E,eg X (l1++i::l2) E=eg X l1 E++((bif av E i then[] else X.getD i [])++eg X l2 E):=fun E=>by simp[eg]
 have e1:eg X l1 (Nat.lor E (dC i))=eg X l1 E:=Qo l1 fun j hj=>by
  rw[iK,dY (by have:=Xz j hj;omega),q8]
 have e2:eg X l2 (Nat.lor E (dC i))=eg X l2 E:=Qo l2 fun j hj=>by
  rw[iK,dY (by have:=lt2 j hj;omega),q8]
 have e3:av (Nat.lor E (dC i)) i=true:=by rw[iK,gy,m7]
 rw[hl,e0,e0,e1,e2,e3,hb];simp only[cond_true,cond_false,sW]
 have ahf:PI.runs Φ (eg X l1 E++X.getD i [])=PI.runs Φ (X.getD i []++eg X l1 E):=funext fun ρ=>PI.comms _ _ (fun p q hp hq=>by
  unfold eg at hp;obtain⟨j,hj,hp⟩:=mz.1 hp;cases oN:av E j<;>simp only[oN,cond_true,cond_false] at hp
  case true=>cases hp
  have hc:(gO (X.getD j [])).comm (gO (X.getD i []))=true:=by
   cases ib:(gO (X.getD j [])).comm (gO (X.getD i [])) with
   |true=>rfl
   |false=>
    have qj:(pk X N).getD i []=(List.range i).filter fun j=> !(gO (X.getD j [])).comm (gO (X.getD i [])):=by
     unfold pk;rw[aK,cw,pQ hi];rfl
    rw[qj] at cP;have:=bE.1 cP j (du.2 ⟨bX.2 (Xz j hj),by rw[ib];rfl⟩);rw[oN] at this;cases this
  exact Foot.comm_each hc p q hp hq) ρ
 rw[←pP,nX,ahf];have:=nX (Φ:=Φ) (a:=X.getD i []) (b:=eg X l1 E) (ρ:=ρ);rw[this,Option.bind_assoc]
 congr 1
 funext ρ1;rw[nX]
def eJ (C:Ctx)(ops:Array Oper):List Nat→St→Option (List (List PI))
 |[],_=>some []
 |i::l,S=>
  match ops[i]? with
  |some o=>(oD C S ops o).bind fun r=>(eJ C ops l r.1).map fun q=>r.2::q
  |none=>none
def Vh (ops:Array Oper):Bool:=(List.range ops.size).all fun i=>match ops[i]? with
 |some o=>(match o.guard with|some (j,_)=>Nat.blt j i|none=>true)
 |none=>true
def yT (ops:Array Oper):Bool:=ops.toList.all fun o=>match o.guard with
 |some (j,_)=>o.after.toList.any fun e=>Region.binds .any e&&Nat.beq e.on j
 |none=>true
def bC:Operand→List Nat
 |.tmp t=>[t]
 |_=>[]
def AH:Option Operand→List Nat
 |some x=>bC x
 |none=>[]
def kV:Op→List Nat
 |.move x=>bC x
 |.assign x=>bC x
 |.unOp _ _ x=>bC x
 |.convert _ _ x=>bC x
 |.load _ x=>bC x
 |.fieldAddr _ x _=>bC x
 |.field _ x _=>bC x
 |.extract x _=>bC x
 |.nilCheck x=>bC x
 |.pick c x y=>bC c++bC x++bC y
 |.binOp _ _ x y _=>bC x++bC y
 |.indexAddr _ x i=>bC x++bC i
 |.index _ x i=>bC x++bC i
 |.lookup _ m k _=>bC m++bC k
 |.slice _ x lo hi _=>bC x++AH lo++AH hi
 |.build _ ps=>ps.toList.flatMap fun p=>bC p.2
 |.call c=>(match c.callee with|.value x=>bC x|_=>[])++c.args.toList.flatMap bC
 |.store _ x v=>bC x++bC v
 |.mapUpdate _ m k v=>bC m++bC k++bC v
 |_=>[]
def GO (ops:Array Oper)(o:Oper):List Nat:=
 match o.guard with
 |some (j,_)=>(match(ops[j]?).bind (·.dst) with|some t=>[t]|none=>[])
 |none=>[]
def St.withR (S:St)(f:Nat→Sh):St:=⟨f,S.o,S.ver⟩
section
variable {C:Ctx} {S:St} {f:Nat→Sh} {gs:List (Nat×Bool)} {dst:Nat}
theorem Az {t:Nat}(h:f t=S.r t):kc (S.withR f) gs t=kc S gs t:=by
 have e:(S.withR f).r t=S.r t:=h;unfold kc;rw[e]
theorem uJ {x:Operand}(h:∀t,t∈bC x→f t=S.r t):ff (S.withR f) gs x=ff S gs x:=by
 cases x<;>first|rfl|exact Az (h _ (pR.2 rfl))
theorem K8:∀(l:List Sh) (j:PE) (i:Nat),p5 (S.withR f) j l i=p5 S j l i
 |[],_,_=>rfl
 |s::l,j,i=>by simp only[p5];rw[K8 l j (i+1)];rfl
theorem Kh:∀(l:List AgC),vg (S.withR f) l=vg S l
 |[]=>rfl
 |.dat _::l=>Kh l
 |.obj j ver::l=>by simp only[vg];rw[Kh l];rfl
theorem TQ:∀(l:List Sh),tc (S.withR f) l=tc S l
 |[]=>rfl
 |s::l=>by simp only[tc];rw[TQ l];rfl
theorem dQ {x:Operand}(h:∀t,t∈bC x→f t=S.r t):use C (S.withR f) gs x=use C S gs x:=by
 cases x<;>first|rfl|(unfold use;simp only;rw[Az (h _ (pR.2 rfl))];simp only[K8];rfl)
theorem abM {x:Operand}(h:∀t,t∈bC x→f t=S.r t):view C (S.withR f) gs x=view C S gs x:=by
 unfold view;rw[dQ h];cases x<;>first|rfl|(simp only;rw[Az (h _ (pR.2 rfl))];rfl)
theorem S6:∀{xs:List Operand},(∀t,t∈xs.flatMap bC→f t=S.r t)→kf C (S.withR f) gs xs=kf C S gs xs
 |[],_=>rfl
 |x::xs,h=>by
  simp only[kf]
  rw[dQ fun t ht=>h t (mz.2 ⟨x,dt ..,ht⟩),S6 fun t ht=>by
   obtain⟨y,hy,sc⟩:=mz.1 ht;exact h t (mz.2 ⟨y,dk _ hy,sc⟩)]
theorem aqY {x:Option Operand}(h:∀t,t∈AH x→f t=S.r t):EM C (S.withR f) gs x=EM C S gs x:=by
 cases x with
 |none=>rfl
 |some x=>exact dQ h
theorem aqW {e:PE}{x:Option Operand}(h:∀t,t∈AH x→f t=S.r t):EL C (S.withR f) gs e x=EL C S gs e x:=by
 cases x with
 |none=>rfl
 |some x=>exact dQ h
theorem qz:∀{xs:List Operand},(∀t,t∈xs.flatMap bC→f t=S.r t)→bK (S.withR f) gs xs=bK S gs xs
 |[],_=>rfl
 |x::xs,h=>by
  simp only[bK]
  rw[uJ fun t ht=>h t (mz.2 ⟨x,dt ..,ht⟩),qz fun t ht=>by
   obtain⟨y,hy,sc⟩:=mz.1 ht;exact h t (mz.2 ⟨y,dk _ hy,sc⟩)]
  simp only[Kh];rfl
theorem iZ {P:Nat→Prop}{a b:List Nat}(h:∀t,t∈a++b→P t):(∀t,t∈a→P t)∧∀t,t∈b→P t:=
 ⟨fun t ht=>h t (jh _ ht),fun t ht=>h t (jM _ ht)⟩
theorem Zv {x:Operand}(h:∀t,t∈bC x→f t=S.r t):pv C (S.withR f) gs dst x=pv C S gs dst x:=by
 unfold pv;rw[dQ h];cases x<;>first|rfl|(simp only;rw[Az (h _ (pR.2 rfl))])
theorem amf {c x y:Operand}(h:∀t,t∈bC c++bC x++bC y→f t=S.r t):zR C (S.withR f) gs dst c x y=zR C S gs dst c x y:=by
 obtain⟨h1,h3⟩:=iZ h;obtain⟨h1,h2⟩:=iZ h1;unfold zR;cases c<;>first|rfl|skip
 simp only;rw[Az (h1 _ (pR.2 rfl)),dQ h2,dQ h3]
theorem alO {op:BinOp}{T:TypeId}{x y:Operand}(h:∀t,t∈bC x++bC y→f t=S.r t):zE C (S.withR f) gs dst op T x y=zE C S gs dst op T x y:=by
 obtain⟨h1,h2⟩:=iZ h;unfold zE;rw[dQ h1,dQ h2]
theorem amk {op:UnOp}{x:Operand}(h:∀t,t∈bC x→f t=S.r t):zT C (S.withR f) gs dst op x=zT C S gs dst op x:=by unfold zT;rw[dQ h]
theorem alS {s d:TypeId}{x:Operand}(h:∀t,t∈bC x→f t=S.r t):zH C (S.withR f) gs dst s d x=zH C S gs dst s d x:=by unfold zH;rw[dQ h]
theorem al7 {T:TypeId}{x:Operand}(h:∀t,t∈bC x→f t=S.r t):zO C (S.withR f) gs dst T x=zO C S gs dst T x:=by unfold zO;rw[abM h]
theorem Zt {b:Bool}{x y:Operand}(h:∀t,t∈bC x++bC y→f t=S.r t):wD C (S.withR f) gs dst b x y=wD C S gs dst b x y:=by
 obtain⟨h1,h2⟩:=iZ h;unfold wD;rw[dQ h1,dQ h2]
theorem al9 {T:TypeId}{x:Operand}(h:∀t,t∈bC x→f t=S.r t):sm C (S.withR f) gs dst T x=sm C S gs dst T x:=by
 unfold sm;rw[uJ h,dQ h];simp only[K8,TQ];rfl
theorem alW {T:TypeId}{x:Operand}{i:Nat}(h:∀t,t∈bC x→f t=S.r t):zK C (S.withR f) gs dst T x i=zK C S gs dst T x i:=by
 unfold zK;rw[uJ h,dQ h];rfl
theorem alY {T:TypeId}{x:Operand}{i:Nat}(h:∀t,t∈bC x→f t=S.r t):zJ C (S.withR f) gs dst T x i=zJ C S gs dst T x i:=by unfold zJ;rw[dQ h]
theorem al3 {T:TypeId}{x i:Operand}(h:∀t,t∈bC x++bC i→f t=S.r t):zN C (S.withR f) gs dst T x i=zN C S gs dst T x i:=by
 obtain⟨h1,h2⟩:=iZ h;unfold zN;rw[dQ h1,dQ h2,uJ h1];rfl
theorem al5 {T:TypeId}{x i:Operand}(h:∀t,t∈bC x++bC i→f t=S.r t):zM C (S.withR f) gs dst T x i=zM C S gs dst T x i:=by
 obtain⟨h1,h2⟩:=iZ h;unfold zM;rw[dQ h1,dQ h2]
theorem alU {x:Operand}{i:Nat}(h:∀t,t∈bC x→f t=S.r t):zI C (S.withR f) gs dst x i=zI C S gs dst x i:=by unfold zI;rw[dQ h]
theorem amb {T:TypeId}{m k:Operand}{ok:Bool}(h:∀t,t∈bC m++bC k→f t=S.r t):zP C (S.withR f) gs dst T m k ok=zP C S gs dst T m k ok:=by
 obtain⟨h1,h2⟩:=iZ h;unfold zP;rw[abM h1,dQ h2]
theorem ami {T:TypeId}{x:Operand}{lo hi mx:Option Operand}(h:∀t,t∈bC x++AH lo++AH hi→f t=S.r t):zS C (S.withR f) gs dst T x lo hi mx=zS C S gs dst T x lo hi mx:=by
 obtain⟨h1,h3⟩:=iZ h;obtain⟨h1,h2⟩:=iZ h1;unfold zS;rw[dQ h1];simp only[aqY h2,aqW h3]
theorem T8 {zs:List Value}{parts:List (Nat×Operand)}(h:∀t,t∈(parts.flatMap fun p=>bC p.2)→f t=S.r t):∀(fs:List Field) (i off:Nat),kp C (S.withR f) gs zs parts fs i off=kp C S gs zs parts fs i off
 |[],_,_=>rfl
 |g::fs,i,off=>by
  simp only[kp,T8 h fs];cases hp:parts.find? (fun p=>Nat.beq p.1 i) with
  |none=>rfl
  |some p=>
   have hu:use C (S.withR f) gs p.2=use C S gs p.2:=dQ fun t ht=>h t (mz.2 ⟨p,xo hp,ht⟩);simp only[hu]
theorem alQ {T:TypeId}{ps:List (Nat×Operand)}(h:∀t,t∈(ps.flatMap fun p=>bC p.2)→f t=S.r t):zG C (S.withR f) gs dst T ps=zG C S gs dst T ps:=by
 unfold zG;simp only[T8 h];split
 ·rfl
 ·split
  ·split
   ·rename_i x y;rw[dQ (x:=x) fun t ht=>h t (by simp[ht]),dQ (x:=y) fun t ht=>h t (by simp[ht])]
   ·rfl
  ·rfl
 ·rfl
theorem amd {x:Operand}(h:∀t,t∈bC x→f t=S.r t):zQ C (S.withR f) gs dst x=zQ C S gs dst x:=by
 unfold zQ;rw[dQ h];cases x<;>first|rfl|(simp only;rw[Az (h _ (pR.2 rfl))];rfl)
def mF:Op→Bool
 |.move _|.pick ..|.binOp ..|.unOp ..|.convert ..|.load ..|.fieldAddr ..|.field ..|.indexAddr ..|.index ..|.extract ..|.lookup ..|.slice ..|.build ..|.nilCheck _|.makeInterface ..|.call _=>true
 |_=>false
theorem Zx {op:Op}(hq:mF op=true)(h:∀t,t∈kV op→f t=S.r t):nK C (S.withR f) gs dst op=nK C S gs dst op:=by
 cases op<;>simp only[mF] at hq<;>simp only[kV] at h<;>simp only[nK]
 case move=>exact Zv h
 case pick=>exact amf h
 case binOp=>exact alO h
 case unOp=>exact amk h
 case convert=>exact alS h
 case load=>exact al9 h
 case fieldAddr=>exact alW h
 case field=>exact alY h
 case indexAddr=>exact al3 h
 case index=>exact al5 h
 case extract=>exact alU h
 case lookup=>exact amb h
 case slice=>exact ami h
 case build=>exact alQ h
 case nilCheck=>exact amd h
 case call c=>
  obtain⟨_,h2⟩:=iZ h;split
  ·rename_i x T _ ha _;exact al7 fun t ht=>h2 t (by rw[ha];simp[ht])
  ·rename_i x y _ ha;exact Zt fun t ht=>h2 t (by rw[ha];simpa using ht)
  ·rename_i x y _ ha;exact Zt fun t ht=>h2 t (by rw[ha];simpa using ht)
  ·rfl
 all_goals (cases hq;done)
theorem amN {op:Op}(h:∀t,t∈kV op→f t=S.r t)(hq:mF op=true):uo (S.withR f) gs op=uo S gs op:=by
 cases op<;>simp only[mF] at hq<;>simp only[kV] at h<;>simp only[uo]
 case build T ps=>exact qz fun t ht=>h t (by
  obtain⟨x,hx,Nj⟩:=mz.1 ht;obtain⟨p,hp,rfl⟩:=eO.1 hx;exact mz.2 ⟨p,hp,Nj⟩)
 case pick c x y=>
  obtain⟨h1,h3⟩:=iZ h;obtain⟨h1,h2⟩:=iZ h1;refine qz fun t ht=>?_;simp only[uX,TB,lC,dB] at ht;exact ht.elim (h2 t) (h3 t)
 case slice T x lo hi mx=>
  obtain⟨h1,h3⟩:=iZ h;obtain⟨h1,h2⟩:=iZ h1;exact qz fun t ht=>h1 t (by simpa using ht)
 all_goals first|rfl|(cases hq;done)
theorem amO {op:Op}(h:∀t,t∈kV op→f t=S.r t)(hq:mF op=true):pre C (S.withR f) gs op=pre C S gs op:=by
 have vT:=hq;cases op<;>simp only[mF] at hq<;>simp only[pre,amN h vT]
 case load T x=>simp only[kV] at h;rw[uJ h];rfl
 all_goals first|(cases hq;done)|skip
theorem agu {ops:Array Oper}{o:Oper}(h:∀t,t∈GO ops o→f t=S.r t):oM (S.withR f) ops o=oM S ops o:=by
 unfold oM;cases hg:o.guard with
 |none=>rfl
 |some jw=>
  obtain⟨j,want⟩:=jw;simp only;cases ht:(ops[j]?).bind (·.dst) with
  |none=>rfl
  |some t=>
   simp only;have:(S.withR f).r t=S.r t:=h t (by unfold GO;rw[hg];simp[ht]);rw[this]
end
def uq (C:Ctx)(c:Callee):Bool:=
 match c with
 |.value (.func f)=>(match C.sig f with|some s=>s.res.pure|none=>false)
 |_=>false
def BT (C:Ctx)(S:St)(gs:List (Nat×Bool))(dst:Nat)(op:Op):Option (Sh×List PI):=
 match op with
 |.assign x=>
  match gs with
  |[]=>bif C.fr.any (Nat.beq dst)&&(bK S [] [x]).isEmpty then(match pv C S [] dst x with|some r=>bif mO r.1 then some r else none|none=>none) else none
  |_=>none
 |.call c=>
  match nK C S gs dst (.call c) with
  |some r=>bif qx r.1&&iN gs (some dst) r.2 then some (iM gs r.1,r.2) else none
  |none=>
   bif (bK S gs c.args.toList).isEmpty||uq C c.callee then
    match c.callee with
    |.value (.func f)=>(match oH C S gs dst f c.args.toList with|some r=>bif iN gs (some dst) r.2.2 then some (iM gs r.2.1,r.2.2) else none|none=>none)
    |.value x=>(match nk C S gs dst x c.args.toList with|some r=>bif iN gs (some dst) r.2.2 then some (iM gs r.2.1,r.2.2) else none|none=>none)
    |_=>none
   else none
 |op=>bif mF op&&(pre C S gs op).isEmpty then(match nK C S gs dst op with|some r=>bif qx r.1&&iN gs (some dst) r.2 then some (iM gs r.1,r.2) else none|none=>none) else none
def BU (C:Ctx)(S:St)(gs:List (Nat×Bool))(op:Op):Option (List PI):=
 match op,gs with
 |.store T x v,[]=>
  match ff S [] x with
  |.eptr ..=>bif (bK S [] [v]).isEmpty then(tn C S T x v).map (·.2) else none
  |_=>none
 |.mapUpdate T m k v,[]=>bif (bK S [] [k,v]).isEmpty then(rB C S T m k v).map (·.2) else none
 |.panic _,[]=>some [.chk (.nt (.con (.bool true)))]
 |_,_=>none
def tA (C:Ctx)(S:St)(ops:Array Oper)(o:Oper):Option (Sh×List PI):=
 match C.yl with
 |some _=>none
 |none=>(oM S ops o).bind fun gs=>
  match o.dst with
  |some dst=>BT C S gs dst o.op
  |none=>(BU C S gs o.op).map fun l=>(.none,l)
def m3 (S:St)(o:Oper)(s:Sh):St:=match o.dst with|some d=>S.setR d s|none=>S
section
variable {C:Ctx} {S:St} {f:Nat→Sh} {gs:List (Nat×Bool)} {dst:Nat}
theorem agd (j:Nat):(S.withR f).fz j=(S.fz j).withR f:=by
 unfold St.fz St.withR;simp only;split<;>rfl
theorem Vb:∀(js:List Nat) {S:St},(S.withR f).fzs js=(S.fzs js).withR f
 |[],_=>rfl
 |j::js,S=>by
  show((S.withR f).fz j).fzs js=((S.fz j).fzs js).withR f;rw[agd,Vb js]
theorem aef {g:Nat}{xs:List Operand}(h:∀t,t∈xs.flatMap bC→f t=S.r t):
 (match oH C (S.withR f) gs dst g xs with|some r=>bif iN gs (some dst) r.2.2 then some (iM gs r.2.1,r.2.2) else none|none=>none)=(match oH C S gs dst g xs with|some r=>bif iN gs (some dst) r.2.2 then some (iM gs r.2.1,r.2.2) else none|none=>none):=by
 have ho:=qz (gs:=gs) h;unfold oH;generalize (C.sig g).bind (Bt C.fr dst)=q;cases q with
 |none=>rfl
 |some s=>
  simp only[jN];cases s.mode<;>first|rfl|skip
  simp only[ho,Vb];rw[S6 (S:=S.fzs (bK S gs xs)) (f:=f) (fun t ht=>by rw[(nm _ S).2];exact h t ht)];cases kf C (S.fzs (bK S gs xs)) gs xs with
  |none=>rfl
  |some u=>
   simp only[jN];cases Ty.subs u.1 s.args<;>rfl
theorem ad6 {x:Operand}{xs:List Operand}(hx:∀t,t∈bC x→f t=S.r t)(h:∀t,t∈xs.flatMap bC→f t=S.r t)(he:(bK S gs xs).isEmpty=true):
 (match nk C (S.withR f) gs dst x xs with|some r=>bif iN gs (some dst) r.2.2 then some (iM gs r.2.1,r.2.2) else none|none=>none)=(match nk C S gs dst x xs with|some r=>bif iN gs (some dst) r.2.2 then some (iM gs r.2.1,r.2.2) else none|none=>none):=by
 have ho:=qz (gs:=gs) h;have oQ:=sT.1 he;unfold nk;rw[dQ hx];cases use C S gs x with
 |none=>rfl
 |some y=>
  obtain⟨ty,e⟩:=y;cases ty with
  |fn aa r=>
   simp only;cases lY aa r with
   |some _=>rfl
   |none=>
    simp only[ho,oQ,St.fzs,List.foldl_nil,S6 h];cases kf C S gs xs with
    |none=>rfl
    |some u=>
     simp only[jN];cases Ty.subs u.1 aa<;>rfl
  |_=>rfl
theorem afb {op:Op}(h:∀t,t∈kV op→f t=S.r t):BT C (S.withR f) gs dst op=BT C S gs dst op:=by
 have other:∀op,(∀t,t∈kV op→f t=S.r t)→(bif mF op&&(pre C (S.withR f) gs op).isEmpty then(match nK C (S.withR f) gs dst op with|some r=>bif qx r.1&&iN gs (some dst) r.2 then some (iM gs r.1,r.2) else none|none=>none) else none)=
  (bif mF op&&(pre C S gs op).isEmpty then(match nK C S gs dst op with|some r=>bif qx r.1&&iN gs (some dst) r.2 then some (iM gs r.1,r.2) else none|none=>none) else none):=by
  intro op h;cases hq:mF op with
  |false=>rfl
  |true=>rw[amO h hq,Zx hq h]
 unfold BT;split
 ·rename_i x;simp only[kV] at h;rw[Zv h,qz (xs:=[x]) fun t ht=>h t (by simpa using ht)]
 ·rename_i c;have h':=h;simp only[kV] at h';obtain⟨h1,h2⟩:=iZ h';rw[Zx (op:=.call c) rfl h,qz h2];split
  ·rfl
  ·cases he:(bK S gs c.args.toList).isEmpty||uq C c.callee with
   |false=>rfl
   |true=>
    simp only[cond_true];split
    ·exact aef h2
    ·rename_i x hx hc;have hp:uq C c.callee=false:=by
         rw[hc];unfold uq;cases x<;>first|rfl|exact absurd rfl (hx _)
     exact ad6 (fun t ht=>h1 t (by rw[hc];exact ht)) h2 (by rw[hp,q8] at he;exact he)
    ·rfl
 ·exact other _ h
theorem afc {op:Op}(h:∀t,t∈kV op→f t=S.r t):BU C (S.withR f) gs op=BU C S gs op:=by
 unfold BU;split
 ·rename_i T x v;simp only[kV] at h;obtain⟨h1,h2⟩:=iZ h;rw[uJ h1,qz (xs:=[v]) fun t ht=>h2 t (by simpa using ht)];split
  ·rename_i j ver size off gD;cases(bK S [] [v]).isEmpty with
   |false=>rfl
   |true=>
    simp only[cond_true];unfold tn;rw[uJ h1,dQ h2,gD];simp only;have eo:(S.withR f).o=S.o:=rfl;have ev:(S.withR f).ver=S.ver:=rfl;rw[eo,ev];cases C.P.info? T with
    |none=>rfl
    |some inf=>
     simp only;cases Nat.beq ver (S.ver j) with
     |false=>rfl
     |true=>
      simp only[cond_true];cases S.o j with
      |row T' e0=>
       cases use C S [] v with
       |none=>cases e0<;>rfl
       |some y=>
        obtain⟨t,e⟩:=y;cases e0<;>simp only<;>(generalize (_&&_:Bool)=b;cases b<;>rfl)
      |_=>rfl
  ·rfl
 ·rename_i T m k v;simp only[kV] at h;obtain⟨h1,h3⟩:=iZ h;obtain⟨h1,h2⟩:=iZ h1
  rw[qz (xs:=[k,v]) fun t ht=>by
   simp only[uX,TB,lC,dB] at ht;exact ht.elim (h2 t) (h3 t)]
  cases(bK S [] [k,v]).isEmpty with
  |false=>rfl
  |true=>
   simp only[cond_true];unfold rB;rw[uJ h1,dQ h2,dQ h3];have eo:(S.withR f).o=S.o:=rfl;have ev:(S.withR f).ver=S.ver:=rfl;rw[eo,ev];cases C.P.underlying T with
   |none=>rfl
   |some desc=>
    cases desc with
    |map K E=>
     cases ff S [] m with
     |obj j ver=>
      simp only;cases Nat.beq ver (S.ver j) with
      |false=>rfl
      |true=>
       simp only[cond_true];cases S.o j with
       |mp kt et=>
        cases use C S [] k with
        |none=>rfl
        |some y=>
         cases use C S [] v with
         |none=>rfl
         |some z=>
          obtain⟨tk,ek⟩:=y;obtain⟨tv,ev⟩:=z;simp only;generalize (_&&_:Bool)=b;cases b<;>rfl
       |_=>rfl
     |_=>rfl
    |_=>rfl
 ·rfl
 ·rfl
theorem afe {ops:Array Oper}{o:Oper}(h:∀t,t∈kV o.op++GO ops o→f t=S.r t):tA C (S.withR f) ops o=tA C S ops o:=by
 obtain⟨h1,h2⟩:=iZ h;unfold tA;rw[agu h2];split
 ·rfl
 ·cases oM S ops o with
  |none=>rfl
  |some gs=>
   simp only[jN];split
   ·exact afb h1
   ·rw[afc h1]
theorem anR {S:St}{t:Nat}{s:Sh}(h:S.r t=s)(hs:mO s=true):wW S t t=some (S,[]):=by
 unfold wW;rw[h];cases s<;>first|rfl|cases hs
theorem afd {ops:Array Oper}{o:Oper}{q:Sh×List PI}(h:tA C S ops o=some q):oD C S ops o=some (m3 S o q.1,q.2):=by
 unfold tA at h;split at h
 case h_1=>cases h
 rename_i jZ;simp only[au] at h;obtain⟨gs,dF,h⟩:=h;have hY:yD C S ops o=none:=by
  unfold yD;rw[jZ];split<;>first|rfl|(rename_i hx;cases hx;done)|(rename_i hx _;cases hx;done)
 have fin:∀{S':St},pre C S gs o.op++py C S gs o=[]→core C S gs o=some (S',q.2)→jr C (post C S' o) S'=some (S',[])→iN gs o.dst q.2=true→oD C S ops o=some (S',q.2):=by
  intro S' h1 h2 h3 h4;unfold oD yC Bq;rw[hY,dF];simp only[jN,h1,jr,h2,h3,h4,cond_true,sW,lC]
 cases hd:o.dst with
 |some dst=>
  simp only[hd] at h;have cn:m3 S o q.1=S.setR dst q.1:=by unfold m3;rw[hd]
  rw[cn];unfold BT at h;split at h
  ·rename_i x bS;split at h
   case h_2=>cases h
   cases hb:(C.fr.any (Nat.beq dst)&&(bK S [] [x]).isEmpty)<;>simp only[hb,cond_true,cond_false] at h
   ·cases h
   simp only[ak] at hb;split at h
   case h_2=>cases h
   rename_i r hr;cases VG:mO r.1<;>simp only[VG,cond_true,cond_false] at h
   ·cases h
   cases h;have he:=sT.1 hb.2;refine fin ?_ ?_ ?_ rfl
   ·rw[bS];unfold py;rw[bS,hd];simp only[hb.1,he,cond_true,pre,uo,E0,lC]
   ·unfold core;rw[hd];simp only[bS,nK,hb.1,cond_true,hr]
   ·unfold post;rw[bS,hd];simp only[jr,Gh.run];rw[anR (s:=q.1) (by simp[St.setR,aL]) VG];rfl
  ·rename_i c bS;have MS:pre C S gs o.op++py C S gs o=[]:=by
        rw[bS];unfold py;rw[bS];simp[pre,uo]
   have jW:∀S':St,jr C (post C S' o) S'=some (S',[]):=fun S'=>by
        unfold post;rw[bS];rfl
   split at h
   ·rename_i r hr;cases hb:(qx r.1&&iN gs (some dst) r.2)<;>simp only[hb,cond_true,cond_false] at h
    ·cases h
    cases h;simp only[ak] at hb;refine fin MS ?_ (jW _) (by rw[hd];exact hb.2);unfold core;rw[hd];simp only[bS,hr,hb.1,cond_true]
   ·rename_i hr;cases he:(bK S gs c.args.toList).isEmpty||uq C c.callee<;>simp only[he,cond_true,cond_false] at h
    ·cases h
    have sfz:∀b:Bool,(bK S gs c.args.toList).isEmpty=true∨b=true→(bif b then S else S.fzs (bK S gs c.args.toList))=S:=fun b hb=>by
     rcases hb with hb|rfl
     ·rw[sT.1 hb];cases b<;>rfl
     ·rfl
    split at h
    ·rename_i f hc;split at h
     case h_2=>cases h
     rename_i r dG;cases hb:iN gs (some dst) r.2.2<;>simp only[hb,cond_true,cond_false] at h
     ·cases h
     cases h;refine fin MS ?_ (jW _) (by rw[hd];exact hb);have hS:r.1=S:=by
      simp only[oH,au] at dG;obtain⟨s,⟨s0,hs,oX⟩,dG⟩:=dG;split at dG
      case h_2=>cases dG
      simp only[au] at dG;obtain⟨u,hu,dG⟩:=dG;cases bJ:Ty.subs u.1 s.args<;>simp only[bJ,cond_true,cond_false] at dG
      ·cases dG
      cases dG;refine sfz _ ?_;have CP:s.res=s0.res:=by
       unfold Bt at oX;split at oX
       ·revert oX
        generalize (_&&_:Bool)=b;intro oX;cases b<;>simp only[cond_true,cond_false,aR] at oX<;>rw[←oX]
       ·simp only[aR] at oX;rw[←oX]
      rw[hc] at he;simp only[uq,hs,gr] at he;rw[CP];exact he
     unfold core;rw[hd];simp only[bS,hr,hc,dG,hS]
    ·rename_i x Hy hc;split at h
     case h_2=>cases h
     rename_i r dG;cases hb:iN gs (some dst) r.2.2<;>simp only[hb,cond_true,cond_false] at h
     ·cases h
     cases h;refine fin MS ?_ (jW _) (by rw[hd];exact hb);have hS:r.1=S:=by
      unfold nk at dG;split at dG
      case h_2=>cases dG
      rename_i aa r0 e M9;split at dG
      case h_1=>cases dG
      simp only[au] at dG;obtain⟨u,hu,dG⟩:=dG;cases bJ:Ty.subs u.1 aa<;>simp only[bJ,cond_true,cond_false] at dG
      ·cases dG
      cases dG;refine sfz _ (.inl ?_);have hp:uq C c.callee=false:=by
       rw[hc];unfold uq;cases x<;>first|rfl|exact absurd rfl (Hy _)
      rw[hp,q8] at he;exact he
     unfold core;rw[hd];simp only[bS,hr,hc];cases x with
     |func f=>exact absurd rfl (Hy f)
     |_=>simp only[dG,hS]
    ·cases h
  ·rename_i Wa cP;cases hb:(mF o.op&&(pre C S gs o.op).isEmpty)<;>simp only[hb,cond_true,cond_false] at h
   ·cases h
   simp only[ak] at hb;split at h
   case h_2=>cases h
   rename_i r hr;cases cY:(qx r.1&&iN gs (some dst) r.2)<;>simp only[cY,cond_true,cond_false] at h
   ·cases h
   cases h;simp only[ak] at cY;have cS:py C S gs o=[]:=by
        unfold py;split
        ·rename_i x t e _;exact absurd e (Wa x)
        ·rfl
   have jW:∀S':St,jr C (post C S' o) S'=some (S',[]):=fun S'=>by
        have:post C S' o=[]:=by
         unfold post;split
         ·rename_i x t e _;exact absurd e (Wa x)
         ·rename_i T t e _;rw[e] at hb;simp[mF] at hb
         ·rename_i T x v e;rw[e] at hb;simp[mF] at hb
         ·rfl
        rw[this];rfl
   refine fin (by rw[cS,sT.1 hb.2];rfl) ?_ (jW _) (by rw[hd];exact cY.2);unfold core;rw[hd];simp only[hr,cY.1,cond_true]
 |none=>
  simp only[hd,az] at h;obtain⟨l,h,rfl⟩:=h;have cn:m3 S o (.none:Sh)=S:=by unfold m3;rw[hd]
  show oD C S ops o=some (m3 S o .none,l);rw[cn];have cS:py C S gs o=[]:=by unfold py;rw[hd];split<;>first|rfl|(rename_i hx;cases hx)
  unfold BU at h;split at h
  ·rename_i T x v bS;split at h
   case h_2=>cases h
   rename_i j ver size off gD;cases he:(bK S [] [v]).isEmpty<;>simp only[he,cond_true,cond_false] at h
   ·cases h
   simp only[az] at h;obtain⟨r,hr,rfl⟩:=h;have hS:r.1=S:=by
        unfold tn at hr;split at hr
        case h_2=>cases hr
        rw[gD] at hr;simp only at hr;cases hv:Nat.beq ver (S.ver j)<;>simp only[hv,cond_true,cond_false] at hr
        ·cases hr
        split at hr
        ·revert hr;generalize (_&&_:Bool)=b;intro hr;cases b<;>simp only[cond_true,cond_false] at hr<;>cases hr;rfl
        ·revert hr;generalize (_&&_:Bool)=b;intro hr;cases b<;>simp only[cond_true,cond_false] at hr<;>cases hr;rfl
        ·cases hr
   refine fin ?_ ?_ ?_ rfl
   ·rw[cS,bS];simp only[pre,uo,gD,sT.1 he,E0,lC]
   ·unfold core;rw[hd];simp only[bS,hr];rw[←hS]
   ·unfold post;rw[bS];simp only[gD];rfl
  ·rename_i T m k v bS;cases he:(bK S [] [k,v]).isEmpty<;>simp only[he,cond_true,cond_false] at h
   ·cases h
   simp only[az] at h;obtain⟨r,hr,rfl⟩:=h;have hS:r.1=S:=by
        unfold rB at hr;split at hr
        ·rename_i K _ j ver _ _;cases hv:Nat.beq ver (S.ver j)<;>simp only[hv,cond_true,cond_false] at hr
         ·cases hr
         split at hr
         ·revert hr;generalize (_&&_:Bool)=b;intro hr;cases b<;>simp only[cond_true,cond_false] at hr<;>cases hr;rfl
         ·cases hr
        ·cases hr
   refine fin ?_ ?_ ?_ rfl
   ·rw[cS,bS];simp only[pre,uo,sT.1 he,E0,lC]
   ·unfold core;rw[hd];simp only[bS,hr];rw[←hS]
   ·unfold post;rw[bS];rfl
  ·rename_i x bS;cases h;refine fin ?_ ?_ ?_ rfl
   ·rw[cS,bS];rfl
   ·unfold core;rw[hd];simp only[bS]
   ·unfold post;rw[bS];rfl
  ·cases h
end
def fe (ops:Array Oper)(shs:List Sh)(l:List Nat)(f:Nat→Sh):Nat→Sh:=
 l.foldl (fun f i=>match(ops[i]?).bind (·.dst) with|some d=>bQ f d (shs.getD i .none)|none=>f) f
def yP (C:Ctx)(S:St)(ops:Array Oper):Nat→Option (List (Sh×List PI))
 |0=>some []
 |k+1=>(yP C S ops k).bind fun q=>match ops[k]? with
  |some o=>(tA C (S.withR (fe ops (q.map (·.1)) (List.range k) S.r)) ops o).map fun r=>q++[r]
  |none=>none
def dw (ops:Array Oper):Nat→List Nat
 |0=>[]
 |k+1=>dw ops k++[match ops[k]? with
  |some o=>o.after.toList.foldr (fun e m=>bif Region.binds .any e then Nat.lor (Nat.lor (dC e.on) ((dw ops k).getD e.on 0)) m else m) 0
  |none=>0]
def aaF (ops:Array Oper)(o:Oper):List Nat:=kV o.op++GO ops o
def U4 (ops:Array Oper)(nc:List (List Nat))(clo:List Nat)(i:Nat):Bool:=
 match ops[i]? with
 |some o=>(nc.getD i []).all (av (clo.getD i 0))&&(o.after.toList.all fun e=> !Region.binds .any e||Nat.blt e.on i)&&
   (aaF ops o).all fun t=>(List.range ops.size).all fun j=>match(ops[j]?).bind (·.dst) with
     |some d=> !Nat.beq d t||((Nat.blt j i&&av (clo.getD i 0) j)||av (clo.getD j 0) i)
     |none=>true
 |none=>false
def GJ (ops:Array Oper)(i:Nat):Bool:=match ops[i]? with|some o=>o.after.toList.all fun e=> !Region.binds .any e||Nat.blt e.on i|none=>false
def BV (ops:Array Oper)(nc:List (List Nat))(clo:List Nat)(m:Nat):Bool:=(List.range m).all (U4 ops nc clo)&&(List.range ops.size).all (GJ ops)
def nZ (clo:List Nat):Nat→Nat
 |0=>0
 |k+1=>bif (List.range k).all (av (clo.getD k 0)) then nZ clo k else k+1
theorem abu (clo:List Nat):∀k,nZ clo k≤k
 |0=>bf _
 |k+1=>by
  unfold nZ;cases(List.range k).all (av (clo.getD k 0)) with
  |true=>exact Nat.le_succ_of_le (abu clo k)
  |false=>exact bf _
theorem abt (clo:List Nat):∀k i,nZ clo k≤i→i<k→∀j,j<i→av (clo.getD i 0) j=true
 |0,i,_,h=>by omega
 |k+1,i,h1,h2=>by
  unfold nZ at h1;cases hb:(List.range k).all (av (clo.getD k 0)) with
  |true=>
   rw[hb] at h1;by_cases e:i=k
   ·subst e;exact fun j hj=>bE.1 hb j (bX.2 hj)
   ·exact abt clo k i h1 (by omega)
  |false=>rw[hb] at h1;simp only[cond_false] at h1;omega
def U5 (C:Ctx)(ops:Array Oper)(S:St):Option (St×List PI):=
 (yP C S ops (nZ (dw ops ops.size) ops.size)).bind fun q=>
    bif BV ops (pk (q.map (·.2)) (nZ (dw ops ops.size) ops.size)) (dw ops ops.size) (nZ (dw ops ops.size) ops.size) then
     (nj C ops (List.range' (nZ (dw ops ops.size) ops.size) (ops.size-nZ (dw ops ops.size) ops.size)) (S.withR (fe ops (q.map (·.1)) (List.range (nZ (dw ops ops.size) ops.size)) S.r))).map fun r=>(r.1,(q.map (·.2)).flatten++r.2)
    else none
theorem Ju (ops:Array Oper)(shs:List Sh)(i:Nat)(l:List Nat)(f:Nat→Sh):fe ops shs (i::l) f=fe ops shs l (match(ops[i]?).bind (·.dst) with|some d=>bQ f d (shs.getD i .none)|none=>f):=rfl
theorem ED {ops:Array Oper}{shs:List Sh}{t:Nat}:∀{l:List Nat} {f:Nat→Sh},(∀i,i∈l→(ops[i]?).bind (·.dst)≠some t)→fe ops shs l f t=f t
 |[],_,_=>rfl
 |i::l,f,h=>by
  rw[Ju,ED fun j hj=>h j (dk _ hj)];have:=h i (dt ..);cases hd:(ops[i]?).bind (·.dst) with
  |none=>rfl
  |some d=>exact bl _ _ (fun e=>this (by rw[hd,e]))
def J8 (ops:Array Oper):Prop:=∀(i j t:Nat),(ops[i]?).bind (·.dst)=some t→(ops[j]?).bind (·.dst)=some t→i=j
theorem Jt {ops:Array Oper}(ho:J8 ops){shs:List Sh}{t i:Nat}(ht:(ops[i]?).bind (·.dst)=some t):∀{l:List Nat} {f:Nat→Sh},i∈l→fe ops shs l f t=shs.getD i .none
 |[],_,h=>nomatch h
 |j::l,f,h=>by
  rw[Ju];by_cases hl:i∈l
  ·exact Jt ho ht hl
  ·have e:i=j:=(cD.1 h).resolve_right hl;subst e;rw[ED fun k hk e=>hl (by rw[ho i k t ht e];exact hk),ht];exact aL _ _ _
theorem abc {ops:Array Oper}(ho:J8 ops){shs QB:List Sh}{l m:List Nat}{f:Nat→Sh}{t:Nat}(h1:∀i,(ops[i]?).bind (·.dst)=some t→(i∈l↔i∈m))(h2:∀i,i∈l→(ops[i]?).bind (·.dst)=some t→shs.getD i .none=QB.getD i .none):fe ops shs l f t=fe ops QB m f t:=by
 by_cases hh:∃i,i∈l∧(ops[i]?).bind (·.dst)=some t
 ·obtain⟨i,hi,ht⟩:=hh;rw[Jt ho ht hi,Jt ho ht ((h1 i ht).1 hi),h2 i hi ht]
 ·rw[ED fun i hi e=>hh ⟨i,hi,e⟩,ED fun i hi e=>hh ⟨i,(h1 i e).2 hi,e⟩]
theorem alM {ops:Array Oper}(h:(ops.toList.filterMap (·.dst)).Nodup):J8 ops:=by
 intro i j t hi hj;rw[au] at hi hj;obtain⟨oi,h1,h2⟩:=hi;obtain⟨oj,h3,h4⟩:=hj;by_cases e:i=j
 ·exact e
 ·exact(vp.dst_once h h1 h3 h2 h4 e).elim
theorem LJ {C:Ctx}{S:St}{ops:Array Oper}:∀{k:Nat} {q:List (Sh×List PI)},yP C S ops k=some q→q.length=k∧∀i,i<k→∃o,ops[i]?=some o∧
 tA C (S.withR (fe ops (q.map (·.1)) (List.range i) S.r)) ops o=some ((q.map (·.1)).getD i .none,(q.map (·.2)).getD i [])
 |0,q,h=>by simp only[yP,aR] at h;subst h;exact⟨rfl,fun i hi=>by omega⟩
 |k+1,q,h=>by
  simp only[yP,au] at h;obtain⟨p,hp,h⟩:=h;split at h
  case h_2=>cases h
  rename_i o ho;simp only[az] at h;obtain⟨r,hr,rfl⟩:=h;obtain⟨l1,aO⟩:=LJ hp;have same:∀i,i≤k→fe ops ((p++[r]).map (·.1)) (List.range i) S.r=fe ops (p.map (·.1)) (List.range i) S.r:=by
   intro i hi;have key:∀(l:List Nat) (f:Nat→Sh),(∀j,j∈l→j<p.length)→fe ops ((p++[r]).map (·.1)) l f=fe ops (p.map (·.1)) l f:=by
    intro l
    induction l with
    |nil=>intro f _;rfl
    |cons j l ih=>
     intro f hl;have hj:=hl j (dt ..);have e:((p++[r]).map (·.1)).getD j .none=(p.map (·.1)).getD j .none:=by
       rw[rf,aK,kl (by simpa using hj),←aK]
     rw[Ju,Ju,e,ih _ fun m hm=>hl m (dk _ hm)]
   exact key _ _ fun j hj=>by have:=bX.1 hj;omega
  refine⟨by simp[l1],fun i hi=>?_⟩;by_cases e:i=k
  ·subst e;refine⟨o,ho,?_⟩;rw[same i (bf _),hr];have e1:((p++[r]).map (·.1)).getD i .none=r.1:=by
    rw[rf,aK,km (by simp[l1])];simp[l1]
   have e2:((p++[r]).map (·.2)).getD i []=r.2:=by
    rw[rf,aK,km (by simp[l1])];simp[l1]
   rw[e1,e2]
  ·obtain⟨o',h1,h2⟩:=aO i (by omega);refine⟨o',h1,?_⟩;rw[same i (by omega),h2];have:i<p.length:=by omega
   simp only[rf,aK];rw[kl (by simpa using this),kl (by simpa using this)]
theorem Gu (ops:Array Oper):∀k,(dw ops k).length=k
 |0=>rfl
 |k+1=>by simp[dw,Gu ops k]
theorem Un (ops:Array Oper){k m i:Nat}(h:i<k)(hm:k≤m):(dw ops m).getD i 0=(dw ops k).getD i 0:=by
 induction m with
 |zero=>omega
 |succ m ih=>
  by_cases e:k=m+1
  ·rw[e]
  ·rw[←ih (by omega)];simp only[dw,aK];rw[kl (by rw[Gu];omega)]
theorem Gv {ops:Array Oper}{N i m:Nat}{o:Oper}(hi:i<N)(ho:ops[i]?=some o)(af:(o.after.toList.all fun e=> !Region.binds .any e||Nat.blt e.on i)=true)(h:av ((dw ops N).getD i 0) m=true):
 ∃e,e∈o.after.toList∧Region.binds .any e=true∧(m=e.on∨av ((dw ops N).getD e.on 0) m=true):=by
 rw[Un ops (k:=i+1) (by omega) (by omega)] at h
 have e1:(dw ops (i+1)).getD i 0=o.after.toList.foldr (fun e m=>bif Region.binds .any e then Nat.lor (Nat.lor (dC e.on) ((dw ops i).getD e.on 0)) m else m) 0:=by
  simp only[dw,aK];rw[km (by rw[Gu];exact bf _),Gu];simp[ho]
 rw[e1] at h;have aO:=bE.1 af;generalize o.after.toList=l at h aO
 induction l with
 |nil=>rw[ry] at h;simp at h
 |cons e l ih=>
  simp only[List.foldr_cons] at h;cases hb:Region.binds .any e<;>rw[hb] at h<;>simp only[cond_true,cond_false] at h
  ·obtain⟨e',h1,h2⟩:=ih h (fun x hx=>aO x (dk _ hx));exact⟨e',dk _ h1,h2⟩
  ·rw[eP,eP,gr,gr] at h;have oV:e.on<i:=by
        have:=aO e (dt ..);rw[hb] at this;simpa [hH] using this
   rcases h with(h|h)|h
   ·refine⟨e,dt ..,hb,.inl ?_⟩;have:=iK 0 e.on m;have z:av 0 m=false:=by rw[ry];simp
    rw[eP,z,pM,pM,h] at this;exact(cM this.symm).symm
   ·refine⟨e,dt ..,hb,.inr ?_⟩;rw[Un ops oV (by omega)];exact h
   ·obtain⟨e',h1,h2⟩:=ih h (fun x hx=>aO x (dk _ hx));exact⟨e',dk _ h1,h2⟩
section
variable {C:Ctx} {S:St} {ρ:Env} {σ:Im} {own:Nat→Option Nat} {hv:Nat→Value} {w0:World} {σ0:Base} {A:Nat→Prop} {a:Act} {w:World} {n:Nat} {ids:List Nat} {Φ:aP}
theorem aaG {ops:Array Oper}{listed:Array Bool}{E:Nat}(aJ:listed.size=ops.size)(hl:∀i,listed.getD i false=av E i)(i:Nat):i∈Region.ready .any ops listed↔i∈lq ops E:=by
 unfold Region.ready lq;simp only[du,bX];refine and_congr_right fun hi=>?_;have h1:listed.getD i true=av E i:=by
  rw[←hl i];simp only[dL];rw[fi (by omega)];rfl
 have h2:ops[i]?=some ops[i]:=fi hi;rw[h1,h2];simp only[jO,jj,←Ti,hl]
def uI (ops:Array Oper)(E:Nat):Nat→Prop:=fun t=>∃i o,av E i=true∧ops[i]?=some o∧o.dst=some t
def qW (ops:Array Oper)(E:Nat):Nat:=((List.range ops.size).filter fun i=> !av E i).length
theorem aqQ {ops:Array Oper}{E i:Nat}(hi:i<ops.size)(hb:av E i=false):qW ops E=qW ops (Nat.lor E (dC i))+1:=by
 unfold qW;obtain⟨l1,l2,hl⟩:=Tw (bX.2 hi);have bk:=J3 (n:=ops.size);rw[hl,AW] at bk;obtain⟨_,h2,h3⟩:=bk;rw[mA] at h2;have g1:∀j,j∈l1→j≠i:=fun j hj=>h3 j hj i (dt ..);have g2:∀j,j∈l2→j≠i:=fun j hj e=>h2.1 (e▸hj)
 have c:∀l:List Nat,(∀j,j∈l→j≠i)→(l.filter fun j=> !av (Nat.lor E (dC i)) j)=l.filter fun j=> !av E j:=by
  intro l hl;apply List.filter_congr;intro j hj;rw[iK,dY (fun e=>hl j hj e.symm),q8]
 have cU:av (Nat.lor E (dC i)) i=true:=by rw[iK,gy,m7]
 rw[hl];simp only[EW,TA,c l1 g1,c l2 g2,hb,cU,q7,Bool.not_false,if_true,uW,if_false,ko,m8];omega
theorem afg {rd:Option Nat}(hC:CtxOK C σ0)(aW:dj C)(hΦ:cT C Φ)(hY:ou C Φ w0 σ0){a0:Act}(Mz:a0.tmps.size=n){ops:Array Oper}(aA:qN n ops=true)(eU:yT ops=true){m:Nat}(hm:m≤ops.size){q:List (Sh×List PI)}(hq:yP C S ops m=some q)
 (tO:BV ops (pk (q.map (·.2)) m) (dw ops ops.size) m=true) (zi:∀i,m≤i→i<ops.size→∀j,j<i→av ((dw ops ops.size).getD i 0) j=true) {Q:Exit→Act→World→Prop} {ρ':Env}
 (hK:∀listed a' w',listed.size=ops.size→(∀i,listed.getD i false=decide (i<m))→SameBut (p7 ops) a0 a'→Good C w0 σ0 (S.withR (fe ops (q.map (·.1)) (List.range m) S.r)) ρ' (ls ops (List.range m)) a' w'→wpAnyIn (FR rd) 0 C.P .any ops Q (ops.size-m) listed a' w'):
 ∀(k E:Nat) (listed:Array Bool) (ρ:Env) (a:Act) (w:World),qW ops E=k→(∀j,av E j=true→j<m)→(∀j,j<ops.size→av E j=true→∀m,av ((dw ops ops.size).getD j 0) m=true→av E m=true)→listed.size=ops.size→(∀i,listed.getD i false=av E i)→SameBut (p7 ops) a0 a→
  Good C w0 σ0 (S.withR (fe ops (q.map (·.1)) ((List.range m).filter (av E)) S.r)) ρ (uI ops E) a w→PI.runs Φ (eg (q.map (·.2)) (List.range m) E) ρ=some ρ'→wpAnyIn (FR rd) 0 C.P .any ops Q k listed a w:=by
 have HB:=aA;simp only[qN,ak] at aA;have bk:=l6 aA.1;have ML:=alM bk;obtain⟨hlen,aO⟩:=LJ hq;unfold BV at tO;rw[ak] at tO
 have B5:∀i,i<ops.size→∀o,ops[i]?=some o→(o.after.toList.all fun e=> !Region.binds .any e||Nat.blt e.on i)=true:=by
  intro i hi o ho;have:=bE.1 tO.2 i (bX.2 hi);unfold GJ at this;rw[ho] at this;exact this
 have aiq:∀i,i<m→∀o,ops[i]?=some o→((pk (q.map (·.2)) m).getD i []).all (av ((dw ops ops.size).getD i 0))=true∧
  ∀t,t∈aaF ops o→∀j,j<ops.size→(ops[j]?).bind (·.dst)=some t→(j<i∧av ((dw ops ops.size).getD i 0) j=true)∨av ((dw ops ops.size).getD j 0) i=true:=by
  intro i hi o ho;have:=bE.1 tO.1 i (bX.2 hi);unfold U4 at this;rw[ho] at this;simp only[ak] at this;refine⟨this.1.1,fun t ht j hj hd=>?_⟩;have:=bE.1 (bE.1 this.2 t ht) j (bX.2 hj);rw[hd] at this;simp only[gy,q7,pM,gr,ak,hH] at this;exact this
 have TU:∀(k E:Nat) (listed:Array Bool) (ρ:Env) (a:Act) (w:World),(∀i,i<m→av E i=true)→qW ops E=k→(∀j,av E j=true→j<m)→listed.size=ops.size→(∀i,listed.getD i false=av E i)→SameBut (p7 ops) a0 a→
  Good C w0 σ0 (S.withR (fe ops (q.map (·.1)) ((List.range m).filter (av E)) S.r)) ρ (uI ops E) a w→PI.runs Φ (eg (q.map (·.2)) (List.range m) E) ρ=some ρ'→wpAnyIn (FR rd) 0 C.P .any ops Q k listed a w:=by
  intro k E listed ρ a w jT hk vR aJ hl hn hg ah;have hb:∀i,av E i=decide (i<m):=by
   intro i;by_cases h:i<m
   ·rw[jT i h,decide_eq_true h]
   ·rw[decide_eq_false h];cases hb:av E i with
    |false=>rfl
    |true=>exact absurd (vR i hb) h
  have Mf:eg (q.map (·.2)) (List.range m) E=[]:=by
   unfold eg;rw[ab7];intro i hi;rw[jT i (bX.1 hi)];rfl
  rw[Mf] at ah;simp only[PI.runs,aR] at ah;subst ah;have ahe:qW ops E=ops.size-m:=by
   unfold qW
   have key:∀N,m≤N→((List.range N).filter fun i=> !av E i).length=N-m:=by
        intro N
        induction N with
        |zero=>intro _;simp
        |succ N ih=>
         intro hN;rw[TF,EW,ko];by_cases h:m≤N
         ·rw[ih h];simp[hb N,Nat.not_lt.2 h];omega
         ·have:m=N+1:=by omega
          have e:(List.range N).filter (fun i=> !av E i)=[]:=by
           rw[List.filter_eq_nil_iff];intro i hi;rw[jT i (by have:=bX.1 hi;omega)];simp
          have hN':av E N=true:=jT N (by omega);rw[e];simp[hN'];omega
   exact key _ hm
  have ef:(List.range m).filter (av E)=List.range m:=List.filter_eq_self.2 fun i hi=>jT i (bX.1 hi);rw[ef] at hg;have oY:uI ops E=ls ops (List.range m):=by
   funext t;apply propext;constructor
   ·rintro⟨i,o,h1,h2,h3⟩;exact⟨i,o,bX.2 (vR i h1),h2,h3⟩
   ·rintro⟨i,o,h1,h2,h3⟩;exact⟨i,o,jT i (bX.1 h1),h2,h3⟩
  rw[oY] at hg;rw[←hk,ahe];exact hK listed a w aJ (fun i=>by rw[hl i,hb i]) hn hg
 intro k
 induction k with
 |zero=>
  intro E listed ρ a w hk vR G8 aJ hl hn hg ah;refine TU 0 E listed ρ a w (fun i hi=>?_) hk vR aJ hl hn hg ah;cases hb:av E i with
  |true=>rfl
  |false=>
   have:i∈(List.range ops.size).filter fun i=> !av E i:=du.2 ⟨bX.2 (by omega),by rw[hb];rfl⟩;unfold qW at hk;rw[List.length_eq_zero_iff.1 hk] at this;cases this
 |succ k ih=>
  intro E listed ρ a w hk vR G8 aJ hl hn hg ah;by_cases jT:∀i,i<m→av E i=true
  ·exact TU (k+1) E listed ρ a w jT hk vR aJ hl hn hg ah
  refine⟨fun he=>?_,fun i hi=>?_⟩
  ·
   obtain⟨i,hi,Ht⟩:∃i,(i<m∧av E i=false)∧∀j,j<i→av E j=true:=by
        have hex:∃i,i<m∧av E i=false:=by
         refine AQ fun dZ=>jT fun i hi=>?_;cases hb:av E i with
         |true=>rfl
         |false=>exact absurd ⟨i,hi,hb⟩ dZ
        obtain⟨i,hi⟩:=hex
        induction i using Nat.strongRecOn with
        |ind i lW=>
         by_cases hh:∃j,j<i∧av E j=false
         ·obtain⟨j,hj,hb⟩:=hh;exact lW j hj ⟨by omega,hb⟩
         ·refine⟨i,hi,fun j hj=>?_⟩;cases hb:av E j with
          |true=>rfl
          |false=>exact absurd ⟨j,hj,hb⟩ hh
   have rT:i<ops.size:=by omega
   have ho:ops[i]?=some ops[i]:=fi rT;have cV:i∈lq ops E:=by
        unfold lq;simp only[du,bX,ak,gd,ho];refine⟨rT,hi.2,?_⟩;rw[bE];intro e gC;have:=bE.1 (B5 i rT _ ho) e gC;cases hb:Region.binds .any e with
        |false=>rfl
        |true=>
         rw[hb] at this;simp only[q7,pM,hH] at this;rw[Ht _ this];rfl
   rw[←aaG aJ hl,he] at cV;cases cV
  ·rw[aaG aJ hl] at hi;unfold lq at hi;simp only[du,bX,ak,gd] at hi;obtain⟨bD,dm,tJ⟩:=hi;have We:ops[i]?=some ops[i]:=fi bD;generalize ops[i]=o at We;have ho:=We;rw[ho] at tJ;simp only at tJ;have o2:=B5 i bD o ho;have y2:∀m,av ((dw ops ops.size).getD i 0) m=true→av E m=true:=by
        intro m hm;obtain⟨e,ju,kz,Me⟩:=Gv bD ho o2 hm;have hE:av E e.on=true:=by
         have:=bE.1 tJ e ju
         rwa [kz,q7,pM] at this
        rcases Me with rfl|Me
        ·exact hE
        ·have oV:e.on<i:=by
          have:=bE.1 o2 e ju;rw[kz] at this;simpa [hH] using this
         exact G8 e.on (by omega) hE m Me
   have kC:i<m:=by
        refine AQ fun dZ=>jT fun j hj=>?_;exact y2 j (zi i (by omega) bD j (by omega))
   obtain⟨o',dT,jv⟩:=aO i kC;rw[ho] at dT;cases dT;obtain⟨o1,o3⟩:=aiq i kC o ho;have cP:((pk (q.map (·.2)) m).getD i []).all (av E)=true:=by
        rw[bE] at o1 ⊢;exact fun m hm=>y2 m (o1 m hm)
   have ahh:tA C (S.withR (fe ops (q.map (·.1)) ((List.range m).filter (av E)) S.r)) ops o=some ((q.map (·.1)).getD i .none,(q.map (·.2)).getD i []):=by
        rw[←jv];refine afe (S:=S.withR (fe ops (q.map (·.1)) (List.range i) S.r)) fun t ht=>?_;refine abc ML (fun j hj=>?_) (fun _ _ _=>rfl);have fO:j<ops.size:=by
         rw[au] at hj;obtain⟨oj,h1,_⟩:=hj;exact(ga.1 h1).1
        rw[du,bX,bX];rcases o3 t ht j fO hj with⟨h1,h2⟩|h1
        ·exact⟨fun _=>h1,fun _=>⟨by omega,y2 j h2⟩⟩
        ·constructor
         ·rintro⟨_,oN⟩;have:=G8 j fO oN i h1;rw[dm] at this;cases this
         ·intro gQ;exfalso;have key:∀m j,j<ops.size→av ((dw ops ops.size).getD j 0) m=true→m<j:=by
           intro m j
           induction j using Nat.strongRecOn with
           |ind j lW=>
            intro hj hm;have qn:ops[j]?=some ops[j]:=fi hj;have p2:=B5 j hj _ qn;obtain⟨e,e1,e2,e3⟩:=Gv hj qn p2 hm;have oV:e.on<j:=by
                have:=bE.1 p2 e e1;rw[e2] at this;simpa [hH] using this
            rcases e3 with rfl|e3
            ·exact oV
            ·have:=lW e.on oV (by omega) e3;omega
          have:=key i j fO h1;omega
   have hcp:=afd ahh;rw[aaO kC dm cP,au] at ah;obtain⟨ρ1,hρ1,hρ2⟩:=ah;have qh:∀d,o.dst=some d→¬uI ops E d∧d<a.tmps.size:=by
        intro d hd;refine⟨fun⟨i',o',cU,dT,gB⟩=>?_,?_⟩
        ·have aB:i'≠i:=fun e=>by subst e;rw[dm] at cU;cases cU
         exact vp.dst_once bk dT ho gB hd aB
        ·have:=bE.1 aA.2 o (by simpa using gq ho);simp only[hd,ak] at this;rw[hn.size,Mz];simpa [hH] using this.2
   have jz:nJ o.op=true:=by
        have:=bE.1 aA.2 o (by simpa using gq ho);simp only[ak] at this;exact this.1
   have hj:∀j want t,o.guard=some (j,want)→(ops[j]?).bind (·.dst)=some t→uI ops E t:=by
        intro j want t jU ht;rw[au] at ht;obtain⟨oj,h1,h2⟩:=ht;have tL:=bE.1 eU o (by simpa using gq ho);simp only[jU] at tL;obtain⟨e,ju,kz⟩:=jL.1 tL;simp only[ak] at kz;have h3:=bE.1 tJ e ju;rw[kz.1] at h3;simp only[q7,pM] at h3;exact⟨j,oj,by rw[←cM kz.2];exact h3,h1,h2⟩
   have ahd:∀j,j<ops.size→av (Nat.lor E (dC i)) j=true→∀m,av ((dw ops ops.size).getD j 0) m=true→av (Nat.lor E (dC i)) m=true:=by
        intro j hj oN m hm;rw[iK,gr] at oN;rw[iK,gr];rcases oN with oN|oN
        ·exact .inl (G8 j hj oN m hm)
        ·rw[←cM oN] at hm;exact .inl (y2 m hm)
   have main:=Gw (rd:=rd) (K:=wpAnyIn (FR rd) 0 C.P .any ops Q k (listed.setIfInBounds i true)) (Q:=Q) hg hC aW hΦ hY jz qh hj hcp hρ1 (fun a' w' fy qs=>by
        have hA:(fun u=>uI ops E u∨o.dst=some u)=uI ops (Nat.lor E (dC i)):=by
         funext u;apply propext;constructor
         ·rintro(⟨i',o',h1,h2,h3⟩|h1)
          ·exact⟨i',o',by rw[iK,h1,xj],h2,h3⟩
          ·exact⟨i,o,by rw[iK,gy,m7],ho,h1⟩
         ·rintro⟨i',o',h1,h2,h3⟩;rw[iK,gr] at h1;rcases h1 with h1|h1
          ·exact .inl ⟨i',o',h1,h2,h3⟩
          ·rw[←cM h1,ho] at h2;cases h2;exact .inr h3
        rw[hA] at fy;have hSt:m3 (S.withR (fe ops (q.map (·.1)) ((List.range m).filter (av E)) S.r)) o ((q.map (·.1)).getD i .none)=S.withR (fe ops (q.map (·.1)) ((List.range m).filter (av (Nat.lor E (dC i)))) S.r):=by
         have ahB:∀t,(m3 (S.withR (fe ops (q.map (·.1)) ((List.range m).filter (av E)) S.r)) o ((q.map (·.1)).getD i .none)).r t=fe ops (q.map (·.1)) ((List.range m).filter (av (Nat.lor E (dC i)))) S.r t:=by
          intro t;by_cases Hb:o.dst=some t
          ·have hb:(ops[i]?).bind (·.dst)=some t:=by rw[ho];exact Hb
           rw[Jt ML hb (du.2 ⟨bX.2 kC,by rw[iK,gy,m7]⟩)];unfold m3;rw[Hb];simp[St.setR,aL]
          ·have e1:(m3 (S.withR (fe ops (q.map (·.1)) ((List.range m).filter (av E)) S.r)) o ((q.map (·.1)).getD i .none)).r t=fe ops (q.map (·.1)) ((List.range m).filter (av E)) S.r t:=by
            unfold m3;split
            ·rename_i d hd;exact bl _ _ (fun e=>Hb (by rw[hd,e]))
            ·rfl
           rw[e1];refine abc ML (fun j hj=>?_) (fun _ _ _=>rfl);have gQ:¬i=j:=fun e=>by subst e;rw[ho] at hj;exact Hb hj
           rw[du,du,iK,dY gQ,q8]
         have:∀(X Y:St),X.o=Y.o→X.ver=Y.ver→(∀t,X.r t=Y.r t)→X=Y:=by
          intro X Y h1 h2 h3;cases X;cases Y;simp only at h1 h2 h3;subst h1 h2
          congr 1
          exact funext h3
         refine this _ _ ?_ ?_ ahB
         ·unfold m3;split<;>rfl
         ·unfold m3;split<;>rfl
        rw[hSt] at fy;refine ih _ _ ρ1 a' w' (by have:=aqQ bD dm;omega) (fun j hj=>by rw[iK,gr] at hj;rcases hj with hj|hj;exact vR j hj;rw[←cM hj];exact kC) ahd (by simpa using aJ) (fun j=>?_) (hn.trans (qs.mono fun t e=>⟨o,by simpa using gq ho,e⟩)) fy hρ2;rw[iK];simp only[dL,uU];by_cases cZ:i=j
        ·subst cZ;simp[aJ,bD]
        ·rw[if_neg cZ,dY cZ,q8,←hl j];simp only[dL])
   simp only[wpOpIn,ho];split
   ·rename_i hw;rw[if_pos hw] at main;exact main
   ·rename_i hw;rw[if_neg hw] at main;exact⟨fun _ _=>trivial,main⟩
theorem aoy {rd:Option Nat}(hC:CtxOK C σ0)(aW:dj C)(hΦ:cT C Φ)(hY:ou C Φ w0 σ0){ops:Array Oper}(aA:qN n ops=true)(eU:yT ops=true)(B5:(List.range ops.size).all (GJ ops)=true){m:Nat}
 (zi:∀i,m≤i→i<ops.size→∀j,j<i→av ((dw ops ops.size).getD i 0) j=true) {Q:Exit→Act→World→Prop} {ρ':Env}:
 ∀(k i:Nat) {S:St} {ρ:Env} {a:Act} {w:World} {r:St×List PI} (listed:Array Bool),i+k=ops.size→m≤i→listed.size=ops.size→(∀j,listed.getD j false=decide (j<i))→a.tmps.size=n→
  Good C w0 σ0 S ρ (ls ops (List.range i)) a w→nj C ops (List.range' i k) S=some r→PI.runs Φ r.2 ρ=some ρ'→
  (∀a' w',SameBut (p7 ops) a a'→Good C w0 σ0 r.1 ρ' (ls ops (List.range ops.size)) a' w'→Q .normal a' w')→wpAnyIn (FR rd) 0 C.P .any ops Q k listed a w:=by
 have HB:=aA;simp only[qN,ak] at aA;have bk:=l6 aA.1
 have Kd:∀i,i<ops.size→∀o,ops[i]?=some o→(o.after.toList.all fun e=> !Region.binds .any e||Nat.blt e.on i)=true:=by
  intro i hi o ho;have:=bE.1 B5 i (bX.2 hi);unfold GJ at this;rw[ho] at this;exact this
 have mem:∀(listed:Array Bool) (i j:Nat),listed.size=ops.size→(∀j,listed.getD j false=decide (j<i))→(j∈Region.ready .any ops listed↔(j<ops.size∧¬j<i∧∀o,ops[j]?=some o→(o.after.toList.all fun e=> !Region.binds .any e||decide (e.on<i))=true)):=by
  intro listed i j aJ hl;unfold Region.ready;simp only[du,bX];refine and_congr_right fun hj=>?_;have h1:listed.getD j true=decide (j<i):=by
   rw[←hl j];simp only[dL];rw[fi (by omega)];rfl
  have h2:ops[j]?=some ops[j]:=fi hj;rw[h1,h2];simp only[jO,jj,←Ti,hl,ak,gd,decide_eq_false_iff_not,aR,forall_eq']
 intro k
 induction k with
 |zero=>
  intro i S ρ a w r listed hik hmi aJ hl hn hg hr ah hQ;simp only[List.range'_zero,nj,aR] at hr;subst hr;rw[mZ ah] at hQ;refine⟨?_,hQ a w (.refl _ _) ?_⟩
  ·rw[Tx];intro j hj;rw[mem listed i j aJ hl] at hj;exact hj.2.1 (by omega)
  ·have:i=ops.size:=by omega
   rw[←this];exact hg
 |succ k ih=>
  intro i S ρ a w r listed hik hmi aJ hl hn hg hr ah hQ;have bD:i<ops.size:=by omega
  have ho:ops[i]?=some ops[i]:=fi bD;generalize ops[i]=o at ho;refine⟨fun he=>?_,fun i' cU=>?_⟩
  ·have:i∈Region.ready .any ops listed:=by
        rw[mem listed i i aJ hl];refine⟨bD,by omega,fun o' dT=>?_⟩;rw[bE];intro e gC;have:=bE.1 (Kd i bD o' dT) e gC;cases hb:Region.binds .any e with
        |false=>rfl
        |true=>
         rw[hb] at this;simp only[q7,pM,hH] at this;simpa using this
   rw[he] at this;cases this
  ·rw[mem listed i i' aJ hl] at cU;obtain⟨h1,h2,h3⟩:=cU;obtain rfl:i'=i:=by
        refine AQ fun aB=>?_;have dT:ops[i']?=some ops[i']:=fi h1;have y2:=zi i' (by omega) h1 i (by omega);have af:∀m j,j<ops.size→av ((dw ops ops.size).getD j 0) m=true→m<j:=by
         intro m j
         induction j using Nat.strongRecOn with
         |ind j lW=>
          intro hj hm;have qn:ops[j]?=some ops[j]:=fi hj;have p2:=Kd j hj _ qn;obtain⟨e,e1,e2,e3⟩:=Gv hj qn p2 hm;have oV:e.on<j:=by
           have:=bE.1 p2 e e1;rw[e2] at this;simpa [hH] using this
          rcases e3 with rfl|e3
          ·exact oV
          ·have:=lW e.on oV (by omega) e3;omega
        obtain⟨e,e1,e2,e3⟩:=Gv h1 dT (Kd i' h1 _ dT) y2;have h4:=bE.1 (h3 _ dT) e e1;rw[e2] at h4;simp only[q7,pM,decide_eq_true_eq] at h4;rcases e3 with e3|e3
        ·omega
        ·have:=af i e.on (by omega) e3;omega
   rw[E1] at hr;simp only[nj,ho] at hr;simp only[au,az] at hr;obtain⟨r1,il,q,hq,rfl⟩:=hr;simp only[nX,au] at ah;obtain⟨ρ1,hρ1,hρ2⟩:=ah;have qh:∀d,o.dst=some d→¬ls ops (List.range i') d∧d<a.tmps.size:=by
        intro d hd;refine⟨fun⟨i2,o2,Hi,ej,dN⟩=>?_,?_⟩
        ·have aB:i2≠i':=by have:=bX.1 Hi;omega
         exact vp.dst_once bk ej ho dN hd aB
        ·have:=bE.1 aA.2 o (by simpa using gq ho);simp only[hd,ak] at this;rw[hn];simpa [hH] using this.2
   have jz:nJ o.op=true:=by
        have:=bE.1 aA.2 o (by simpa using gq ho);simp only[ak] at this;exact this.1
   have hj:∀j want t,o.guard=some (j,want)→(ops[j]?).bind (·.dst)=some t→ls ops (List.range i') t:=by
        intro j want t jU ht;rw[au] at ht;obtain⟨oj,h1,h2⟩:=ht;have tL:=bE.1 eU o (by simpa using gq ho);simp only[jU] at tL;obtain⟨e,ju,kz⟩:=jL.1 tL;simp only[ak] at kz;have h4:=bE.1 (h3 o ho) e ju;rw[kz.1] at h4;simp only[q7,pM,decide_eq_true_eq] at h4;exact⟨j,oj,bX.2 (by rw[←cM kz.2];exact h4),h1,h2⟩
   have main:=Gw (rd:=rd) (K:=wpAnyIn (FR rd) 0 C.P .any ops Q k (listed.setIfInBounds i' true)) (Q:=Q) hg hC aW hΦ hY jz qh hj il hρ1 (fun a' w' fy iU=>by
        have:(fun u=>ls ops (List.range i') u∨o.dst=some u)=ls ops (List.range (i'+1)):=by
         funext u;apply propext;constructor
         ·rintro(⟨i2,o2,h1,h2,h3⟩|h1)
          ·exact⟨i2,o2,bX.2 (by have:=bX.1 h1;omega),h2,h3⟩
          ·exact⟨i',o,bX.2 (by omega),ho,h1⟩
         ·rintro⟨i2,o2,g1,g2,g3⟩;by_cases e:i2=i'
          ·rw[e,ho] at g2;cases g2;exact .inr g3
          ·exact .inl ⟨i2,o2,bX.2 (by have:=bX.1 g1;omega),g2,g3⟩
        rw[this] at fy;refine ih (i'+1) _ (by omega) (by omega) (by simpa using aJ) (fun j=>?_) (iU.size.trans hn) fy hq hρ2 (fun a2 w2 s2 g2=>hQ a2 w2 ((iU.mono fun t e=>⟨o,by simpa using gq ho,e⟩).trans s2) g2);simp only[dL,uU];by_cases cZ:i'=j
        ·subst cZ;simp[aJ,bD]
        ·rw[if_neg cZ];have:=hl j;simp only[dL] at this;rw[this];by_cases af:j<i'
         ·rw[decide_eq_true af,decide_eq_true (by omega:j<i'+1)]
         ·rw[decide_eq_false af,decide_eq_false (by omega:¬j<i'+1)])
   simp only[wpOpIn,ho];split
   ·rename_i hw;rw[if_pos hw] at main;exact main
   ·rename_i hw;rw[if_neg hw] at main;exact⟨fun _ _=>trivial,main⟩
end
def Jl (C:Ctx)(n:Nat)(ids:List Nat)(ops:Array Oper)(draw:Bool)(S:Snap):Option (Snap×List PI):=
 bif qN n ops then
    bif draw then
     bif yT ops&&NT ops&&C.P.follows .mixedOrders then
        match U5 C ops (S.st ids) with
        |some r=>some (⟨uK (eH r.1) r.1 S.rs (ops.toList.filterMap (·.dst)),ids.map fun j=>gW r.1 (r.1.o j)⟩,r.2)
        |none=>
        (eJ C ops (List.range ops.size) (S.st ids)).bind fun X=>B7 X fun X=>B7 (pk X ops.size) fun nc=>
         (Snap.hard ⟨S.rs.map fun s=>kJ (S.st ids) (cr s),ids.map fun j=>gW (S.st ids) ((S.st ids).o j)⟩ fun T0=>EB ops (ru C.P ops) (OF C ops n ids X nc) ops.size [(0,T0)]).map fun T=>(⟨T.rs.map (eH (T.stO ids)),ids.map fun j=>gW (T.stO ids) ((T.stO ids).o j)⟩,X.flatten)
     else none
    else bif Vh ops then(nj C ops (List.range ops.size) (S.st ids)).map fun r=>(⟨uK (eH r.1) r.1 S.rs (ops.toList.filterMap (·.dst)),ids.map fun j=>gW r.1 (r.1.o j)⟩,r.2) else none
 else none
def Jk (C:Ctx)(n:Nat)(ids:List Nat)(ops:Array Oper)(draw:Bool)(S:Snap):Option (Snap×List PI):=
 (Jl C n ids ops draw S).bind fun r=>r.1.hard fun T=>some (T,r.2)
theorem anL (C:Ctx)(n:Nat)(ids:List Nat)(ops:Array Oper)(draw:Bool)(S:Snap):Jk C n ids ops draw S=Jl C n ids ops draw S:=by
 unfold Jk;cases Jl C n ids ops draw S with
 |none=>rfl
 |some r=>rw[jN,Snap.hard_eq]
def wZ (ops:Array Oper)(E:Nat):Nat→Prop:=fun t=>∃i o,av E i=true∧ops[i]?=some o∧o.dst=some t
section
variable {C:Ctx} {S:St} {ρ:Env} {σ:Im} {own:Nat→Option Nat} {hv:Nat→Value} {w0:World} {σ0:Base} {A:Nat→Prop} {a:Act} {w:World} {n:Nat} {ids:List Nat} {Φ:aP}
theorem Ji {ops:Array Oper}{listed:Array Bool}{E:Nat}(aJ:listed.size=ops.size)(hl:∀i,listed.getD i false=av E i)(i:Nat):i∈Region.ready .any ops listed↔i∈lq ops E:=by
 unfold Region.ready lq;simp only[du,bX];refine and_congr_right fun hi=>?_;have h1:listed.getD i true=av E i:=by
  rw[←hl i];simp only[dL];rw[fi (by omega)];rfl
 have h2:ops[i]?=some ops[i]:=fi hi;rw[h1,h2];simp only[jO,jj,←Ti,hl]
theorem an7 {rd:Option Nat}(hC:CtxOK C σ0)(aW:dj C)(hΦ:cT C Φ)(hY:ou C Φ w0 σ0){a0:Act}(Mz:a0.tmps.size=n){ops:Array Oper}(aA:qN n ops=true)(eU:yT ops=true){X:List (List PI)}{Q:Exit→Act→World→Prop}{ρ':Env}(zg:NT ops=true)(hQp:∀c a w,¬Q (.panic c) a w):
 ∀(k:Nat) {L:List (Nat×Snap)} {T:Snap},EB ops (ru C.P ops) (OF C ops n ids X (pk X ops.size)) k L=some T→
  (∀a' w',SameBut (p7 ops) a0 a'→Good C w0 σ0 (T.stO ids) ρ' (fun t=>∃E,wZ ops E t) a' w'→Q .normal a' w')→
  ∀(E:Nat) (U:Snap),(E,U)∈L→∀(listed:Array Bool) (ρ:Env) (a:Act) (w:World),listed.size=ops.size→(∀i,listed.getD i false=av E i)→SameBut (p7 ops) a0 a→
   Good C w0 σ0 (U.stO ids) ρ (wZ ops E) a w→PI.runs Φ (eg X (List.range ops.size) E) ρ=some ρ'→wpAnyIn (FR rd) 0 C.P .any ops Q k listed a w:=by
 simp only[qN,ak] at aA;have bk:=l6 aA.1;intro k
 induction k with
 |zero=>
  intro L T hs hQ E U hm listed ρ a w aJ hl hn hg ah;simp only[EB] at hs;split at hs
  case h_2=>cases hs
  rename_i x;cases aO:(List.range ops.size).all (av x.1)<;>simp only[aO,cond_true,cond_false] at hs
  ·cases hs
  cases hs;simp only[pR] at hm;subst hm;simp only at aO hg hQ ah hl;have jT:=bE.1 aO;have Mf:eg X (List.range ops.size) E=[]:=by
   unfold eg;rw[ab7];intro i hi;rw[jT i hi];rfl
  rw[Mf] at ah;simp only[PI.runs,aR] at ah;subst ah;refine⟨?_,hQ a w hn ?_⟩
  ·rw[Tx];intro i hi;rw[Ji aJ hl] at hi;unfold lq at hi;simp only[du,ak,gd] at hi;rw[jT i hi.1] at hi;cases hi.2.1
  ·obtain⟨σ,own,hv,h⟩:=hg;exact⟨σ,own,hv,h.defers,h.ok,h.le,h.old,h.newc,h.newm,h.below,h.bw,h.owns,h.regs,h.objs,fun t gs s e=>⟨fun g hm=>⟨E,(h.opts t gs s e).1 g hm⟩,(h.opts t gs s e).2⟩,h.frame⟩
 |succ k ih=>
  intro L T hs hQ E U hm listed ρ a w aJ hl hn hg ah;simp only[EB,au] at hs;obtain⟨L',hL,hs⟩:=hs;obtain⟨_,cV⟩:=W5 hL;obtain⟨aB,M2⟩:=cV _ hm;have aid:lq ops E≠[]:=fun e=>aB (by unfold oz;rw[e];rfl)
  have bJ:∀i,i∈oz ops (ru C.P ops) E→i∈lq ops E:=fun i hi=>by
   unfold oz at hi;split at hi
   ·rename_i i' hp;rw[pR.1 hi];exact(JC hp).1
   ·exact hi
  have step:∀i,i∈oz ops (ru C.P ops) E→∀Q':Exit→Act→World→Prop,wpOpIn (FR rd) 0 C.P ops Q' i (wpAnyIn (FR rd) 0 C.P .any ops Q k (listed.setIfInBounds i true)) a w:=by
   intro i hi Q';obtain⟨y,hy,hyL⟩:=M2 i hi;have hi:=bJ i hi;unfold lq at hi;simp only[du,bX,ak,gd] at hi;obtain⟨bD,dm,tJ⟩:=hi;simp only[OF] at hy;split at hy
   case h_2=>cases hy
   rename_i o ho;simp only[au] at hy;obtain⟨r,hr,hy⟩:=hy;cases hc:(PI.beqs r.2 (X.getD i [])&&((pk X ops.size).getD i []).all (av E))<;>simp only[hc,cond_true,cond_false] at hy
   ·cases hy
   cases hy;simp only[ak] at hc;have hX:=PI.beqs_eq _ _ hc.1;rw[aaO bD dm hc.2,au] at ah;obtain⟨ρ1,hρ1,hρ2⟩:=ah;rw[←hX] at hρ1;rw[ho] at tJ;simp only at tJ;have qh:∀d,o.dst=some d→¬wZ ops E d∧d<a.tmps.size:=by
        intro d hd;refine⟨fun⟨i',o',cU,dT,gB⟩=>?_,?_⟩
        ·have aB:i'≠i:=fun e=>by subst e;rw[dm] at cU;cases cU
         exact vp.dst_once bk dT ho gB hd aB
        ·have:=bE.1 aA.2 o (by simpa using gq ho);simp only[hd,ak] at this;rw[hn.size,Mz];simpa [hH] using this.2
   have jz:nJ o.op=true:=by
        have:=bE.1 aA.2 o (by simpa using gq ho);simp only[ak] at this;exact this.1
   have hj:∀j want t,o.guard=some (j,want)→(ops[j]?).bind (·.dst)=some t→wZ ops E t:=by
        intro j want t jU ht;rw[au] at ht;obtain⟨oj,h1,h2⟩:=ht;have tL:=bE.1 eU o (by simpa using gq ho);simp only[jU] at tL;obtain⟨e,ju,kz⟩:=jL.1 tL;simp only[ak] at kz;have h3:=bE.1 tJ e ju;rw[kz.1] at h3;simp only[q7,pM] at h3;exact⟨j,oj,by rw[←cM kz.2];exact h3,h1,h2⟩
   have main:=Gw (rd:=rd) (K:=wpAnyIn (FR rd) 0 C.P .any ops Q k (listed.setIfInBounds i true)) (Q:=Q') hg hC aW hΦ hY jz qh hj hr hρ1 (fun a' w' fy qs=>by
        have hA:(fun u=>wZ ops E u∨o.dst=some u)=wZ ops (Nat.lor E (dC i)):=by
         funext u;apply propext;constructor
         ·rintro(⟨i',o',h1,h2,h3⟩|h1)
          ·exact⟨i',o',by rw[iK,h1,xj],h2,h3⟩
          ·exact⟨i,o,by rw[iK,gy,m7],ho,h1⟩
         ·rintro⟨i',o',h1,h2,h3⟩;rw[iK,gr] at h1;rcases h1 with h1|h1
          ·exact .inl ⟨i',o',h1,h2,h3⟩
          ·rw[←cM h1,ho] at h2;cases h2;exact .inr h3
        rw[hA] at fy
        refine ih hs hQ _ _ hyL _ ρ1 a' w' (by simpa using aJ) (fun j=>?_) (hn.trans (qs.mono fun t e=>⟨o,by simpa using gq ho,e⟩)) (by
         have:=fy.snapO U.rs.length ids
         rw[show r.1.snapO U.rs.length ids=⟨uK (kJ r.1) r.1 U.rs o.dst.toList,ids.map fun j=>gW r.1 (r.1.o j)⟩ from by
          unfold St.snapO;rw[EF fun t ht=>?_];rw[Uo hr t (fun e=>ht (by rw[e];simp))];rfl] at this
         exact this) hρ2
        rw[iK];simp only[dL,uU];by_cases cZ:i=j
        ·subst cZ;simp[aJ,bD]
        ·rw[if_neg cZ,dY cZ,q8,←hl j];simp only[dL])
   simp only[wpOpIn,ho];split
   ·rename_i hw;rw[if_pos hw] at main;exact main
   ·rename_i hw;rw[if_neg hw] at main;exact⟨fun _ _=>trivial,main⟩
  cases MR:AE (ru C.P ops) E (lq ops E) with
  |none=>
   have lP:oz ops (ru C.P ops) E=lq ops E:=by unfold oz;rw[MR]
   refine⟨fun he=>?_,fun i hi=>step i (by rw[lP];exact(Ji aJ hl i).1 hi) Q⟩;exfalso;refine aid ?_;rw[Tx];intro i hi;rw[←Ji aJ hl,he] at hi;cases hi
  |some i=>
   have lP:oz ops (ru C.P ops) E=[i]:=by unfold oz;rw[MR]
   obtain⟨hir,b,hb,ag5⟩:=JC MR;obtain⟨oi,Wf,MT,L2⟩:=acZ hb;obtain⟨v,hv,hK⟩:=amU Wf MT (step i (by rw[lP];simp) _);refine aq9 (fun j o ho=>?_) Wf (fun j o cs b' ho e=>?_) (fun c a' w' h=>(hQp _ _ _ h).elim) k listed a w (fun j oj hj gQ mM dZ=>L2 j oj hj gQ (fun Hl=>?_) dZ) ((Ji aJ hl i).2 hir) hv hK
   ·have:=bE.1 aA.2 o (by simpa using gq ho);simp only[ak] at this;exact this.1
   ·have:=bE.1 zg o (by simpa using gq ho);rw[e] at this;cases this
   ·have h1:=bE.1 ag5 j Hl;have h2:=hl j;rw[h1] at h2;simp only[dL] at h2 mM;cases y7:listed[j]? with
    |none=>rw[y7] at h2;cases h2
    |some x=>
     rw[y7] at h2 mM;simp only[jj] at h2 mM;rw[h2] at mM;cases mM
theorem aa6 {ops:Array Oper}:∀{l:List Nat} {S:St} {X:List (List PI)},eJ C ops l S=some X→X.length=l.length
 |[],S,X,h=>by simp only[eJ,aR] at h;subst h;rfl
 |i::l,S,X,h=>by
  simp only[eJ] at h;split at h
  case h_2=>cases h
  simp only[au,az] at h;obtain⟨r,_,q,hq,rfl⟩:=h;simp[aa6 hq]
theorem aaP (X:List (List PI)):eg X (List.range X.length) 0=X.flatten:=by
 have h0:∀i,av 0 i=false:=fun i=>by rw[ry];simp
 have key:∀(Y Z:List (List PI)),eg (Y++Z) (List.range' Y.length Z.length) 0=Z.flatten:=by
  intro Y Z
  induction Z generalizing Y with
  |nil=>rfl
  |cons z Z ih=>
   have:=ih (Y++[z]);simp only[pP,List.singleton_append,ko,m8,xn,gz] at this;rw[m8,E1];have e:eg (Y++z::Z) (Y.length::List.range' (Y.length+1) Z.length) 0=(Y++z::Z).getD Y.length []++eg (Y++z::Z) (List.range' (Y.length+1) Z.length) 0:=by
        unfold eg;rw[uX,h0];rfl
   rw[e,this,TC]
   congr 1
   simp[aK]
 have:=key [] X;simp only[sW,xn] at this;rw[J4];exact this
theorem anM (aW:dj C)(hΦ:cT C Φ):J9 C n ids Φ (Jk C n ids):=by
 intro id ops draw S r hr rd w0 σ0 ρ ρ' a w Q hC hY hn hg ah hQ;rw[anL] at hr;unfold Jl at hr;cases aA:qN n ops<;>simp only[aA,cond_true,cond_false] at hr
 ·cases hr
 cases draw with
 |false=>
  simp only[cond_false] at hr;cases VR:Vh ops<;>simp only[VR,cond_true,cond_false] at hr
  ·cases hr
  simp only[az] at hr;obtain⟨q,hq,rfl⟩:=hr;refine wpIn_region ?_
  have oY:ls ops []=fun _=>False:=by
   funext t;apply propext;constructor
   ·rintro⟨i,o,h,_⟩;cases h
   ·intro h;exact h.elim
  refine vp hC aW hΦ hY aA (List.range ops.size) [] (by simpa using J3) (fun p i q o j want hl ho jU=>?_) hn (by rw[oY];exact hg) hq ah (fun a' w' jy fy=>hQ a' w' jy (by
   have:=fy.snapF S.rs.length ids
   rw[show q.1.snap S.rs.length ids=⟨uK (eH q.1) q.1 S.rs (ops.toList.filterMap (·.dst)),ids.map fun j=>gW q.1 (q.1.o j)⟩ from by
        unfold St.snap;rw[EF fun t ht=>?_];rw[Lh hq t (fun i o hi ho e=>ht (sV.2 ⟨o,by simpa using gq ho,e⟩))];show _=eH q.1 (cr (S.rs.getD t .none));cases S.rs.getD t .none<;>rfl] at this
   exact this))
  have hi:i<ops.size:=by
   have:i∈List.range ops.size:=by rw[hl];simp
   exact bX.1 this
  have hb:=bE.1 VR i (bX.2 hi);rw[ho] at hb;simp only[jU,hH] at hb;have hp:=List.pairwise_lt_range (n:=ops.size);have tM:j∈List.range ops.size:=bX.2 (by omega);rw[hl,List.pairwise_append] at hp;obtain⟨_,eW,_⟩:=hp;rw[List.pairwise_cons] at eW;rw[hl,dB] at tM;simp only[sW];rcases tM with hm|hm
  ·exact hm
  ·rcases cD.1 hm with e|hm
   ·omega
   ·have:=eW.1 j hm;omega
 |true=>
  simp only[cond_true] at hr;cases eU:(yT ops&&NT ops&&C.P.follows .mixedOrders)<;>simp only[eU,cond_true,cond_false] at hr
  ·cases hr
  simp only[ak] at eU;have zg:=eU.1.2
  replace eU:yT ops=true∧C.P.follows .mixedOrders=true:=⟨eU.1.1,eU.2⟩
  have h0:∀i,av 0 i=false:=fun i=>by rw[ry];simp
  split at hr
  case h_1=>
   rename_i r jv;cases hr;generalize M7:nZ (dw ops ops.size) ops.size=m at*;unfold U5 at jv;rw[M7] at jv;have aia:m≤ops.size:=M7▸abu _ _;have zi:∀i,m≤i→i<ops.size→∀j,j<i→av ((dw ops ops.size).getD i 0) j=true:=M7▸abt _ _;rw[au] at jv;obtain⟨q,hq,jv⟩:=jv;cases tO:BV ops (pk (q.map (·.2)) m) (dw ops ops.size) m<;>simp only[tO,cond_true,cond_false] at jv
   ·cases jv
   rw[az] at jv;obtain⟨r1,il,rfl⟩:=jv;refine wpIn_region_any eU.2 ?_
   have oY:uI ops 0=fun _=>False:=by
        funext t;apply propext;constructor
        ·rintro⟨i,o,h,_⟩;rw[h0] at h;cases h
        ·intro h;exact h.elim
   have hlen:(q.map (·.2)).length=m:=by rw[gw];exact(LJ hq).1
   have aja:qW ops 0=ops.size:=by
        unfold qW;have:((List.range ops.size).filter fun i=> !av 0 i)=List.range ops.size:=List.filter_eq_self.2 fun i _=>by rw[h0];rfl
        rw[this,EZ]
   have Cg:(List.range m).filter (av 0)=[]:=List.filter_eq_nil_iff.2 fun i _=>by rw[h0];simp
   simp only[nX,au] at ah;obtain⟨ρ1,hρ1,hρ2⟩:=ah;have MN:=tO;unfold BV at MN;rw[ak] at MN;refine afg (w0:=w0) (S:=S.st ids) hC aW hΦ hY hn aA eU.1 aia hq tO zi (ρ':=ρ1) (fun listed a' w' aJ hl jy fy=>?_) ops.size 0 _ ρ a _ aja (fun j hj=>by rw[h0] at hj;cases hj) (fun j _ hj=>by rw[h0] at hj;cases hj) (by simp) (fun i=>?_) (.refl _ _) ?_ ?_
   ·refine aoy hC aW hΦ hY aA eU.1 MN.2 zi (ops.size-m) m listed (by omega) (bf _) aJ hl (jy.size.trans hn) fy il hρ2 (fun a2 w2 s2 g2=>hQ a2 w2 (jy.trans s2) (by
     have:=g2.snapF S.rs.length ids
     rw[show r1.1.snap S.rs.length ids=⟨uK (eH r1.1) r1.1 S.rs (ops.toList.filterMap (·.dst)),ids.map fun j=>gW r1.1 (r1.1.o j)⟩ from by
      unfold St.snap;rw[EF fun t ht=>?_];rw[Lh il t (fun i o hi ho e=>ht (sV.2 ⟨o,by simpa using gq ho,e⟩))]
      have e1:fe ops (q.map (·.1)) (List.range m) (S.st ids).r t=(S.st ids).r t:=ED fun i hi e=>by
        rw[au] at e;obtain⟨o,ho,hd⟩:=e;exact ht (sV.2 ⟨o,by simpa using gq ho,hd⟩)
      show eH _ (S.rs.getD t .none)=eH _ (fe ops (q.map (·.1)) (List.range m) (S.st ids).r t);rw[e1];show _=eH _ (cr (S.rs.getD t .none));cases S.rs.getD t .none<;>rfl] at this
     exact this))
   ·rw[h0];simp only[dL,abR];split<;>rfl
   ·rw[oY,Cg];exact hg.drew
   ·rw[←hlen,aaP];exact hρ1
  simp only[Vw,Snap.hard_eq,au,az] at hr;obtain⟨X,hX,T,hT,rfl⟩:=hr;refine wpIn_mono (Q:=fun e a w=>(∀c,e≠.panic c)∧Q e a w) ?_ fun e a w h=>h.2;refine wpIn_region_any eU.2 ?_
  have oY:wZ ops 0=fun _=>False:=by
   funext t;apply propext;constructor
   ·rintro⟨i,o,h,_⟩;rw[h0] at h;cases h
   ·intro h;exact h.elim
  have hlen:=aa6 hX;rw[EZ] at hlen
  refine an7 (w0:=w0) hC aW hΦ hY hn aA eU.1 (ρ':=ρ') zg (fun c a w h=>h.1 c rfl) ops.size hT (fun a' w' jy fy=>⟨fun c e=>(by cases e),hQ a' w' jy (by
   have:=fy.snapF T.rs.length ids
   rw[show(T.stO ids).snap T.rs.length ids=⟨T.rs.map (eH (T.stO ids)),ids.map fun j=>gW (T.stO ids) ((T.stO ids).o j)⟩ from by
        unfold St.snap;have:=EF (g:=eH (T.stO ids)) (S:=T.stO ids) (rs:=T.rs) (ds:=[]) (fun t _=>rfl);rw[←this];rfl] at this
   exact this)⟩) 0 _ (pR.2 rfl) _ ρ a _ (by simp) (fun i=>?_) (.refl _ _) ?_ ?_
  ·rw[h0];simp only[dL,abR];split<;>rfl
  ·rw[oY];have:=(hg.drew).snapO S.rs.length ids
   rw[show(S.st ids).snapO S.rs.length ids=⟨S.rs.map fun s=>kJ (S.st ids) (cr s),ids.map fun j=>gW (S.st ids) ((S.st ids).o j)⟩ from by
        unfold St.snapO
        have:=EF (g:=fun s=>kJ (S.st ids) (cr s)) (S:=S.st ids) (rs:=S.rs) (ds:=[]) (fun t _=>by
         show kJ _ (cr (S.rs.getD t .none))=kJ _ (cr (cr (S.rs.getD t .none)));cases S.rs.getD t .none<;>rfl)
        have h2:(fun t=>kJ (S.st ids) (cr ((S.st ids).r t)))=fun t=>kJ (S.st ids) ((S.st ids).r t):=by
         funext t;show kJ _ (cr (cr (S.rs.getD t .none)))=kJ _ (cr (S.rs.getD t .none));cases S.rs.getD t .none<;>rfl
        rw[h2] at this;rw[←this];rfl] at this
   exact this
  ·rw[←hlen,aaP];exact ah
end
end Cx
