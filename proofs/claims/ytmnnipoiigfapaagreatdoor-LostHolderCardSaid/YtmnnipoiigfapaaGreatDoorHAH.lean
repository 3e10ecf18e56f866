/-
  Regions: in the order of the text, and in every order that their edges allow.
-/
import Derived.Test.YtmnnipoiigfapaaGreatDoorHAG
import Derived.OrdersIn
set_option linter.unusedSimpArgs false
set_option linter.unusedVariables false
namespace Cx
open Go Go.RowKit
def kW (S:St):Sh→Sh
 |.opt gs s=>.opt gs (eQ S s)
 |s=>eQ S s
def St.snapO (n:Nat)(ids:List Nat)(S:St):Snap:=⟨(List.range n).map fun t=>kW S (S.r t),ids.map fun j=>ij S (S.o j)⟩
def Snap.stO (ids:List Nat)(s:Snap):St:=⟨fun t=>s.rs.getD t .none,fun j=>dw ids s.os j,fun _=>0⟩
theorem re (S:St)(s:Sh):∀gs s',eQ S s≠.opt gs s':=by
 intro gs s' e;cases s<;>simp only[eQ] at e<;>first|cases e|(revert e;cases Nat.beq _ _<;>intro e<;>cases e)|(revert e;cases List.all _ _<;>intro e<;>cases e)
section
variable {C:Ctx} {S:St} {ρ:Env} {σ:Im} {own:Nat→Option Nat} {hv:Nat→Value} {w0:World} {σ0:Base} {A:Nat→Prop} {a:Act} {w:World} {n:Nat} {ids:List Nat} {Φ:aQ}
theorem aod {s:Sh}{v:Value}{d:D}(h:aH C S ρ σ hv s v d){T:St}(hT:T.ver=fun _=>0):aH C T ρ σ hv (kW S s) v d:=by
 have hc:Compat S.norm hv T hv:=⟨fun j=>by rw[hT];exact nK _,fun _ _=>rfl⟩
 have key:∀s,aH C S ρ σ hv s v d→aH C T ρ σ hv (eQ S s) v d:=fun s hs=>aH.mono' (.refl σ) hc (re S s) (Jo hs).1;cases s with
 |opt gs s=>exact⟨fun hh=>key s (h.1 hh),h.2⟩
 |_=>exact key _ h
theorem Good.snapO (h:Good C w0 σ0 S ρ A a w)(n:Nat)(ids:List Nat):Good C w0 σ0 ((S.snapO n ids).stO ids) ρ A a w:=by
 obtain⟨σ,own,hv,h⟩:=h;have h1:=h.norm;have hc:Compat S.norm hv ((S.snapO n ids).stO ids) hv:=⟨fun _=>bk _,fun _ _=>rfl⟩
 refine⟨σ,own,hv,h.defers,h.ok,h.le,h.old,h.newc,h.newm,h.below,h.bw,h.owns,fun t=>?_,fun j=>?_,fun t gs s e=>?_,?_⟩
 rotate_right
 ·obtain⟨t,fx,cx,f1,f5⟩:=h.frame;refine⟨t,fx,cx,f1,fun j hj=>f5 j ?_⟩;exact xn (fun j=>ij S (S.o j)) (fun ob=>ob=.tr→S.o j=.tr) (fun e=>by cases e) j ZZ ids hj
 ·show aH C _ ρ σ hv (((List.range n).map fun t=>kW S (S.r t)).getD t .none) _ _;rw[aJ,cC];by_cases ht:t<n
  ·rw[qw ht];exact aod (h.regs t) rfl
  ·rw[rS (by simpa using ht)];trivial
 ·have ho:=(h1.objs j).mono (.refl σ) hc (w:=w) (w':=w) rfl rfl (fun k hk=>⟨hk,rfl⟩);exact xn (fun j=>ij S (S.o j)) (fun ob=>cn C _ ρ σ own hv w w0.heap.size j ob) trivial j ho ids
 ·change ((List.range n).map fun t=>kW S (S.r t)).getD t .none=.opt gs s at e;rw[aJ,cC] at e;by_cases ht:t<n
  ·rw[qw ht] at e;simp only[ka,iz] at e;cases hs:S.r t with
   |opt bR s'=>
    rw[hs] at e;simp only[kW,Sh.opt.injEq] at e;obtain⟨rfl,rfl⟩:=e;exact⟨(h.opts t bR s' hs).1,re S s'⟩
   |none=>rw[hs] at e;exact absurd e (re S .none gs s)
   |yv=>rw[hs] at e;exact absurd e (re S .yv gs s)
   |fclo f c=>rw[hs] at e;exact absurd e (re S (.fclo f c) gs s)
   |agg l=>rw[hs] at e;exact absurd e (re S (.agg l) gs s)
   |dat t=>rw[hs] at e;exact absurd e (re S (.dat t) gs s)
   |obj t u=>rw[hs] at e;exact absurd e (re S (.obj t u) gs s)
   |ptr t u v=>rw[hs] at e;exact absurd e (re S (.ptr t u v) gs s)
   |eptr t u v x=>rw[hs] at e;exact absurd e (re S (.eptr t u v x) gs s)
  ·rw[rS (by simpa using ht)] at e;cases e
theorem Good.snapF (h:Good C w0 σ0 S ρ A a w)(n:Nat)(ids:List Nat):Good C w0 σ0 ((S.snap n ids).st ids) ρ (fun _=>False) a w:=by
 obtain⟨σ,own,hv,h⟩:=h;exact⟨σ,own,hv,h.snap n ids⟩
theorem Good.drew (h:Good C w0 σ0 S ρ A a w):Good C w0 σ0 S ρ A a {w with drawn:=w.drawn+1}:=by
 obtain⟨σ,own,hv,h⟩:=h;refine⟨σ,own,hv,h.defers,⟨fun k o v e=>h.ok.c k o v e,fun k es e=>h.ok.m k es e⟩,h.le,h.old,h.newc,h.newm,h.below.drew,h.bw,h.owns,h.regs,fun j=>?_,h.opts,?_⟩
 rotate_right
 ·obtain⟨t,fx,cx,f1,f2⟩:=h.frame;exact⟨t,fx,cx,⟨σ0.keep _ _ _ _ _ f1.F (Below.drew (.refl _ _)) (fun _ _=>rfl),f1.own,f1.c,f1.m,f1.d⟩,f2⟩
 exact(h.objs j).mono (.refl σ) (.refl S hv) rfl rfl (fun k hk=>⟨hk,rfl⟩)
end
def vz (g:Sh→Sh)(S:St)(rs:List Sh)(ds:List Nat):List Sh:=(ds.foldl (fun l d=>l.set d (S.r d)) rs).map g
theorem WW (S:St):∀(ds:List Nat) (rs:List Sh),(ds.foldl (fun l d=>l.set d (S.r d)) rs).length=rs.length∧∀t,t<rs.length→(ds.foldl (fun l d=>l.set d (S.r d)) rs).getD t .none=if t∈ds then S.r t else rs.getD t .none
 |[],rs=>⟨rfl,fun t _=>by simp⟩
 |d::ds,rs=>by
  obtain⟨h1,h2⟩:=WW S ds (rs.set d (S.r d));simp only[List.length_set] at h1 h2;refine⟨h1,fun t ht=>?_⟩;rw[FZ,h2 t ht];simp only[cD,aJ,BM];by_cases hm:t∈ds
  ·simp[hm]
  ·by_cases e:d=t
   ·subst e;simp[hm,ht]
   ·have e':¬t=d:=fun h=>e h.symm;simp[hm,e,e']
theorem FE {g:Sh→Sh}{S:St}{rs:List Sh}{ds:List Nat}(h:∀t,t∉ds→g (rs.getD t .none)=g (S.r t)):vz g S rs ds=(List.range rs.length).map fun t=>g (S.r t):=by
 obtain⟨h1,h2⟩:=WW S ds rs;unfold vz;apply Vm;intro t;simp only[cC];by_cases ht:t<rs.length
 ·have:=h2 t ht;rw[aJ,bA (by omega)] at this;rw[bA (by omega),qw ht];simp only[iz,ka] at this ⊢;rw[this];by_cases hm:t∈ds
  ·simp[hm]
  ·simp only[hm,if_false];rw[h t hm]
 ·rw[rS (by omega),rS (by simpa using ht)];rfl
def Sh.hd {α:Type}(s:Sh)(k:Sh→α):α:=
 match s with
 |.none=>k .none
 |.dat t=>k (.dat t)
 |.obj j v=>k (.obj j v)
 |.ptr j v o=>k (.ptr j v o)
 |.eptr j v z o=>k (.eptr j v z o)
 |.opt gs s=>k (.opt gs s)
 |.yv=>k .yv
 |.fclo f c=>k (.fclo f c)
 |.agg l=>k (.agg l)
theorem Sh.hd_eq {α:Type}(s:Sh)(k:Sh→α):s.hd k=k s:=by cases s<;>rfl
def zR {α:Type}:List Sh→(List Sh→α)→α
 |[],k=>k []
 |s::l,k=>s.hd fun s=>zR l fun l=>k (s::l)
theorem Ns {α:Type}:∀(l:List Sh) (k:List Sh→α),zR l k=k l
 |[],_=>rfl
 |s::l,k=>by rw[zR,Sh.hd_eq,Ns l]
def Ob.hd {α:Type}(s:Ob)(k:Ob→α):α:=
 match s with
 |.dead=>k .dead
 |.fz t=>k (.fz t)
 |.fbox t=>k (.fbox t)
 |.box true l=>zR l fun l=>k (.box true l)
 |.box false l=>zR l fun l=>k (.box false l)
 |.row T e=>k (.row T e)
 |.mp a b=>k (.mp a b)
 |.it a b=>k (.it a b)
 |.tr=>k .tr
theorem Ob.hd_eq {α:Type}(s:Ob)(k:Ob→α):s.hd k=k s:=by
 cases s with
 |box ag l=>cases ag<;>simp only[Ob.hd,Ns]
 |_=>rfl
def If {α:Type}:List Ob→(List Ob→α)→α
 |[],k=>k []
 |s::l,k=>s.hd fun s=>If l fun l=>k (s::l)
theorem Xj {α:Type}:∀(l:List Ob) (k:List Ob→α),If l k=k l
 |[],_=>rfl
 |s::l,k=>by rw[If,Ob.hd_eq,Xj l]
def Snap.hard {α:Type}(s:Snap)(k:Snap→α):α:=zR s.rs fun a=>If s.os fun b=>k ⟨a,b⟩
theorem Snap.hard_eq {α:Type}(s:Snap)(k:Snap→α):s.hard k=k s:=by rw[Snap.hard,Ns,Xj]
def Ig {α β:Type}:List β→(List β→α)→α
 |[],k=>k []
 |s::l,k=>Ig l fun l=>k (s::l)
theorem Xl {α β:Type}:∀(l:List β) (k:List β→α),Ig l k=k l
 |[],_=>rfl
 |s::l,k=>by rw[Ig,Xl l]
def C3 {α β:Type}:List (List β)→(List (List β)→α)→α
 |[],k=>k []
 |s::l,k=>Ig s fun s=>C3 l fun l=>k (s::l)
theorem Xk {α β:Type}:∀(l:List (List β)) (k:List (List β)→α),C3 l k=k l
 |[],_=>rfl
 |s::l,k=>by rw[C3,Xl,Xk l]
def aE (P:Program){α:Type}(s:Sem α):Prop:=(∃a,∀w,s.run P w=.ok a w)∨∀w,∃h w',s.run P w=.halt h w'
section
variable {P:Program}
theorem aE.pure {α:Type}(a:α):aE P (Sem.pure a):=.inl ⟨a,fun w=>rfl⟩
theorem aE.pure' {α:Type}(a:α):aE P (Pure.pure a:Sem α):=.inl ⟨a,fun w=>rfl⟩
theorem aE.halt {α:Type}(h:Halt):aE P (Sem.halt h:Sem α):=.inr fun w=>⟨h,w,rfl⟩
theorem aE.bind' {α β:Type}{s:Sem α}{f:α→Sem β}(h:aE P s)(hf:∀a,(∀w,s.run P w=.ok a w)→aE P (f a)):aE P (s>>=f):=by
 rcases h with⟨a,ha⟩|hd
 ·rcases hf a ha with⟨b,hb⟩|hd
  ·exact .inl ⟨b,fun w=>by rw[Sem.run_bind,ha w];exact hb w⟩
  ·refine .inr fun w=>?_;obtain⟨x,w',e⟩:=hd w;exact⟨x,w',by rw[Sem.run_bind,ha w];exact e⟩
 ·refine .inr fun w=>?_;obtain⟨x,w',e⟩:=hd w;exact⟨x,w',by rw[Sem.run_bind,e];rfl⟩
theorem aE.bind {α β:Type}{s:Sem α}{f:α→Sem β}(h:aE P s)(hf:∀a,aE P (f a)):aE P (s>>=f):=h.bind' fun a _=>hf a
def cr {α:Type}(s:Sem α):Prop:=∀P w,∃h w',s.run P w=.halt h w'
theorem cr.noW {α:Type}{s:Sem α}(h:cr s):aE P s:=.inr (h P)
theorem cr.halt {α:Type}(h:Halt):cr (Sem.halt h:Sem α):=fun P w=>⟨h,w,rfl⟩
theorem cr.of_bind {α β:Type}{s:Sem α}{f:α→Sem β}(hf:∀a,cr (f a)):cr (s>>=f):=by
 intro P w;rw[Sem.run_bind];cases e:s.run P w with
 |ok a w'=>exact hf a P w'
 |halt h w'=>exact⟨h,w',rfl⟩
theorem aE.asBool (v:Value):aE P (Go.asBool v):=by
 cases v<;>first|exact .pure _|exact .halt _
theorem aE.asIntOf (v:Value):aE P (Go.asIntOf v):=by
 unfold Go.asIntOf;split<;>first|exact .pure _|exact .halt _
theorem aE.sureAddr (v:Value):aE P (Instr.sureAddr v):=by
 unfold Instr.sureAddr;split<;>first|exact .pure _|exact .halt _
theorem aE.prog:aE P Go.program:=.inl ⟨P,fun w=>rfl⟩
theorem aE.underlying (t:TypeId):aE P (Go.underlying t):=by
 unfold Go.underlying;refine .bind .prog fun p=>?_;split<;>first|exact .pure _|exact .halt _
theorem aE.sizeOf (t:TypeId):aE P (Go.sizeOf t):=by
 unfold Go.sizeOf Go.typeInfo;refine .bind (.bind .prog fun p=>?_) fun _=>.pure _;split<;>first|exact .pure _|exact .halt _
theorem cr.runtimePanic {α:Type}(e:RuntimeError):cr (Go.runtimePanic e:Sem α):=by
 unfold Go.runtimePanic;refine .of_bind fun p=>?_;cases e<;>first|exact .halt _|exact .of_bind fun _=>.halt _|exact .of_bind fun _=>.of_bind fun _=>.halt _
theorem cr.boundsPanic {α:Type}(k:IntKind)(x y:Int)(c:BoundsCode):cr (Go.boundsPanic k x y c:Sem α):=by
 unfold Go.boundsPanic;dsimp only;split<;>exact .of_bind fun _=>.runtimePanic _
theorem aE.indexAt (t:TypeId)(x i:Value):aE P (Instr.indexAt t x i):=by
 unfold Instr.indexAt
 repeat' (first|(first|exact aE.pure _|exact aE.pure' _|exact aE.halt _|exact cr.noW (cr.boundsPanic _ _ _ _)|exact cr.noW (cr.runtimePanic _)|exact aE.prog|exact aE.underlying _|exact aE.sizeOf _|exact aE.asIntOf _|exact aE.sureAddr _|exact aE.asBool _)|(refine aE.bind ?_ fun _=>?_)|dsimp only|split)
theorem aE.sliceBound (x:Value)(y:Nat)(c:BoundsCode):aE P (Instr.sliceBound x y c):=by
 unfold Instr.sliceBound
 repeat' (first|(first|exact aE.pure _|exact aE.pure' _|exact aE.halt _|exact cr.noW (cr.boundsPanic _ _ _ _)|exact cr.noW (cr.runtimePanic _)|exact aE.prog|exact aE.underlying _|exact aE.sizeOf _|exact aE.asIntOf _|exact aE.sureAddr _|exact aE.asBool _)|(refine aE.bind ?_ fun _=>?_)|dsimp only|split)
theorem aE.sliceBounds (b:Bool)(n m:Nat)(lo hi mx:Option Value):aE P (Instr.sliceBounds b n m lo hi mx):=by
 unfold Instr.sliceBounds
 repeat' (first|exact aE.sliceBound _ _ _|(first|exact aE.pure _|exact aE.pure' _|exact aE.halt _|exact cr.noW (cr.boundsPanic _ _ _ _)|exact cr.noW (cr.runtimePanic _)|exact aE.prog|exact aE.underlying _|exact aE.sizeOf _|exact aE.asIntOf _|exact aE.sureAddr _|exact aE.asBool _)|(refine aE.bind ?_ fun _=>?_)|dsimp only|split)
theorem aE.asAddr (v:Value):aE P (Go.asAddr v):=by
 unfold Go.asAddr
 repeat' (first|(first|exact aE.pure _|exact aE.pure' _|exact aE.halt _|exact cr.noW (cr.boundsPanic _ _ _ _)|exact cr.noW (cr.runtimePanic _)|exact aE.prog|exact aE.underlying _|exact aE.sizeOf _|exact aE.asIntOf _|exact aE.sureAddr _|exact aE.asBool _)|(refine aE.bind ?_ fun _=>?_)|dsimp only|split)
theorem aE.slice (t:TypeId)(x:Value)(lo hi mx:Option Value):aE P (Instr.slice t x lo hi mx):=by
 unfold Instr.slice
 repeat' (first|exact aE.sliceBounds _ _ _ _ _ _|exact aE.asAddr _|(first|exact aE.pure _|exact aE.pure' _|exact aE.halt _|exact cr.noW (cr.boundsPanic _ _ _ _)|exact cr.noW (cr.runtimePanic _)|exact aE.prog|exact aE.underlying _|exact aE.sizeOf _|exact aE.asIntOf _|exact aE.sureAddr _|exact aE.asBool _)|(refine aE.bind ?_ fun _=>?_)|dsimp only|split)
theorem aE.sliceAt (t:TypeId)(x:Value)(lo hi mx:Option Value):aE P (Instr.sliceAt t x lo hi mx):=by
 unfold Instr.sliceAt
 repeat' (first|exact aE.sliceBounds _ _ _ _ _ _|exact aE.slice _ _ _ _ _|(first|exact aE.pure _|exact aE.pure' _|exact aE.halt _|exact cr.noW (cr.boundsPanic _ _ _ _)|exact cr.noW (cr.runtimePanic _)|exact aE.prog|exact aE.underlying _|exact aE.sizeOf _|exact aE.asIntOf _|exact aE.sureAddr _|exact aE.asBool _)|(refine aE.bind ?_ fun _=>?_)|dsimp only|split)
def Sd (P:Program)(s:TypeId)(i:Nat):Bool:=
 match P.underlying s with
 |some (.struct fs)=>(match fs[i]? with
  |some f=>(match P.info? f.type with|some d=> !Nat.beq d.size 0|none=>false)
  |none=>false)
 |_=>false
theorem aE.fieldAt {s:TypeId}{i:Nat}(h:Sd P s i=true)(a:Value):aE P (Instr.fieldAt s a i):=by
 unfold Instr.fieldAt;refine .bind' (.underlying _) fun d hd=>?_;have hu:P.underlying s=some d:=by
  have:=hd default;unfold Go.underlying at this;rw[Sem.run_bind] at this;change Result.andThen (.ok P default) _=_ at this;simp only[Result.andThen_ok] at this;cases hp:P.underlying s with
  |none=>rw[hp] at this;cases this
  |some d'=>
   rw[hp] at this;change Result.ok d' default=_ at this;cases this;rfl
 unfold Sd at h;rw[hu] at h;cases d<;>dsimp only at h ⊢<;>try (first|exact aE.pure _|exact aE.pure' _|exact aE.halt _|exact cr.noW (cr.boundsPanic _ _ _ _)|exact cr.noW (cr.runtimePanic _)|exact aE.prog|exact aE.underlying _|exact aE.sizeOf _|exact aE.asIntOf _|exact aE.sureAddr _|exact aE.asBool _)
 rename_i fs;cases hf:fs[i]? with
 |none=>dsimp only;(first|exact aE.pure _|exact aE.pure' _|exact aE.halt _|exact cr.noW (cr.boundsPanic _ _ _ _)|exact cr.noW (cr.runtimePanic _)|exact aE.prog|exact aE.underlying _|exact aE.sizeOf _|exact aE.asIntOf _|exact aE.sureAddr _|exact aE.asBool _)
 |some f=>
  rw[hf] at h;dsimp only at h ⊢;refine .bind (.sureAddr _) fun a=>.bind ?_ fun _=>.pure _;unfold Go.fieldPlace;refine .bind' (.sizeOf _) fun n hn=>?_;have hz:n≠0:=by
   intro e;have:=hn default;unfold Go.sizeOf Go.typeInfo at this;cases hi:P.info? f.type with
   |none=>rw[hi] at h;cases h
   |some inf=>
    rw[hi] at h;rw[Sem.run_bind,Sem.run_bind] at this;change Result.andThen (Result.andThen (.ok P default) _) _=_ at this;simp only[Result.andThen_ok,hi] at this;change Result.ok inf.size default=_ at this;cases this;dsimp only at h;rw[e] at h;cases h
  rw[if_neg hz]
  (first|exact aE.pure _|exact aE.pure' _|exact aE.halt _|exact cr.noW (cr.boundsPanic _ _ _ _)|exact cr.noW (cr.runtimePanic _)|exact aE.prog|exact aE.underlying _|exact aE.sizeOf _|exact aE.asIntOf _|exact aE.sureAddr _|exact aE.asBool _)
def Ej (P:Program):Op→Bool
 |.move _=>true
 |.assign _=>true
 |.pick ..=>true
 |.fieldAddr s _ i=>Sd P s i
 |.indexAddr ..=>true
 |.slice ..=>true
 |_=>false
theorem apw {o:Oper}(hp:Ej P o.op=true)(ρ:Operand→Value):(∃v,∀w,(execOp ρ o).run P w=.ok (.value v) w)∨∀w,∃h w',(execOp ρ o).run P w=.halt h w':=by
 have key:∀s:Sem Value,aE P s→(∃v,∀w,(do Pure.pure (Next.value (←s)):Sem Next).run P w=.ok (.value v) w)∨∀w,∃h w',(do Pure.pure (Next.value (←s)):Sem Next).run P w=.halt h w':=by
  intro s hs;rcases hs with⟨a,ha⟩|hd
  ·exact .inl ⟨a,fun w=>by rw[Sem.run_bind,ha w];rfl⟩
  ·refine .inr fun w=>?_;obtain⟨x,w',e⟩:=hd w;exact⟨x,w',by rw[Sem.run_bind,e];rfl⟩
 obtain⟨dst,op,type,pos,after,guard⟩:=o;cases op<;>first|(cases hp;done)|skip
 case move x=>exact .inl ⟨_,fun w=>rfl⟩
 case assign x=>exact .inl ⟨_,fun w=>rfl⟩
 case pick c a b=>
  have:=key (do Pure.pure (if←Go.asBool (ρ c) then ρ a else ρ b)) (.bind (.asBool _) fun _=>.pure _);simp only[execOp];rcases aE.asBool (P:=P) (ρ c) with⟨t,ht⟩|hd
  ·exact .inl ⟨_,fun w=>by rw[Sem.run_bind,ht w];rfl⟩
  ·refine .inr fun w=>?_;obtain⟨x,w',e⟩:=hd w;exact⟨x,w',by rw[Sem.run_bind,e];rfl⟩
 case fieldAddr s x i=>exact key _ (.fieldAt hp _)
 case indexAddr t x i=>exact key _ (.indexAt _ _ _)
 case slice t x lo hi mx=>exact key _ (.sliceAt _ _ _ _ _)
theorem apx {rd:Option Nat}{ops:Array Oper}{i:Nat}{o:Oper}{a:Act}{w:World}{K:Act→World→Prop}(hi:ops[i]?=some o)(hp:Ej P o.op=true)
 (h:wpOpIn (FR rd) 0 P ops (fun _ _ _=>False) i K a w):∃v,YieldsFenced P ops o v a∧K (a.put o.dst v) w:=by
 have bp:∀c,o.op≠.defer c:=fun c e=>by rw[e] at hp;cases hp
 have C0:∀w,o.about P w a.eval=none:=fun w=>by
  unfold Oper.about;cases ho:o.op<;>first|rfl|(rw[ho] at hp;cases hp)
 unfold wpOpIn at h;rw[hi] at h;dsimp only at h;cases hw:Region.wanted o (yielded ops a.tmps) with
 |false=>
  rw[hw] at h;exact⟨undef,⟨.inr ⟨hw,rfl⟩,C0⟩,h.2⟩
 |true=>
  rw[hw,if_pos rfl] at h;have h2:=h.2;rw[Oper.semAt_eq _ _ _ bp] at h2;rcases apw hp a.eval with⟨v,hv⟩|hd
  ·rw[hv w] at h2;exact⟨v,⟨.inl ⟨hw,hv⟩,C0⟩,h2⟩
  ·obtain⟨x,w',e⟩:=hd w;rw[e] at h2;cases x<;>exact h2.elim
section
variable {F:Fence} {n:Nat} {ops:Array Oper} {Q:Exit→Act→World→Prop} {md:Region.Mode}
theorem YF.wpOpIn {i:Nat}{o:Oper}{v:Value}{a:Act}(bp:ox o.op=true)(hi:ops[i]?=some o)(hy:YieldsFenced P ops o v a)
 {K:Act→World→Prop} {w:World} (h:K (a.put o.dst v) w):wpOpIn F n P ops Q i K a w:=by
 have jS:∀c,o.op≠.defer c:=fun c e=>by rw[e] at bp;cases bp
 unfold Go.wpOpIn;simp only[hi];have C0:∀f,o.about P w a.eval=some f→F.fn f:=fun f hf=>by rw[hy.2 w] at hf;cases hf
 rcases hy.1 with⟨hw,hv⟩|⟨hw,rfl⟩
 ·simp only[hw,if_true,Oper.wpIn,Oper.semAt_eq _ _ _ jS,hv w,Oper.uponIn];exact⟨C0,h⟩
 ·simp only[hw,vN,if_false];exact⟨C0,h⟩
theorem auo {j:Nat}{oi oj:Oper}{v:Value}(bp:ox oj.op=true)(hj:ops[j]?=some oj)(Nr:oi.apart ops oj=true)
 (OC:∀cs b,oi.op≠.select cs b) (hsj:∀cs b,oj.op≠.select cs b)
 (hQ:∀c a w,Q (.panic c) (a.put oi.dst v) w→Q (.panic c) a w) {K:Act→World→Prop} {a:Act} {w:World}
 (hy:YieldsFenced P ops oi v a) (h:wpOpIn F n P ops Q j K (a.put oi.dst v) w):
 wpOpIn F n P ops Q j (fun a' w'=>YieldsFenced P ops oi v a'∧K (a'.put oi.dst v) w') a w:=by
 have jS:∀c,oj.op≠.defer c:=fun c e=>by rw[e] at bp;cases bp
 obtain⟨h1,h2,h3⟩:=Oper.apart_spec Nr;have keep:∀(a:Act),YieldsFenced P ops oi v a→∀u,YieldsFenced P ops oi v (a.put oj.dst u):=fun a hy u=>
  hy.of_same (execOp_put oi OC a oj.dst u h3) (wanted_put oi a oj.dst u h3) (fun w=>about_put oi w a oj.dst u h3)
 have al3:∀d,YieldsFenced P ops oi v {a with defers:=d::a.defers}:=fun d=>hy.of_same rfl rfl (fun _=>rfl);unfold Go.wpOpIn at*;simp only[hj] at*;rw[wanted_put oj a oi.dst v h1,about_put oj w a oi.dst v h1] at h;split
 ·rename_i hw;simp only[hw,if_true] at h;unfold Oper.wpIn at*;rw[about_put oj w a oi.dst v h1] at h;refine⟨h.1,?_⟩;have h:=h.2;rw[Oper.semAt_eq _ _ _ jS,execOp_put oj hsj a oi.dst v h1] at h;rw[Oper.semAt_eq _ _ _ jS];generalize (execOp a.eval oj).run P w=r at*;cases r with
  |ok x w'=>
   cases x<;>simp only[Oper.uponIn] at h ⊢
   case value u=>exact⟨keep a hy u,by rw[←Act.put_comm a v u h2];exact h⟩
   case skip=>exact⟨keep a hy _,by rw[←Act.put_comm a v undef h2];exact h⟩
   case defer d=>
        refine⟨keep _ (al3 d) _,?_⟩;rw[←Act.put_comm _ v undef h2,←Act.put_defers];exact h
   case enter f args=>
        refine⟨h.1,CallsIn.mono h.2 fun e kF he=>?_⟩;cases e with
        |returned u=>exact⟨keep a hy u,by rw[←Act.put_comm a v u h2];exact he⟩
        |panicked c=>exact hQ _ _ _ he
        |outgrown=>exact he
   case row row args=>exact⟨h.1,RowsIn.mono h.2 fun u kF he=>⟨keep a hy u,by rw[←Act.put_comm a v u h2];exact he⟩⟩
   case round l f tmps assign body=>
        refine⟨h.1,RoundIn.mono h.2 fun e kF he=>?_⟩;cases e with
        |returned u=>exact⟨keep a hy u,by rw[←Act.put_comm a v u h2];exact he⟩
        |panicked c=>exact hQ _ _ _ he
        |outgrown=>exact he
  |halt x w'=>
   cases x<;>simp only[Oper.uponIn] at h ⊢
   case panic u=>exact hQ _ _ _ h
 ·rename_i hw;simp only[hw] at h;exact⟨h.1,keep a hy _,by rw[←Act.put_comm a v undef h2];exact h.2⟩
theorem aun {i:Nat}{oi:Oper}{v:Value}(bp:∀(j:Nat) (o:Oper),ops[j]?=some o→ox o.op=true)(hi:ops[i]?=some oi)(Ag:∀(j:Nat) (o:Oper) cs b,ops[j]?=some o→o.op≠.select cs b)
 (hQ:∀c a w,Q (.panic c) (a.put oi.dst v) w→Q (.panic c) a w):
 ∀(fuel:Nat) (listed:Array Bool) (a:Act) (w:World),
  (∀j oj,ops[j]?=some oj→j≠i→listed.getD j true=false→(∀e∈oj.after,Region.binds md e=true→e.on≠i)→oi.apart ops oj=true)→
  i∈Region.ready md ops listed→YieldsFenced P ops oi v a→
  wpAnyIn F n P md ops Q fuel (listed.setIfInBounds i true) (a.put oi.dst v) w→wpAnyIn F n P md ops Q (fuel+1) listed a w:=by
 intro fuel
 induction fuel with
 |zero=>
  intro listed a w _ hr hy H;refine⟨fun h=>(by rw[h] at hr;cases hr),fun j hj=>?_⟩;by_cases hG:j=i
  ·subst hG;exact YF.wpOpIn (bp _ _ hi) hi hy H
  ·have:=ready_mono hj hG;rw[H.1] at this;cases this
 |succ fuel ih=>
  intro listed a w m5 hr hy H;refine⟨fun h=>(by rw[h] at hr;cases hr),fun j hj=>?_⟩;by_cases hG:j=i
  ·subst hG;exact YF.wpOpIn (bp _ _ hi) hi hy H
  ·have h1:=H.2 j (ready_mono hj hG);obtain⟨XR,oj,qX,aO⟩:=mem_ready.1 hj
   have Oa:∀e∈oj.after,Region.binds md e=true→e.on≠i:=fun e he hb heq=>by
        have h1:=aO e he hb;have h0:=(mem_ready.1 hr).1;rw[heq] at h1;rcases Lx i listed.size with h'|h'
        ·simp[h'] at h0 h1;rw[h0] at h1;cases h1
        ·simp[Array.getElem?_eq_none h'] at h1
   have h2:=auo (bp _ _ qX) qX (m5 j oj qX hG XR Oa) (fun cs b=>Ag i oi cs b hi) (fun cs b=>Ag j oj cs b qX) hQ hy h1;have ajO:∀k ok,ops[k]?=some ok→k≠i→(listed.setIfInBounds j true).getD k true=false→
    (∀e∈ok.after,Region.binds md e=true→e.on≠i)→oi.apart ops ok=true:=fun k ok hk hki nj du=>by
        refine m5 k ok hk hki ?_ du;by_cases Iy:j=k
        ·subst Iy;exact XR
        ·rw[getD_set_ne true Iy] at nj;exact nj
   refine wpOpIn_mono (fun a' w' h3=>ih (listed.setIfInBounds j true) a' w' ajO (ready_mono hr (tS hG)) h3.1 ?_) h2;rw[Array.setIfInBounds_comm _ _ hG];exact h3.2
end
end
def sf (P:Program)(ops:Array Oper):List (Option (List Nat)):=(List.range ops.size).map fun i=>match ops[i]? with
 |some oi=>bif Ej P oi.op then some ((List.range ops.size).filter fun j=> !(Nat.beq j i||(match ops[j]? with|some oj=>(oj.after.toList.any fun e=>Region.binds .any e&&Nat.beq e.on i)||oi.apart ops oj|none=>true))) else none
 |none=>none
def Bu (bad:List (Option (List Nat)))(E:Nat):List Nat→Option Nat
 |[]=>none
 |i::l=>match bad.getD i none with
  |some b=>bif b.all (aw E) then some i else Bu bad E l
  |none=>Bu bad E l
def Py (ops:Array Oper):Bool:=ops.toList.all fun o=>match o.op with|.select ..=>false|_=>true
theorem K0 {bad:List (Option (List Nat))}{E:Nat}:∀{l:List Nat} {i:Nat},Bu bad E l=some i→i∈l∧∃b,bad.getD i none=some b∧b.all (aw E)=true
 |[],_,h=>by cases h
 |i::l,j,h=>by
  unfold Bu at h;split at h
  ·rename_i b hb;cases hc:b.all (aw E) with
   |true=>
    rw[hc] at h;cases h;exact⟨dq ..,b,hb,hc⟩
   |false=>
    rw[hc] at h;obtain⟨h1,h2⟩:=K0 h;exact⟨dj _ h1,h2⟩
  ·obtain⟨h1,h2⟩:=K0 h;exact⟨dj _ h1,h2⟩
theorem ae7 {P:Program}{ops:Array Oper}{i:Nat}{b:List Nat}(h:(sf P ops).getD i none=some b):∃oi,ops[i]?=some oi∧Ej P oi.op=true∧
 ∀j oj,ops[j]?=some oj→j≠i→j∉b→(∀e∈oj.after,Region.binds .any e=true→e.on≠i)→oi.apart ops oj=true:=by
 unfold sf at h;rw[aJ,cC] at h;by_cases hi:i<ops.size
 ·rw[qw hi] at h;simp only[ka,iz] at h;rw[fB hi] at h;dsimp only at h;cases hp:Ej P ops[i].op<;>rw[hp] at h<;>simp only[cond_true,cond_false] at h
  ·cases h
  injection h with h
  refine⟨ops[i],fB hi,hp,fun j oj hj hG Ix du=>?_⟩;have ah:j<ops.size:=(gj.1 hj).1;rw[←h] at Ix;have h2:¬(!(Nat.beq j i||(match ops[j]? with|some oj=>(oj.after.toList.any fun e=>Region.binds .any e&&Nat.beq e.on i)||ops[i].apart ops oj|none=>true)))=true:=fun hc=>Ix (cY.2 ⟨bP.2 ah,hc⟩);rw[hj,ej hG] at h2;simp only[qs,gS,Bool.not_eq_false,gC] at h2;rcases h2 with h2|h2
  ·obtain⟨e,he,hb⟩:=mQ.1 h2;rw[ao] at hb;exact absurd (cW hb.2) (du e (by simpa using he) hb.1)
  ·exact h2
 ·rw[rS (by simpa using hi)] at h;cases h
def DX (E:Nat)(T:Snap):List (Nat×Snap)→Option (List (Nat×Snap))
 |[]=>some [(E,T)]
 |x::l=>bif Nat.beq x.1 E then(bif x.2.beq T then some (x::l) else none) else(DX E T l).map (x::·)
def lO (ops:Array Oper)(E:Nat):List Nat:=
 (List.range ops.size).filter fun i=> !aw E i&&(match ops[i]? with|some o=>o.after.toList.all fun e=> !Region.binds .any e||aw E e.on|none=>false)
def Qk (C:Ctx)(ops:Array Oper)(n:Nat)(ids:List Nat)(X:List (List PI))(nc:List (List Nat))(E:Nat)(T:Snap)(i:Nat):Option (Nat×Snap):=
 match ops[i]? with
 |some o=>(pv C (T.stO ids) ops o).bind fun r=>
  bif PI.beqs r.2 (X.getD i [])&&(nc.getD i []).all (aw E) then some (Nat.lor E (dN i),⟨vz (kW r.1) r.1 T.rs o.dst.toList,ids.map fun j=>ij r.1 (r.1.o j)⟩) else none
 |none=>none
def FF (one:Nat→Option (Nat×Snap)):List Nat→List (Nat×Snap)→Option (List (Nat×Snap))
 |[],acc=>some acc
 |i::l,acc=>(one i).bind fun x=>x.2.hard fun T=>(DX x.1 T acc).bind fun acc=>FF one l acc
def pj (ops:Array Oper)(bad:List (Option (List Nat)))(E:Nat):List Nat:=
 match Bu bad E (lO ops E) with
 |some i=>[i]
 |none=>lO ops E
def D4 (ops:Array Oper)(bad:List (Option (List Nat)))(one:Nat→Snap→Nat→Option (Nat×Snap)):List (Nat×Snap)→List (Nat×Snap)→Option (List (Nat×Snap))
 |[],acc=>some acc
 |x::l,acc=>
  match pj ops bad x.1 with
  |[]=>none
  |rs=>(FF (one x.1 x.2) rs acc).bind fun acc=>D4 ops bad one l acc
def FB (ops:Array Oper)(bad:List (Option (List Nat)))(one:Nat→Snap→Nat→Option (Nat×Snap)):Nat→List (Nat×Snap)→Option Snap
 |0,L=>
  match L with
  |[x]=>bif (List.range ops.size).all (aw x.1) then some x.2 else none
  |_=>none
 |k+1,L=>(D4 ops bad one L []).bind fun L=>FB ops bad one k L
theorem YD {E:Nat}{T:Snap}:∀{l l':List (Nat×Snap)},DX E T l=some l'→(E,T)∈l'∧∀x,x∈l→x∈l'
 |[],l',h=>by simp only[DX,aU] at h;subst h;simp
 |x::l,l',h=>by
  simp only[DX] at h;cases hb:Nat.beq x.1 E<;>simp only[hb,cond_true,cond_false] at h
  ·simp only[aA] at h;obtain⟨l2,h2,rfl⟩:=h;obtain⟨h3,h4⟩:=YD h2;exact⟨dj _ h3,fun y hy=>(cD.1 hy).elim (fun e=>e▸dq ..) fun hm=>dj _ (h4 y hm)⟩
  ·cases hs:x.2.beq T<;>simp only[hs,cond_true,cond_false] at h
   ·cases h
   ·cases h;refine⟨?_,fun y hy=>hy⟩;have e1:=cW hb;have e2:=Snap.beq_eq _ _ hs;subst e1;subst e2;simp
theorem ady {one:Nat→Option (Nat×Snap)}:∀{rs:List Nat} {acc BR:List (Nat×Snap)},FF one rs acc=some BR→(∀x,x∈acc→x∈BR)∧∀i,i∈rs→∃x,one i=some x∧x∈BR
 |[],acc,BR,h=>by simp only[FF,aU] at h;subst h;simp
 |i::rs,acc,BR,h=>by
  simp only[FF,Snap.hard_eq,av] at h;obtain⟨x,hx,aew,h1,h2⟩:=h;obtain⟨h3,h4⟩:=YD h1;obtain⟨h5,h6⟩:=ady h2;refine⟨fun y hy=>h5 y (h4 y hy),fun j hj=>?_⟩;rcases cD.1 hj with e|hm
  ·subst e;exact⟨x,hx,h5 _ h3⟩
  ·exact h6 j hm
theorem YV {ops:Array Oper}{bad:List (Option (List Nat))}{one:Nat→Snap→Nat→Option (Nat×Snap)}:∀{L acc L':List (Nat×Snap)},D4 ops bad one L acc=some L'→
 (∀x,x∈acc→x∈L')∧∀x,x∈L→pj ops bad x.1≠[]∧∀i,i∈pj ops bad x.1→∃y,one x.1 x.2 i=some y∧y∈L'
 |[],acc,L',h=>by simp only[D4,aU] at h;subst h;simp
 |x::L,acc,L',h=>by
  simp only[D4] at h;split at h
  ·cases h
  ·rename_i ay;simp only[av] at h;obtain⟨aew,h1,h2⟩:=h;obtain⟨h3,h4⟩:=ady h1;obtain⟨h5,h6⟩:=YV h2;refine⟨fun y hy=>h5 y (h3 y hy),fun y hy=>?_⟩;rcases cD.1 hy with e|hm
   ·subst e;refine⟨fun e=>ay e,fun i hi=>?_⟩;obtain⟨z,hz,hm⟩:=h4 i hi;exact⟨z,hz,h5 z hm⟩
   ·exact h6 y hm
def eB (X:List (List PI))(l:List Nat)(E:Nat):List PI:=l.flatMap fun i=>bif aw E i then[] else X.getD i []
theorem R0 {X:List (List PI)}{E E':Nat}:∀(l:List Nat),(∀i,i∈l→aw E i=aw E' i)→eB X l E=eB X l E'
 |[],_=>rfl
 |i::l,h=>by
  have ih:=R0 (X:=X) l fun j hj=>h j (dj _ hj);unfold eB at ih ⊢;simp only[vT];rw[ih,h i (dq ..)]
theorem Foot.comm_each {a b:List PI}(h:(gY a).comm (gY b)=true):∀p q,p∈a→q∈b→Comm p q:=by
 simp only[Foot.comm,ao] at h;obtain⟨h1,h2,h3,h4,h5,h6⟩:=h;intro p q hp hq;obtain⟨p1,p2,p3,p4⟩:=WX hp;obtain⟨q1,q2,q3,q4⟩:=WX hq;exact⟨fun t x y=>Pc h1 (p1 t x) (q1 t y),fun t x y=>Pc h2 (p1 t x) (q3 t y),fun t x y=>Pc h3 (q1 t x) (p3 t y),fun t x y=>LN h4 (p2 t x) (q2 t y),fun t x y=>LN h5 (p2 t x) (q4 t y),fun t x y=>LN h6 (q2 t x) (p4 t y)⟩
def pZ (X:List (List PI))(N:Nat):List (List Nat):=
 (List.range N).map fun i=>(List.range i).filter fun j=> !(gY (X.getD j [])).comm (gY (X.getD i []))
theorem jc (E i j:Nat):aw (Nat.lor E (dN i)) j=(aw E j||Nat.beq i j):=by
 rw[eY]
 congr 1
 rw[sn];show(1<<<i).testBit j=_;rw[Nat.testBit_shiftLeft];by_cases h:i=j
 ·subst h;simp
 ·have h1:Nat.beq i j=false:=ej h;rw[h1];by_cases h2:i≤j
  ·have:j-i≠0:=by omega
   cases hk:j-i with
   |zero=>omega
   |succ k=>
    have:(1:Nat).testBit (k+1)=false:=by simp[Nat.testBit_succ]
    simp[this]
  ·simp[h2]
theorem ac3 {X:List (List PI)}{N E i:Nat}(hi:i<N)(hb:aw E i=false)(da:((pZ X N).getD i []).all (aw E)=true)(Φ:aQ)(ρ:Env):
 PI.runs Φ (eB X (List.range N) E) ρ=(PI.runs Φ (X.getD i []) ρ).bind (PI.runs Φ (eB X (List.range N) (Nat.lor E (dN i)))):=by
 obtain⟨l1,l2,hl⟩:=Vk (bP.2 hi);have hp:=List.pairwise_lt_range (n:=N);rw[hl,List.pairwise_append] at hp;obtain⟨_,fh,Om⟩:=hp;rw[Vs] at fh;have Zy:∀j,j∈l1→j<i:=fun j hj=>Om j hj i (dq ..);have lt2:∀j,j∈l2→i<j:=fun j hj=>fh.1 j hj;have e0:∀E,eB X (l1++i::l2) E=eB X l1 E++((bif aw E i then[] else X.getD i [])++eB X l2 E):=fun E=>by simp[eB]
 have e1:eB X l1 (Nat.lor E (dN i))=eB X l1 E:=R0 l1 fun j hj=>by
  rw[jc,ej (by have:=Zy j hj;omega),qt]
 have e2:eB X l2 (Nat.lor E (dN i))=eB X l2 E:=R0 l2 fun j hj=>by
  rw[jc,ej (by have:=lt2 j hj;omega),qt]
 have e3:aw (Nat.lor E (dN i)) i=true:=by rw[jc,gE,nH]
 rw[hl,e0,e0,e1,e2,e3,hb];simp only[cond_true,cond_false,tR]
 have aju:PI.runs Φ (eB X l1 E++X.getD i [])=PI.runs Φ (X.getD i []++eB X l1 E):=funext fun ρ=>PI.comms _ _ (fun p q hp hq=>by
  unfold eB at hp;obtain⟨j,hj,hp⟩:=mR.1 hp;cases pJ:aw E j<;>simp only[pJ,cond_true,cond_false] at hp
  case true=>cases hp
  have hc:(gY (X.getD j [])).comm (gY (X.getD i []))=true:=by
   cases iM:(gY (X.getD j [])).comm (gY (X.getD i [])) with
   |true=>rfl
   |false=>
    have uA:(pZ X N).getD i []=(List.range i).filter fun j=> !(gY (X.getD j [])).comm (gY (X.getD i [])):=by
     unfold pZ;rw[aJ,cC,qw hi];rfl
    rw[uA] at da;have:=bJ.1 da j (cY.2 ⟨bP.2 (Zy j hj),by rw[iM];rfl⟩);rw[pJ] at this;cases this
  exact Foot.comm_each hc p q hp hq) ρ
 rw[←qv,oM,aju];have:=oM (Φ:=Φ) (a:=X.getD i []) (b:=eB X l1 E) (ρ:=ρ);rw[this,Option.bind_assoc]
 congr 1
 funext ρ1;rw[oM]
def eT (C:Ctx)(ops:Array Oper):List Nat→St→Option (List (List PI))
 |[],_=>some []
 |i::l,S=>
  match ops[i]? with
  |some o=>(pv C S ops o).bind fun r=>(eT C ops l r.1).map fun q=>r.2::q
  |none=>none
def W6 (ops:Array Oper):Bool:=(List.range ops.size).all fun i=>match ops[i]? with
 |some o=>(match o.guard with|some (j,_)=>Nat.blt j i|none=>true)
 |none=>true
def zM (ops:Array Oper):Bool:=ops.toList.all fun o=>match o.guard with
 |some (j,_)=>o.after.toList.any fun e=>Region.binds .any e&&Nat.beq e.on j
 |none=>true
def bG:Operand→List Nat
 |.tmp t=>[t]
 |_=>[]
def Bx:Option Operand→List Nat
 |some x=>bG x
 |none=>[]
def lD:Op→List Nat
 |.move x=>bG x
 |.assign x=>bG x
 |.unOp _ _ x=>bG x
 |.convert _ _ x=>bG x
 |.load _ x=>bG x
 |.fieldAddr _ x _=>bG x
 |.field _ x _=>bG x
 |.extract x _=>bG x
 |.nilCheck x=>bG x
 |.pick c x y=>bG c++bG x++bG y
 |.binOp _ _ x y _=>bG x++bG y
 |.indexAddr _ x i=>bG x++bG i
 |.index _ x i=>bG x++bG i
 |.lookup _ m k _=>bG m++bG k
 |.slice _ x lo hi _=>bG x++Bx lo++Bx hi
 |.build _ ps=>ps.toList.flatMap fun p=>bG p.2
 |.call c=>(match c.callee with|.value x=>bG x|_=>[])++c.args.toList.flatMap bG
 |.store _ x v=>bG x++bG v
 |.mapUpdate _ m k v=>bG m++bG k++bG v
 |_=>[]
def H2 (ops:Array Oper)(o:Oper):List Nat:=
 match o.guard with
 |some (j,_)=>(match(ops[j]?).bind (·.dst) with|some t=>[t]|none=>[])
 |none=>[]
def St.withR (S:St)(f:Nat→Sh):St:=⟨f,S.o,S.ver⟩
section
variable {C:Ctx} {S:St} {f:Nat→Sh} {gs:List (Nat×Bool)} {dst:Nat}
theorem Bq {t:Nat}(h:f t=S.r t):kB (S.withR f) gs t=kB S gs t:=by
 have e:(S.withR f).r t=S.r t:=h;unfold kB;rw[e]
theorem vx {x:Operand}(h:∀t,t∈bG x→f t=S.r t):fw (S.withR f) gs x=fw S gs x:=by
 cases x<;>first|rfl|exact Bq (h _ (qx.2 rfl))
theorem MC:∀(l:List Sh) (j:PE) (i:Nat),qF (S.withR f) j l i=qF S j l i
 |[],_,_=>rfl
 |s::l,j,i=>by simp only[qF];rw[MC l j (i+1)];rfl
theorem LL:∀(l:List AgC),v7 (S.withR f) l=v7 S l
 |[]=>rfl
 |.dat _::l=>LL l
 |.obj j ver::l=>by simp only[v7];rw[LL l];rfl
theorem VE:∀(l:List Sh),tU (S.withR f) l=tU S l
 |[]=>rfl
 |s::l=>by simp only[tU];rw[VE l];rfl
theorem dX {x:Operand}(h:∀t,t∈bG x→f t=S.r t):use C (S.withR f) gs x=use C S gs x:=by
 cases x<;>first|rfl|(unfold use;simp only;rw[Bq (h _ (qx.2 rfl))];simp only[MC];rfl)
theorem adY {x:Operand}(h:∀t,t∈bG x→f t=S.r t):view C (S.withR f) gs x=view C S gs x:=by
 unfold view;rw[dX h];cases x<;>first|rfl|(simp only;rw[Bq (h _ (qx.2 rfl))];rfl)
theorem UX:∀{xs:List Operand},(∀t,t∈xs.flatMap bG→f t=S.r t)→kD C (S.withR f) gs xs=kD C S gs xs
 |[],_=>rfl
 |x::xs,h=>by
  simp only[kD]
  rw[dX fun t ht=>h t (mR.2 ⟨x,dq ..,ht⟩),UX fun t ht=>by
   obtain⟨y,hy,sX⟩:=mR.1 ht;exact h t (mR.2 ⟨y,dj _ hy,sX⟩)]
theorem auc {x:Option Operand}(h:∀t,t∈Bx x→f t=S.r t):FN C (S.withR f) gs x=FN C S gs x:=by
 cases x with
 |none=>rfl
 |some x=>exact dX h
theorem aua {e:PE}{x:Option Operand}(h:∀t,t∈Bx x→f t=S.r t):FM C (S.withR f) gs e x=FM C S gs e x:=by
 cases x with
 |none=>rfl
 |some x=>exact dX h
theorem rh:∀{xs:List Operand},(∀t,t∈xs.flatMap bG→f t=S.r t)→bT (S.withR f) gs xs=bT S gs xs
 |[],_=>rfl
 |x::xs,h=>by
  simp only[bT]
  rw[vx fun t ht=>h t (mR.2 ⟨x,dq ..,ht⟩),rh fun t ht=>by
   obtain⟨y,hy,sX⟩:=mR.1 ht;exact h t (mR.2 ⟨y,dj _ hy,sX⟩)]
  simp only[LL];rfl
theorem jx {P:Nat→Prop}{a b:List Nat}(h:∀t,t∈a++b→P t):(∀t,t∈a→P t)∧∀t,t∈b→P t:=
 ⟨fun t ht=>h t (jH _ ht),fun t ht=>h t (j8 _ ht)⟩
theorem abv {x:Operand}(h:∀t,t∈bG x→f t=S.r t):p6 C (S.withR f) gs dst x=p6 C S gs dst x:=by
 unfold p6;rw[dX h];cases x<;>first|rfl|(simp only;rw[Bq (h _ (qx.2 rfl))])
theorem aoO {c x y:Operand}(h:∀t,t∈bG c++bG x++bG y→f t=S.r t):AM C (S.withR f) gs dst c x y=AM C S gs dst c x y:=by
 obtain⟨h1,h3⟩:=jx h;obtain⟨h1,h2⟩:=jx h1;unfold AM;cases c<;>first|rfl|skip
 simp only;rw[Bq (h1 _ (qx.2 rfl)),dX h2,dX h3]
theorem aop {op:BinOp}{T:TypeId}{x y:Operand}(h:∀t,t∈bG x++bG y→f t=S.r t):AA C (S.withR f) gs dst op T x y=AA C S gs dst op T x y:=by
 obtain⟨h1,h2⟩:=jx h;unfold AA;rw[dX h1,dX h2]
theorem aoT {op:UnOp}{x:Operand}(h:∀t,t∈bG x→f t=S.r t):AO C (S.withR f) gs dst op x=AO C S gs dst op x:=by unfold AO;rw[dX h]
theorem aot {s d:TypeId}{x:Operand}(h:∀t,t∈bG x→f t=S.r t):AD C (S.withR f) gs dst s d x=AD C S gs dst s d x:=by unfold AD;rw[dX h]
theorem aoG {T:TypeId}{x:Operand}(h:∀t,t∈bG x→f t=S.r t):AJ C (S.withR f) gs dst T x=AJ C S gs dst T x:=by unfold AJ;rw[adY h]
theorem abt {b:Bool}{x y:Operand}(h:∀t,t∈bG x++bG y→f t=S.r t):xz C (S.withR f) gs dst b x y=xz C S gs dst b x y:=by
 obtain⟨h1,h2⟩:=jx h;unfold xz;rw[dX h1,dX h2]
theorem aoI {T:TypeId}{x:Operand}(h:∀t,t∈bG x→f t=S.r t):td C (S.withR f) gs dst T x=td C S gs dst T x:=by
 unfold td;rw[vx h,dX h];simp only[MC,VE];rfl
theorem aox {T:TypeId}{x:Operand}{i:Nat}(h:∀t,t∈bG x→f t=S.r t):AG C (S.withR f) gs dst T x i=AG C S gs dst T x i:=by
 unfold AG;rw[vx h,dX h];rfl
theorem aoz {T:TypeId}{x:Operand}{i:Nat}(h:∀t,t∈bG x→f t=S.r t):AF C (S.withR f) gs dst T x i=AF C S gs dst T x i:=by unfold AF;rw[dX h]
theorem aoC {T:TypeId}{x i:Operand}(h:∀t,t∈bG x++bG i→f t=S.r t):AI C (S.withR f) gs dst T x i=AI C S gs dst T x i:=by
 obtain⟨h1,h2⟩:=jx h;unfold AI;rw[dX h1,dX h2,vx h1];rfl
theorem aoE {T:TypeId}{x i:Operand}(h:∀t,t∈bG x++bG i→f t=S.r t):AH C (S.withR f) gs dst T x i=AH C S gs dst T x i:=by
 obtain⟨h1,h2⟩:=jx h;unfold AH;rw[dX h1,dX h2]
theorem aov {x:Operand}{i:Nat}(h:∀t,t∈bG x→f t=S.r t):AE C (S.withR f) gs dst x i=AE C S gs dst x i:=by unfold AE;rw[dX h]
theorem aoK {T:TypeId}{m k:Operand}{ok:Bool}(h:∀t,t∈bG m++bG k→f t=S.r t):AK C (S.withR f) gs dst T m k ok=AK C S gs dst T m k ok:=by
 obtain⟨h1,h2⟩:=jx h;unfold AK;rw[adY h1,dX h2]
theorem aoR {T:TypeId}{x:Operand}{lo hi mx:Option Operand}(h:∀t,t∈bG x++Bx lo++Bx hi→f t=S.r t):AN C (S.withR f) gs dst T x lo hi mx=AN C S gs dst T x lo hi mx:=by
 obtain⟨h1,h3⟩:=jx h;obtain⟨h1,h2⟩:=jx h1;unfold AN;rw[dX h1];simp only[auc h2,aua h3]
theorem VV {zs:List Value}{parts:List (Nat×Operand)}(h:∀t,t∈(parts.flatMap fun p=>bG p.2)→f t=S.r t):∀(fs:List Field) (i off:Nat),kJ C (S.withR f) gs zs parts fs i off=kJ C S gs zs parts fs i off
 |[],_,_=>rfl
 |g::fs,i,off=>by
  simp only[kJ,VV h fs];cases hp:parts.find? (fun p=>Nat.beq p.1 i) with
  |none=>rfl
  |some p=>
   have hu:use C (S.withR f) gs p.2=use C S gs p.2:=dX fun t ht=>h t (mR.2 ⟨p,yk hp,ht⟩);simp only[hu]
theorem aor {T:TypeId}{ps:List (Nat×Operand)}(h:∀t,t∈(ps.flatMap fun p=>bG p.2)→f t=S.r t):AB C (S.withR f) gs dst T ps=AB C S gs dst T ps:=by
 unfold AB;simp only[VV h];split
 ·rfl
 ·split
  ·split
   ·rename_i x y;rw[dX (x:=x) fun t ht=>h t (by simp[ht]),dX (x:=y) fun t ht=>h t (by simp[ht])]
   ·rfl
  ·rfl
 ·rfl
theorem aoM {x:Operand}(h:∀t,t∈bG x→f t=S.r t):AL C (S.withR f) gs dst x=AL C S gs dst x:=by
 unfold AL;rw[dX h];cases x<;>first|rfl|(simp only;rw[Bq (h _ (qx.2 rfl))];rfl)
def mZ:Op→Bool
 |.move _|.pick ..|.binOp ..|.unOp ..|.convert ..|.load ..|.fieldAddr ..|.field ..|.indexAddr ..|.index ..|.extract ..|.lookup ..|.slice ..|.build ..|.nilCheck _|.makeInterface ..|.call _=>true
 |_=>false
theorem abx {op:Op}(hq:mZ op=true)(h:∀t,t∈lD op→f t=S.r t):oy C (S.withR f) gs dst op=oy C S gs dst op:=by
 cases op<;>simp only[mZ] at hq<;>simp only[lD] at h<;>simp only[oy]
 case move=>exact abv h
 case pick=>exact aoO h
 case binOp=>exact aop h
 case unOp=>exact aoT h
 case convert=>exact aot h
 case load=>exact aoI h
 case fieldAddr=>exact aox h
 case field=>exact aoz h
 case indexAddr=>exact aoC h
 case index=>exact aoE h
 case extract=>exact aov h
 case lookup=>exact aoK h
 case slice=>exact aoR h
 case build=>exact aor h
 case nilCheck=>exact aoM h
 case call c=>
  obtain⟨_,h2⟩:=jx h;split
  ·rename_i x T _ ha _;exact aoG fun t ht=>h2 t (by rw[ha];simp[ht])
  ·rename_i x y _ ha;exact abt fun t ht=>h2 t (by rw[ha];simpa using ht)
  ·rename_i x y _ ha;exact abt fun t ht=>h2 t (by rw[ha];simpa using ht)
  ·rfl
 all_goals (cases hq;done)
theorem apq {op:Op}(h:∀t,t∈lD op→f t=S.r t)(hq:mZ op=true):vc (S.withR f) gs op=vc S gs op:=by
 cases op<;>simp only[mZ] at hq<;>simp only[lD] at h<;>simp only[vc]
 case build T ps=>exact rh fun t ht=>h t (by
  obtain⟨x,hx,OZ⟩:=mR.1 ht;obtain⟨p,hp,rfl⟩:=dM.1 hx;exact mR.2 ⟨p,hp,OZ⟩)
 case pick c x y=>
  obtain⟨h1,h3⟩:=jx h;obtain⟨h1,h2⟩:=jx h1;refine rh fun t ht=>?_;simp only[vT,Vo,lf,dy] at ht;exact ht.elim (h2 t) (h3 t)
 case slice T x lo hi mx=>
  obtain⟨h1,h3⟩:=jx h;obtain⟨h1,h2⟩:=jx h1;exact rh fun t ht=>h1 t (by simpa using ht)
 all_goals first|rfl|(cases hq;done)
theorem apr {op:Op}(h:∀t,t∈lD op→f t=S.r t)(hq:mZ op=true):pre C (S.withR f) gs op=pre C S gs op:=by
 have wY:=hq;cases op<;>simp only[mZ] at hq<;>simp only[pre,apq h wY]
 case load T x=>simp only[lD] at h;rw[vx h];rfl
 all_goals first|(cases hq;done)|skip
theorem aiN {ops:Array Oper}{o:Oper}(h:∀t,t∈H2 ops o→f t=S.r t):pH (S.withR f) ops o=pH S ops o:=by
 unfold pH;cases hg:o.guard with
 |none=>rfl
 |some jw=>
  obtain⟨j,want⟩:=jw;simp only;cases ht:(ops[j]?).bind (·.dst) with
  |none=>rfl
  |some t=>
   simp only;have:(S.withR f).r t=S.r t:=h t (by unfold H2;rw[hg];simp[ht]);rw[this]
end
def vd (C:Ctx)(c:Callee):Bool:=
 match c with
 |.value (.func f)=>(match C.sig f with|some s=>s.res.pure|none=>false)
 |_=>false
def CN (C:Ctx)(S:St)(gs:List (Nat×Bool))(dst:Nat)(op:Op):Option (Sh×List PI):=
 match op with
 |.assign x=>
  match gs with
  |[]=>bif C.fr.any (Nat.beq dst)&&(bT S [] [x]).isEmpty then(match p6 C S [] dst x with|some r=>bif nl r.1 then some r else none|none=>none) else none
  |_=>none
 |.call c=>
  match oy C S gs dst (.call c) with
  |some r=>bif rf r.1&&jh gs (some dst) r.2 then some (jf gs r.1,r.2) else none
  |none=>
   bif (bT S gs c.args.toList).isEmpty||vd C c.callee then
    match c.callee with
    |.value (.func f)=>(match pA C S gs dst f c.args.toList with|some r=>bif jh gs (some dst) r.2.2 then some (jf gs r.2.1,r.2.2) else none|none=>none)
    |.value x=>(match nQ C S gs dst x c.args.toList with|some r=>bif jh gs (some dst) r.2.2 then some (jf gs r.2.1,r.2.2) else none|none=>none)
    |_=>none
   else none
 |op=>bif mZ op&&(pre C S gs op).isEmpty then(match oy C S gs dst op with|some r=>bif rf r.1&&jh gs (some dst) r.2 then some (jf gs r.1,r.2) else none|none=>none) else none
def CO (C:Ctx)(S:St)(gs:List (Nat×Bool))(op:Op):Option (List PI):=
 match op,gs with
 |.store T x v,[]=>
  match fw S [] x with
  |.eptr ..=>bif (bT S [] [v]).isEmpty then(uc C S T x v).map (·.2) else none
  |_=>none
 |.mapUpdate T m k v,[]=>bif (bT S [] [k,v]).isEmpty then(sr C S T m k v).map (·.2) else none
 |.panic _,[]=>some [.chk (.nt (.con (.bool true)))]
 |_,_=>none
def uj (C:Ctx)(S:St)(ops:Array Oper)(o:Oper):Option (Sh×List PI):=
 match C.yl with
 |some _=>none
 |none=>(pH S ops o).bind fun gs=>
  match o.dst with
  |some dst=>CN C S gs dst o.op
  |none=>(CO C S gs o.op).map fun l=>(.none,l)
def nC (S:St)(o:Oper)(s:Sh):St:=match o.dst with|some d=>S.setR d s|none=>S
section
variable {C:Ctx} {S:St} {f:Nat→Sh} {gs:List (Nat×Bool)} {dst:Nat}
theorem aiw (j:Nat):(S.withR f).fz j=(S.fz j).withR f:=by
 unfold St.fz St.withR;simp only;split<;>rfl
theorem WZ:∀(js:List Nat) {S:St},(S.withR f).fzs js=(S.fzs js).withR f
 |[],_=>rfl
 |j::js,S=>by
  show((S.withR f).fz j).fzs js=((S.fz j).fzs js).withR f;rw[aiw,WZ js]
theorem agn {g:Nat}{xs:List Operand}(h:∀t,t∈xs.flatMap bG→f t=S.r t):
 (match pA C (S.withR f) gs dst g xs with|some r=>bif jh gs (some dst) r.2.2 then some (jf gs r.2.1,r.2.2) else none|none=>none)=(match pA C S gs dst g xs with|some r=>bif jh gs (some dst) r.2.2 then some (jf gs r.2.1,r.2.2) else none|none=>none):=by
 have ho:=rh (gs:=gs) h;unfold pA;generalize (C.sig g).bind (Cm C.fr dst)=q;cases q with
 |none=>rfl
 |some s=>
  simp only[j9];cases s.mode<;>first|rfl|skip
  simp only[ho,WZ];rw[UX (S:=S.fzs (bT S gs xs)) (f:=f) (fun t ht=>by rw[(nS _ S).2];exact h t ht)];cases kD C (S.fzs (bT S gs xs)) gs xs with
  |none=>rfl
  |some u=>
   simp only[j9];cases Ty.subs u.1 s.args<;>rfl
theorem agd {x:Operand}{xs:List Operand}(hx:∀t,t∈bG x→f t=S.r t)(h:∀t,t∈xs.flatMap bG→f t=S.r t)(he:(bT S gs xs).isEmpty=true):
 (match nQ C (S.withR f) gs dst x xs with|some r=>bif jh gs (some dst) r.2.2 then some (jf gs r.2.1,r.2.2) else none|none=>none)=(match nQ C S gs dst x xs with|some r=>bif jh gs (some dst) r.2.2 then some (jf gs r.2.1,r.2.2) else none|none=>none):=by
 have ho:=rh (gs:=gs) h;have pO:=tO.1 he;unfold nQ;rw[dX hx];cases use C S gs x with
 |none=>rfl
 |some y=>
  obtain⟨ty,e⟩:=y;cases ty with
  |fn aa r=>
   simp only;cases mf aa r with
   |some _=>rfl
   |none=>
    simp only[ho,pO,St.fzs,List.foldl_nil,UX h];cases kD C S gs xs with
    |none=>rfl
    |some u=>
     simp only[j9];cases Ty.subs u.1 aa<;>rfl
  |_=>rfl
theorem ahq {op:Op}(h:∀t,t∈lD op→f t=S.r t):CN C (S.withR f) gs dst op=CN C S gs dst op:=by
 have other:∀op,(∀t,t∈lD op→f t=S.r t)→(bif mZ op&&(pre C (S.withR f) gs op).isEmpty then(match oy C (S.withR f) gs dst op with|some r=>bif rf r.1&&jh gs (some dst) r.2 then some (jf gs r.1,r.2) else none|none=>none) else none)=
  (bif mZ op&&(pre C S gs op).isEmpty then(match oy C S gs dst op with|some r=>bif rf r.1&&jh gs (some dst) r.2 then some (jf gs r.1,r.2) else none|none=>none) else none):=by
  intro op h;cases hq:mZ op with
  |false=>rfl
  |true=>rw[apr h hq,abx hq h]
 unfold CN;split
 ·rename_i x;simp only[lD] at h;rw[abv h,rh (xs:=[x]) fun t ht=>h t (by simpa using ht)]
 ·rename_i c;have h':=h;simp only[lD] at h';obtain⟨h1,h2⟩:=jx h';rw[abx (op:=.call c) rfl h,rh h2];split
  ·rfl
  ·cases he:(bT S gs c.args.toList).isEmpty||vd C c.callee with
   |false=>rfl
   |true=>
    simp only[cond_true];split
    ·exact agn h2
    ·rename_i x hx hc;have hp:vd C c.callee=false:=by
         rw[hc];unfold vd;cases x<;>first|rfl|exact absurd rfl (hx _)
     exact agd (fun t ht=>h1 t (by rw[hc];exact ht)) h2 (by rw[hp,qt] at he;exact he)
    ·rfl
 ·exact other _ h
theorem ahr {op:Op}(h:∀t,t∈lD op→f t=S.r t):CO C (S.withR f) gs op=CO C S gs op:=by
 unfold CO;split
 ·rename_i T x v;simp only[lD] at h;obtain⟨h1,h2⟩:=jx h;rw[vx h1,rh (xs:=[v]) fun t ht=>h2 t (by simpa using ht)];split
  ·rename_i j ver size off gM;cases(bT S [] [v]).isEmpty with
   |false=>rfl
   |true=>
    simp only[cond_true];unfold uc;rw[vx h1,dX h2,gM];simp only;have eo:(S.withR f).o=S.o:=rfl;have ev:(S.withR f).ver=S.ver:=rfl;rw[eo,ev];cases C.P.info? T with
    |none=>rfl
    |some inf=>
     simp only;cases Nat.beq ver (S.ver j) with
     |false=>rfl
     |true=>
      simp only[cond_true];cases S.o j with
      |row T' e0=>
       cases use C S [] v with
       |none=>cases e0<;>rfl
       |some y=>
        obtain⟨t,e⟩:=y;cases e0<;>simp only<;>(generalize (_&&_:Bool)=b;cases b<;>rfl)
      |_=>rfl
  ·rfl
 ·rename_i T m k v;simp only[lD] at h;obtain⟨h1,h3⟩:=jx h;obtain⟨h1,h2⟩:=jx h1
  rw[rh (xs:=[k,v]) fun t ht=>by
   simp only[vT,Vo,lf,dy] at ht;exact ht.elim (h2 t) (h3 t)]
  cases(bT S [] [k,v]).isEmpty with
  |false=>rfl
  |true=>
   simp only[cond_true];unfold sr;rw[vx h1,dX h2,dX h3];have eo:(S.withR f).o=S.o:=rfl;have ev:(S.withR f).ver=S.ver:=rfl;rw[eo,ev];cases C.P.underlying T with
   |none=>rfl
   |some desc=>
    cases desc with
    |map K E=>
     cases fw S [] m with
     |obj j ver=>
      simp only;cases Nat.beq ver (S.ver j) with
      |false=>rfl
      |true=>
       simp only[cond_true];cases S.o j with
       |mp kt et=>
        cases use C S [] k with
        |none=>rfl
        |some y=>
         cases use C S [] v with
         |none=>rfl
         |some z=>
          obtain⟨tk,ek⟩:=y;obtain⟨tv,ev⟩:=z;simp only;generalize (_&&_:Bool)=b;cases b<;>rfl
       |_=>rfl
     |_=>rfl
    |_=>rfl
 ·rfl
 ·rfl
theorem aht {ops:Array Oper}{o:Oper}(h:∀t,t∈lD o.op++H2 ops o→f t=S.r t):uj C (S.withR f) ops o=uj C S ops o:=by
 obtain⟨h1,h2⟩:=jx h;unfold uj;rw[aiN h2];split
 ·rfl
 ·cases pH S ops o with
  |none=>rfl
  |some gs=>
   simp only[j9];split
   ·exact ahq h1
   ·rw[ahr h1]
theorem aqG {S:St}{t:Nat}{s:Sh}(h:S.r t=s)(hs:nl s=true):xT S t t=some (S,[]):=by
 unfold xT;rw[h];cases s<;>first|rfl|cases hs
theorem ahs {ops:Array Oper}{o:Oper}{q:Sh×List PI}(h:uj C S ops o=some q):pv C S ops o=some (nC S o q.1,q.2):=by
 unfold uj at h;split at h
 case h_1=>cases h
 rename_i kq;simp only[av] at h;obtain⟨gs,dt,h⟩:=h;have hY:zx C S ops o=none:=by
  unfold zx;rw[kq];split<;>first|rfl|(rename_i hx;cases hx;done)|(rename_i hx _;cases hx;done)
 have fin:∀{S':St},pre C S gs o.op++p9 C S gs o=[]→core C S gs o=some (S',q.2)→jL C (post C S' o) S'=some (S',[])→jh gs o.dst q.2=true→pv C S ops o=some (S',q.2):=by
  intro S' h1 h2 h3 h4;unfold pv zw Cj;rw[hY,dt];simp only[j9,h1,jL,h2,h3,h4,cond_true,tR,lf]
 cases hd:o.dst with
 |some dst=>
  simp only[hd] at h;have bM:nC S o q.1=S.setR dst q.1:=by unfold nC;rw[hd]
  rw[bM];unfold CN at h;split at h
  ·rename_i x cd;split at h
   case h_2=>cases h
   cases hb:(C.fr.any (Nat.beq dst)&&(bT S [] [x]).isEmpty)<;>simp only[hb,cond_true,cond_false] at h
   ·cases h
   simp only[ao] at hb;split at h
   case h_2=>cases h
   rename_i r hr;cases Xv:nl r.1<;>simp only[Xv,cond_true,cond_false] at h
   ·cases h
   cases h;have he:=tO.1 hb.2;refine fin ?_ ?_ ?_ rfl
   ·rw[cd];unfold p9;rw[cd,hd];simp only[hb.1,he,cond_true,pre,vc,F4,lf]
   ·unfold core;rw[hd];simp only[cd,oy,hb.1,cond_true,hr]
   ·unfold post;rw[cd,hd];simp only[jL,Gh.run];rw[aqG (s:=q.1) (by simp[St.setR,aL]) Xv];rfl
  ·rename_i c cd;have Oq:pre C S gs o.op++p9 C S gs o=[]:=by
        rw[cd];unfold p9;rw[cd];simp[pre,vc]
   have km:∀S':St,jL C (post C S' o) S'=some (S',[]):=fun S'=>by
        unfold post;rw[cd];rfl
   split at h
   ·rename_i r hr;cases hb:(rf r.1&&jh gs (some dst) r.2)<;>simp only[hb,cond_true,cond_false] at h
    ·cases h
    cases h;simp only[ao] at hb;refine fin Oq ?_ (km _) (by rw[hd];exact hb.2);unfold core;rw[hd];simp only[cd,hr,hb.1,cond_true]
   ·rename_i hr;cases he:(bT S gs c.args.toList).isEmpty||vd C c.callee<;>simp only[he,cond_true,cond_false] at h
    ·cases h
    have sfz:∀b:Bool,(bT S gs c.args.toList).isEmpty=true∨b=true→(bif b then S else S.fzs (bT S gs c.args.toList))=S:=fun b hb=>by
     rcases hb with hb|rfl
     ·rw[tO.1 hb];cases b<;>rfl
     ·rfl
    split at h
    ·rename_i f hc;split at h
     case h_2=>cases h
     rename_i r dP;cases hb:jh gs (some dst) r.2.2<;>simp only[hb,cond_true,cond_false] at h
     ·cases h
     cases h;refine fin Oq ?_ (km _) (by rw[hd];exact hb);have hS:r.1=S:=by
      simp only[pA,av] at dP;obtain⟨s,⟨s0,hs,pU⟩,dP⟩:=dP;split at dP
      case h_2=>cases dP
      simp only[av] at dP;obtain⟨u,hu,dP⟩:=dP;cases bS:Ty.subs u.1 s.args<;>simp only[bS,cond_true,cond_false] at dP
      ·cases dP
      cases dP;refine sfz _ ?_;have DI:s.res=s0.res:=by
       unfold Cm at pU;split at pU
       ·revert pU
        generalize (_&&_:Bool)=b;intro pU;cases b<;>simp only[cond_true,cond_false,aU] at pU<;>rw[←pU]
       ·simp only[aU] at pU;rw[←pU]
      rw[hc] at he;simp only[vd,hs,gC] at he;rw[DI];exact he
     unfold core;rw[hd];simp only[cd,hr,hc,dP,hS]
    ·rename_i x IL hc;split at h
     case h_2=>cases h
     rename_i r dP;cases hb:jh gs (some dst) r.2.2<;>simp only[hb,cond_true,cond_false] at h
     ·cases h
     cases h;refine fin Oq ?_ (km _) (by rw[hd];exact hb);have hS:r.1=S:=by
      unfold nQ at dP;split at dP
      case h_2=>cases dP
      rename_i aa r0 e OO;split at dP
      case h_1=>cases dP
      simp only[av] at dP;obtain⟨u,hu,dP⟩:=dP;cases bS:Ty.subs u.1 aa<;>simp only[bS,cond_true,cond_false] at dP
      ·cases dP
      cases dP;refine sfz _ (.inl ?_);have hp:vd C c.callee=false:=by
       rw[hc];unfold vd;cases x<;>first|rfl|exact absurd rfl (IL _)
      rw[hp,qt] at he;exact he
     unfold core;rw[hd];simp only[cd,hr,hc];cases x with
     |func f=>exact absurd rfl (IL f)
     |_=>simp only[dP,hS]
    ·cases h
  ·rename_i X2 da;cases hb:(mZ o.op&&(pre C S gs o.op).isEmpty)<;>simp only[hb,cond_true,cond_false] at h
   ·cases h
   simp only[ao] at hb;split at h
   case h_2=>cases h
   rename_i r hr;cases dk:(rf r.1&&jh gs (some dst) r.2)<;>simp only[dk,cond_true,cond_false] at h
   ·cases h
   cases h;simp only[ao] at dk;have dg:p9 C S gs o=[]:=by
        unfold p9;split
        ·rename_i x t e _;exact absurd e (X2 x)
        ·rfl
   have km:∀S':St,jL C (post C S' o) S'=some (S',[]):=fun S'=>by
        have:post C S' o=[]:=by
         unfold post;split
         ·rename_i x t e _;exact absurd e (X2 x)
         ·rename_i T t e _;rw[e] at hb;simp[mZ] at hb
         ·rename_i T x v e;rw[e] at hb;simp[mZ] at hb
         ·rfl
        rw[this];rfl
   refine fin (by rw[dg,tO.1 hb.2];rfl) ?_ (km _) (by rw[hd];exact dk.2);unfold core;rw[hd];simp only[hr,dk.1,cond_true]
 |none=>
  simp only[hd,aA] at h;obtain⟨l,h,rfl⟩:=h;have bM:nC S o (.none:Sh)=S:=by unfold nC;rw[hd]
  show pv C S ops o=some (nC S o .none,l);rw[bM];have dg:p9 C S gs o=[]:=by unfold p9;rw[hd];split<;>first|rfl|(rename_i hx;cases hx)
  unfold CO at h;split at h
  ·rename_i T x v cd;split at h
   case h_2=>cases h
   rename_i j ver size off gM;cases he:(bT S [] [v]).isEmpty<;>simp only[he,cond_true,cond_false] at h
   ·cases h
   simp only[aA] at h;obtain⟨r,hr,rfl⟩:=h;have hS:r.1=S:=by
        unfold uc at hr;split at hr
        case h_2=>cases hr
        rw[gM] at hr;simp only at hr;cases hv:Nat.beq ver (S.ver j)<;>simp only[hv,cond_true,cond_false] at hr
        ·cases hr
        split at hr
        ·revert hr;generalize (_&&_:Bool)=b;intro hr;cases b<;>simp only[cond_true,cond_false] at hr<;>cases hr;rfl
        ·revert hr;generalize (_&&_:Bool)=b;intro hr;cases b<;>simp only[cond_true,cond_false] at hr<;>cases hr;rfl
        ·cases hr
   refine fin ?_ ?_ ?_ rfl
   ·rw[dg,cd];simp only[pre,vc,gM,tO.1 he,F4,lf]
   ·unfold core;rw[hd];simp only[cd,hr];rw[←hS]
   ·unfold post;rw[cd];simp only[gM];rfl
  ·rename_i T m k v cd;cases he:(bT S [] [k,v]).isEmpty<;>simp only[he,cond_true,cond_false] at h
   ·cases h
   simp only[aA] at h;obtain⟨r,hr,rfl⟩:=h;have hS:r.1=S:=by
        unfold sr at hr;split at hr
        ·rename_i K _ j ver _ _;cases hv:Nat.beq ver (S.ver j)<;>simp only[hv,cond_true,cond_false] at hr
         ·cases hr
         split at hr
         ·revert hr;generalize (_&&_:Bool)=b;intro hr;cases b<;>simp only[cond_true,cond_false] at hr<;>cases hr;rfl
         ·cases hr
        ·cases hr
   refine fin ?_ ?_ ?_ rfl
   ·rw[dg,cd];simp only[pre,vc,tO.1 he,F4,lf]
   ·unfold core;rw[hd];simp only[cd,hr];rw[←hS]
   ·unfold post;rw[cd];rfl
  ·rename_i x cd;cases h;refine fin ?_ ?_ ?_ rfl
   ·rw[dg,cd];rfl
   ·unfold core;rw[hd];simp only[cd]
   ·unfold post;rw[cd];rfl
  ·cases h
end
def fu (ops:Array Oper)(shs:List Sh)(l:List Nat)(f:Nat→Sh):Nat→Sh:=
 l.foldl (fun f i=>match(ops[i]?).bind (·.dst) with|some d=>bY f d (shs.getD i .none)|none=>f) f
def zJ (C:Ctx)(S:St)(ops:Array Oper):Nat→Option (List (Sh×List PI))
 |0=>some []
 |k+1=>(zJ C S ops k).bind fun q=>match ops[k]? with
  |some o=>(uj C (S.withR (fu ops (q.map (·.1)) (List.range k) S.r)) ops o).map fun r=>q++[r]
  |none=>none
def dH (ops:Array Oper):Nat→List Nat
 |0=>[]
 |k+1=>dH ops k++[match ops[k]? with
  |some o=>o.after.toList.foldr (fun e m=>bif Region.binds .any e then Nat.lor (Nat.lor (dN e.on) ((dH ops k).getD e.on 0)) m else m) 0
  |none=>0]
def acW (ops:Array Oper)(o:Oper):List Nat:=lD o.op++H2 ops o
def WS (ops:Array Oper)(nc:List (List Nat))(clo:List Nat)(i:Nat):Bool:=
 match ops[i]? with
 |some o=>(nc.getD i []).all (aw (clo.getD i 0))&&(o.after.toList.all fun e=> !Region.binds .any e||Nat.blt e.on i)&&
   (acW ops o).all fun t=>(List.range ops.size).all fun j=>match(ops[j]?).bind (·.dst) with
     |some d=> !Nat.beq d t||((Nat.blt j i&&aw (clo.getD i 0) j)||aw (clo.getD j 0) i)
     |none=>true
 |none=>false
def HW (ops:Array Oper)(i:Nat):Bool:=match ops[i]? with|some o=>o.after.toList.all fun e=> !Region.binds .any e||Nat.blt e.on i|none=>false
def CP (ops:Array Oper)(nc:List (List Nat))(clo:List Nat)(m:Nat):Bool:=(List.range m).all (WS ops nc clo)&&(List.range ops.size).all (HW ops)
def oP (clo:List Nat):Nat→Nat
 |0=>0
 |k+1=>bif (List.range k).all (aw (clo.getD k 0)) then oP clo k else k+1
theorem adG (clo:List Nat):∀k,oP clo k≤k
 |0=>bk _
 |k+1=>by
  unfold oP;cases(List.range k).all (aw (clo.getD k 0)) with
  |true=>exact Nat.le_succ_of_le (adG clo k)
  |false=>exact bk _
theorem adF (clo:List Nat):∀k i,oP clo k≤i→i<k→∀j,j<i→aw (clo.getD i 0) j=true
 |0,i,_,h=>by omega
 |k+1,i,h1,h2=>by
  unfold oP at h1;cases hb:(List.range k).all (aw (clo.getD k 0)) with
  |true=>
   rw[hb] at h1;by_cases e:i=k
   ·subst e;exact fun j hj=>bJ.1 hb j (bP.2 hj)
   ·exact adF clo k i h1 (by omega)
  |false=>rw[hb] at h1;simp only[cond_false] at h1;omega
def WT (C:Ctx)(ops:Array Oper)(S:St):Option (St×List PI):=
 (zJ C S ops (oP (dH ops ops.size) ops.size)).bind fun q=>
    bif CP ops (pZ (q.map (·.2)) (oP (dH ops ops.size) ops.size)) (dH ops ops.size) (oP (dH ops ops.size) ops.size) then
     (nP C ops (List.range' (oP (dH ops ops.size) ops.size) (ops.size-oP (dH ops ops.size) ops.size)) (S.withR (fu ops (q.map (·.1)) (List.range (oP (dH ops ops.size) ops.size)) S.r))).map fun r=>(r.1,(q.map (·.2)).flatten++r.2)
    else none
theorem KU (ops:Array Oper)(shs:List Sh)(i:Nat)(l:List Nat)(f:Nat→Sh):fu ops shs (i::l) f=fu ops shs l (match(ops[i]?).bind (·.dst) with|some d=>bY f d (shs.getD i .none)|none=>f):=rfl
theorem FD {ops:Array Oper}{shs:List Sh}{t:Nat}:∀{l:List Nat} {f:Nat→Sh},(∀i,i∈l→(ops[i]?).bind (·.dst)≠some t)→fu ops shs l f t=f t
 |[],_,_=>rfl
 |i::l,f,h=>by
  rw[KU,FD fun j hj=>h j (dj _ hj)];have:=h i (dq ..);cases hd:(ops[i]?).bind (·.dst) with
  |none=>rfl
  |some d=>exact bq _ _ (fun e=>this (by rw[hd,e]))
def Lz (ops:Array Oper):Prop:=∀(i j t:Nat),(ops[i]?).bind (·.dst)=some t→(ops[j]?).bind (·.dst)=some t→i=j
theorem KT {ops:Array Oper}(ho:Lz ops){shs:List Sh}{t i:Nat}(ht:(ops[i]?).bind (·.dst)=some t):∀{l:List Nat} {f:Nat→Sh},i∈l→fu ops shs l f t=shs.getD i .none
 |[],_,h=>nomatch h
 |j::l,f,h=>by
  rw[KU];by_cases hl:i∈l
  ·exact KT ho ht hl
  ·have e:i=j:=(cD.1 h).resolve_right hl;subst e;rw[FD fun k hk e=>hl (by rw[ho i k t ht e];exact hk),ht];exact aL _ _ _
theorem adt {ops:Array Oper}(ho:Lz ops){shs Sa:List Sh}{l m:List Nat}{f:Nat→Sh}{t:Nat}(h1:∀i,(ops[i]?).bind (·.dst)=some t→(i∈l↔i∈m))(h2:∀i,i∈l→(ops[i]?).bind (·.dst)=some t→shs.getD i .none=Sa.getD i .none):fu ops shs l f t=fu ops Sa m f t:=by
 by_cases hh:∃i,i∈l∧(ops[i]?).bind (·.dst)=some t
 ·obtain⟨i,hi,ht⟩:=hh;rw[KT ho ht hi,KT ho ht ((h1 i ht).1 hi),h2 i hi ht]
 ·rw[FD fun i hi e=>hh ⟨i,hi,e⟩,FD fun i hi e=>hh ⟨i,(h1 i e).2 hi,e⟩]
theorem aon {ops:Array Oper}(h:(ops.toList.filterMap (·.dst)).Nodup):Lz ops:=by
 intro i j t hi hj;rw[av] at hi hj;obtain⟨oi,h1,h2⟩:=hi;obtain⟨oj,h3,h4⟩:=hj;by_cases e:i=j
 ·exact e
 ·exact(wk.dst_once h h1 h3 h2 h4 e).elim
theorem M8 {C:Ctx}{S:St}{ops:Array Oper}:∀{k:Nat} {q:List (Sh×List PI)},zJ C S ops k=some q→q.length=k∧∀i,i<k→∃o,ops[i]?=some o∧
 uj C (S.withR (fu ops (q.map (·.1)) (List.range i) S.r)) ops o=some ((q.map (·.1)).getD i .none,(q.map (·.2)).getD i [])
 |0,q,h=>by simp only[zJ,aU] at h;subst h;exact⟨rfl,fun i hi=>by omega⟩
 |k+1,q,h=>by
  simp only[zJ,av] at h;obtain⟨p,hp,h⟩:=h;split at h
  case h_2=>cases h
  rename_i o ho;simp only[aA] at h;obtain⟨r,hr,rfl⟩:=h;obtain⟨l1,aO⟩:=M8 hp;have same:∀i,i≤k→fu ops ((p++[r]).map (·.1)) (List.range i) S.r=fu ops (p.map (·.1)) (List.range i) S.r:=by
   intro i hi;have key:∀(l:List Nat) (f:Nat→Sh),(∀j,j∈l→j<p.length)→fu ops ((p++[r]).map (·.1)) l f=fu ops (p.map (·.1)) l f:=by
    intro l
    induction l with
    |nil=>intro f _;rfl
    |cons j l ih=>
     intro f hl;have hj:=hl j (dq ..);have e:((p++[r]).map (·.1)).getD j .none=(p.map (·.1)).getD j .none:=by
       rw[rU,aJ,jF (by simpa using hj),←aJ]
     rw[KU,KU,e,ih _ fun m hm=>hl m (dj _ hm)]
   exact key _ _ fun j hj=>by have:=bP.1 hj;omega
  refine⟨by simp[l1],fun i hi=>?_⟩;by_cases e:i=k
  ·subst e;refine⟨o,ho,?_⟩;rw[same i (bk _),hr];have e1:((p++[r]).map (·.1)).getD i .none=r.1:=by
    rw[rU,aJ,kI (by simp[l1])];simp[l1]
   have e2:((p++[r]).map (·.2)).getD i []=r.2:=by
    rw[rU,aJ,kI (by simp[l1])];simp[l1]
   rw[e1,e2]
  ·obtain⟨o',h1,h2⟩:=aO i (by omega);refine⟨o',h1,?_⟩;rw[same i (by omega),h2];have:i<p.length:=by omega
   simp only[rU,aJ];rw[jF (by simpa using this),jF (by simpa using this)]
theorem HG (ops:Array Oper):∀k,(dH ops k).length=k
 |0=>rfl
 |k+1=>by simp[dH,HG ops k]
theorem Wd (ops:Array Oper){k m i:Nat}(h:i<k)(hm:k≤m):(dH ops m).getD i 0=(dH ops k).getD i 0:=by
 induction m with
 |zero=>omega
 |succ m ih=>
  by_cases e:k=m+1
  ·rw[e]
  ·rw[←ih (by omega)];simp only[dH,aJ];rw[jF (by rw[HG];omega)]
theorem HH {ops:Array Oper}{N i m:Nat}{o:Oper}(hi:i<N)(ho:ops[i]?=some o)(ah:(o.after.toList.all fun e=> !Region.binds .any e||Nat.blt e.on i)=true)(h:aw ((dH ops N).getD i 0) m=true):
 ∃e,e∈o.after.toList∧Region.binds .any e=true∧(m=e.on∨aw ((dH ops N).getD e.on 0) m=true):=by
 rw[Wd ops (k:=i+1) (by omega) (by omega)] at h
 have e1:(dH ops (i+1)).getD i 0=o.after.toList.foldr (fun e m=>bif Region.binds .any e then Nat.lor (Nat.lor (dN e.on) ((dH ops i).getD e.on 0)) m else m) 0:=by
  simp only[dH,aJ];rw[kI (by rw[HG];exact bk _),HG];simp[ho]
 rw[e1] at h;have aO:=bJ.1 ah;generalize o.after.toList=l at h aO
 induction l with
 |nil=>rw[sn] at h;simp at h
 |cons e l ih=>
  simp only[List.foldr_cons] at h;cases hb:Region.binds .any e<;>rw[hb] at h<;>simp only[cond_true,cond_false] at h
  ·obtain⟨e',h1,h2⟩:=ih h (fun x hx=>aO x (dj _ hx));exact⟨e',dj _ h1,h2⟩
  ·rw[eY,eY,gC,gC] at h;have na:e.on<i:=by
        have:=aO e (dq ..);rw[hb] at this;simpa [ix] using this
   rcases h with(h|h)|h
   ·refine⟨e,dq ..,hb,.inl ?_⟩;have:=jc 0 e.on m;have z:aw 0 m=false:=by rw[sn];simp
    rw[eY,z,qs,qs,h] at this;exact(cW this.symm).symm
   ·refine⟨e,dq ..,hb,.inr ?_⟩;rw[Wd ops na (by omega)];exact h
   ·obtain⟨e',h1,h2⟩:=ih h (fun x hx=>aO x (dj _ hx));exact⟨e',dj _ h1,h2⟩
section
variable {C:Ctx} {S:St} {ρ:Env} {σ:Im} {own:Nat→Option Nat} {hv:Nat→Value} {w0:World} {σ0:Base} {A:Nat→Prop} {a:Act} {w:World} {n:Nat} {ids:List Nat} {Φ:aQ}
theorem acX {ops:Array Oper}{listed:Array Bool}{E:Nat}(aK:listed.size=ops.size)(hl:∀i,listed.getD i false=aw E i)(i:Nat):i∈Region.ready .any ops listed↔i∈lO ops E:=by
 unfold Region.ready lO;simp only[cY,bP];refine and_congr_right fun hi=>?_;have h1:listed.getD i true=aw E i:=by
  rw[←hl i];simp only[dU];rw[fB (by omega)];rfl
 have h2:ops[i]?=some ops[i]:=fB hi;rw[h1,h2];simp only[ka,iz,←U6,hl]
def vw (ops:Array Oper)(E:Nat):Nat→Prop:=fun t=>∃i o,aw E i=true∧ops[i]?=some o∧o.dst=some t
def rK (ops:Array Oper)(E:Nat):Nat:=((List.range ops.size).filter fun i=> !aw E i).length
theorem at2 {ops:Array Oper}{E i:Nat}(hi:i<ops.size)(hb:aw E i=false):rK ops E=rK ops (Nat.lor E (dN i))+1:=by
 unfold rK;obtain⟨l1,l2,hl⟩:=Vk (bP.2 hi);have bp:=Lu (n:=ops.size);rw[hl,BN] at bp;obtain⟨_,h2,h3⟩:=bp;rw[mS] at h2;have g1:∀j,j∈l1→j≠i:=fun j hj=>h3 j hj i (dq ..);have g2:∀j,j∈l2→j≠i:=fun j hj e=>h2.1 (e▸hj)
 have c:∀l:List Nat,(∀j,j∈l→j≠i)→(l.filter fun j=> !aw (Nat.lor E (dN i)) j)=l.filter fun j=> !aw E j:=by
  intro l hl;apply Ln;intro j hj;rw[jc,ej (fun e=>hl j hj e.symm),qt]
 have cw:aw (Nat.lor E (dN i)) i=true:=by rw[jc,gE,nH]
 rw[hl];simp only[BK,Vn,c l1 g1,c l2 g2,hb,cw,rQ,Bool.not_false,if_true,vN,if_false,jG,nI];omega
theorem ahv {rd:Option Nat}(hC:CtxOK C σ0)(be:dx C)(hΦ:di C Φ)(hY:pf C Φ w0 σ0){a0:Act}(N5:a0.tmps.size=n){ops:Array Oper}(aB:rE n ops=true)(ff:zM ops=true){m:Nat}(hm:m≤ops.size){q:List (Sh×List PI)}(hq:zJ C S ops m=some q)
 (uE:CP ops (pZ (q.map (·.2)) m) (dH ops ops.size) m=true) (Ai:∀i,m≤i→i<ops.size→∀j,j<i→aw ((dH ops ops.size).getD i 0) j=true) {Q:Exit→Act→World→Prop} {ρ':Env}
 (hK:∀listed a' w',listed.size=ops.size→(∀i,listed.getD i false=decide (i<m))→SameBut (qH ops) a0 a'→Good C w0 σ0 (S.withR (fu ops (q.map (·.1)) (List.range m) S.r)) ρ' (lP ops (List.range m)) a' w'→wpAnyIn (FR rd) 0 C.P .any ops Q (ops.size-m) listed a' w'):
 ∀(k E:Nat) (listed:Array Bool) (ρ:Env) (a:Act) (w:World),rK ops E=k→(∀j,aw E j=true→j<m)→(∀j,j<ops.size→aw E j=true→∀m,aw ((dH ops ops.size).getD j 0) m=true→aw E m=true)→listed.size=ops.size→(∀i,listed.getD i false=aw E i)→SameBut (qH ops) a0 a→
  Good C w0 σ0 (S.withR (fu ops (q.map (·.1)) ((List.range m).filter (aw E)) S.r)) ρ (vw ops E) a w→PI.runs Φ (eB (q.map (·.2)) (List.range m) E) ρ=some ρ'→wpAnyIn (FR rd) 0 C.P .any ops Q k listed a w:=by
 have IP:=aB;simp only[rE,ao] at aB;have bp:=ml aB.1;have Oi:=aon bp;obtain⟨hlen,aO⟩:=M8 hq;unfold CP at uE;rw[ao] at uE
 have C1:∀i,i<ops.size→∀o,ops[i]?=some o→(o.after.toList.all fun e=> !Region.binds .any e||Nat.blt e.on i)=true:=by
  intro i hi o ho;have:=bJ.1 uE.2 i (bP.2 hi);unfold HW at this;rw[ho] at this;exact this
 have akO:∀i,i<m→∀o,ops[i]?=some o→((pZ (q.map (·.2)) m).getD i []).all (aw ((dH ops ops.size).getD i 0))=true∧
  ∀t,t∈acW ops o→∀j,j<ops.size→(ops[j]?).bind (·.dst)=some t→(j<i∧aw ((dH ops ops.size).getD i 0) j=true)∨aw ((dH ops ops.size).getD j 0) i=true:=by
  intro i hi o ho;have:=bJ.1 uE.1 i (bP.2 hi);unfold WS at this;rw[ho] at this;simp only[ao] at this;refine⟨this.1.1,fun t ht j hj hd=>?_⟩;have:=bJ.1 (bJ.1 this.2 t ht) j (bP.2 hj);rw[hd] at this;simp only[gE,rQ,qs,gC,ao,ix] at this;exact this
 have VH:∀(k E:Nat) (listed:Array Bool) (ρ:Env) (a:Act) (w:World),(∀i,i<m→aw E i=true)→rK ops E=k→(∀j,aw E j=true→j<m)→listed.size=ops.size→(∀i,listed.getD i false=aw E i)→SameBut (qH ops) a0 a→
  Good C w0 σ0 (S.withR (fu ops (q.map (·.1)) ((List.range m).filter (aw E)) S.r)) ρ (vw ops E) a w→PI.runs Φ (eB (q.map (·.2)) (List.range m) E) ρ=some ρ'→wpAnyIn (FR rd) 0 C.P .any ops Q k listed a w:=by
  intro k E listed ρ a w ki hk wV aK hl hn hg ak;have hb:∀i,aw E i=decide (i<m):=by
   intro i;by_cases h:i<m
   ·rw[ki i h,decide_eq_true h]
   ·rw[decide_eq_false h];cases hb:aw E i with
    |false=>rfl
    |true=>exact absurd (wV i hb) h
  have ND:eB (q.map (·.2)) (List.range m) E=[]:=by
   unfold eB;rw[aej];intro i hi;rw[ki i (bP.1 hi)];rfl
  rw[ND] at ak;simp only[PI.runs,aU] at ak;subst ak;have ajt:rK ops E=ops.size-m:=by
   unfold rK
   have key:∀N,m≤N→((List.range N).filter fun i=> !aw E i).length=N-m:=by
        intro N
        induction N with
        |zero=>intro _;simp
        |succ N ih=>
         intro hN;rw[Vt,BK,jG];by_cases h:m≤N
         ·rw[ih h];simp[hb N,Nat.not_lt.2 h];omega
         ·have:m=N+1:=by omega
          have e:(List.range N).filter (fun i=> !aw E i)=[]:=by
           rw[Lo];intro i hi;rw[ki i (by have:=bP.1 hi;omega)];simp
          have hN':aw E N=true:=ki N (by omega);rw[e];simp[hN'];omega
   exact key _ hm
  have ef:(List.range m).filter (aw E)=List.range m:=List.filter_eq_self.2 fun i hi=>ki i (bP.1 hi);rw[ef] at hg;have sR:vw ops E=lP ops (List.range m):=by
   funext t;apply propext;constructor
   ·rintro⟨i,o,h1,h2,h3⟩;exact⟨i,o,bP.2 (wV i h1),h2,h3⟩
   ·rintro⟨i,o,h1,h2,h3⟩;exact⟨i,o,ki i (bP.1 h1),h2,h3⟩
  rw[sR] at hg;rw[←hk,ajt];exact hK listed a w aK (fun i=>by rw[hl i,hb i]) hn hg
 intro k
 induction k with
 |zero=>
  intro E listed ρ a w hk wV Ik aK hl hn hg ak;refine VH 0 E listed ρ a w (fun i hi=>?_) hk wV aK hl hn hg ak;cases hb:aw E i with
  |true=>rfl
  |false=>
   have:i∈(List.range ops.size).filter fun i=> !aw E i:=cY.2 ⟨bP.2 (by omega),by rw[hb];rfl⟩;unfold rK at hk;rw[List.length_eq_zero_iff.1 hk] at this;cases this
 |succ k ih=>
  intro E listed ρ a w hk wV Ik aK hl hn hg ak;by_cases ki:∀i,i<m→aw E i=true
  ·exact VH (k+1) E listed ρ a w ki hk wV aK hl hn hg ak
  refine⟨fun he=>?_,fun i hi=>?_⟩
  ·
   obtain⟨i,hi,IF⟩:∃i,(i<m∧aw E i=false)∧∀j,j<i→aw E j=true:=by
        have hex:∃i,i<m∧aw E i=false:=by
         refine rR fun du=>ki fun i hi=>?_;cases hb:aw E i with
         |true=>rfl
         |false=>exact absurd ⟨i,hi,hb⟩ du
        obtain⟨i,hi⟩:=hex
        induction i using Nat.strongRecOn with
        |ind i me=>
         by_cases hh:∃j,j<i∧aw E j=false
         ·obtain⟨j,hj,hb⟩:=hh;exact me j hj ⟨by omega,hb⟩
         ·refine⟨i,hi,fun j hj=>?_⟩;cases hb:aw E j with
          |true=>rfl
          |false=>exact absurd ⟨j,hj,hb⟩ hh
   have sN:i<ops.size:=by omega
   have ho:ops[i]?=some ops[i]:=fB sN;have cQ:i∈lO ops E:=by
        unfold lO;simp only[cY,bP,ao,gS,ho];refine⟨sN,hi.2,?_⟩;rw[bJ];intro e gK;have:=bJ.1 (C1 i sN _ ho) e gK;cases hb:Region.binds .any e with
        |false=>rfl
        |true=>
         rw[hb] at this;simp only[rQ,qs,ix] at this;rw[IF _ this];rfl
   rw[←acX aK hl,he] at cQ;cases cQ
  ·rw[acX aK hl] at hi;unfold lO at hi;simp only[cY,bP,ao,gS] at hi;obtain⟨aY,dA,uy⟩:=hi;have X6:ops[i]?=some ops[i]:=fB aY;generalize ops[i]=o at X6;have ho:=X6;rw[ho] at uy;simp only at uy;have o2:=C1 i aY o ho;have zU:∀m,aw ((dH ops ops.size).getD i 0) m=true→aw E m=true:=by
        intro m hm;obtain⟨e,gJ,iO,wK⟩:=HH aY ho o2 hm;have hE:aw E e.on=true:=by
         have:=bJ.1 uy e gJ
         rwa [iO,rQ,qs] at this
        rcases wK with rfl|wK
        ·exact hE
        ·have na:e.on<i:=by
          have:=bJ.1 o2 e gJ;rw[iO] at this;simpa [ix] using this
         exact Ik e.on (by omega) hE m wK
   have kP:i<m:=by
        refine rR fun du=>ki fun j hj=>?_;exact zU j (Ai i (by omega) aY j (by omega))
   obtain⟨o',dZ,jO⟩:=aO i kP;rw[ho] at dZ;cases dZ;obtain⟨o1,o3⟩:=akO i kP o ho;have da:((pZ (q.map (·.2)) m).getD i []).all (aw E)=true:=by
        rw[bJ] at o1 ⊢;exact fun m hm=>zU m (o1 m hm)
   have ajw:uj C (S.withR (fu ops (q.map (·.1)) ((List.range m).filter (aw E)) S.r)) ops o=some ((q.map (·.1)).getD i .none,(q.map (·.2)).getD i []):=by
        rw[←jO];refine aht (S:=S.withR (fu ops (q.map (·.1)) (List.range i) S.r)) fun t ht=>?_;refine adt Oi (fun j hj=>?_) (fun _ _ _=>rfl);have fW:j<ops.size:=by
         rw[av] at hj;obtain⟨oj,h1,_⟩:=hj;exact(gj.1 h1).1
        rw[cY,bP,bP];rcases o3 t ht j fW hj with⟨h1,h2⟩|h1
        ·exact⟨fun _=>h1,fun _=>⟨by omega,zU j h2⟩⟩
        ·constructor
         ·rintro⟨_,pJ⟩;have:=Ik j fW pJ i h1;rw[dA] at this;cases this
         ·intro hG;exfalso;have key:∀m j,j<ops.size→aw ((dH ops ops.size).getD j 0) m=true→m<j:=by
           intro m j
           induction j using Nat.strongRecOn with
           |ind j me=>
            intro hj hm;have qX:ops[j]?=some ops[j]:=fB hj;have p2:=C1 j hj _ qX;obtain⟨e,e1,e2,e3⟩:=HH hj qX p2 hm;have na:e.on<j:=by
                have:=bJ.1 p2 e e1;rw[e2] at this;simpa [ix] using this
            rcases e3 with rfl|e3
            ·exact na
            ·have:=me e.on na (by omega) e3;omega
          have:=key i j fW h1;omega
   have hcp:=ahs ajw;rw[ac3 kP dA da,av] at ak;obtain⟨ρ1,hρ1,hρ2⟩:=ak;have qT:∀d,o.dst=some d→¬vw ops E d∧d<a.tmps.size:=by
        intro d hd;refine⟨fun⟨i',o',cw,dZ,gI⟩=>?_,?_⟩
        ·have ay:i'≠i:=fun e=>by subst e;rw[dA] at cw;cases cw
         exact wk.dst_once bp dZ ho gI hd ay
        ·have:=bJ.1 aB.2 o (by simpa using gR ho);simp only[hd,ao] at this;rw[hn.size,N5];simpa [ix] using this.2
   have jS:ox o.op=true:=by
        have:=bJ.1 aB.2 o (by simpa using gR ho);simp only[ao] at this;exact this.1
   have hj:∀j want t,o.guard=some (j,want)→(ops[j]?).bind (·.dst)=some t→vw ops E t:=by
        intro j want t kj ht;rw[av] at ht;obtain⟨oj,h1,h2⟩:=ht;have uC:=bJ.1 ff o (by simpa using gR ho);simp only[kj] at uC;obtain⟨e,gJ,iO⟩:=mQ.1 uC;simp only[ao] at iO;have h3:=bJ.1 uy e gJ;rw[iO.1] at h3;simp only[rQ,qs] at h3;exact⟨j,oj,by rw[←cW iO.2];exact h3,h1,h2⟩
   have ajs:∀j,j<ops.size→aw (Nat.lor E (dN i)) j=true→∀m,aw ((dH ops ops.size).getD j 0) m=true→aw (Nat.lor E (dN i)) m=true:=by
        intro j hj pJ m hm;rw[jc,gC] at pJ;rw[jc,gC];rcases pJ with pJ|pJ
        ·exact .inl (Ik j hj pJ m hm)
        ·rw[←cW pJ] at hm;exact .inl (zU m hm)
   have main:=HI (rd:=rd) (K:=wpAnyIn (FR rd) 0 C.P .any ops Q k (listed.setIfInBounds i true)) (Q:=Q) hg hC be hΦ hY jS qT hj hcp hρ1 (fun a' w' fG q6=>by
        have hA:(fun u=>vw ops E u∨o.dst=some u)=vw ops (Nat.lor E (dN i)):=by
         funext u;apply propext;constructor
         ·rintro(⟨i',o',h1,h2,h3⟩|h1)
          ·exact⟨i',o',by rw[jc,h1,vP],h2,h3⟩
          ·exact⟨i,o,by rw[jc,gE,nH],ho,h1⟩
         ·rintro⟨i',o',h1,h2,h3⟩;rw[jc,gC] at h1;rcases h1 with h1|h1
          ·exact .inl ⟨i',o',h1,h2,h3⟩
          ·rw[←cW h1,ho] at h2;cases h2;exact .inr h3
        rw[hA] at fG;have hSt:nC (S.withR (fu ops (q.map (·.1)) ((List.range m).filter (aw E)) S.r)) o ((q.map (·.1)).getD i .none)=S.withR (fu ops (q.map (·.1)) ((List.range m).filter (aw (Nat.lor E (dN i)))) S.r):=by
         have ajR:∀t,(nC (S.withR (fu ops (q.map (·.1)) ((List.range m).filter (aw E)) S.r)) o ((q.map (·.1)).getD i .none)).r t=fu ops (q.map (·.1)) ((List.range m).filter (aw (Nat.lor E (dN i)))) S.r t:=by
          intro t;by_cases Ip:o.dst=some t
          ·have hb:(ops[i]?).bind (·.dst)=some t:=by rw[ho];exact Ip
           rw[KT Oi hb (cY.2 ⟨bP.2 kP,by rw[jc,gE,nH]⟩)];unfold nC;rw[Ip];simp[St.setR,aL]
          ·have e1:(nC (S.withR (fu ops (q.map (·.1)) ((List.range m).filter (aw E)) S.r)) o ((q.map (·.1)).getD i .none)).r t=fu ops (q.map (·.1)) ((List.range m).filter (aw E)) S.r t:=by
            unfold nC;split
            ·rename_i d hd;exact bq _ _ (fun e=>Ip (by rw[hd,e]))
            ·rfl
           rw[e1];refine adt Oi (fun j hj=>?_) (fun _ _ _=>rfl);have hG:¬i=j:=fun e=>by subst e;rw[ho] at hj;exact Ip hj
           rw[cY,cY,jc,ej hG,qt]
         have:∀(X Y:St),X.o=Y.o→X.ver=Y.ver→(∀t,X.r t=Y.r t)→X=Y:=by
          intro X Y h1 h2 h3;cases X;cases Y;simp only at h1 h2 h3;subst h1 h2
          congr 1
          exact funext h3
         refine this _ _ ?_ ?_ ajR
         ·unfold nC;split<;>rfl
         ·unfold nC;split<;>rfl
        rw[hSt] at fG;refine ih _ _ ρ1 a' w' (by have:=at2 aY dA;omega) (fun j hj=>by rw[jc,gC] at hj;rcases hj with hj|hj;exact wV j hj;rw[←cW hj];exact kP) ajs (by simpa using aK) (fun j=>?_) (hn.trans (q6.mono fun t e=>⟨o,by simpa using gR ho,e⟩)) fG hρ2;rw[jc];simp only[dU,vL];by_cases cU:i=j
        ·subst cU;simp[aK,aY]
        ·rw[if_neg cU,ej cU,qt,←hl j];simp only[dU])
   simp only[wpOpIn,ho];split
   ·rename_i hw;rw[if_pos hw] at main;exact main
   ·rename_i hw;rw[if_neg hw] at main;exact⟨fun _ _=>trivial,main⟩
theorem arq {rd:Option Nat}(hC:CtxOK C σ0)(be:dx C)(hΦ:di C Φ)(hY:pf C Φ w0 σ0){ops:Array Oper}(aB:rE n ops=true)(ff:zM ops=true)(C1:(List.range ops.size).all (HW ops)=true){m:Nat}
 (Ai:∀i,m≤i→i<ops.size→∀j,j<i→aw ((dH ops ops.size).getD i 0) j=true) {Q:Exit→Act→World→Prop} {ρ':Env}:
 ∀(k i:Nat) {S:St} {ρ:Env} {a:Act} {w:World} {r:St×List PI} (listed:Array Bool),i+k=ops.size→m≤i→listed.size=ops.size→(∀j,listed.getD j false=decide (j<i))→a.tmps.size=n→
  Good C w0 σ0 S ρ (lP ops (List.range i)) a w→nP C ops (List.range' i k) S=some r→PI.runs Φ r.2 ρ=some ρ'→
  (∀a' w',SameBut (qH ops) a a'→Good C w0 σ0 r.1 ρ' (lP ops (List.range ops.size)) a' w'→Q .normal a' w')→wpAnyIn (FR rd) 0 C.P .any ops Q k listed a w:=by
 have IP:=aB;simp only[rE,ao] at aB;have bp:=ml aB.1
 have LH:∀i,i<ops.size→∀o,ops[i]?=some o→(o.after.toList.all fun e=> !Region.binds .any e||Nat.blt e.on i)=true:=by
  intro i hi o ho;have:=bJ.1 C1 i (bP.2 hi);unfold HW at this;rw[ho] at this;exact this
 have mem:∀(listed:Array Bool) (i j:Nat),listed.size=ops.size→(∀j,listed.getD j false=decide (j<i))→(j∈Region.ready .any ops listed↔(j<ops.size∧¬j<i∧∀o,ops[j]?=some o→(o.after.toList.all fun e=> !Region.binds .any e||decide (e.on<i))=true)):=by
  intro listed i j aK hl;unfold Region.ready;simp only[cY,bP];refine and_congr_right fun hj=>?_;have h1:listed.getD j true=decide (j<i):=by
   rw[←hl j];simp only[dU];rw[fB (by omega)];rfl
  have h2:ops[j]?=some ops[j]:=fB hj;rw[h1,h2];simp only[ka,iz,←U6,hl,ao,gS,decide_eq_false_iff_not,aU,forall_eq']
 intro k
 induction k with
 |zero=>
  intro i S ρ a w r listed hik hmi aK hl hn hg hr ak hQ;simp only[List.range'_zero,nP,aU] at hr;subst hr;rw[nA ak] at hQ;refine⟨?_,hQ a w (.refl _ _) ?_⟩
  ·rw[Vl];intro j hj;rw[mem listed i j aK hl] at hj;exact hj.2.1 (by omega)
  ·have:i=ops.size:=by omega
   rw[←this];exact hg
 |succ k ih=>
  intro i S ρ a w r listed hik hmi aK hl hn hg hr ak hQ;have aY:i<ops.size:=by omega
  have ho:ops[i]?=some ops[i]:=fB aY;generalize ops[i]=o at ho;refine⟨fun he=>?_,fun i' cw=>?_⟩
  ·have:i∈Region.ready .any ops listed:=by
        rw[mem listed i i aK hl];refine⟨aY,by omega,fun o' dZ=>?_⟩;rw[bJ];intro e gK;have:=bJ.1 (LH i aY o' dZ) e gK;cases hb:Region.binds .any e with
        |false=>rfl
        |true=>
         rw[hb] at this;simp only[rQ,qs,ix] at this;simpa using this
   rw[he] at this;cases this
  ·rw[mem listed i i' aK hl] at cw;obtain⟨h1,h2,h3⟩:=cw;obtain rfl:i'=i:=by
        refine rR fun ay=>?_;have dZ:ops[i']?=some ops[i']:=fB h1;have zU:=Ai i' (by omega) h1 i (by omega);have ah:∀m j,j<ops.size→aw ((dH ops ops.size).getD j 0) m=true→m<j:=by
         intro m j
         induction j using Nat.strongRecOn with
         |ind j me=>
          intro hj hm;have qX:ops[j]?=some ops[j]:=fB hj;have p2:=LH j hj _ qX;obtain⟨e,e1,e2,e3⟩:=HH hj qX p2 hm;have na:e.on<j:=by
           have:=bJ.1 p2 e e1;rw[e2] at this;simpa [ix] using this
          rcases e3 with rfl|e3
          ·exact na
          ·have:=me e.on na (by omega) e3;omega
        obtain⟨e,e1,e2,e3⟩:=HH h1 dZ (LH i' h1 _ dZ) zU;have h4:=bJ.1 (h3 _ dZ) e e1;rw[e2] at h4;simp only[rQ,qs,decide_eq_true_eq] at h4;rcases e3 with e3|e3
        ·omega
        ·have:=ah i e.on (by omega) e3;omega
   rw[F6] at hr;simp only[nP,ho] at hr;simp only[av,aA] at hr;obtain⟨r1,iP,q,hq,rfl⟩:=hr;simp only[oM,av] at ak;obtain⟨ρ1,hρ1,hρ2⟩:=ak;have qT:∀d,o.dst=some d→¬lP ops (List.range i') d∧d<a.tmps.size:=by
        intro d hd;refine⟨fun⟨i2,o2,Iu,eH,dI⟩=>?_,?_⟩
        ·have ay:i2≠i':=by have:=bP.1 Iu;omega
         exact wk.dst_once bp eH ho dI hd ay
        ·have:=bJ.1 aB.2 o (by simpa using gR ho);simp only[hd,ao] at this;rw[hn];simpa [ix] using this.2
   have jS:ox o.op=true:=by
        have:=bJ.1 aB.2 o (by simpa using gR ho);simp only[ao] at this;exact this.1
   have hj:∀j want t,o.guard=some (j,want)→(ops[j]?).bind (·.dst)=some t→lP ops (List.range i') t:=by
        intro j want t kj ht;rw[av] at ht;obtain⟨oj,h1,h2⟩:=ht;have uC:=bJ.1 ff o (by simpa using gR ho);simp only[kj] at uC;obtain⟨e,gJ,iO⟩:=mQ.1 uC;simp only[ao] at iO;have h4:=bJ.1 (h3 o ho) e gJ;rw[iO.1] at h4;simp only[rQ,qs,decide_eq_true_eq] at h4;exact⟨j,oj,bP.2 (by rw[←cW iO.2];exact h4),h1,h2⟩
   have main:=HI (rd:=rd) (K:=wpAnyIn (FR rd) 0 C.P .any ops Q k (listed.setIfInBounds i' true)) (Q:=Q) hg hC be hΦ hY jS qT hj iP hρ1 (fun a' w' fG jq=>by
        have:(fun u=>lP ops (List.range i') u∨o.dst=some u)=lP ops (List.range (i'+1)):=by
         funext u;apply propext;constructor
         ·rintro(⟨i2,o2,h1,h2,h3⟩|h1)
          ·exact⟨i2,o2,bP.2 (by have:=bP.1 h1;omega),h2,h3⟩
          ·exact⟨i',o,bP.2 (by omega),ho,h1⟩
         ·rintro⟨i2,o2,g1,g2,g3⟩;by_cases e:i2=i'
          ·rw[e,ho] at g2;cases g2;exact .inr g3
          ·exact .inl ⟨i2,o2,bP.2 (by have:=bP.1 g1;omega),g2,g3⟩
        rw[this] at fG;refine ih (i'+1) _ (by omega) (by omega) (by simpa using aK) (fun j=>?_) (jq.size.trans hn) fG hq hρ2 (fun a2 w2 s2 g2=>hQ a2 w2 ((jq.mono fun t e=>⟨o,by simpa using gR ho,e⟩).trans s2) g2);simp only[dU,vL];by_cases cU:i'=j
        ·subst cU;simp[aK,aY]
        ·rw[if_neg cU];have:=hl j;simp only[dU] at this;rw[this];by_cases ah:j<i'
         ·rw[decide_eq_true ah,decide_eq_true (by omega:j<i'+1)]
         ·rw[decide_eq_false ah,decide_eq_false (by omega:¬j<i'+1)])
   simp only[wpOpIn,ho];split
   ·rename_i hw;rw[if_pos hw] at main;exact main
   ·rename_i hw;rw[if_neg hw] at main;exact⟨fun _ _=>trivial,main⟩
end
def KK (C:Ctx)(n:Nat)(ids:List Nat)(ops:Array Oper)(draw:Bool)(S:Snap):Option (Snap×List PI):=
 bif rE n ops then
    bif draw then
     bif zM ops&&Py ops&&C.P.follows .mixedOrders then
        match WT C ops (S.st ids) with
        |some r=>some (⟨vz (eQ r.1) r.1 S.rs (ops.toList.filterMap (·.dst)),ids.map fun j=>ij r.1 (r.1.o j)⟩,r.2)
        |none=>
        (eT C ops (List.range ops.size) (S.st ids)).bind fun X=>C3 X fun X=>C3 (pZ X ops.size) fun nc=>
         (Snap.hard ⟨S.rs.map fun s=>kW (S.st ids) (cA s),ids.map fun j=>ij (S.st ids) ((S.st ids).o j)⟩ fun T0=>FB ops (sf C.P ops) (Qk C ops n ids X nc) ops.size [(0,T0)]).map fun T=>(⟨T.rs.map (eQ (T.stO ids)),ids.map fun j=>ij (T.stO ids) ((T.stO ids).o j)⟩,X.flatten)
     else none
    else bif W6 ops then(nP C ops (List.range ops.size) (S.st ids)).map fun r=>(⟨vz (eQ r.1) r.1 S.rs (ops.toList.filterMap (·.dst)),ids.map fun j=>ij r.1 (r.1.o j)⟩,r.2) else none
 else none
def KJ (C:Ctx)(n:Nat)(ids:List Nat)(ops:Array Oper)(draw:Bool)(S:Snap):Option (Snap×List PI):=
 (KK C n ids ops draw S).bind fun r=>r.1.hard fun T=>some (T,r.2)
theorem aqA (C:Ctx)(n:Nat)(ids:List Nat)(ops:Array Oper)(draw:Bool)(S:Snap):KJ C n ids ops draw S=KK C n ids ops draw S:=by
 unfold KJ;cases KK C n ids ops draw S with
 |none=>rfl
 |some r=>rw[j9,Snap.hard_eq]
def xW (ops:Array Oper)(E:Nat):Nat→Prop:=fun t=>∃i o,aw E i=true∧ops[i]?=some o∧o.dst=some t
section
variable {C:Ctx} {S:St} {ρ:Env} {σ:Im} {own:Nat→Option Nat} {hv:Nat→Value} {w0:World} {σ0:Base} {A:Nat→Prop} {a:Act} {w:World} {n:Nat} {ids:List Nat} {Φ:aQ}
theorem KH {ops:Array Oper}{listed:Array Bool}{E:Nat}(aK:listed.size=ops.size)(hl:∀i,listed.getD i false=aw E i)(i:Nat):i∈Region.ready .any ops listed↔i∈lO ops E:=by
 unfold Region.ready lO;simp only[cY,bP];refine and_congr_right fun hi=>?_;have h1:listed.getD i true=aw E i:=by
  rw[←hl i];simp only[dU];rw[fB (by omega)];rfl
 have h2:ops[i]?=some ops[i]:=fB hi;rw[h1,h2];simp only[ka,iz,←U6,hl]
theorem aqW {rd:Option Nat}(hC:CtxOK C σ0)(be:dx C)(hΦ:di C Φ)(hY:pf C Φ w0 σ0){a0:Act}(N5:a0.tmps.size=n){ops:Array Oper}(aB:rE n ops=true)(ff:zM ops=true){X:List (List PI)}{Q:Exit→Act→World→Prop}{ρ':Env}(Ag:Py ops=true)(hQp:∀c a w,¬Q (.panic c) a w):
 ∀(k:Nat) {L:List (Nat×Snap)} {T:Snap},FB ops (sf C.P ops) (Qk C ops n ids X (pZ X ops.size)) k L=some T→
  (∀a' w',SameBut (qH ops) a0 a'→Good C w0 σ0 (T.stO ids) ρ' (fun t=>∃E,xW ops E t) a' w'→Q .normal a' w')→
  ∀(E:Nat) (U:Snap),(E,U)∈L→∀(listed:Array Bool) (ρ:Env) (a:Act) (w:World),listed.size=ops.size→(∀i,listed.getD i false=aw E i)→SameBut (qH ops) a0 a→
   Good C w0 σ0 (U.stO ids) ρ (xW ops E) a w→PI.runs Φ (eB X (List.range ops.size) E) ρ=some ρ'→wpAnyIn (FR rd) 0 C.P .any ops Q k listed a w:=by
 simp only[rE,ao] at aB;have bp:=ml aB.1;intro k
 induction k with
 |zero=>
  intro L T hs hQ E U hm listed ρ a w aK hl hn hg ak;simp only[FB] at hs;split at hs
  case h_2=>cases hs
  rename_i x;cases aO:(List.range ops.size).all (aw x.1)<;>simp only[aO,cond_true,cond_false] at hs
  ·cases hs
  cases hs;simp only[qx] at hm;subst hm;simp only at aO hg hQ ak hl;have ki:=bJ.1 aO;have ND:eB X (List.range ops.size) E=[]:=by
   unfold eB;rw[aej];intro i hi;rw[ki i hi];rfl
  rw[ND] at ak;simp only[PI.runs,aU] at ak;subst ak;refine⟨?_,hQ a w hn ?_⟩
  ·rw[Vl];intro i hi;rw[KH aK hl] at hi;unfold lO at hi;simp only[cY,ao,gS] at hi;rw[ki i hi.1] at hi;cases hi.2.1
  ·obtain⟨σ,own,hv,h⟩:=hg;exact⟨σ,own,hv,h.defers,h.ok,h.le,h.old,h.newc,h.newm,h.below,h.bw,h.owns,h.regs,h.objs,fun t gs s e=>⟨fun g hm=>⟨E,(h.opts t gs s e).1 g hm⟩,(h.opts t gs s e).2⟩,h.frame⟩
 |succ k ih=>
  intro L T hs hQ E U hm listed ρ a w aK hl hn hg ak;simp only[FB,av] at hs;obtain⟨L',hL,hs⟩:=hs;obtain⟨_,cQ⟩:=YV hL;obtain⟨ay,OF⟩:=cQ _ hm;have akA:lO ops E≠[]:=fun e=>ay (by unfold pj;rw[e];rfl)
  have bS:∀i,i∈pj ops (sf C.P ops) E→i∈lO ops E:=fun i hi=>by
   unfold pj at hi;split at hi
   ·rename_i i' hp;rw[qx.1 hi];exact(K0 hp).1
   ·exact hi
  have step:∀i,i∈pj ops (sf C.P ops) E→∀Q':Exit→Act→World→Prop,wpOpIn (FR rd) 0 C.P ops Q' i (wpAnyIn (FR rd) 0 C.P .any ops Q k (listed.setIfInBounds i true)) a w:=by
   intro i hi Q';obtain⟨y,hy,hyL⟩:=OF i hi;have hi:=bS i hi;unfold lO at hi;simp only[cY,bP,ao,gS] at hi;obtain⟨aY,dA,uy⟩:=hi;simp only[Qk] at hy;split at hy
   case h_2=>cases hy
   rename_i o ho;simp only[av] at hy;obtain⟨r,hr,hy⟩:=hy;cases hc:(PI.beqs r.2 (X.getD i [])&&((pZ X ops.size).getD i []).all (aw E))<;>simp only[hc,cond_true,cond_false] at hy
   ·cases hy
   cases hy;simp only[ao] at hc;have hX:=PI.beqs_eq _ _ hc.1;rw[ac3 aY dA hc.2,av] at ak;obtain⟨ρ1,hρ1,hρ2⟩:=ak;rw[←hX] at hρ1;rw[ho] at uy;simp only at uy;have qT:∀d,o.dst=some d→¬xW ops E d∧d<a.tmps.size:=by
        intro d hd;refine⟨fun⟨i',o',cw,dZ,gI⟩=>?_,?_⟩
        ·have ay:i'≠i:=fun e=>by subst e;rw[dA] at cw;cases cw
         exact wk.dst_once bp dZ ho gI hd ay
        ·have:=bJ.1 aB.2 o (by simpa using gR ho);simp only[hd,ao] at this;rw[hn.size,N5];simpa [ix] using this.2
   have jS:ox o.op=true:=by
        have:=bJ.1 aB.2 o (by simpa using gR ho);simp only[ao] at this;exact this.1
   have hj:∀j want t,o.guard=some (j,want)→(ops[j]?).bind (·.dst)=some t→xW ops E t:=by
        intro j want t kj ht;rw[av] at ht;obtain⟨oj,h1,h2⟩:=ht;have uC:=bJ.1 ff o (by simpa using gR ho);simp only[kj] at uC;obtain⟨e,gJ,iO⟩:=mQ.1 uC;simp only[ao] at iO;have h3:=bJ.1 uy e gJ;rw[iO.1] at h3;simp only[rQ,qs] at h3;exact⟨j,oj,by rw[←cW iO.2];exact h3,h1,h2⟩
   have main:=HI (rd:=rd) (K:=wpAnyIn (FR rd) 0 C.P .any ops Q k (listed.setIfInBounds i true)) (Q:=Q') hg hC be hΦ hY jS qT hj hr hρ1 (fun a' w' fG q6=>by
        have hA:(fun u=>xW ops E u∨o.dst=some u)=xW ops (Nat.lor E (dN i)):=by
         funext u;apply propext;constructor
         ·rintro(⟨i',o',h1,h2,h3⟩|h1)
          ·exact⟨i',o',by rw[jc,h1,vP],h2,h3⟩
          ·exact⟨i,o,by rw[jc,gE,nH],ho,h1⟩
         ·rintro⟨i',o',h1,h2,h3⟩;rw[jc,gC] at h1;rcases h1 with h1|h1
          ·exact .inl ⟨i',o',h1,h2,h3⟩
          ·rw[←cW h1,ho] at h2;cases h2;exact .inr h3
        rw[hA] at fG
        refine ih hs hQ _ _ hyL _ ρ1 a' w' (by simpa using aK) (fun j=>?_) (hn.trans (q6.mono fun t e=>⟨o,by simpa using gR ho,e⟩)) (by
         have:=fG.snapO U.rs.length ids
         rw[show r.1.snapO U.rs.length ids=⟨vz (kW r.1) r.1 U.rs o.dst.toList,ids.map fun j=>ij r.1 (r.1.o j)⟩ from by
          unfold St.snapO;rw[FE fun t ht=>?_];rw[We hr t (fun e=>ht (by rw[e];simp))];rfl] at this
         exact this) hρ2
        rw[jc];simp only[dU,vL];by_cases cU:i=j
        ·subst cU;simp[aK,aY]
        ·rw[if_neg cU,ej cU,qt,←hl j];simp only[dU])
   simp only[wpOpIn,ho];split
   ·rename_i hw;rw[if_pos hw] at main;exact main
   ·rename_i hw;rw[if_neg hw] at main;exact⟨fun _ _=>trivial,main⟩
  cases Oo:Bu (sf C.P ops) E (lO ops E) with
  |none=>
   have jj:pj ops (sf C.P ops) E=lO ops E:=by unfold pj;rw[Oo]
   refine⟨fun he=>?_,fun i hi=>step i (by rw[jj];exact(KH aK hl i).1 hi) Q⟩;exfalso;refine akA ?_;rw[Vl];intro i hi;rw[←KH aK hl,he] at hi;cases hi
  |some i=>
   have jj:pj ops (sf C.P ops) E=[i]:=by unfold pj;rw[Oo]
   obtain⟨hir,b,hb,ajk⟩:=K0 Oo;obtain⟨oi,X7,Ot,Nr⟩:=ae7 hb;obtain⟨v,hv,hK⟩:=apx X7 Ot (step i (by rw[jj];simp) _);refine aun (fun j o ho=>?_) X7 (fun j o cs b' ho e=>?_) (fun c a' w' h=>(hQp _ _ _ h).elim) k listed a w (fun j oj hj hG nj du=>Nr j oj hj hG (fun Ix=>?_) du) ((KH aK hl i).2 hir) hv hK
   ·have:=bJ.1 aB.2 o (by simpa using gR ho);simp only[ao] at this;exact this.1
   ·have:=bJ.1 Ag o (by simpa using gR ho);rw[e] at this;cases this
   ·have h1:=bJ.1 ajk j Ix;have h2:=hl j;rw[h1] at h2;simp only[dU] at h2 nj;cases zZ:listed[j]? with
    |none=>rw[zZ] at h2;cases h2
    |some x=>
     rw[zZ] at h2 nj;simp only[iz] at h2 nj;rw[h2] at nj;cases nj
theorem adn {ops:Array Oper}:∀{l:List Nat} {S:St} {X:List (List PI)},eT C ops l S=some X→X.length=l.length
 |[],S,X,h=>by simp only[eT,aU] at h;subst h;rfl
 |i::l,S,X,h=>by
  simp only[eT] at h;split at h
  case h_2=>cases h
  simp only[av,aA] at h;obtain⟨r,_,q,hq,rfl⟩:=h;simp[adn hq]
theorem ac4 (X:List (List PI)):eB X (List.range X.length) 0=X.flatten:=by
 have h0:∀i,aw 0 i=false:=fun i=>by rw[sn];simp
 have key:∀(Y Z:List (List PI)),eB (Y++Z) (List.range' Y.length Z.length) 0=Z.flatten:=by
  intro Y Z
  induction Z generalizing Y with
  |nil=>rfl
  |cons z Z ih=>
   have:=ih (Y++[z]);simp only[qv,List.singleton_append,jG,nI,yj,gF] at this;rw[nI,F6];have e:eB (Y++z::Z) (Y.length::List.range' (Y.length+1) Z.length) 0=(Y++z::Z).getD Y.length []++eB (Y++z::Z) (List.range' (Y.length+1) Z.length) 0:=by
        unfold eB;rw[vT,h0];rfl
   rw[e,this,Vp]
   congr 1
   simp[aJ]
 have:=key [] X;simp only[tR,yj] at this;rw[Lv];exact this
theorem aqB (be:dx C)(hΦ:di C Φ):LA C n ids Φ (KJ C n ids):=by
 intro id ops draw S r hr rd w0 σ0 ρ ρ' a w Q hC hY hn hg ak hQ;rw[aqA] at hr;unfold KK at hr;cases aB:rE n ops<;>simp only[aB,cond_true,cond_false] at hr
 ·cases hr
 cases draw with
 |false=>
  simp only[cond_false] at hr;cases XL:W6 ops<;>simp only[XL,cond_true,cond_false] at hr
  ·cases hr
  simp only[aA] at hr;obtain⟨q,hq,rfl⟩:=hr;refine wpIn_region ?_
  have sR:lP ops []=fun _=>False:=by
   funext t;apply propext;constructor
   ·rintro⟨i,o,h,_⟩;cases h
   ·intro h;exact h.elim
  refine wk hC be hΦ hY aB (List.range ops.size) [] (by simpa using Lu) (fun p i q o j want hl ho kj=>?_) hn (by rw[sR];exact hg) hq ak (fun a' w' jR fG=>hQ a' w' jR (by
   have:=fG.snapF S.rs.length ids
   rw[show q.1.snap S.rs.length ids=⟨vz (eQ q.1) q.1 S.rs (ops.toList.filterMap (·.dst)),ids.map fun j=>ij q.1 (q.1.o j)⟩ from by
        unfold St.snap;rw[FE fun t ht=>?_];rw[ML hq t (fun i o hi ho e=>ht (tQ.2 ⟨o,by simpa using gR ho,e⟩))];show _=eQ q.1 (cA (S.rs.getD t .none));cases S.rs.getD t .none<;>rfl] at this
   exact this))
  have hi:i<ops.size:=by
   have:i∈List.range ops.size:=by rw[hl];simp
   exact bP.1 this
  have hb:=bJ.1 XL i (bP.2 hi);rw[ho] at hb;simp only[kj,ix] at hb;have hp:=List.pairwise_lt_range (n:=ops.size);have uD:j∈List.range ops.size:=bP.2 (by omega);rw[hl,List.pairwise_append] at hp;obtain⟨_,fh,_⟩:=hp;rw[Vs] at fh;rw[hl,dy] at uD;simp only[tR];rcases uD with hm|hm
  ·exact hm
  ·rcases cD.1 hm with e|hm
   ·omega
   ·have:=fh.1 j hm;omega
 |true=>
  simp only[cond_true] at hr;cases ff:(zM ops&&Py ops&&C.P.follows .mixedOrders)<;>simp only[ff,cond_true,cond_false] at hr
  ·cases hr
  simp only[ao] at ff;have Ag:=ff.1.2
  replace ff:zM ops=true∧C.P.follows .mixedOrders=true:=⟨ff.1.1,ff.2⟩
  have h0:∀i,aw 0 i=false:=fun i=>by rw[sn];simp
  split at hr
  case h_1=>
   rename_i r jO;cases hr;generalize OM:oP (dH ops ops.size) ops.size=m at*;unfold WT at jO;rw[OM] at jO;have akx:m≤ops.size:=OM▸adG _ _;have Ai:∀i,m≤i→i<ops.size→∀j,j<i→aw ((dH ops ops.size).getD i 0) j=true:=OM▸adF _ _;rw[av] at jO;obtain⟨q,hq,jO⟩:=jO;cases uE:CP ops (pZ (q.map (·.2)) m) (dH ops ops.size) m<;>simp only[uE,cond_true,cond_false] at jO
   ·cases jO
   rw[aA] at jO;obtain⟨r1,iP,rfl⟩:=jO;refine wpIn_region_any ff.2 ?_
   have sR:vw ops 0=fun _=>False:=by
        funext t;apply propext;constructor
        ·rintro⟨i,o,h,_⟩;rw[h0] at h;cases h
        ·intro h;exact h.elim
   have hlen:(q.map (·.2)).length=m:=by rw[gT];exact(M8 hq).1
   have alC:rK ops 0=ops.size:=by
        unfold rK;have:((List.range ops.size).filter fun i=> !aw 0 i)=List.range ops.size:=List.filter_eq_self.2 fun i _=>by rw[h0];rfl
        rw[this,F3]
   have sK:(List.range m).filter (aw 0)=[]:=Lo.2 fun i _=>by rw[h0];simp
   simp only[oM,av] at ak;obtain⟨ρ1,hρ1,hρ2⟩:=ak;have Ok:=uE;unfold CP at Ok;rw[ao] at Ok;refine ahv (w0:=w0) (S:=S.st ids) hC be hΦ hY hn aB ff.1 akx hq uE Ai (ρ':=ρ1) (fun listed a' w' aK hl jR fG=>?_) ops.size 0 _ ρ a _ alC (fun j hj=>by rw[h0] at hj;cases hj) (fun j _ hj=>by rw[h0] at hj;cases hj) (by simp) (fun i=>?_) (.refl _ _) ?_ ?_
   ·refine arq hC be hΦ hY aB ff.1 Ok.2 Ai (ops.size-m) m listed (by omega) (bk _) aK hl (jR.size.trans hn) fG iP hρ2 (fun a2 w2 s2 g2=>hQ a2 w2 (jR.trans s2) (by
     have:=g2.snapF S.rs.length ids
     rw[show r1.1.snap S.rs.length ids=⟨vz (eQ r1.1) r1.1 S.rs (ops.toList.filterMap (·.dst)),ids.map fun j=>ij r1.1 (r1.1.o j)⟩ from by
      unfold St.snap;rw[FE fun t ht=>?_];rw[ML iP t (fun i o hi ho e=>ht (tQ.2 ⟨o,by simpa using gR ho,e⟩))]
      have e1:fu ops (q.map (·.1)) (List.range m) (S.st ids).r t=(S.st ids).r t:=FD fun i hi e=>by
        rw[av] at e;obtain⟨o,ho,hd⟩:=e;exact ht (tQ.2 ⟨o,by simpa using gR ho,hd⟩)
      show eQ _ (S.rs.getD t .none)=eQ _ (fu ops (q.map (·.1)) (List.range m) (S.st ids).r t);rw[e1];show _=eQ _ (cA (S.rs.getD t .none));cases S.rs.getD t .none<;>rfl] at this
     exact this))
   ·rw[h0];simp only[dU,ad3];split<;>rfl
   ·rw[sR,sK];exact hg.drew
   ·rw[←hlen,ac4];exact hρ1
  simp only[Xk,Snap.hard_eq,av,aA] at hr;obtain⟨X,hX,T,hT,rfl⟩:=hr;refine wpIn_mono (Q:=fun e a w=>(∀c,e≠.panic c)∧Q e a w) ?_ fun e a w h=>h.2;refine wpIn_region_any ff.2 ?_
  have sR:xW ops 0=fun _=>False:=by
   funext t;apply propext;constructor
   ·rintro⟨i,o,h,_⟩;rw[h0] at h;cases h
   ·intro h;exact h.elim
  have hlen:=adn hX;rw[F3] at hlen
  refine aqW (w0:=w0) hC be hΦ hY hn aB ff.1 (ρ':=ρ') Ag (fun c a w h=>h.1 c rfl) ops.size hT (fun a' w' jR fG=>⟨fun c e=>(by cases e),hQ a' w' jR (by
   have:=fG.snapF T.rs.length ids
   rw[show(T.stO ids).snap T.rs.length ids=⟨T.rs.map (eQ (T.stO ids)),ids.map fun j=>ij (T.stO ids) ((T.stO ids).o j)⟩ from by
        unfold St.snap;have:=FE (g:=eQ (T.stO ids)) (S:=T.stO ids) (rs:=T.rs) (ds:=[]) (fun t _=>rfl);rw[←this];rfl] at this
   exact this)⟩) 0 _ (qx.2 rfl) _ ρ a _ (by simp) (fun i=>?_) (.refl _ _) ?_ ?_
  ·rw[h0];simp only[dU,ad3];split<;>rfl
  ·rw[sR];have:=(hg.drew).snapO S.rs.length ids
   rw[show(S.st ids).snapO S.rs.length ids=⟨S.rs.map fun s=>kW (S.st ids) (cA s),ids.map fun j=>ij (S.st ids) ((S.st ids).o j)⟩ from by
        unfold St.snapO
        have:=FE (g:=fun s=>kW (S.st ids) (cA s)) (S:=S.st ids) (rs:=S.rs) (ds:=[]) (fun t _=>by
         show kW _ (cA (S.rs.getD t .none))=kW _ (cA (cA (S.rs.getD t .none)));cases S.rs.getD t .none<;>rfl)
        have h2:(fun t=>kW (S.st ids) (cA ((S.st ids).r t)))=fun t=>kW (S.st ids) ((S.st ids).r t):=by
         funext t;show kW _ (cA (cA (S.rs.getD t .none)))=kW _ (cA (S.rs.getD t .none));cases S.rs.getD t .none<;>rfl
        rw[h2] at this;rw[←this];rfl] at this
   exact this
  ·rw[←hlen,ac4];exact ak
end
end Cx
