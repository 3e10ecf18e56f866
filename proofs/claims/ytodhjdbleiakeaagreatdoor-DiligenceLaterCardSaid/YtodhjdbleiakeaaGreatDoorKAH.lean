/-
  Regions: in the order of the text, and in every order that their edges allow.
-/
import Derived.Test.YtodhjdbleiakeaaGreatDoorKAG
import Derived.OrdersIn
set_option linter.unusedSimpArgs false
set_option linter.unusedVariables false
namespace Cx
open Go Go.RowKit
def jO (S:St):Sh→Sh
 |.opt gs s=>.opt gs (eK S s)
 |s=>eK S s
def St.snapO (n:Nat)(ids:List Nat)(S:St):Snap:=⟨(List.range n).map fun t=>jO S (S.r t),ids.map fun j=>gk S (S.o j)⟩
def Snap.stO (ids:List Nat)(s:Snap):St:=⟨fun t=>s.rs.getD t .none,fun j=>cX ids s.os j,fun _=>0⟩
theorem qH (S:St)(s:Sh):∀gs s',eK S s≠.opt gs s':=by
 intro gs s' e;cases s<;>simp only[eK] at e<;>first|cases e|(revert e;cases Nat.beq _ _<;>intro e<;>cases e)|(revert e;cases List.all _ _<;>intro e<;>cases e)
section
variable {C:Ctx} {S:St} {ρ:Env} {σ:Im} {own:Nat→Option Nat} {hv:Nat→Value} {w0:World} {σ0:Base} {A:Nat→Prop} {a:Act} {w:World} {n:Nat} {ids:List Nat} {Φ:aT}
theorem avq {s:Sh}{v:Value}{d:D}(h:aK C S ρ σ hv s v d){T:St}(hT:T.ver=fun _=>0):aK C T ρ σ hv (jO S s) v d:=by
 have hc:Compat S.norm hv T hv:=⟨fun j=>by rw[hT];exact Nat.zero_le _,fun _ _=>rfl⟩
 have key:∀s,aK C S ρ σ hv s v d→aK C T ρ σ hv (eK S s) v d:=fun s hs=>aK.mono' (.refl σ) hc (qH S s) (Hn hs).1;cases s with
 |opt gs s=>exact⟨fun hh=>key s (h.1 hh),h.2⟩
 |_=>exact key _ h
theorem Good.snapO (h:Good C w0 σ0 S ρ A a w)(n:Nat)(ids:List Nat):Good C w0 σ0 ((S.snapO n ids).stO ids) ρ A a w:=by
 obtain⟨σ,own,hv,h⟩:=h;have h1:=h.norm;have hc:Compat S.norm hv ((S.snapO n ids).stO ids) hv:=⟨fun _=>Nat.le_refl _,fun _ _=>rfl⟩
 refine⟨σ,own,hv,h.defers,h.ok,h.le,h.old,h.newc,h.newm,h.below,h.bw,h.owns,fun t=>?_,fun j=>?_,fun t gs s e=>?_,?_⟩
 rotate_right
 ·obtain⟨t,fx,cx,f1,f5⟩:=h.frame;refine⟨t,fx,cx,f1,fun j hj=>f5 j ?_⟩;exact uz (fun j=>gk S (S.o j)) (fun ob=>ob=.tr→S.o j=.tr) (fun e=>by cases e) j abD ids hj
 ·show aK C _ ρ σ hv (((List.range n).map fun t=>jO S (S.r t)).getD t .none) _ _;rw[List.getD_eq_getElem?_getD,List.getElem?_map];by_cases ht:t<n
  ·rw[List.getElem?_range ht];exact avq (h.regs t) rfl
  ·rw[List.getElem?_eq_none (by simpa using ht)];trivial
 ·have ho:=(h1.objs j).mono (.refl σ) hc (w:=w) (w':=w) rfl rfl (fun k hk=>⟨hk,rfl⟩);exact uz (fun j=>gk S (S.o j)) (fun ob=>bT C _ ρ σ own hv w w0.heap.size j ob) trivial j ho ids
 ·change ((List.range n).map fun t=>jO S (S.r t)).getD t .none=.opt gs s at e;rw[List.getD_eq_getElem?_getD,List.getElem?_map] at e;by_cases ht:t<n
  ·rw[List.getElem?_range ht] at e;simp only[Option.map_some,Option.getD_some] at e;cases hs:S.r t with
   |opt bC s'=>
    rw[hs] at e;simp only[jO,Sh.opt.injEq] at e;obtain⟨rfl,rfl⟩:=e;exact⟨(h.opts t bC s' hs).1,qH S s'⟩
   |none=>rw[hs] at e;exact absurd e (qH S .none gs s)
   |yv=>rw[hs] at e;exact absurd e (qH S .yv gs s)
   |fclo f c=>rw[hs] at e;exact absurd e (qH S (.fclo f c) gs s)
   |dat t=>rw[hs] at e;exact absurd e (qH S (.dat t) gs s)
   |obj t u=>rw[hs] at e;exact absurd e (qH S (.obj t u) gs s)
   |ptr t u v=>rw[hs] at e;exact absurd e (qH S (.ptr t u v) gs s)
   |eptr t u v x=>rw[hs] at e;exact absurd e (qH S (.eptr t u v x) gs s)
  ·rw[List.getElem?_eq_none (by simpa using ht)] at e;cases e
theorem Good.snapF (h:Good C w0 σ0 S ρ A a w)(n:Nat)(ids:List Nat):Good C w0 σ0 ((S.snap n ids).st ids) ρ (fun _=>False) a w:=by
 obtain⟨σ,own,hv,h⟩:=h;exact⟨σ,own,hv,h.snap n ids⟩
theorem Good.drew (h:Good C w0 σ0 S ρ A a w):Good C w0 σ0 S ρ A a {w with drawn:=w.drawn+1}:=by
 obtain⟨σ,own,hv,h⟩:=h;refine⟨σ,own,hv,h.defers,⟨fun k o v e=>h.ok.c k o v e,fun k es e=>h.ok.m k es e⟩,h.le,h.old,h.newc,h.newm,h.below.drew,h.bw,h.owns,h.regs,fun j=>?_,h.opts,?_⟩
 rotate_right
 ·obtain⟨t,fx,cx,f1,f2⟩:=h.frame;exact⟨t,fx,cx,⟨σ0.keep _ _ _ _ _ f1.F (Below.drew (.refl _ _)) (fun _ _=>rfl),f1.own,f1.c,f1.m,f1.d⟩,f2⟩
 exact(h.objs j).mono (.refl σ) (.refl S hv) rfl rfl (fun k hk=>⟨hk,rfl⟩)
end
def sK (g:Sh→Sh)(S:St)(rs:List Sh)(ds:List Nat):List Sh:=(ds.foldl (fun l d=>l.set d (S.r d)) rs).map g
theorem WX (S:St):∀(ds:List Nat) (rs:List Sh),(ds.foldl (fun l d=>l.set d (S.r d)) rs).length=rs.length∧∀t,t<rs.length→(ds.foldl (fun l d=>l.set d (S.r d)) rs).getD t .none=if t∈ds then S.r t else rs.getD t .none
 |[],rs=>⟨rfl,fun t _=>by simp⟩
 |d::ds,rs=>by
  obtain⟨h1,h2⟩:=WX S ds (rs.set d (S.r d));simp only[List.length_set] at h1 h2;refine⟨h1,fun t ht=>?_⟩;rw[List.foldl_cons,h2 t ht];simp only[List.mem_cons,List.getD_eq_getElem?_getD,List.getElem?_set];by_cases hm:t∈ds
  ·simp[hm]
  ·by_cases e:d=t
   ·subst e;simp[hm,ht]
   ·have e':¬t=d:=fun h=>e h.symm;simp[hm,e,e']
theorem Dx {g:Sh→Sh}{S:St}{rs:List Sh}{ds:List Nat}(h:∀t,t∉ds→g (rs.getD t .none)=g (S.r t)):sK g S rs ds=(List.range rs.length).map fun t=>g (S.r t):=by
 obtain⟨h1,h2⟩:=WX S ds rs;unfold sK;apply List.ext_getElem?;intro t;simp only[List.getElem?_map];by_cases ht:t<rs.length
 ·have:=h2 t ht;rw[List.getD_eq_getElem?_getD,List.getElem?_eq_getElem (by omega)] at this;rw[List.getElem?_eq_getElem (by omega),List.getElem?_range ht];simp only[Option.getD_some,Option.map_some] at this ⊢;rw[this];by_cases hm:t∈ds
  ·simp[hm]
  ·simp only[hm,if_false];rw[h t hm]
 ·rw[List.getElem?_eq_none (by omega),List.getElem?_eq_none (by simpa using ht)];rfl
def Sh.hd {α:Type}(s:Sh)(k:Sh→α):α:=
 match s with
 |.none=>k .none
 |.dat t=>k (.dat t)
 |.obj j v=>k (.obj j v)
 |.ptr j v o=>k (.ptr j v o)
 |.eptr j v z o=>k (.eptr j v z o)
 |.opt gs s=>k (.opt gs s)
 |.yv=>k .yv
 |.fclo f c=>k (.fclo f c)
theorem Sh.hd_eq {α:Type}(s:Sh)(k:Sh→α):s.hd k=k s:=by cases s<;>rfl
def wq {α:Type}:List Sh→(List Sh→α)→α
 |[],k=>k []
 |s::l,k=>s.hd fun s=>wq l fun l=>k (s::l)
theorem Ny {α:Type}:∀(l:List Sh) (k:List Sh→α),wq l k=k l
 |[],_=>rfl
 |s::l,k=>by rw[wq,Sh.hd_eq,Ny l]
def Ob.hd {α:Type}(s:Ob)(k:Ob→α):α:=
 match s with
 |.dead=>k .dead
 |.fz t=>k (.fz t)
 |.fbox t=>k (.fbox t)
 |.box true l=>wq l fun l=>k (.box true l)
 |.box false l=>wq l fun l=>k (.box false l)
 |.row T e=>k (.row T e)
 |.mp a b=>k (.mp a b)
 |.it a b=>k (.it a b)
 |.tr=>k .tr
theorem Ob.hd_eq {α:Type}(s:Ob)(k:Ob→α):s.hd k=k s:=by
 cases s with
 |box ag l=>cases ag<;>simp only[Ob.hd,Ny]
 |_=>rfl
def Gd {α:Type}:List Ob→(List Ob→α)→α
 |[],k=>k []
 |s::l,k=>s.hd fun s=>Gd l fun l=>k (s::l)
theorem Xl {α:Type}:∀(l:List Ob) (k:List Ob→α),Gd l k=k l
 |[],_=>rfl
 |s::l,k=>by rw[Gd,Ob.hd_eq,Xl l]
def Snap.hard {α:Type}(s:Snap)(k:Snap→α):α:=wq s.rs fun a=>Gd s.os fun b=>k ⟨a,b⟩
theorem Snap.hard_eq {α:Type}(s:Snap)(k:Snap→α):s.hard k=k s:=by rw[Snap.hard,Ny,Xl]
def Ge {α β:Type}:List β→(List β→α)→α
 |[],k=>k []
 |s::l,k=>Ge l fun l=>k (s::l)
theorem Xn {α β:Type}:∀(l:List β) (k:List β→α),Ge l k=k l
 |[],_=>rfl
 |s::l,k=>by rw[Ge,Xn l]
def AT {α β:Type}:List (List β)→(List (List β)→α)→α
 |[],k=>k []
 |s::l,k=>Ge s fun s=>AT l fun l=>k (s::l)
theorem Xm {α β:Type}:∀(l:List (List β)) (k:List (List β)→α),AT l k=k l
 |[],_=>rfl
 |s::l,k=>by rw[AT,Xn,Xm l]
def aH (P:Program){α:Type}(s:Sem α):Prop:=(∃a,∀w,s.run P w=.ok a w)∨∀w,∃h w',s.run P w=.halt h w'
section
variable {P:Program}
theorem aH.pure {α:Type}(a:α):aH P (Sem.pure a):=.inl ⟨a,fun w=>rfl⟩
theorem aH.pure' {α:Type}(a:α):aH P (Pure.pure a:Sem α):=.inl ⟨a,fun w=>rfl⟩
theorem aH.halt {α:Type}(h:Halt):aH P (Sem.halt h:Sem α):=.inr fun w=>⟨h,w,rfl⟩
theorem aH.bind' {α β:Type}{s:Sem α}{f:α→Sem β}(h:aH P s)(hf:∀a,(∀w,s.run P w=.ok a w)→aH P (f a)):aH P (s>>=f):=by
 rcases h with⟨a,ha⟩|hd
 ·rcases hf a ha with⟨b,hb⟩|hd
  ·exact .inl ⟨b,fun w=>by rw[Sem.run_bind,ha w];exact hb w⟩
  ·refine .inr fun w=>?_;obtain⟨x,w',e⟩:=hd w;exact⟨x,w',by rw[Sem.run_bind,ha w];exact e⟩
 ·refine .inr fun w=>?_;obtain⟨x,w',e⟩:=hd w;exact⟨x,w',by rw[Sem.run_bind,e];rfl⟩
theorem aH.bind {α β:Type}{s:Sem α}{f:α→Sem β}(h:aH P s)(hf:∀a,aH P (f a)):aH P (s>>=f):=h.bind' fun a _=>hf a
def bS {α:Type}(s:Sem α):Prop:=∀P w,∃h w',s.run P w=.halt h w'
theorem bS.noW {α:Type}{s:Sem α}(h:bS s):aH P s:=.inr (h P)
theorem bS.halt {α:Type}(h:Halt):bS (Sem.halt h:Sem α):=fun P w=>⟨h,w,rfl⟩
theorem bS.of_bind {α β:Type}{s:Sem α}{f:α→Sem β}(hf:∀a,bS (f a)):bS (s>>=f):=by
 intro P w;rw[Sem.run_bind];cases e:s.run P w with
 |ok a w'=>exact hf a P w'
 |halt h w'=>exact⟨h,w',rfl⟩
theorem aH.asBool (v:Value):aH P (Go.asBool v):=by
 cases v<;>first|exact .pure _|exact .halt _
theorem aH.asIntOf (v:Value):aH P (Go.asIntOf v):=by
 unfold Go.asIntOf;split<;>first|exact .pure _|exact .halt _
theorem aH.sureAddr (v:Value):aH P (Instr.sureAddr v):=by
 unfold Instr.sureAddr;split<;>first|exact .pure _|exact .halt _
theorem aH.prog:aH P Go.program:=.inl ⟨P,fun w=>rfl⟩
theorem aH.underlying (t:TypeId):aH P (Go.underlying t):=by
 unfold Go.underlying;refine .bind .prog fun p=>?_;split<;>first|exact .pure _|exact .halt _
theorem aH.sizeOf (t:TypeId):aH P (Go.sizeOf t):=by
 unfold Go.sizeOf Go.typeInfo;refine .bind (.bind .prog fun p=>?_) fun _=>.pure _;split<;>first|exact .pure _|exact .halt _
theorem bS.runtimePanic {α:Type}(e:RuntimeError):bS (Go.runtimePanic e:Sem α):=by
 unfold Go.runtimePanic;refine .of_bind fun p=>?_;cases e<;>first|exact .halt _|exact .of_bind fun _=>.halt _|exact .of_bind fun _=>.of_bind fun _=>.halt _
theorem bS.boundsPanic {α:Type}(k:IntKind)(x y:Int)(c:BoundsCode):bS (Go.boundsPanic k x y c:Sem α):=by
 unfold Go.boundsPanic;dsimp only;split<;>exact .of_bind fun _=>.runtimePanic _
theorem aH.indexAt (t:TypeId)(x i:Value):aH P (Instr.indexAt t x i):=by
 unfold Instr.indexAt
 repeat' (first|(first|exact aH.pure _|exact aH.pure' _|exact aH.halt _|exact bS.noW (bS.boundsPanic _ _ _ _)|exact bS.noW (bS.runtimePanic _)|exact aH.prog|exact aH.underlying _|exact aH.sizeOf _|exact aH.asIntOf _|exact aH.sureAddr _|exact aH.asBool _)|(refine aH.bind ?_ fun _=>?_)|dsimp only|split)
theorem aH.sliceBound (x:Value)(y:Nat)(c:BoundsCode):aH P (Instr.sliceBound x y c):=by
 unfold Instr.sliceBound
 repeat' (first|(first|exact aH.pure _|exact aH.pure' _|exact aH.halt _|exact bS.noW (bS.boundsPanic _ _ _ _)|exact bS.noW (bS.runtimePanic _)|exact aH.prog|exact aH.underlying _|exact aH.sizeOf _|exact aH.asIntOf _|exact aH.sureAddr _|exact aH.asBool _)|(refine aH.bind ?_ fun _=>?_)|dsimp only|split)
theorem aH.sliceBounds (b:Bool)(n m:Nat)(lo hi mx:Option Value):aH P (Instr.sliceBounds b n m lo hi mx):=by
 unfold Instr.sliceBounds
 repeat' (first|exact aH.sliceBound _ _ _|(first|exact aH.pure _|exact aH.pure' _|exact aH.halt _|exact bS.noW (bS.boundsPanic _ _ _ _)|exact bS.noW (bS.runtimePanic _)|exact aH.prog|exact aH.underlying _|exact aH.sizeOf _|exact aH.asIntOf _|exact aH.sureAddr _|exact aH.asBool _)|(refine aH.bind ?_ fun _=>?_)|dsimp only|split)
theorem aH.asAddr (v:Value):aH P (Go.asAddr v):=by
 unfold Go.asAddr
 repeat' (first|(first|exact aH.pure _|exact aH.pure' _|exact aH.halt _|exact bS.noW (bS.boundsPanic _ _ _ _)|exact bS.noW (bS.runtimePanic _)|exact aH.prog|exact aH.underlying _|exact aH.sizeOf _|exact aH.asIntOf _|exact aH.sureAddr _|exact aH.asBool _)|(refine aH.bind ?_ fun _=>?_)|dsimp only|split)
theorem aH.slice (t:TypeId)(x:Value)(lo hi mx:Option Value):aH P (Instr.slice t x lo hi mx):=by
 unfold Instr.slice
 repeat' (first|exact aH.sliceBounds _ _ _ _ _ _|exact aH.asAddr _|(first|exact aH.pure _|exact aH.pure' _|exact aH.halt _|exact bS.noW (bS.boundsPanic _ _ _ _)|exact bS.noW (bS.runtimePanic _)|exact aH.prog|exact aH.underlying _|exact aH.sizeOf _|exact aH.asIntOf _|exact aH.sureAddr _|exact aH.asBool _)|(refine aH.bind ?_ fun _=>?_)|dsimp only|split)
theorem aH.sliceAt (t:TypeId)(x:Value)(lo hi mx:Option Value):aH P (Instr.sliceAt t x lo hi mx):=by
 unfold Instr.sliceAt
 repeat' (first|exact aH.sliceBounds _ _ _ _ _ _|exact aH.slice _ _ _ _ _|(first|exact aH.pure _|exact aH.pure' _|exact aH.halt _|exact bS.noW (bS.boundsPanic _ _ _ _)|exact bS.noW (bS.runtimePanic _)|exact aH.prog|exact aH.underlying _|exact aH.sizeOf _|exact aH.asIntOf _|exact aH.sureAddr _|exact aH.asBool _)|(refine aH.bind ?_ fun _=>?_)|dsimp only|split)
def Sp (P:Program)(s:TypeId)(i:Nat):Bool:=
 match P.underlying s with
 |some (.struct fs)=>(match fs[i]? with
  |some f=>(match P.info? f.type with|some d=> !Nat.beq d.size 0|none=>false)
  |none=>false)
 |_=>false
theorem aH.fieldAt {s:TypeId}{i:Nat}(h:Sp P s i=true)(a:Value):aH P (Instr.fieldAt s a i):=by
 unfold Instr.fieldAt;refine .bind' (.underlying _) fun d hd=>?_;have hu:P.underlying s=some d:=by
  have:=hd default;unfold Go.underlying at this;rw[Sem.run_bind] at this;change Result.andThen (.ok P default) _=_ at this;simp only[Result.andThen_ok] at this;cases hp:P.underlying s with
  |none=>rw[hp] at this;cases this
  |some d'=>
   rw[hp] at this;change Result.ok d' default=_ at this;cases this;rfl
 unfold Sp at h;rw[hu] at h;cases d<;>dsimp only at h ⊢<;>try (first|exact aH.pure _|exact aH.pure' _|exact aH.halt _|exact bS.noW (bS.boundsPanic _ _ _ _)|exact bS.noW (bS.runtimePanic _)|exact aH.prog|exact aH.underlying _|exact aH.sizeOf _|exact aH.asIntOf _|exact aH.sureAddr _|exact aH.asBool _)
 rename_i fs;cases hf:fs[i]? with
 |none=>dsimp only;(first|exact aH.pure _|exact aH.pure' _|exact aH.halt _|exact bS.noW (bS.boundsPanic _ _ _ _)|exact bS.noW (bS.runtimePanic _)|exact aH.prog|exact aH.underlying _|exact aH.sizeOf _|exact aH.asIntOf _|exact aH.sureAddr _|exact aH.asBool _)
 |some f=>
  rw[hf] at h;dsimp only at h ⊢;refine .bind (.sureAddr _) fun a=>.bind ?_ fun _=>.pure _;unfold Go.fieldPlace;refine .bind' (.sizeOf _) fun n hn=>?_;have hz:n≠0:=by
   intro e;have:=hn default;unfold Go.sizeOf Go.typeInfo at this;cases hi:P.info? f.type with
   |none=>rw[hi] at h;cases h
   |some inf=>
    rw[hi] at h;rw[Sem.run_bind,Sem.run_bind] at this;change Result.andThen (Result.andThen (.ok P default) _) _=_ at this;simp only[Result.andThen_ok,hi] at this;change Result.ok inf.size default=_ at this;cases this;dsimp only at h;rw[e] at h;cases h
  rw[if_neg hz]
  (first|exact aH.pure _|exact aH.pure' _|exact aH.halt _|exact bS.noW (bS.boundsPanic _ _ _ _)|exact bS.noW (bS.runtimePanic _)|exact aH.prog|exact aH.underlying _|exact aH.sizeOf _|exact aH.asIntOf _|exact aH.sureAddr _|exact aH.asBool _)
def B9 (P:Program):Op→Bool
 |.move _=>true
 |.assign _=>true
 |.pick ..=>true
 |.fieldAddr s _ i=>Sp P s i
 |.indexAddr ..=>true
 |.slice ..=>true
 |_=>false
theorem awJ {o:Oper}(hp:B9 P o.op=true)(ρ:Operand→Value):(∃v,∀w,(execOp ρ o).run P w=.ok (.value v) w)∨∀w,∃h w',(execOp ρ o).run P w=.halt h w':=by
 have key:∀s:Sem Value,aH P s→(∃v,∀w,(do Pure.pure (Next.value (←s)):Sem Next).run P w=.ok (.value v) w)∨∀w,∃h w',(do Pure.pure (Next.value (←s)):Sem Next).run P w=.halt h w':=by
  intro s hs;rcases hs with⟨a,ha⟩|hd
  ·exact .inl ⟨a,fun w=>by rw[Sem.run_bind,ha w];rfl⟩
  ·refine .inr fun w=>?_;obtain⟨x,w',e⟩:=hd w;exact⟨x,w',by rw[Sem.run_bind,e];rfl⟩
 obtain⟨dst,op,type,pos,after,guard⟩:=o;cases op<;>first|(cases hp;done)|skip
 case move x=>exact .inl ⟨_,fun w=>rfl⟩
 case assign x=>exact .inl ⟨_,fun w=>rfl⟩
 case pick c a b=>
  have:=key (do Pure.pure (if←Go.asBool (ρ c) then ρ a else ρ b)) (.bind (.asBool _) fun _=>.pure _);simp only[execOp];rcases aH.asBool (P:=P) (ρ c) with⟨t,ht⟩|hd
  ·exact .inl ⟨_,fun w=>by rw[Sem.run_bind,ht w];rfl⟩
  ·refine .inr fun w=>?_;obtain⟨x,w',e⟩:=hd w;exact⟨x,w',by rw[Sem.run_bind,e];rfl⟩
 case fieldAddr s x i=>exact key _ (.fieldAt hp _)
 case indexAddr t x i=>exact key _ (.indexAt _ _ _)
 case slice t x lo hi mx=>exact key _ (.sliceAt _ _ _ _ _)
theorem awK {rd:Option Nat}{ops:Array Oper}{i:Nat}{o:Oper}{a:Act}{w:World}{K:Act→World→Prop}(hi:ops[i]?=some o)(hp:B9 P o.op=true)
 (h:wpOpIn (FR rd) 0 P ops (fun _ _ _=>False) i K a w):∃v,YieldsFenced P ops o v a∧K (a.put o.dst v) w:=by
 have bh:∀c,o.op≠.defer c:=fun c e=>by rw[e] at hp;cases hp
 have wj:∀w,o.about P w a.eval=none:=fun w=>by
  unfold Oper.about;cases ho:o.op<;>first|rfl|(rw[ho] at hp;cases hp)
 unfold wpOpIn at h;rw[hi] at h;dsimp only at h;cases hw:Region.wanted o (yielded ops a.tmps) with
 |false=>
  rw[hw] at h;exact⟨undef,⟨.inr ⟨hw,rfl⟩,wj⟩,h.2⟩
 |true=>
  rw[hw,if_pos rfl] at h;have h2:=h.2;rw[Oper.semAt_eq _ _ _ bh] at h2;rcases awJ hp a.eval with⟨v,hv⟩|hd
  ·rw[hv w] at h2;exact⟨v,⟨.inl ⟨hw,hv⟩,wj⟩,h2⟩
  ·obtain⟨x,w',e⟩:=hd w;rw[e] at h2;cases x<;>exact h2.elim
section
variable {F:Fence} {n:Nat} {ops:Array Oper} {Q:Exit→Act→World→Prop} {md:Region.Mode}
theorem YF.wpOpIn {i:Nat}{o:Oper}{v:Value}{a:Act}(bh:mS o.op=true)(hi:ops[i]?=some o)(hy:YieldsFenced P ops o v a)
 {K:Act→World→Prop} {w:World} (h:K (a.put o.dst v) w):wpOpIn F n P ops Q i K a w:=by
 have iK:∀c,o.op≠.defer c:=fun c e=>by rw[e] at bh;cases bh
 unfold Go.wpOpIn;simp only[hi];have wj:∀f,o.about P w a.eval=some f→F.fn f:=fun f hf=>by rw[hy.2 w] at hf;cases hf
 rcases hy.1 with⟨hw,hv⟩|⟨hw,rfl⟩
 ·simp only[hw,if_true,Oper.wpIn,Oper.semAt_eq _ _ _ iK,hv w,Oper.uponIn];exact⟨wj,h⟩
 ·simp only[hw,Bool.false_eq_true,if_false];exact⟨wj,h⟩
theorem aA6 {j:Nat}{oi oj:Oper}{v:Value}(bh:mS oj.op=true)(hj:ops[j]?=some oj)(Nx:oi.apart ops oj=true)
 (OH:∀cs b,oi.op≠.select cs b) (hsj:∀cs b,oj.op≠.select cs b)
 (hQ:∀c a w,Q (.panic c) (a.put oi.dst v) w→Q (.panic c) a w) {K:Act→World→Prop} {a:Act} {w:World}
 (hy:YieldsFenced P ops oi v a) (h:wpOpIn F n P ops Q j K (a.put oi.dst v) w):
 wpOpIn F n P ops Q j (fun a' w'=>YieldsFenced P ops oi v a'∧K (a'.put oi.dst v) w') a w:=by
 have iK:∀c,oj.op≠.defer c:=fun c e=>by rw[e] at bh;cases bh
 obtain⟨h1,h2,h3⟩:=Oper.apart_spec Nx;have keep:∀(a:Act),YieldsFenced P ops oi v a→∀u,YieldsFenced P ops oi v (a.put oj.dst u):=fun a hy u=>
  hy.of_same (execOp_put oi OH a oj.dst u h3) (wanted_put oi a oj.dst u h3) (fun w=>about_put oi w a oj.dst u h3)
 have atr:∀d,YieldsFenced P ops oi v {a with defers:=d::a.defers}:=fun d=>hy.of_same rfl rfl (fun _=>rfl);unfold Go.wpOpIn at*;simp only[hj] at*;rw[wanted_put oj a oi.dst v h1,about_put oj w a oi.dst v h1] at h;split
 ·rename_i hw;simp only[hw,if_true] at h;unfold Oper.wpIn at*;rw[about_put oj w a oi.dst v h1] at h;refine⟨h.1,?_⟩;have h:=h.2;rw[Oper.semAt_eq _ _ _ iK,execOp_put oj hsj a oi.dst v h1] at h;rw[Oper.semAt_eq _ _ _ iK];generalize (execOp a.eval oj).run P w=r at*;cases r with
  |ok x w'=>
   cases x<;>simp only[Oper.uponIn] at h ⊢
   case value u=>exact⟨keep a hy u,by rw[←Act.put_comm a v u h2];exact h⟩
   case skip=>exact⟨keep a hy _,by rw[←Act.put_comm a v undef h2];exact h⟩
   case defer d=>
        refine⟨keep _ (atr d) _,?_⟩;rw[←Act.put_comm _ v undef h2,←Act.put_defers];exact h
   case enter f args=>
        refine⟨h.1,CallsIn.mono h.2 fun e jy he=>?_⟩;cases e with
        |returned u=>exact⟨keep a hy u,by rw[←Act.put_comm a v u h2];exact he⟩
        |panicked c=>exact hQ _ _ _ he
        |outgrown=>exact he
   case row row args=>exact⟨h.1,RowsIn.mono h.2 fun u jy he=>⟨keep a hy u,by rw[←Act.put_comm a v u h2];exact he⟩⟩
   case round l f tmps assign body=>
        refine⟨h.1,RoundIn.mono h.2 fun e jy he=>?_⟩;cases e with
        |returned u=>exact⟨keep a hy u,by rw[←Act.put_comm a v u h2];exact he⟩
        |panicked c=>exact hQ _ _ _ he
        |outgrown=>exact he
  |halt x w'=>
   cases x<;>simp only[Oper.uponIn] at h ⊢
   case panic u=>exact hQ _ _ _ h
 ·rename_i hw;simp only[hw] at h;exact⟨h.1,keep a hy _,by rw[←Act.put_comm a v undef h2];exact h.2⟩
theorem aA5 {i:Nat}{oi:Oper}{v:Value}(bh:∀(j:Nat) (o:Oper),ops[j]?=some o→mS o.op=true)(hi:ops[i]?=some oi)(wN:∀(j:Nat) (o:Oper) cs b,ops[j]?=some o→o.op≠.select cs b)
 (hQ:∀c a w,Q (.panic c) (a.put oi.dst v) w→Q (.panic c) a w):
 ∀(fuel:Nat) (listed:Array Bool) (a:Act) (w:World),
  (∀j oj,ops[j]?=some oj→j≠i→listed.getD j true=false→(∀e∈oj.after,Region.binds md e=true→e.on≠i)→oi.apart ops oj=true)→
  i∈Region.ready md ops listed→YieldsFenced P ops oi v a→
  wpAnyIn F n P md ops Q fuel (listed.setIfInBounds i true) (a.put oi.dst v) w→wpAnyIn F n P md ops Q (fuel+1) listed a w:=by
 intro fuel
 induction fuel with
 |zero=>
  intro listed a w _ hr hy H;refine⟨fun h=>(by rw[h] at hr;cases hr),fun j hj=>?_⟩;by_cases ga:j=i
  ·subst ga;exact YF.wpOpIn (bh _ _ hi) hi hy H
  ·have:=ready_mono hj ga;rw[H.1] at this;cases this
 |succ fuel ih=>
  intro listed a w lM hr hy H;refine⟨fun h=>(by rw[h] at hr;cases hr),fun j hj=>?_⟩;by_cases ga:j=i
  ·subst ga;exact YF.wpOpIn (bh _ _ hi) hi hy H
  ·have h1:=H.2 j (ready_mono hj ga);obtain⟨XR,oj,pf,aP⟩:=mem_ready.1 hj
   have Oe:∀e∈oj.after,Region.binds md e=true→e.on≠i:=fun e he hb heq=>by
        have h1:=aP e he hb;have h0:=(mem_ready.1 hr).1;rw[heq] at h1;rcases Nat.lt_or_ge i listed.size with h'|h'
        ·simp[h'] at h0 h1;rw[h0] at h1;cases h1
        ·simp[Array.getElem?_eq_none h'] at h1
   have h2:=aA6 (bh _ _ pf) pf (lM j oj pf ga XR Oe) (fun cs b=>wN i oi cs b hi) (fun cs b=>wN j oj cs b pf) hQ hy h1;have arh:∀k ok,ops[k]?=some ok→k≠i→(listed.setIfInBounds j true).getD k true=false→
    (∀e∈ok.after,Region.binds md e=true→e.on≠i)→oi.apart ops ok=true:=fun k ok hk hki lT dy=>by
        refine lM k ok hk hki ?_ dy;by_cases Gv:j=k
        ·subst Gv;exact XR
        ·rw[getD_set_ne true Gv] at lT;exact lT
   refine wpOpIn_mono (fun a' w' h3=>ih (listed.setIfInBounds j true) a' w' arh (ready_mono hr (Ne.symm ga)) h3.1 ?_) h2;rw[Array.setIfInBounds_comm _ _ ga];exact h3.2
end
end
def p5 (P:Program)(ops:Array Oper):List (Option (List Nat)):=(List.range ops.size).map fun i=>match ops[i]? with
 |some oi=>bif B9 P oi.op then some ((List.range ops.size).filter fun j=> !(Nat.beq j i||(match ops[j]? with|some oj=>(oj.after.toList.any fun e=>Region.binds .any e&&Nat.beq e.on i)||oi.apart ops oj|none=>true))) else none
 |none=>none
def yi (bad:List (Option (List Nat)))(E:Nat):List Nat→Option Nat
 |[]=>none
 |i::l=>match bad.getD i none with
  |some b=>bif b.all (av E) then some i else yi bad E l
  |none=>yi bad E l
def PU (ops:Array Oper):Bool:=ops.toList.all fun o=>match o.op with|.select ..=>false|_=>true
theorem Lj {bad:List (Option (List Nat))}{E:Nat}:∀{l:List Nat} {i:Nat},yi bad E l=some i→i∈l∧∃b,bad.getD i none=some b∧b.all (av E)=true
 |[],_,h=>by cases h
 |i::l,j,h=>by
  unfold yi at h;split at h
  ·rename_i b hb;cases hc:b.all (av E) with
   |true=>
    rw[hc] at h;cases h;exact⟨List.mem_cons_self ..,b,hb,hc⟩
   |false=>
    rw[hc] at h;obtain⟨h1,h2⟩:=Lj h;exact⟨List.mem_cons_of_mem _ h1,h2⟩
  ·obtain⟨h1,h2⟩:=Lj h;exact⟨List.mem_cons_of_mem _ h1,h2⟩
theorem aiQ {P:Program}{ops:Array Oper}{i:Nat}{b:List Nat}(h:(p5 P ops).getD i none=some b):∃oi,ops[i]?=some oi∧B9 P oi.op=true∧
 ∀j oj,ops[j]?=some oj→j≠i→j∉b→(∀e∈oj.after,Region.binds .any e=true→e.on≠i)→oi.apart ops oj=true:=by
 unfold p5 at h;rw[List.getD_eq_getElem?_getD,List.getElem?_map] at h;by_cases hi:i<ops.size
 ·rw[List.getElem?_range hi] at h;simp only[Option.map_some,Option.getD_some] at h;rw[Array.getElem?_eq_getElem hi] at h;dsimp only at h;cases hp:B9 P ops[i].op<;>rw[hp] at h<;>simp only[cond_true,cond_false] at h
  ·cases h
  injection h with h
  refine⟨ops[i],Array.getElem?_eq_getElem hi,hp,fun j oj hj ga Gu dy=>?_⟩;have ah:j<ops.size:=(Array.getElem?_eq_some_iff.1 hj).1;rw[←h] at Gu;have h2:¬(!(Nat.beq j i||(match ops[j]? with|some oj=>(oj.after.toList.any fun e=>Region.binds .any e&&Nat.beq e.on i)||ops[i].apart ops oj|none=>true)))=true:=fun hc=>Gu (List.mem_filter.2 ⟨List.mem_range.2 ah,hc⟩);rw[hj,dR ga] at h2;simp only[Bool.false_or,Bool.not_eq_true',Bool.not_eq_false,Bool.or_eq_true] at h2;rcases h2 with h2|h2
  ·obtain⟨e,he,hb⟩:=List.any_eq_true.1 h2;rw[Bool.and_eq_true] at hb;exact absurd (cA hb.2) (dy e (by simpa using he) hb.1)
  ·exact h2
 ·rw[List.getElem?_eq_none (by simpa using hi)] at h;cases h
def BG (E:Nat)(T:Snap):List (Nat×Snap)→Option (List (Nat×Snap))
 |[]=>some [(E,T)]
 |x::l=>bif Nat.beq x.1 E then(bif x.2.beq T then some (x::l) else none) else(BG E T l).map (x::·)
def kq (ops:Array Oper)(E:Nat):List Nat:=
 (List.range ops.size).filter fun i=> !av E i&&(match ops[i]? with|some o=>o.after.toList.all fun e=> !Region.binds .any e||av E e.on|none=>false)
def Qx (C:Ctx)(ops:Array Oper)(n:Nat)(ids:List Nat)(X:List (List PI))(nc:List (List Nat))(E:Nat)(T:Snap)(i:Nat):Option (Nat×Snap):=
 match ops[i]? with
 |some o=>(nv C (T.stO ids) ops o).bind fun r=>
  bif PI.beqs r.2 (X.getD i [])&&(nc.getD i []).all (av E) then some (Nat.lor E (dq i),⟨sK (jO r.1) r.1 T.rs o.dst.toList,ids.map fun j=>gk r.1 (r.1.o j)⟩) else none
 |none=>none
def Dy (one:Nat→Option (Nat×Snap)):List Nat→List (Nat×Snap)→Option (List (Nat×Snap))
 |[],acc=>some acc
 |i::l,acc=>(one i).bind fun x=>x.2.hard fun T=>(BG x.1 T acc).bind fun acc=>Dy one l acc
def nq (ops:Array Oper)(bad:List (Option (List Nat)))(E:Nat):List Nat:=
 match yi bad E (kq ops E) with
 |some i=>[i]
 |none=>kq ops E
def BN (ops:Array Oper)(bad:List (Option (List Nat)))(one:Nat→Snap→Nat→Option (Nat×Snap)):List (Nat×Snap)→List (Nat×Snap)→Option (List (Nat×Snap))
 |[],acc=>some acc
 |x::l,acc=>
  match nq ops bad x.1 with
  |[]=>none
  |rs=>(Dy (one x.1 x.2) rs acc).bind fun acc=>BN ops bad one l acc
def Du (ops:Array Oper)(bad:List (Option (List Nat)))(one:Nat→Snap→Nat→Option (Nat×Snap)):Nat→List (Nat×Snap)→Option Snap
 |0,L=>
  match L with
  |[x]=>bif (List.range ops.size).all (av x.1) then some x.2 else none
  |_=>none
 |k+1,L=>(BN ops bad one L []).bind fun L=>Du ops bad one k L
theorem YC {E:Nat}{T:Snap}:∀{l l':List (Nat×Snap)},BG E T l=some l'→(E,T)∈l'∧∀x,x∈l→x∈l'
 |[],l',h=>by simp only[BG,Option.some.injEq] at h;subst h;simp
 |x::l,l',h=>by
  simp only[BG] at h;cases hb:Nat.beq x.1 E<;>simp only[hb,cond_true,cond_false] at h
  ·simp only[Option.map_eq_some_iff] at h;obtain⟨l2,h2,rfl⟩:=h;obtain⟨h3,h4⟩:=YC h2;exact⟨List.mem_cons_of_mem _ h3,fun y hy=>(List.mem_cons.1 hy).elim (fun e=>e▸List.mem_cons_self ..) fun hm=>List.mem_cons_of_mem _ (h4 y hm)⟩
  ·cases hs:x.2.beq T<;>simp only[hs,cond_true,cond_false] at h
   ·cases h
   ·cases h;refine⟨?_,fun y hy=>hy⟩;have e1:=cA hb;have e2:=Snap.beq_eq _ _ hs;subst e1;subst e2;simp
theorem afe {one:Nat→Option (Nat×Snap)}:∀{rs:List Nat} {acc yJ:List (Nat×Snap)},Dy one rs acc=some yJ→(∀x,x∈acc→x∈yJ)∧∀i,i∈rs→∃x,one i=some x∧x∈yJ
 |[],acc,yJ,h=>by simp only[Dy,Option.some.injEq] at h;subst h;simp
 |i::rs,acc,yJ,h=>by
  simp only[Dy,Snap.hard_eq,Option.bind_eq_some_iff] at h;obtain⟨x,hx,af8,h1,h2⟩:=h;obtain⟨h3,h4⟩:=YC h1;obtain⟨h5,h6⟩:=afe h2;refine⟨fun y hy=>h5 y (h4 y hy),fun j hj=>?_⟩;rcases List.mem_cons.1 hj with e|hm
  ·subst e;exact⟨x,hx,h5 _ h3⟩
  ·exact h6 j hm
theorem YV {ops:Array Oper}{bad:List (Option (List Nat))}{one:Nat→Snap→Nat→Option (Nat×Snap)}:∀{L acc L':List (Nat×Snap)},BN ops bad one L acc=some L'→
 (∀x,x∈acc→x∈L')∧∀x,x∈L→nq ops bad x.1≠[]∧∀i,i∈nq ops bad x.1→∃y,one x.1 x.2 i=some y∧y∈L'
 |[],acc,L',h=>by simp only[BN,Option.some.injEq] at h;subst h;simp
 |x::L,acc,L',h=>by
  simp only[BN] at h;split at h
  ·cases h
  ·rename_i aD;simp only[Option.bind_eq_some_iff] at h;obtain⟨af8,h1,h2⟩:=h;obtain⟨h3,h4⟩:=afe h1;obtain⟨h5,h6⟩:=YV h2;refine⟨fun y hy=>h5 y (h3 y hy),fun y hy=>?_⟩;rcases List.mem_cons.1 hy with e|hm
   ·subst e;refine⟨fun e=>aD e,fun i hi=>?_⟩;obtain⟨z,hz,hm⟩:=h4 i hi;exact⟨z,hz,h5 z hm⟩
   ·exact h6 y hm
def dP (X:List (List PI))(l:List Nat)(E:Nat):List PI:=l.flatMap fun i=>bif av E i then[] else X.getD i []
theorem R8 {X:List (List PI)}{E E':Nat}:∀(l:List Nat),(∀i,i∈l→av E i=av E' i)→dP X l E=dP X l E'
 |[],_=>rfl
 |i::l,h=>by
  have ih:=R8 (X:=X) l fun j hj=>h j (List.mem_cons_of_mem _ hj);unfold dP at ih ⊢;simp only[List.flatMap_cons];rw[ih,h i (List.mem_cons_self ..)]
theorem Foot.comm_each {a b:List PI}(h:(fZ a).comm (fZ b)=true):∀p q,p∈a→q∈b→Comm p q:=by
 simp only[Foot.comm,Bool.and_eq_true] at h;obtain⟨h1,h2,h3,h4,h5,h6⟩:=h;intro p q hp hq;obtain⟨p1,p2,p3,p4⟩:=WY hp;obtain⟨q1,q2,q3,q4⟩:=WY hq;exact⟨fun t x y=>Pd h1 (p1 t x) (q1 t y),fun t x y=>Pd h2 (p1 t x) (q3 t y),fun t x y=>Pd h3 (q1 t x) (p3 t y),fun t x y=>LU h4 (p2 t x) (q2 t y),fun t x y=>LU h5 (p2 t x) (q4 t y),fun t x y=>LU h6 (q2 t x) (p4 t y)⟩
def nW (X:List (List PI))(N:Nat):List (List Nat):=
 (List.range N).map fun i=>(List.range i).filter fun j=> !(fZ (X.getD j [])).comm (fZ (X.getD i []))
theorem gI (E i j:Nat):av (Nat.lor E (dq i)) j=(av E j||Nat.beq i j):=by
 rw[eA]
 congr 1
 rw[p8];show(1<<<i).testBit j=_;rw[Nat.testBit_shiftLeft];by_cases h:i=j
 ·subst h;simp
 ·have h1:Nat.beq i j=false:=dR h;rw[h1];by_cases h2:i≤j
  ·have:j-i≠0:=by omega
   cases hk:j-i with
   |zero=>omega
   |succ k=>
    have:(1:Nat).testBit (k+1)=false:=by simp[Nat.testBit_succ]
    simp[this]
  ·simp[h2]
theorem aeI {X:List (List PI)}{N E i:Nat}(hi:i<N)(hb:av E i=false)(db:((nW X N).getD i []).all (av E)=true)(Φ:aT)(ρ:Env):
 PI.runs Φ (dP X (List.range N) E) ρ=(PI.runs Φ (X.getD i []) ρ).bind (PI.runs Φ (dP X (List.range N) (Nat.lor E (dq i)))):=by
 obtain⟨l1,l2,hl⟩:=List.append_of_mem (List.mem_range.2 hi);have hp:=List.pairwise_lt_range (n:=N);rw[hl,List.pairwise_append] at hp;obtain⟨_,eF,hp3⟩:=hp;rw[List.pairwise_cons] at eF;have Zj:∀j,j∈l1→j<i:=fun j hj=>hp3 j hj i (List.mem_cons_self ..);have lt2:∀j,j∈l2→i<j:=fun j hj=>eF.1 j hj;have e0:∀E,dP X (l1++i::l2) E=dP X l1 E++((bif av E i then[] else X.getD i [])++dP X l2 E):=fun E=>by simp[dP]
 have e1:dP X l1 (Nat.lor E (dq i))=dP X l1 E:=R8 l1 fun j hj=>by
  rw[gI,dR (by have:=Zj j hj;omega),Bool.or_false]
 have e2:dP X l2 (Nat.lor E (dq i))=dP X l2 E:=R8 l2 fun j hj=>by
  rw[gI,dR (by have:=lt2 j hj;omega),Bool.or_false]
 have e3:av (Nat.lor E (dq i)) i=true:=by rw[gI,Nat.beq_refl,Bool.or_true]
 rw[hl,e0,e0,e1,e2,e3,hb];simp only[cond_true,cond_false,List.nil_append]
 have aqX:PI.runs Φ (dP X l1 E++X.getD i [])=PI.runs Φ (X.getD i []++dP X l1 E):=funext fun ρ=>PI.comms _ _ (fun p q hp hq=>by
  unfold dP at hp;obtain⟨j,hj,hp⟩:=List.mem_flatMap.1 hp;cases nG:av E j<;>simp only[nG,cond_true,cond_false] at hp
  case true=>cases hp
  have hc:(fZ (X.getD j [])).comm (fZ (X.getD i []))=true:=by
   cases gw:(fZ (X.getD j [])).comm (fZ (X.getD i [])) with
   |true=>rfl
   |false=>
    have mF:(nW X N).getD i []=(List.range i).filter fun j=> !(fZ (X.getD j [])).comm (fZ (X.getD i [])):=by
     unfold nW;rw[List.getD_eq_getElem?_getD,List.getElem?_map,List.getElem?_range hi];rfl
    rw[mF] at db;have:=List.all_eq_true.1 db j (List.mem_filter.2 ⟨List.mem_range.2 (Zj j hj),by rw[gw];rfl⟩);rw[nG] at this;cases this
  exact Foot.comm_each hc p q hp hq) ρ
 rw[←List.append_assoc,m8,aqX];have:=m8 (Φ:=Φ) (a:=X.getD i []) (b:=dP X l1 E) (ρ:=ρ);rw[this,Option.bind_assoc]
 congr 1
 funext ρ1;rw[m8]
def ew (C:Ctx)(ops:Array Oper):List Nat→St→Option (List (List PI))
 |[],_=>some []
 |i::l,S=>
  match ops[i]? with
  |some o=>(nv C S ops o).bind fun r=>(ew C ops l r.1).map fun q=>r.2::q
  |none=>none
def W6 (ops:Array Oper):Bool:=(List.range ops.size).all fun i=>match ops[i]? with
 |some o=>(match o.guard with|some (j,_)=>Nat.blt j i|none=>true)
 |none=>true
def we (ops:Array Oper):Bool:=ops.toList.all fun o=>match o.guard with
 |some (j,_)=>o.after.toList.any fun e=>Region.binds .any e&&Nat.beq e.on j
 |none=>true
def bu:Operand→List Nat
 |.tmp t=>[t]
 |_=>[]
def ym:Option Operand→List Nat
 |some x=>bu x
 |none=>[]
def kh:Op→List Nat
 |.move x=>bu x
 |.assign x=>bu x
 |.unOp _ _ x=>bu x
 |.convert _ _ x=>bu x
 |.load _ x=>bu x
 |.fieldAddr _ x _=>bu x
 |.field _ x _=>bu x
 |.extract x _=>bu x
 |.nilCheck x=>bu x
 |.pick c x y=>bu c++bu x++bu y
 |.binOp _ _ x y _=>bu x++bu y
 |.indexAddr _ x i=>bu x++bu i
 |.index _ x i=>bu x++bu i
 |.lookup _ m k _=>bu m++bu k
 |.slice _ x lo hi _=>bu x++ym lo++ym hi
 |.build _ ps=>ps.toList.flatMap fun p=>bu p.2
 |.call c=>(match c.callee with|.value x=>bu x|_=>[])++c.args.toList.flatMap bu
 |.store _ x v=>bu x++bu v
 |.mapUpdate _ m k v=>bu m++bu k++bu v
 |_=>[]
def F0 (ops:Array Oper)(o:Oper):List Nat:=
 match o.guard with
 |some (j,_)=>(match(ops[j]?).bind (·.dst) with|some t=>[t]|none=>[])
 |none=>[]
def St.withR (S:St)(f:Nat→Sh):St:=⟨f,S.o,S.ver⟩
section
variable {C:Ctx} {S:St} {f:Nat→Sh} {gs:List (Nat×Bool)} {dst:Nat}
theorem yd {t:Nat}(h:f t=S.r t):jY (S.withR f) gs t=jY S gs t:=by
 have e:(S.withR f).r t=S.r t:=h;unfold jY;rw[e]
theorem sH {x:Operand}(h:∀t,t∈bu x→f t=S.r t):fG (S.withR f) gs x=fG S gs x:=by
 cases x<;>first|rfl|exact yd (h _ (List.mem_singleton.2 rfl))
theorem dA {x:Operand}(h:∀t,t∈bu x→f t=S.r t):use C (S.withR f) gs x=use C S gs x:=by
 cases x<;>first|rfl|(unfold use;simp only;rw[yd (h _ (List.mem_singleton.2 rfl))];rfl)
theorem afC {x:Operand}(h:∀t,t∈bu x→f t=S.r t):view C (S.withR f) gs x=view C S gs x:=by
 unfold view;rw[dA h];cases x<;>first|rfl|(simp only;rw[yd (h _ (List.mem_singleton.2 rfl))];rfl)
theorem U8:∀{xs:List Operand},(∀t,t∈xs.flatMap bu→f t=S.r t)→kz C (S.withR f) gs xs=kz C S gs xs
 |[],_=>rfl
 |x::xs,h=>by
  simp only[kz]
  rw[dA fun t ht=>h t (List.mem_flatMap.2 ⟨x,List.mem_cons_self ..,ht⟩),U8 fun t ht=>by
   obtain⟨y,hy,qB⟩:=List.mem_flatMap.1 ht;exact h t (List.mem_flatMap.2 ⟨y,List.mem_cons_of_mem _ hy,qB⟩)]
theorem aAU {x:Option Operand}(h:∀t,t∈ym x→f t=S.r t):DK C (S.withR f) gs x=DK C S gs x:=by
 cases x with
 |none=>rfl
 |some x=>exact dA h
theorem aAS {e:PE}{x:Option Operand}(h:∀t,t∈ym x→f t=S.r t):DJ C (S.withR f) gs e x=DJ C S gs e x:=by
 cases x with
 |none=>rfl
 |some x=>exact dA h
theorem pz:∀{xs:List Operand},(∀t,t∈xs.flatMap bu→f t=S.r t)→bV (S.withR f) gs xs=bV S gs xs
 |[],_=>rfl
 |x::xs,h=>by
  simp only[bV]
  rw[sH fun t ht=>h t (List.mem_flatMap.2 ⟨x,List.mem_cons_self ..,ht⟩),pz fun t ht=>by
   obtain⟨y,hy,qB⟩:=List.mem_flatMap.1 ht;exact h t (List.mem_flatMap.2 ⟨y,List.mem_cons_of_mem _ hy,qB⟩)]
  rfl
theorem V1:∀(l:List Sh) (j i:Nat),p9 (S.withR f) j l i=p9 S j l i
 |[],_,_=>rfl
 |s::l,j,i=>by simp only[p9];rw[V1 l j (i+1)];rfl
theorem gX {P:Nat→Prop}{a b:List Nat}(h:∀t,t∈a++b→P t):(∀t,t∈a→P t)∧∀t,t∈b→P t:=
 ⟨fun t ht=>h t (List.mem_append_left _ ht),fun t ht=>h t (List.mem_append_right _ ht)⟩
theorem adn {x:Operand}(h:∀t,t∈bu x→f t=S.r t):nY C (S.withR f) gs dst x=nY C S gs dst x:=by
 unfold nY;rw[dA h];cases x<;>first|rfl|(simp only;rw[yd (h _ (List.mem_singleton.2 rfl))])
theorem av2 {c x y:Operand}(h:∀t,t∈bu c++bu x++bu y→f t=S.r t):xw C (S.withR f) gs dst c x y=xw C S gs dst c x y:=by
 obtain⟨h1,h3⟩:=gX h;obtain⟨h1,h2⟩:=gX h1;unfold xw;cases c<;>first|rfl|skip
 simp only;rw[yd (h1 _ (List.mem_singleton.2 rfl)),dA h2,dA h3]
theorem avD {op:BinOp}{T:TypeId}{x y:Operand}(h:∀t,t∈bu x++bu y→f t=S.r t):xj C (S.withR f) gs dst op T x y=xj C S gs dst op T x y:=by
 obtain⟨h1,h2⟩:=gX h;unfold xj;rw[dA h1,dA h2]
theorem av7 {op:UnOp}{x:Operand}(h:∀t,t∈bu x→f t=S.r t):xy C (S.withR f) gs dst op x=xy C S gs dst op x:=by unfold xy;rw[dA h]
theorem avH {s d:TypeId}{x:Operand}(h:∀t,t∈bu x→f t=S.r t):xl C (S.withR f) gs dst s d x=xl C S gs dst s d x:=by unfold xl;rw[dA h]
theorem avU {T:TypeId}{x:Operand}(h:∀t,t∈bu x→f t=S.r t):xr C (S.withR f) gs dst T x=xr C S gs dst T x:=by unfold xr;rw[afC h]
theorem adl {b:Bool}{x y:Operand}(h:∀t,t∈bu x++bu y→f t=S.r t):uJ C (S.withR f) gs dst b x y=uJ C S gs dst b x y:=by
 obtain⟨h1,h2⟩:=gX h;unfold uJ;rw[dA h1,dA h2]
theorem avW {T:TypeId}{x:Operand}(h:∀t,t∈bu x→f t=S.r t):sk C (S.withR f) gs dst T x=sk C S gs dst T x:=by
 unfold sk;rw[sH h,dA h];simp only[V1];rfl
theorem avL {T:TypeId}{x:Operand}{i:Nat}(h:∀t,t∈bu x→f t=S.r t):xo C (S.withR f) gs dst T x i=xo C S gs dst T x i:=by
 unfold xo;rw[sH h,dA h];rfl
theorem avN {T:TypeId}{x:Operand}{i:Nat}(h:∀t,t∈bu x→f t=S.r t):xn C (S.withR f) gs dst T x i=xn C S gs dst T x i:=by unfold xn;rw[dA h]
theorem avQ {T:TypeId}{x i:Operand}(h:∀t,t∈bu x++bu i→f t=S.r t):xq C (S.withR f) gs dst T x i=xq C S gs dst T x i:=by
 obtain⟨h1,h2⟩:=gX h;unfold xq;rw[dA h1,dA h2,sH h1];rfl
theorem avS {T:TypeId}{x i:Operand}(h:∀t,t∈bu x++bu i→f t=S.r t):xp C (S.withR f) gs dst T x i=xp C S gs dst T x i:=by
 obtain⟨h1,h2⟩:=gX h;unfold xp;rw[dA h1,dA h2]
theorem avJ {x:Operand}{i:Nat}(h:∀t,t∈bu x→f t=S.r t):xm C (S.withR f) gs dst x i=xm C S gs dst x i:=by unfold xm;rw[dA h]
theorem avY {T:TypeId}{m k:Operand}{ok:Bool}(h:∀t,t∈bu m++bu k→f t=S.r t):xt C (S.withR f) gs dst T m k ok=xt C S gs dst T m k ok:=by
 obtain⟨h1,h2⟩:=gX h;unfold xt;rw[afC h1,dA h2]
theorem av5 {T:TypeId}{x:Operand}{lo hi mx:Option Operand}(h:∀t,t∈bu x++ym lo++ym hi→f t=S.r t):xx C (S.withR f) gs dst T x lo hi mx=xx C S gs dst T x lo hi mx:=by
 obtain⟨h1,h3⟩:=gX h;obtain⟨h1,h2⟩:=gX h1;unfold xx;rw[dA h1];simp only[aAU h2,aAS h3]
theorem VS {zs:List Value}{parts:List (Nat×Operand)}(h:∀t,t∈(parts.flatMap fun p=>bu p.2)→f t=S.r t):∀(fs:List Field) (i off:Nat),jA C (S.withR f) gs zs parts fs i off=jA C S gs zs parts fs i off
 |[],_,_=>rfl
 |g::fs,i,off=>by
  simp only[jA,VS h fs];cases hp:parts.find? (fun p=>Nat.beq p.1 i) with
  |none=>rfl
  |some p=>
   have hu:use C (S.withR f) gs p.2=use C S gs p.2:=dA fun t ht=>h t (List.mem_flatMap.2 ⟨p,List.mem_of_find?_eq_some hp,ht⟩);simp only[hu]
theorem avF {T:TypeId}{ps:List (Nat×Operand)}(h:∀t,t∈(ps.flatMap fun p=>bu p.2)→f t=S.r t):xk C (S.withR f) gs dst T ps=xk C S gs dst T ps:=by
 unfold xk;simp only[VS h];split
 ·rfl
 ·split
  ·split
   ·rename_i x y;rw[dA (x:=x) fun t ht=>h t (by simp[ht]),dA (x:=y) fun t ht=>h t (by simp[ht])]
   ·rfl
  ·rfl
 ·rfl
theorem av0 {x:Operand}(h:∀t,t∈bu x→f t=S.r t):xu C (S.withR f) gs dst x=xu C S gs dst x:=by
 unfold xu;rw[dA h];cases x<;>first|rfl|(simp only;rw[yd (h _ (List.mem_singleton.2 rfl))];rfl)
def lH:Op→Bool
 |.move _|.pick ..|.binOp ..|.unOp ..|.convert ..|.load ..|.fieldAddr ..|.field ..|.indexAddr ..|.index ..|.extract ..|.lookup ..|.slice ..|.build ..|.nilCheck _|.makeInterface ..|.call _=>true
 |_=>false
theorem adp {op:Op}(hq:lH op=true)(h:∀t,t∈kh op→f t=S.r t):mT C (S.withR f) gs dst op=mT C S gs dst op:=by
 cases op<;>simp only[lH] at hq<;>simp only[kh] at h<;>simp only[mT]
 case move=>exact adn h
 case pick=>exact av2 h
 case binOp=>exact avD h
 case unOp=>exact av7 h
 case convert=>exact avH h
 case load=>exact avW h
 case fieldAddr=>exact avL h
 case field=>exact avN h
 case indexAddr=>exact avQ h
 case index=>exact avS h
 case extract=>exact avJ h
 case lookup=>exact avY h
 case slice=>exact av5 h
 case build=>exact avF h
 case nilCheck=>exact av0 h
 case call c=>
  obtain⟨_,h2⟩:=gX h;split
  ·rename_i x T _ ha _;exact avU fun t ht=>h2 t (by rw[ha];simp[ht])
  ·rename_i x y _ ha;exact adl fun t ht=>h2 t (by rw[ha];simpa using ht)
  ·rename_i x y _ ha;exact adl fun t ht=>h2 t (by rw[ha];simpa using ht)
  ·rfl
 all_goals (cases hq;done)
theorem awA {op:Op}(h:∀t,t∈kh op→f t=S.r t)(hq:lH op=true):sm (S.withR f) gs op=sm S gs op:=by
 cases op<;>simp only[lH] at hq<;>simp only[kh] at h<;>simp only[sm]
 case build T ps=>exact pz fun t ht=>h t (by
  obtain⟨x,hx,O2⟩:=List.mem_flatMap.1 ht;obtain⟨p,hp,rfl⟩:=List.mem_map.1 hx;exact List.mem_flatMap.2 ⟨p,hp,O2⟩)
 case pick c x y=>
  obtain⟨h1,h3⟩:=gX h;obtain⟨h1,h2⟩:=gX h1;refine pz fun t ht=>?_;simp only[List.flatMap_cons,List.flatMap_nil,List.append_nil,List.mem_append] at ht;exact ht.elim (h2 t) (h3 t)
 case slice T x lo hi mx=>
  obtain⟨h1,h3⟩:=gX h;obtain⟨h1,h2⟩:=gX h1;exact pz fun t ht=>h1 t (by simpa using ht)
 all_goals first|rfl|(cases hq;done)
theorem awB {op:Op}(h:∀t,t∈kh op→f t=S.r t)(hq:lH op=true):pre C (S.withR f) gs op=pre C S gs op:=by
 have ua:=hq;cases op<;>simp only[lH] at hq<;>simp only[pre,awA h ua]
 case load T x=>simp only[kh] at h;rw[sH h];rfl
 all_goals first|(cases hq;done)|skip
theorem aqj {ops:Array Oper}{o:Oper}(h:∀t,t∈F0 ops o→f t=S.r t):nF (S.withR f) ops o=nF S ops o:=by
 unfold nF;cases hg:o.guard with
 |none=>rfl
 |some jw=>
  obtain⟨j,want⟩:=jw;simp only;cases ht:(ops[j]?).bind (·.dst) with
  |none=>rfl
  |some t=>
   simp only;have:(S.withR f).r t=S.r t:=h t (by unfold F0;rw[hg];simp[ht]);rw[this]
end
def AF (C:Ctx)(S:St)(gs:List (Nat×Bool))(dst:Nat)(op:Op):Option (Sh×List PI):=
 match op with
 |.assign x=>
  match gs with
  |[]=>bif C.fr.any (Nat.beq dst)&&(bV S [] [x]).isEmpty then(match nY C S [] dst x with|some r=>bif lW r.1 then some r else none|none=>none) else none
  |_=>none
 |.call c=>
  match mT C S gs dst (.call c) with
  |some r=>bif px r.1&&gL gs (some dst) r.2 then some (gK gs r.1,r.2) else none
  |none=>
   bif (bV S gs c.args.toList).isEmpty then
    match c.callee with
    |.value (.func f)=>(match nz C S gs dst f c.args.toList with|some r=>bif gL gs (some dst) r.2.2 then some (gK gs r.2.1,r.2.2) else none|none=>none)
    |.value x=>(match my C S gs dst x c.args.toList with|some r=>bif gL gs (some dst) r.2.2 then some (gK gs r.2.1,r.2.2) else none|none=>none)
    |_=>none
   else none
 |op=>bif lH op&&(pre C S gs op).isEmpty then(match mT C S gs dst op with|some r=>bif px r.1&&gL gs (some dst) r.2 then some (gK gs r.1,r.2) else none|none=>none) else none
def AG (C:Ctx)(S:St)(gs:List (Nat×Bool))(op:Op):Option (List PI):=
 match op,gs with
 |.store T x v,[]=>
  match fG S [] x with
  |.eptr ..=>bif (bV S [] [v]).isEmpty then(rk C S T x v).map (·.2) else none
  |_=>none
 |.mapUpdate T m k v,[]=>bif (bV S [] [k,v]).isEmpty then(qd C S T m k v).map (·.2) else none
 |.panic _,[]=>some [.chk (.nt (.con (.bool true)))]
 |_,_=>none
def ru (C:Ctx)(S:St)(ops:Array Oper)(o:Oper):Option (Sh×List PI):=
 match C.yl with
 |some _=>none
 |none=>(nF S ops o).bind fun gs=>
  match o.dst with
  |some dst=>AF C S gs dst o.op
  |none=>(AG C S gs o.op).map fun l=>(.none,l)
def mg (S:St)(o:Oper)(s:Sh):St:=match o.dst with|some d=>S.setR d s|none=>S
section
variable {C:Ctx} {S:St} {f:Nat→Sh} {gs:List (Nat×Bool)} {dst:Nat}
theorem amF {g:Nat}{xs:List Operand}(h:∀t,t∈xs.flatMap bu→f t=S.r t)(he:(bV S gs xs).isEmpty=true):
 (match nz C (S.withR f) gs dst g xs with|some r=>bif gL gs (some dst) r.2.2 then some (gK gs r.2.1,r.2.2) else none|none=>none)=(match nz C S gs dst g xs with|some r=>bif gL gs (some dst) r.2.2 then some (gK gs r.2.1,r.2.2) else none|none=>none):=by
 have ho:=pz (gs:=gs) h;have j9:=List.isEmpty_iff.1 he;unfold nz;cases C.sig g with
 |none=>rfl
 |some s=>
  simp only[Option.bind_some];cases s.mode<;>first|rfl|skip
  simp only[ho,j9,St.fzs,List.foldl_nil,U8 h];cases kz C S gs xs with
  |none=>rfl
  |some u=>
   simp only[Option.bind_some];cases Ty.subs u.1 s.args<;>rfl
theorem amA {x:Operand}{xs:List Operand}(hx:∀t,t∈bu x→f t=S.r t)(h:∀t,t∈xs.flatMap bu→f t=S.r t)(he:(bV S gs xs).isEmpty=true):
 (match my C (S.withR f) gs dst x xs with|some r=>bif gL gs (some dst) r.2.2 then some (gK gs r.2.1,r.2.2) else none|none=>none)=(match my C S gs dst x xs with|some r=>bif gL gs (some dst) r.2.2 then some (gK gs r.2.1,r.2.2) else none|none=>none):=by
 have ho:=pz (gs:=gs) h;have j9:=List.isEmpty_iff.1 he;unfold my;rw[dA hx];cases use C S gs x with
 |none=>rfl
 |some y=>
  obtain⟨ty,e⟩:=y;cases ty with
  |fn aa r=>
   simp only;cases kS aa r with
   |some _=>rfl
   |none=>
    simp only[ho,j9,St.fzs,List.foldl_nil,U8 h];cases kz C S gs xs with
    |none=>rfl
    |some u=>
     simp only[Option.bind_some];cases Ty.subs u.1 aa<;>rfl
  |_=>rfl
theorem anz {op:Op}(h:∀t,t∈kh op→f t=S.r t):AF C (S.withR f) gs dst op=AF C S gs dst op:=by
 have other:∀op,(∀t,t∈kh op→f t=S.r t)→(bif lH op&&(pre C (S.withR f) gs op).isEmpty then(match mT C (S.withR f) gs dst op with|some r=>bif px r.1&&gL gs (some dst) r.2 then some (gK gs r.1,r.2) else none|none=>none) else none)=
  (bif lH op&&(pre C S gs op).isEmpty then(match mT C S gs dst op with|some r=>bif px r.1&&gL gs (some dst) r.2 then some (gK gs r.1,r.2) else none|none=>none) else none):=by
  intro op h;cases hq:lH op with
  |false=>rfl
  |true=>rw[awB h hq,adp hq h]
 unfold AF;split
 ·rename_i x;simp only[kh] at h;rw[adn h,pz (xs:=[x]) fun t ht=>h t (by simpa using ht)]
 ·rename_i c;have h':=h;simp only[kh] at h';obtain⟨h1,h2⟩:=gX h';rw[adp (op:=.call c) rfl h,pz h2];split
  ·rfl
  ·cases he:(bV S gs c.args.toList).isEmpty with
   |false=>rfl
   |true=>
    simp only[cond_true];split
    ·exact amF h2 he
    ·rename_i x _ hc;exact amA (fun t ht=>h1 t (by rw[hc];exact ht)) h2 he
    ·rfl
 ·exact other _ h
theorem anA {op:Op}(h:∀t,t∈kh op→f t=S.r t):AG C (S.withR f) gs op=AG C S gs op:=by
 unfold AG;split
 ·rename_i T x v;simp only[kh] at h;obtain⟨h1,h2⟩:=gX h;rw[sH h1,pz (xs:=[v]) fun t ht=>h2 t (by simpa using ht)];split
  ·rename_i j ver size off jK;cases(bV S [] [v]).isEmpty with
   |false=>rfl
   |true=>
    simp only[cond_true];unfold rk;rw[sH h1,dA h2,jK];simp only;have eo:(S.withR f).o=S.o:=rfl;have ev:(S.withR f).ver=S.ver:=rfl;rw[eo,ev];cases C.P.info? T with
    |none=>rfl
    |some inf=>
     simp only;cases Nat.beq ver (S.ver j) with
     |false=>rfl
     |true=>
      simp only[cond_true];cases S.o j with
      |row T' e0=>
       cases use C S [] v with
       |none=>cases e0<;>rfl
       |some y=>
        obtain⟨t,e⟩:=y;cases e0<;>simp only<;>(generalize (_&&_:Bool)=b;cases b<;>rfl)
      |_=>rfl
  ·rfl
 ·rename_i T m k v;simp only[kh] at h;obtain⟨h1,h3⟩:=gX h;obtain⟨h1,h2⟩:=gX h1
  rw[pz (xs:=[k,v]) fun t ht=>by
   simp only[List.flatMap_cons,List.flatMap_nil,List.append_nil,List.mem_append] at ht;exact ht.elim (h2 t) (h3 t)]
  cases(bV S [] [k,v]).isEmpty with
  |false=>rfl
  |true=>
   simp only[cond_true];unfold qd;rw[sH h1,dA h2,dA h3];have eo:(S.withR f).o=S.o:=rfl;have ev:(S.withR f).ver=S.ver:=rfl;rw[eo,ev];cases C.P.underlying T with
   |none=>rfl
   |some desc=>
    cases desc with
    |map K E=>
     cases fG S [] m with
     |obj j ver=>
      simp only;cases Nat.beq ver (S.ver j) with
      |false=>rfl
      |true=>
       simp only[cond_true];cases S.o j with
       |mp kt et=>
        cases use C S [] k with
        |none=>rfl
        |some y=>
         cases use C S [] v with
         |none=>rfl
         |some z=>
          obtain⟨tk,ek⟩:=y;obtain⟨tv,ev⟩:=z;simp only;generalize (_&&_:Bool)=b;cases b<;>rfl
       |_=>rfl
     |_=>rfl
    |_=>rfl
 ·rfl
 ·rfl
theorem anC {ops:Array Oper}{o:Oper}(h:∀t,t∈kh o.op++F0 ops o→f t=S.r t):ru C (S.withR f) ops o=ru C S ops o:=by
 obtain⟨h1,h2⟩:=gX h;unfold ru;rw[aqj h2];split
 ·rfl
 ·cases nF S ops o with
  |none=>rfl
  |some gs=>
   simp only[Option.bind_some];split
   ·exact anz h1
   ·rw[anA h1]
theorem axD {S:St}{t:Nat}{s:Sh}(h:S.r t=s)(hs:lW s=true):vi S t t=some (S,[]):=by
 unfold vi;rw[h];cases s<;>first|rfl|cases hs
theorem anB {ops:Array Oper}{o:Oper}{q:Sh×List PI}(h:ru C S ops o=some q):nv C S ops o=some (mg S o q.1,q.2):=by
 unfold ru at h;split at h
 case h_1=>cases h
 rename_i jm;simp only[Option.bind_eq_some_iff] at h;obtain⟨gs,du,h⟩:=h;have hY:vT C S ops o=none:=by
  unfold vT;rw[jm];split<;>first|rfl|(rename_i hx;cases hx;done)|(rename_i hx _;cases hx;done)
 have fin:∀{S':St},pre C S gs o.op++oc C S gs o=[]→core C S gs o=some (S',q.2)→iy C (post C S' o) S'=some (S',[])→gL gs o.dst q.2=true→nv C S ops o=some (S',q.2):=by
  intro S' h1 h2 h3 h4;unfold nv vS Ad;rw[hY,du];simp only[Option.bind_some,h1,iy,h2,h3,h4,cond_true,List.nil_append,List.append_nil]
 cases hd:o.dst with
 |some dst=>
  simp only[hd] at h;have cv:mg S o q.1=S.setR dst q.1:=by unfold mg;rw[hd]
  rw[cv];unfold AF at h;split at h
  ·rename_i x bG;split at h
   case h_2=>cases h
   cases hb:(C.fr.any (Nat.beq dst)&&(bV S [] [x]).isEmpty)<;>simp only[hb,cond_true,cond_false] at h
   ·cases h
   simp only[Bool.and_eq_true] at hb;split at h
   case h_2=>cases h
   rename_i r hr;cases Xx:lW r.1<;>simp only[Xx,cond_true,cond_false] at h
   ·cases h
   cases h;have he:=List.isEmpty_iff.1 hb.2;refine fin ?_ ?_ ?_ rfl
   ·rw[bG];unfold oc;rw[bG,hd];simp only[hb.1,he,cond_true,pre,sm,List.map_nil,List.append_nil]
   ·unfold core;rw[hd];simp only[bG,mT,hb.1,cond_true,hr]
   ·unfold post;rw[bG,hd];simp only[iy,Gh.run];rw[axD (s:=q.1) (by simp[St.setR,aQ]) Xx];rfl
  ·rename_i c bG;have Ow:pre C S gs o.op++oc C S gs o=[]:=by
        rw[bG];unfold oc;rw[bG];simp[pre,sm]
   have ji:∀S':St,iy C (post C S' o) S'=some (S',[]):=fun S'=>by
        unfold post;rw[bG];rfl
   split at h
   ·rename_i r hr;cases hb:(px r.1&&gL gs (some dst) r.2)<;>simp only[hb,cond_true,cond_false] at h
    ·cases h
    cases h;simp only[Bool.and_eq_true] at hb;refine fin Ow ?_ (ji _) (by rw[hd];exact hb.2);unfold core;rw[hd];simp only[bG,hr,hb.1,cond_true]
   ·rename_i hr;cases he:(bV S gs c.args.toList).isEmpty<;>simp only[he,cond_true,cond_false] at h
    ·cases h
    have j9:=List.isEmpty_iff.1 he;have sfz:∀b:Bool,(bif b then S else S.fzs (bV S gs c.args.toList))=S:=fun b=>by rw[j9];cases b<;>rfl
    split at h
    ·rename_i f hc;split at h
     case h_2=>cases h
     rename_i r eV;cases hb:gL gs (some dst) r.2.2<;>simp only[hb,cond_true,cond_false] at h
     ·cases h
     cases h;refine fin Ow ?_ (ji _) (by rw[hd];exact hb);have hS:r.1=S:=by
      simp only[nz,Option.bind_eq_some_iff] at eV;obtain⟨s,hs,eV⟩:=eV;split at eV
      case h_2=>cases eV
      simp only[Option.bind_eq_some_iff] at eV;obtain⟨u,hu,eV⟩:=eV;cases bW:Ty.subs u.1 s.args<;>simp only[bW,cond_true,cond_false] at eV
      ·cases eV
      cases eV;exact sfz _
     unfold core;rw[hd];simp only[bG,hr,hc,eV,hS]
    ·rename_i x N9 hc;split at h
     case h_2=>cases h
     rename_i r eV;cases hb:gL gs (some dst) r.2.2<;>simp only[hb,cond_true,cond_false] at h
     ·cases h
     cases h;refine fin Ow ?_ (ji _) (by rw[hd];exact hb);have hS:r.1=S:=by
      unfold my at eV;split at eV
      case h_2=>cases eV
      rename_i aa r0 e OT;split at eV
      case h_1=>cases eV
      simp only[Option.bind_eq_some_iff] at eV;obtain⟨u,hu,eV⟩:=eV;cases bW:Ty.subs u.1 aa<;>simp only[bW,cond_true,cond_false] at eV
      ·cases eV
      cases eV;exact sfz _
     unfold core;rw[hd];simp only[bG,hr,hc];cases x with
     |func f=>exact absurd rfl (N9 f)
     |_=>simp only[eV,hS]
    ·cases h
  ·rename_i X3 db;cases hb:(lH o.op&&(pre C S gs o.op).isEmpty)<;>simp only[hb,cond_true,cond_false] at h
   ·cases h
   simp only[Bool.and_eq_true] at hb;split at h
   case h_2=>cases h
   rename_i r hr;cases dh:(px r.1&&gL gs (some dst) r.2)<;>simp only[dh,cond_true,cond_false] at h
   ·cases h
   cases h;simp only[Bool.and_eq_true] at dh;have cO:oc C S gs o=[]:=by
        unfold oc;split
        ·rename_i x t e _;exact absurd e (X3 x)
        ·rfl
   have ji:∀S':St,iy C (post C S' o) S'=some (S',[]):=fun S'=>by
        have:post C S' o=[]:=by
         unfold post;split
         ·rename_i x t e _;exact absurd e (X3 x)
         ·rename_i T t e _;rw[e] at hb;simp[lH] at hb
         ·rename_i T x v e;rw[e] at hb;simp[lH] at hb
         ·rfl
        rw[this];rfl
   refine fin (by rw[cO,List.isEmpty_iff.1 hb.2];rfl) ?_ (ji _) (by rw[hd];exact dh.2);unfold core;rw[hd];simp only[hr,dh.1,cond_true]
 |none=>
  simp only[hd,Option.map_eq_some_iff] at h;obtain⟨l,h,rfl⟩:=h;have cv:mg S o (.none:Sh)=S:=by unfold mg;rw[hd]
  show nv C S ops o=some (mg S o .none,l);rw[cv];have cO:oc C S gs o=[]:=by unfold oc;rw[hd];split<;>first|rfl|(rename_i hx;cases hx)
  unfold AG at h;split at h
  ·rename_i T x v bG;split at h
   case h_2=>cases h
   rename_i j ver size off jK;cases he:(bV S [] [v]).isEmpty<;>simp only[he,cond_true,cond_false] at h
   ·cases h
   simp only[Option.map_eq_some_iff] at h;obtain⟨r,hr,rfl⟩:=h;have hS:r.1=S:=by
        unfold rk at hr;split at hr
        case h_2=>cases hr
        rw[jK] at hr;simp only at hr;cases hv:Nat.beq ver (S.ver j)<;>simp only[hv,cond_true,cond_false] at hr
        ·cases hr
        split at hr
        ·revert hr;generalize (_&&_:Bool)=b;intro hr;cases b<;>simp only[cond_true,cond_false] at hr<;>cases hr;rfl
        ·revert hr;generalize (_&&_:Bool)=b;intro hr;cases b<;>simp only[cond_true,cond_false] at hr<;>cases hr;rfl
        ·cases hr
   refine fin ?_ ?_ ?_ rfl
   ·rw[cO,bG];simp only[pre,sm,jK,List.isEmpty_iff.1 he,List.map_nil,List.append_nil]
   ·unfold core;rw[hd];simp only[bG,hr];rw[←hS]
   ·unfold post;rw[bG];simp only[jK];rfl
  ·rename_i T m k v bG;cases he:(bV S [] [k,v]).isEmpty<;>simp only[he,cond_true,cond_false] at h
   ·cases h
   simp only[Option.map_eq_some_iff] at h;obtain⟨r,hr,rfl⟩:=h;have hS:r.1=S:=by
        unfold qd at hr;split at hr
        ·rename_i K _ j ver _ _;cases hv:Nat.beq ver (S.ver j)<;>simp only[hv,cond_true,cond_false] at hr
         ·cases hr
         split at hr
         ·revert hr;generalize (_&&_:Bool)=b;intro hr;cases b<;>simp only[cond_true,cond_false] at hr<;>cases hr;rfl
         ·cases hr
        ·cases hr
   refine fin ?_ ?_ ?_ rfl
   ·rw[cO,bG];simp only[pre,sm,List.isEmpty_iff.1 he,List.map_nil,List.append_nil]
   ·unfold core;rw[hd];simp only[bG,hr];rw[←hS]
   ·unfold post;rw[bG];rfl
  ·rename_i x bG;cases h;refine fin ?_ ?_ ?_ rfl
   ·rw[cO,bG];rfl
   ·unfold core;rw[hd];simp only[bG]
   ·unfold post;rw[bG];rfl
  ·cases h
end
def eL (ops:Array Oper)(shs:List Sh)(l:List Nat)(f:Nat→Sh):Nat→Sh:=
 l.foldl (fun f i=>match(ops[i]?).bind (·.dst) with|some d=>bQ f d (shs.getD i .none)|none=>f) f
def v8 (C:Ctx)(S:St)(ops:Array Oper):Nat→Option (List (Sh×List PI))
 |0=>some []
 |k+1=>(v8 C S ops k).bind fun q=>match ops[k]? with
  |some o=>(ru C (S.withR (eL ops (q.map (·.1)) (List.range k) S.r)) ops o).map fun r=>q++[r]
  |none=>none
def df (ops:Array Oper):Nat→List Nat
 |0=>[]
 |k+1=>df ops k++[match ops[k]? with
  |some o=>o.after.toList.foldr (fun e m=>bif Region.binds .any e then Nat.lor (Nat.lor (dq e.on) ((df ops k).getD e.on 0)) m else m) 0
  |none=>0]
def aez (ops:Array Oper)(o:Oper):List Nat:=kh o.op++F0 ops o
def WT (ops:Array Oper)(nc:List (List Nat))(clo:List Nat)(i:Nat):Bool:=
 match ops[i]? with
 |some o=>(nc.getD i []).all (av (clo.getD i 0))&&(o.after.toList.all fun e=> !Region.binds .any e||Nat.blt e.on i)&&
   (aez ops o).all fun t=>(List.range ops.size).all fun j=>match(ops[j]?).bind (·.dst) with
     |some d=> !Nat.beq d t||((Nat.blt j i&&av (clo.getD i 0) j)||av (clo.getD j 0) i)
     |none=>true
 |none=>false
def FV (ops:Array Oper)(i:Nat):Bool:=match ops[i]? with|some o=>o.after.toList.all fun e=> !Region.binds .any e||Nat.blt e.on i|none=>false
def AH (ops:Array Oper)(nc:List (List Nat))(clo:List Nat)(m:Nat):Bool:=(List.range m).all (WT ops nc clo)&&(List.range ops.size).all (FV ops)
def nf (clo:List Nat):Nat→Nat
 |0=>0
 |k+1=>bif (List.range k).all (av (clo.getD k 0)) then nf clo k else k+1
theorem afg (clo:List Nat):∀k,nf clo k≤k
 |0=>Nat.le_refl _
 |k+1=>by
  unfold nf;cases(List.range k).all (av (clo.getD k 0)) with
  |true=>exact Nat.le_succ_of_le (afg clo k)
  |false=>exact Nat.le_refl _
theorem aff (clo:List Nat):∀k i,nf clo k≤i→i<k→∀j,j<i→av (clo.getD i 0) j=true
 |0,i,_,h=>by omega
 |k+1,i,h1,h2=>by
  unfold nf at h1;cases hb:(List.range k).all (av (clo.getD k 0)) with
  |true=>
   rw[hb] at h1;by_cases e:i=k
   ·subst e;exact fun j hj=>List.all_eq_true.1 hb j (List.mem_range.2 hj)
   ·exact aff clo k i h1 (by omega)
  |false=>rw[hb] at h1;simp only[cond_false] at h1;omega
def WU (C:Ctx)(ops:Array Oper)(S:St):Option (St×List PI):=
 (v8 C S ops (nf (df ops ops.size) ops.size)).bind fun q=>
    bif AH ops (nW (q.map (·.2)) (nf (df ops ops.size) ops.size)) (df ops ops.size) (nf (df ops ops.size) ops.size) then
     (mw C ops (List.range' (nf (df ops ops.size) ops.size) (ops.size-nf (df ops ops.size) ops.size)) (S.withR (eL ops (q.map (·.1)) (List.range (nf (df ops ops.size) ops.size)) S.r))).map fun r=>(r.1,(q.map (·.2)).flatten++r.2)
    else none
theorem Lc (ops:Array Oper)(shs:List Sh)(i:Nat)(l:List Nat)(f:Nat→Sh):eL ops shs (i::l) f=eL ops shs l (match(ops[i]?).bind (·.dst) with|some d=>bQ f d (shs.getD i .none)|none=>f):=rfl
theorem Dw {ops:Array Oper}{shs:List Sh}{t:Nat}:∀{l:List Nat} {f:Nat→Sh},(∀i,i∈l→(ops[i]?).bind (·.dst)≠some t)→eL ops shs l f t=f t
 |[],_,_=>rfl
 |i::l,f,h=>by
  rw[Lc,Dw fun j hj=>h j (List.mem_cons_of_mem _ hj)];have:=h i (List.mem_cons_self ..);cases hd:(ops[i]?).bind (·.dst) with
  |none=>rfl
  |some d=>exact bo _ _ (fun e=>this (by rw[hd,e]))
def LL (ops:Array Oper):Prop:=∀(i j t:Nat),(ops[i]?).bind (·.dst)=some t→(ops[j]?).bind (·.dst)=some t→i=j
theorem Lb {ops:Array Oper}(ho:LL ops){shs:List Sh}{t i:Nat}(ht:(ops[i]?).bind (·.dst)=some t):∀{l:List Nat} {f:Nat→Sh},i∈l→eL ops shs l f t=shs.getD i .none
 |[],_,h=>nomatch h
 |j::l,f,h=>by
  rw[Lc];by_cases hl:i∈l
  ·exact Lb ho ht hl
  ·have e:i=j:=(List.mem_cons.1 h).resolve_right hl;subst e;rw[Dw fun k hk e=>hl (by rw[ho i k t ht e];exact hk),ht];exact aQ _ _ _
theorem ae6 {ops:Array Oper}(ho:LL ops){shs Sm:List Sh}{l m:List Nat}{f:Nat→Sh}{t:Nat}(h1:∀i,(ops[i]?).bind (·.dst)=some t→(i∈l↔i∈m))(h2:∀i,i∈l→(ops[i]?).bind (·.dst)=some t→shs.getD i .none=Sm.getD i .none):eL ops shs l f t=eL ops Sm m f t:=by
 by_cases hh:∃i,i∈l∧(ops[i]?).bind (·.dst)=some t
 ·obtain⟨i,hi,ht⟩:=hh;rw[Lb ho ht hi,Lb ho ht ((h1 i ht).1 hi),h2 i hi ht]
 ·rw[Dw fun i hi e=>hh ⟨i,hi,e⟩,Dw fun i hi e=>hh ⟨i,(h1 i e).2 hi,e⟩]
theorem avA {ops:Array Oper}(h:(ops.toList.filterMap (·.dst)).Nodup):LL ops:=by
 intro i j t hi hj;rw[Option.bind_eq_some_iff] at hi hj;obtain⟨oi,h1,h2⟩:=hi;obtain⟨oj,h3,h4⟩:=hj;by_cases e:i=j
 ·exact e
 ·exact(tw.dst_once h h1 h3 h2 h4 e).elim
theorem Ng {C:Ctx}{S:St}{ops:Array Oper}:∀{k:Nat} {q:List (Sh×List PI)},v8 C S ops k=some q→q.length=k∧∀i,i<k→∃o,ops[i]?=some o∧
 ru C (S.withR (eL ops (q.map (·.1)) (List.range i) S.r)) ops o=some ((q.map (·.1)).getD i .none,(q.map (·.2)).getD i [])
 |0,q,h=>by simp only[v8,Option.some.injEq] at h;subst h;exact⟨rfl,fun i hi=>by omega⟩
 |k+1,q,h=>by
  simp only[v8,Option.bind_eq_some_iff] at h;obtain⟨p,hp,h⟩:=h;split at h
  case h_2=>cases h
  rename_i o ho;simp only[Option.map_eq_some_iff] at h;obtain⟨r,hr,rfl⟩:=h;obtain⟨l1,aP⟩:=Ng hp;have same:∀i,i≤k→eL ops ((p++[r]).map (·.1)) (List.range i) S.r=eL ops (p.map (·.1)) (List.range i) S.r:=by
   intro i hi;have key:∀(l:List Nat) (f:Nat→Sh),(∀j,j∈l→j<p.length)→eL ops ((p++[r]).map (·.1)) l f=eL ops (p.map (·.1)) l f:=by
    intro l
    induction l with
    |nil=>intro f _;rfl
    |cons j l ih=>
     intro f hl;have hj:=hl j (List.mem_cons_self ..);have e:((p++[r]).map (·.1)).getD j .none=(p.map (·.1)).getD j .none:=by
       rw[List.map_append,List.getD_eq_getElem?_getD,List.getElem?_append_left (by simpa using hj),←List.getD_eq_getElem?_getD]
     rw[Lc,Lc,e,ih _ fun m hm=>hl m (List.mem_cons_of_mem _ hm)]
   exact key _ _ fun j hj=>by have:=List.mem_range.1 hj;omega
  refine⟨by simp[l1],fun i hi=>?_⟩;by_cases e:i=k
  ·subst e;refine⟨o,ho,?_⟩;rw[same i (Nat.le_refl _),hr];have e1:((p++[r]).map (·.1)).getD i .none=r.1:=by
    rw[List.map_append,List.getD_eq_getElem?_getD,List.getElem?_append_right (by simp[l1])];simp[l1]
   have e2:((p++[r]).map (·.2)).getD i []=r.2:=by
    rw[List.map_append,List.getD_eq_getElem?_getD,List.getElem?_append_right (by simp[l1])];simp[l1]
   rw[e1,e2]
  ·obtain⟨o',h1,h2⟩:=aP i (by omega);refine⟨o',h1,?_⟩;rw[same i (by omega),h2];have:i<p.length:=by omega
   simp only[List.map_append,List.getD_eq_getElem?_getD];rw[List.getElem?_append_left (by simpa using this),List.getElem?_append_left (by simpa using this)]
theorem FH (ops:Array Oper):∀k,(df ops k).length=k
 |0=>rfl
 |k+1=>by simp[df,FH ops k]
theorem V9 (ops:Array Oper){k m i:Nat}(h:i<k)(hm:k≤m):(df ops m).getD i 0=(df ops k).getD i 0:=by
 induction m with
 |zero=>omega
 |succ m ih=>
  by_cases e:k=m+1
  ·rw[e]
  ·rw[←ih (by omega)];simp only[df,List.getD_eq_getElem?_getD];rw[List.getElem?_append_left (by rw[FH];omega)]
theorem FI {ops:Array Oper}{N i m:Nat}{o:Oper}(hi:i<N)(ho:ops[i]?=some o)(ah:(o.after.toList.all fun e=> !Region.binds .any e||Nat.blt e.on i)=true)(h:av ((df ops N).getD i 0) m=true):
 ∃e,e∈o.after.toList∧Region.binds .any e=true∧(m=e.on∨av ((df ops N).getD e.on 0) m=true):=by
 rw[V9 ops (k:=i+1) (by omega) (by omega)] at h
 have e1:(df ops (i+1)).getD i 0=o.after.toList.foldr (fun e m=>bif Region.binds .any e then Nat.lor (Nat.lor (dq e.on) ((df ops i).getD e.on 0)) m else m) 0:=by
  simp only[df,List.getD_eq_getElem?_getD];rw[List.getElem?_append_right (by rw[FH];exact Nat.le_refl _),FH];simp[ho]
 rw[e1] at h;have aP:=List.all_eq_true.1 ah;generalize o.after.toList=l at h aP
 induction l with
 |nil=>rw[p8] at h;simp at h
 |cons e l ih=>
  simp only[List.foldr_cons] at h;cases hb:Region.binds .any e<;>rw[hb] at h<;>simp only[cond_true,cond_false] at h
  ·obtain⟨e',h1,h2⟩:=ih h (fun x hx=>aP x (List.mem_cons_of_mem _ hx));exact⟨e',List.mem_cons_of_mem _ h1,h2⟩
  ·rw[eA,eA,Bool.or_eq_true,Bool.or_eq_true] at h;have nO:e.on<i:=by
        have:=aP e (List.mem_cons_self ..);rw[hb] at this;simpa [Nat.blt_eq] using this
   rcases h with(h|h)|h
   ·refine⟨e,List.mem_cons_self ..,hb,.inl ?_⟩;have:=gI 0 e.on m;have z:av 0 m=false:=by rw[p8];simp
    rw[eA,z,Bool.false_or,Bool.false_or,h] at this;exact(cA this.symm).symm
   ·refine⟨e,List.mem_cons_self ..,hb,.inr ?_⟩;rw[V9 ops nO (by omega)];exact h
   ·obtain⟨e',h1,h2⟩:=ih h (fun x hx=>aP x (List.mem_cons_of_mem _ hx));exact⟨e',List.mem_cons_of_mem _ h1,h2⟩
section
variable {C:Ctx} {S:St} {ρ:Env} {σ:Im} {own:Nat→Option Nat} {hv:Nat→Value} {w0:World} {σ0:Base} {A:Nat→Prop} {a:Act} {w:World} {n:Nat} {ids:List Nat} {Φ:aT}
theorem aeA {ops:Array Oper}{listed:Array Bool}{E:Nat}(aL:listed.size=ops.size)(hl:∀i,listed.getD i false=av E i)(i:Nat):i∈Region.ready .any ops listed↔i∈kq ops E:=by
 unfold Region.ready kq;simp only[List.mem_filter,List.mem_range];refine and_congr_right fun hi=>?_;have h1:listed.getD i true=av E i:=by
  rw[←hl i];simp only[Array.getD_eq_getD_getElem?];rw[Array.getElem?_eq_getElem (by omega)];rfl
 have h2:ops[i]?=some ops[i]:=Array.getElem?_eq_getElem hi;rw[h1,h2];simp only[Option.map_some,Option.getD_some,←Array.all_toList,hl]
def sG (ops:Array Oper)(E:Nat):Nat→Prop:=fun t=>∃i o,av E i=true∧ops[i]?=some o∧o.dst=some t
def pQ (ops:Array Oper)(E:Nat):Nat:=((List.range ops.size).filter fun i=> !av E i).length
theorem aAM {ops:Array Oper}{E i:Nat}(hi:i<ops.size)(hb:av E i=false):pQ ops E=pQ ops (Nat.lor E (dq i))+1:=by
 unfold pQ;obtain⟨l1,l2,hl⟩:=List.append_of_mem (List.mem_range.2 hi);have bh:=List.nodup_range (n:=ops.size);rw[hl,List.nodup_append] at bh;obtain⟨_,h2,h3⟩:=bh;rw[List.nodup_cons] at h2;have g1:∀j,j∈l1→j≠i:=fun j hj=>h3 j hj i (List.mem_cons_self ..);have g2:∀j,j∈l2→j≠i:=fun j hj e=>h2.1 (e▸hj)
 have c:∀l:List Nat,(∀j,j∈l→j≠i)→(l.filter fun j=> !av (Nat.lor E (dq i)) j)=l.filter fun j=> !av E j:=by
  intro l hl;apply List.filter_congr;intro j hj;rw[gI,dR (fun e=>hl j hj e.symm),Bool.or_false]
 have cU:av (Nat.lor E (dq i)) i=true:=by rw[gI,Nat.beq_refl,Bool.or_true]
 rw[hl];simp only[List.filter_append,List.filter_cons,c l1 g1,c l2 g2,hb,cU,Bool.not_true,Bool.not_false,if_true,Bool.false_eq_true,if_false,List.length_append,List.length_cons];omega
theorem anE {rd:Option Nat}(hC:CtxOK C σ0)(bf:dp C)(hΦ:cS C Φ)(hY:nm C Φ w0 σ0){a0:Act}(N6:a0.tmps.size=n){ops:Array Oper}(aA:pI n ops=true)(dS:we ops=true){m:Nat}(hm:m≤ops.size){q:List (Sh×List PI)}(hq:v8 C S ops m=some q)
 (rI:AH ops (nW (q.map (·.2)) m) (df ops ops.size) m=true) (wP:∀i,m≤i→i<ops.size→∀j,j<i→av ((df ops ops.size).getD i 0) j=true) {Q:Exit→Act→World→Prop} {ρ':Env}
 (hK:∀listed a' w',listed.size=ops.size→(∀i,listed.getD i false=decide (i<m))→SameBut (oN ops) a0 a'→Good C w0 σ0 (S.withR (eL ops (q.map (·.1)) (List.range m) S.r)) ρ' (kr ops (List.range m)) a' w'→wpAnyIn (FR rd) 0 C.P .any ops Q (ops.size-m) listed a' w'):
 ∀(k E:Nat) (listed:Array Bool) (ρ:Env) (a:Act) (w:World),pQ ops E=k→(∀j,av E j=true→j<m)→(∀j,j<ops.size→av E j=true→∀m,av ((df ops ops.size).getD j 0) m=true→av E m=true)→listed.size=ops.size→(∀i,listed.getD i false=av E i)→SameBut (oN ops) a0 a→
  Good C w0 σ0 (S.withR (eL ops (q.map (·.1)) ((List.range m).filter (av E)) S.r)) ρ (sG ops E) a w→PI.runs Φ (dP (q.map (·.2)) (List.range m) E) ρ=some ρ'→wpAnyIn (FR rd) 0 C.P .any ops Q k listed a w:=by
 have GK:=aA;simp only[pI,Bool.and_eq_true] at aA;have bh:=l7 aA.1;have Om:=avA bh;obtain⟨hlen,aP⟩:=Ng hq;unfold AH at rI;rw[Bool.and_eq_true] at rI
 have AS:∀i,i<ops.size→∀o,ops[i]?=some o→(o.after.toList.all fun e=> !Region.binds .any e||Nat.blt e.on i)=true:=by
  intro i hi o ho;have:=List.all_eq_true.1 rI.2 i (List.mem_range.2 hi);unfold FV at this;rw[ho] at this;exact this
 have ase:∀i,i<m→∀o,ops[i]?=some o→((nW (q.map (·.2)) m).getD i []).all (av ((df ops ops.size).getD i 0))=true∧
  ∀t,t∈aez ops o→∀j,j<ops.size→(ops[j]?).bind (·.dst)=some t→(j<i∧av ((df ops ops.size).getD i 0) j=true)∨av ((df ops ops.size).getD j 0) i=true:=by
  intro i hi o ho;have:=List.all_eq_true.1 rI.1 i (List.mem_range.2 hi);unfold WT at this;rw[ho] at this;simp only[Bool.and_eq_true] at this;refine⟨this.1.1,fun t ht j hj hd=>?_⟩;have:=List.all_eq_true.1 (List.all_eq_true.1 this.2 t ht) j (List.mem_range.2 hj);rw[hd] at this;simp only[Nat.beq_refl,Bool.not_true,Bool.false_or,Bool.or_eq_true,Bool.and_eq_true,Nat.blt_eq] at this;exact this
 have Vs:∀(k E:Nat) (listed:Array Bool) (ρ:Env) (a:Act) (w:World),(∀i,i<m→av E i=true)→pQ ops E=k→(∀j,av E j=true→j<m)→listed.size=ops.size→(∀i,listed.getD i false=av E i)→SameBut (oN ops) a0 a→
  Good C w0 σ0 (S.withR (eL ops (q.map (·.1)) ((List.range m).filter (av E)) S.r)) ρ (sG ops E) a w→PI.runs Φ (dP (q.map (·.2)) (List.range m) E) ρ=some ρ'→wpAnyIn (FR rd) 0 C.P .any ops Q k listed a w:=by
  intro k E listed ρ a w jd hk tY aL hl hn hg ao;have hb:∀i,av E i=decide (i<m):=by
   intro i;by_cases h:i<m
   ·rw[jd i h,decide_eq_true h]
   ·rw[decide_eq_false h];cases hb:av E i with
    |false=>rfl
    |true=>exact absurd (tY i hb) h
  have NM:dP (q.map (·.2)) (List.range m) E=[]:=by
   unfold dP;rw[List.flatMap_eq_nil_iff];intro i hi;rw[jd i (List.mem_range.1 hi)];rfl
  rw[NM] at ao;simp only[PI.runs,Option.some.injEq] at ao;subst ao;have aqW:pQ ops E=ops.size-m:=by
   unfold pQ
   have key:∀N,m≤N→((List.range N).filter fun i=> !av E i).length=N-m:=by
        intro N
        induction N with
        |zero=>intro _;simp
        |succ N ih=>
         intro hN;rw[List.range_succ,List.filter_append,List.length_append];by_cases h:m≤N
         ·rw[ih h];simp[hb N,Nat.not_lt.2 h];omega
         ·have:m=N+1:=by omega
          have e:(List.range N).filter (fun i=> !av E i)=[]:=by
           rw[List.filter_eq_nil_iff];intro i hi;rw[jd i (by have:=List.mem_range.1 hi;omega)];simp
          have hN':av E N=true:=jd N (by omega);rw[e];simp[hN'];omega
   exact key _ hm
  have ef:(List.range m).filter (av E)=List.range m:=List.filter_eq_self.2 fun i hi=>jd i (List.mem_range.1 hi);rw[ef] at hg;have nR:sG ops E=kr ops (List.range m):=by
   funext t;apply propext;constructor
   ·rintro⟨i,o,h1,h2,h3⟩;exact⟨i,o,List.mem_range.2 (tY i h1),h2,h3⟩
   ·rintro⟨i,o,h1,h2,h3⟩;exact⟨i,o,jd i (List.mem_range.1 h1),h2,h3⟩
  rw[nR] at hg;rw[←hk,aqW];exact hK listed a w aL (fun i=>by rw[hl i,hb i]) hn hg
 intro k
 induction k with
 |zero=>
  intro E listed ρ a w hk tY Gj aL hl hn hg ao;refine Vs 0 E listed ρ a w (fun i hi=>?_) hk tY aL hl hn hg ao;cases hb:av E i with
  |true=>rfl
  |false=>
   have:i∈(List.range ops.size).filter fun i=> !av E i:=List.mem_filter.2 ⟨List.mem_range.2 (by omega),by rw[hb];rfl⟩;unfold pQ at hk;rw[List.length_eq_zero_iff.1 hk] at this;cases this
 |succ k ih=>
  intro E listed ρ a w hk tY Gj aL hl hn hg ao;by_cases jd:∀i,i<m→av E i=true
  ·exact Vs (k+1) E listed ρ a w jd hk tY aL hl hn hg ao
  refine⟨fun he=>?_,fun i hi=>?_⟩
  ·
   obtain⟨i,hi,wH⟩:∃i,(i<m∧av E i=false)∧∀j,j<i→av E j=true:=by
        have hex:∃i,i<m∧av E i=false:=by
         refine Classical.byContradiction fun dy=>jd fun i hi=>?_;cases hb:av E i with
         |true=>rfl
         |false=>exact absurd ⟨i,hi,hb⟩ dy
        obtain⟨i,hi⟩:=hex
        induction i using Nat.strongRecOn with
        |ind i kR=>
         by_cases hh:∃j,j<i∧av E j=false
         ·obtain⟨j,hj,hb⟩:=hh;exact kR j hj ⟨by omega,hb⟩
         ·refine⟨i,hi,fun j hj=>?_⟩;cases hb:av E j with
          |true=>rfl
          |false=>exact absurd ⟨j,hj,hb⟩ hh
   have mG:i<ops.size:=by omega
   have ho:ops[i]?=some ops[i]:=Array.getElem?_eq_getElem mG;have cJ:i∈kq ops E:=by
        unfold kq;simp only[List.mem_filter,List.mem_range,Bool.and_eq_true,Bool.not_eq_true',ho];refine⟨mG,hi.2,?_⟩;rw[List.all_eq_true];intro e iJ;have:=List.all_eq_true.1 (AS i mG _ ho) e iJ;cases hb:Region.binds .any e with
        |false=>rfl
        |true=>
         rw[hb] at this;simp only[Bool.not_true,Bool.false_or,Nat.blt_eq] at this;rw[wH _ this];rfl
   rw[←aeA aL hl,he] at cJ;cases cJ
  ·rw[aeA aL hl] at hi;unfold kq at hi;simp only[List.mem_filter,List.mem_range,Bool.and_eq_true,Bool.not_eq_true'] at hi;obtain⟨bA,da,rE⟩:=hi;have X7:ops[i]?=some ops[i]:=Array.getElem?_eq_getElem bA;generalize ops[i]=o at X7;have ho:=X7;rw[ho] at rE;simp only at rE;have o2:=AS i bA o ho;have wx:∀m,av ((df ops ops.size).getD i 0) m=true→av E m=true:=by
        intro m hm;obtain⟨e,gx,jG,NL⟩:=FI bA ho o2 hm;have hE:av E e.on=true:=by
         have:=List.all_eq_true.1 rE e gx
         rwa [jG,Bool.not_true,Bool.false_or] at this
        rcases NL with rfl|NL
        ·exact hE
        ·have nO:e.on<i:=by
          have:=List.all_eq_true.1 o2 e gx;rw[jG] at this;simpa [Nat.blt_eq] using this
         exact Gj e.on (by omega) hE m NL
   have jf:i<m:=by
        refine Classical.byContradiction fun dy=>jd fun j hj=>?_;exact wx j (wP i (by omega) bA j (by omega))
   obtain⟨o',dD,jI⟩:=aP i jf;rw[ho] at dD;cases dD;obtain⟨o1,o3⟩:=ase i jf o ho;have db:((nW (q.map (·.2)) m).getD i []).all (av E)=true:=by
        rw[List.all_eq_true] at o1 ⊢;exact fun m hm=>wx m (o1 m hm)
   have aqZ:ru C (S.withR (eL ops (q.map (·.1)) ((List.range m).filter (av E)) S.r)) ops o=some ((q.map (·.1)).getD i .none,(q.map (·.2)).getD i []):=by
        rw[←jI];refine anC (S:=S.withR (eL ops (q.map (·.1)) (List.range i) S.r)) fun t ht=>?_;refine ae6 Om (fun j hj=>?_) (fun _ _ _=>rfl);have fh:j<ops.size:=by
         rw[Option.bind_eq_some_iff] at hj;obtain⟨oj,h1,_⟩:=hj;exact(Array.getElem?_eq_some_iff.1 h1).1
        rw[List.mem_filter,List.mem_range,List.mem_range];rcases o3 t ht j fh hj with⟨h1,h2⟩|h1
        ·exact⟨fun _=>h1,fun _=>⟨by omega,wx j h2⟩⟩
        ·constructor
         ·rintro⟨_,nG⟩;have:=Gj j fh nG i h1;rw[da] at this;cases this
         ·intro ga;exfalso;have key:∀m j,j<ops.size→av ((df ops ops.size).getD j 0) m=true→m<j:=by
           intro m j
           induction j using Nat.strongRecOn with
           |ind j kR=>
            intro hj hm;have pf:ops[j]?=some ops[j]:=Array.getElem?_eq_getElem hj;have p2:=AS j hj _ pf;obtain⟨e,e1,e2,e3⟩:=FI hj pf p2 hm;have nO:e.on<j:=by
                have:=List.all_eq_true.1 p2 e e1;rw[e2] at this;simpa [Nat.blt_eq] using this
            rcases e3 with rfl|e3
            ·exact nO
            ·have:=kR e.on nO (by omega) e3;omega
          have:=key i j fh h1;omega
   have hcp:=anB aqZ;rw[aeI jf da db,Option.bind_eq_some_iff] at ao;obtain⟨ρ1,hρ1,hρ2⟩:=ao;have tQ:∀d,o.dst=some d→¬sG ops E d∧d<a.tmps.size:=by
        intro d hd;refine⟨fun⟨i',o',cU,dD,cT⟩=>?_,?_⟩
        ·have aD:i'≠i:=fun e=>by subst e;rw[da] at cU;cases cU
         exact tw.dst_once bh dD ho cT hd aD
        ·have:=List.all_eq_true.1 aA.2 o (by simpa using Array.mem_of_getElem? ho);simp only[hd,Bool.and_eq_true] at this;rw[hn.size,N6];simpa [Nat.blt_eq] using this.2
   have iK:mS o.op=true:=by
        have:=List.all_eq_true.1 aA.2 o (by simpa using Array.mem_of_getElem? ho);simp only[Bool.and_eq_true] at this;exact this.1
   have hj:∀j want t,o.guard=some (j,want)→(ops[j]?).bind (·.dst)=some t→sG ops E t:=by
        intro j want t je ht;rw[Option.bind_eq_some_iff] at ht;obtain⟨oj,h1,h2⟩:=ht;have rF:=List.all_eq_true.1 dS o (by simpa using Array.mem_of_getElem? ho);simp only[je] at rF;obtain⟨e,gx,jG⟩:=List.any_eq_true.1 rF;simp only[Bool.and_eq_true] at jG;have h3:=List.all_eq_true.1 rE e gx;rw[jG.1] at h3;simp only[Bool.not_true,Bool.false_or] at h3;exact⟨j,oj,by rw[←cA jG.2];exact h3,h1,h2⟩
   have aqV:∀j,j<ops.size→av (Nat.lor E (dq i)) j=true→∀m,av ((df ops ops.size).getD j 0) m=true→av (Nat.lor E (dq i)) m=true:=by
        intro j hj nG m hm;rw[gI,Bool.or_eq_true] at nG;rw[gI,Bool.or_eq_true];rcases nG with nG|nG
        ·exact .inl (Gj j hj nG m hm)
        ·rw[←cA nG] at hm;exact .inl (wx m hm)
   have main:=FJ (rd:=rd) (K:=wpAnyIn (FR rd) 0 C.P .any ops Q k (listed.setIfInBounds i true)) (Q:=Q) hg hC bf hΦ hY iK tQ hj hcp hρ1 (fun a' w' eT pk=>by
        have hA:(fun u=>sG ops E u∨o.dst=some u)=sG ops (Nat.lor E (dq i)):=by
         funext u;apply propext;constructor
         ·rintro(⟨i',o',h1,h2,h3⟩|h1)
          ·exact⟨i',o',by rw[gI,h1,Bool.true_or],h2,h3⟩
          ·exact⟨i,o,by rw[gI,Nat.beq_refl,Bool.or_true],ho,h1⟩
         ·rintro⟨i',o',h1,h2,h3⟩;rw[gI,Bool.or_eq_true] at h1;rcases h1 with h1|h1
          ·exact .inl ⟨i',o',h1,h2,h3⟩
          ·rw[←cA h1,ho] at h2;cases h2;exact .inr h3
        rw[hA] at eT;have hSt:mg (S.withR (eL ops (q.map (·.1)) ((List.range m).filter (av E)) S.r)) o ((q.map (·.1)).getD i .none)=S.withR (eL ops (q.map (·.1)) ((List.range m).filter (av (Nat.lor E (dq i)))) S.r):=by
         have ark:∀t,(mg (S.withR (eL ops (q.map (·.1)) ((List.range m).filter (av E)) S.r)) o ((q.map (·.1)).getD i .none)).r t=eL ops (q.map (·.1)) ((List.range m).filter (av (Nat.lor E (dq i)))) S.r t:=by
          intro t;by_cases AZ:o.dst=some t
          ·have hb:(ops[i]?).bind (·.dst)=some t:=by rw[ho];exact AZ
           rw[Lb Om hb (List.mem_filter.2 ⟨List.mem_range.2 jf,by rw[gI,Nat.beq_refl,Bool.or_true]⟩)];unfold mg;rw[AZ];simp[St.setR,aQ]
          ·have e1:(mg (S.withR (eL ops (q.map (·.1)) ((List.range m).filter (av E)) S.r)) o ((q.map (·.1)).getD i .none)).r t=eL ops (q.map (·.1)) ((List.range m).filter (av E)) S.r t:=by
            unfold mg;split
            ·rename_i d hd;exact bo _ _ (fun e=>AZ (by rw[hd,e]))
            ·rfl
           rw[e1];refine ae6 Om (fun j hj=>?_) (fun _ _ _=>rfl);have ga:¬i=j:=fun e=>by subst e;rw[ho] at hj;exact AZ hj
           rw[List.mem_filter,List.mem_filter,gI,dR ga,Bool.or_false]
         have:∀(X Y:St),X.o=Y.o→X.ver=Y.ver→(∀t,X.r t=Y.r t)→X=Y:=by
          intro X Y h1 h2 h3;cases X;cases Y;simp only at h1 h2 h3;subst h1 h2
          congr 1
          exact funext h3
         refine this _ _ ?_ ?_ ark
         ·unfold mg;split<;>rfl
         ·unfold mg;split<;>rfl
        rw[hSt] at eT;refine ih _ _ ρ1 a' w' (by have:=aAM bA da;omega) (fun j hj=>by rw[gI,Bool.or_eq_true] at hj;rcases hj with hj|hj;exact tY j hj;rw[←cA hj];exact jf) aqV (by simpa using aL) (fun j=>?_) (hn.trans (pk.mono fun t e=>⟨o,by simpa using Array.mem_of_getElem? ho,e⟩)) eT hρ2;rw[gI];simp only[Array.getD_eq_getD_getElem?,Array.getElem?_setIfInBounds];by_cases cG:i=j
        ·subst cG;simp[aL,bA]
        ·rw[if_neg cG,dR cG,Bool.or_false,←hl j];simp only[Array.getD_eq_getD_getElem?])
   simp only[wpOpIn,ho];split
   ·rename_i hw;rw[if_pos hw] at main;exact main
   ·rename_i hw;rw[if_neg hw] at main;exact⟨fun _ _=>trivial,main⟩
theorem ayj {rd:Option Nat}(hC:CtxOK C σ0)(bf:dp C)(hΦ:cS C Φ)(hY:nm C Φ w0 σ0){ops:Array Oper}(aA:pI n ops=true)(dS:we ops=true)(AS:(List.range ops.size).all (FV ops)=true){m:Nat}
 (wP:∀i,m≤i→i<ops.size→∀j,j<i→av ((df ops ops.size).getD i 0) j=true) {Q:Exit→Act→World→Prop} {ρ':Env}:
 ∀(k i:Nat) {S:St} {ρ:Env} {a:Act} {w:World} {r:St×List PI} (listed:Array Bool),i+k=ops.size→m≤i→listed.size=ops.size→(∀j,listed.getD j false=decide (j<i))→a.tmps.size=n→
  Good C w0 σ0 S ρ (kr ops (List.range i)) a w→mw C ops (List.range' i k) S=some r→PI.runs Φ r.2 ρ=some ρ'→
  (∀a' w',SameBut (oN ops) a a'→Good C w0 σ0 r.1 ρ' (kr ops (List.range ops.size)) a' w'→Q .normal a' w')→wpAnyIn (FR rd) 0 C.P .any ops Q k listed a w:=by
 have GK:=aA;simp only[pI,Bool.and_eq_true] at aA;have bh:=l7 aA.1
 have LR:∀i,i<ops.size→∀o,ops[i]?=some o→(o.after.toList.all fun e=> !Region.binds .any e||Nat.blt e.on i)=true:=by
  intro i hi o ho;have:=List.all_eq_true.1 AS i (List.mem_range.2 hi);unfold FV at this;rw[ho] at this;exact this
 have mem:∀(listed:Array Bool) (i j:Nat),listed.size=ops.size→(∀j,listed.getD j false=decide (j<i))→(j∈Region.ready .any ops listed↔(j<ops.size∧¬j<i∧∀o,ops[j]?=some o→(o.after.toList.all fun e=> !Region.binds .any e||decide (e.on<i))=true)):=by
  intro listed i j aL hl;unfold Region.ready;simp only[List.mem_filter,List.mem_range];refine and_congr_right fun hj=>?_;have h1:listed.getD j true=decide (j<i):=by
   rw[←hl j];simp only[Array.getD_eq_getD_getElem?];rw[Array.getElem?_eq_getElem (by omega)];rfl
  have h2:ops[j]?=some ops[j]:=Array.getElem?_eq_getElem hj;rw[h1,h2];simp only[Option.map_some,Option.getD_some,←Array.all_toList,hl,Bool.and_eq_true,Bool.not_eq_true',decide_eq_false_iff_not,Option.some.injEq,forall_eq']
 intro k
 induction k with
 |zero=>
  intro i S ρ a w r listed hik hmi aL hl hn hg hr ao hQ;simp only[List.range'_zero,mw,Option.some.injEq] at hr;subst hr;rw[mf ao] at hQ;refine⟨?_,hQ a w (.refl _ _) ?_⟩
  ·rw[List.eq_nil_iff_forall_not_mem];intro j hj;rw[mem listed i j aL hl] at hj;exact hj.2.1 (by omega)
  ·have:i=ops.size:=by omega
   rw[←this];exact hg
 |succ k ih=>
  intro i S ρ a w r listed hik hmi aL hl hn hg hr ao hQ;have bA:i<ops.size:=by omega
  have ho:ops[i]?=some ops[i]:=Array.getElem?_eq_getElem bA;generalize ops[i]=o at ho;refine⟨fun he=>?_,fun i' cU=>?_⟩
  ·have:i∈Region.ready .any ops listed:=by
        rw[mem listed i i aL hl];refine⟨bA,by omega,fun o' dD=>?_⟩;rw[List.all_eq_true];intro e iJ;have:=List.all_eq_true.1 (LR i bA o' dD) e iJ;cases hb:Region.binds .any e with
        |false=>rfl
        |true=>
         rw[hb] at this;simp only[Bool.not_true,Bool.false_or,Nat.blt_eq] at this;simpa using this
   rw[he] at this;cases this
  ·rw[mem listed i i' aL hl] at cU;obtain⟨h1,h2,h3⟩:=cU;obtain rfl:i'=i:=by
        refine Classical.byContradiction fun aD=>?_;have dD:ops[i']?=some ops[i']:=Array.getElem?_eq_getElem h1;have wx:=wP i' (by omega) h1 i (by omega);have ah:∀m j,j<ops.size→av ((df ops ops.size).getD j 0) m=true→m<j:=by
         intro m j
         induction j using Nat.strongRecOn with
         |ind j kR=>
          intro hj hm;have pf:ops[j]?=some ops[j]:=Array.getElem?_eq_getElem hj;have p2:=LR j hj _ pf;obtain⟨e,e1,e2,e3⟩:=FI hj pf p2 hm;have nO:e.on<j:=by
           have:=List.all_eq_true.1 p2 e e1;rw[e2] at this;simpa [Nat.blt_eq] using this
          rcases e3 with rfl|e3
          ·exact nO
          ·have:=kR e.on nO (by omega) e3;omega
        obtain⟨e,e1,e2,e3⟩:=FI h1 dD (LR i' h1 _ dD) wx;have h4:=List.all_eq_true.1 (h3 _ dD) e e1;rw[e2] at h4;simp only[Bool.not_true,Bool.false_or,decide_eq_true_eq] at h4;rcases e3 with e3|e3
        ·omega
        ·have:=ah i e.on (by omega) e3;omega
   rw[List.range'_succ] at hr;simp only[mw,ho] at hr;simp only[Option.bind_eq_some_iff,Option.map_eq_some_iff] at hr;obtain⟨r1,gz,q,hq,rfl⟩:=hr;simp only[m8,Option.bind_eq_some_iff] at ao;obtain⟨ρ1,hρ1,hρ2⟩:=ao;have tQ:∀d,o.dst=some d→¬kr ops (List.range i') d∧d<a.tmps.size:=by
        intro d hd;refine⟨fun⟨i2,o2,tU,dT,cZ⟩=>?_,?_⟩
        ·have aD:i2≠i':=by have:=List.mem_range.1 tU;omega
         exact tw.dst_once bh dT ho cZ hd aD
        ·have:=List.all_eq_true.1 aA.2 o (by simpa using Array.mem_of_getElem? ho);simp only[hd,Bool.and_eq_true] at this;rw[hn];simpa [Nat.blt_eq] using this.2
   have iK:mS o.op=true:=by
        have:=List.all_eq_true.1 aA.2 o (by simpa using Array.mem_of_getElem? ho);simp only[Bool.and_eq_true] at this;exact this.1
   have hj:∀j want t,o.guard=some (j,want)→(ops[j]?).bind (·.dst)=some t→kr ops (List.range i') t:=by
        intro j want t je ht;rw[Option.bind_eq_some_iff] at ht;obtain⟨oj,h1,h2⟩:=ht;have rF:=List.all_eq_true.1 dS o (by simpa using Array.mem_of_getElem? ho);simp only[je] at rF;obtain⟨e,gx,jG⟩:=List.any_eq_true.1 rF;simp only[Bool.and_eq_true] at jG;have h4:=List.all_eq_true.1 (h3 o ho) e gx;rw[jG.1] at h4;simp only[Bool.not_true,Bool.false_or,decide_eq_true_eq] at h4;exact⟨j,oj,List.mem_range.2 (by rw[←cA jG.2];exact h4),h1,h2⟩
   have main:=FJ (rd:=rd) (K:=wpAnyIn (FR rd) 0 C.P .any ops Q k (listed.setIfInBounds i' true)) (Q:=Q) hg hC bf hΦ hY iK tQ hj gz hρ1 (fun a' w' eT gR=>by
        have:(fun u=>kr ops (List.range i') u∨o.dst=some u)=kr ops (List.range (i'+1)):=by
         funext u;apply propext;constructor
         ·rintro(⟨i2,o2,h1,h2,h3⟩|h1)
          ·exact⟨i2,o2,List.mem_range.2 (by have:=List.mem_range.1 h1;omega),h2,h3⟩
          ·exact⟨i',o,List.mem_range.2 (by omega),ho,h1⟩
         ·rintro⟨i2,o2,g1,g2,g3⟩;by_cases e:i2=i'
          ·rw[e,ho] at g2;cases g2;exact .inr g3
          ·exact .inl ⟨i2,o2,List.mem_range.2 (by have:=List.mem_range.1 g1;omega),g2,g3⟩
        rw[this] at eT;refine ih (i'+1) _ (by omega) (by omega) (by simpa using aL) (fun j=>?_) (gR.size.trans hn) eT hq hρ2 (fun a2 w2 s2 g2=>hQ a2 w2 ((gR.mono fun t e=>⟨o,by simpa using Array.mem_of_getElem? ho,e⟩).trans s2) g2);simp only[Array.getD_eq_getD_getElem?,Array.getElem?_setIfInBounds];by_cases cG:i'=j
        ·subst cG;simp[aL,bA]
        ·rw[if_neg cG];have:=hl j;simp only[Array.getD_eq_getD_getElem?] at this;rw[this];by_cases ah:j<i'
         ·rw[decide_eq_true ah,decide_eq_true (by omega:j<i'+1)]
         ·rw[decide_eq_false ah,decide_eq_false (by omega:¬j<i'+1)])
   simp only[wpOpIn,ho];split
   ·rename_i hw;rw[if_pos hw] at main;exact main
   ·rename_i hw;rw[if_neg hw] at main;exact⟨fun _ _=>trivial,main⟩
end
def K1 (C:Ctx)(n:Nat)(ids:List Nat)(ops:Array Oper)(draw:Bool)(S:Snap):Option (Snap×List PI):=
 bif pI n ops then
    bif draw then
     bif we ops&&PU ops&&C.P.follows .mixedOrders then
        match WU C ops (S.st ids) with
        |some r=>some (⟨sK (eK r.1) r.1 S.rs (ops.toList.filterMap (·.dst)),ids.map fun j=>gk r.1 (r.1.o j)⟩,r.2)
        |none=>
        (ew C ops (List.range ops.size) (S.st ids)).bind fun X=>AT X fun X=>AT (nW X ops.size) fun nc=>
         (Snap.hard ⟨S.rs.map fun s=>jO (S.st ids) (bZ s),ids.map fun j=>gk (S.st ids) ((S.st ids).o j)⟩ fun T0=>Du ops (p5 C.P ops) (Qx C ops n ids X nc) ops.size [(0,T0)]).map fun T=>(⟨T.rs.map (eK (T.stO ids)),ids.map fun j=>gk (T.stO ids) ((T.stO ids).o j)⟩,X.flatten)
     else none
    else bif W6 ops then(mw C ops (List.range ops.size) (S.st ids)).map fun r=>(⟨sK (eK r.1) r.1 S.rs (ops.toList.filterMap (·.dst)),ids.map fun j=>gk r.1 (r.1.o j)⟩,r.2) else none
 else none
def K0 (C:Ctx)(n:Nat)(ids:List Nat)(ops:Array Oper)(draw:Bool)(S:Snap):Option (Snap×List PI):=
 (K1 C n ids ops draw S).bind fun r=>r.1.hard fun T=>some (T,r.2)
theorem axx (C:Ctx)(n:Nat)(ids:List Nat)(ops:Array Oper)(draw:Bool)(S:Snap):K0 C n ids ops draw S=K1 C n ids ops draw S:=by
 unfold K0;cases K1 C n ids ops draw S with
 |none=>rfl
 |some r=>rw[Option.bind_some,Snap.hard_eq]
def vl (ops:Array Oper)(E:Nat):Nat→Prop:=fun t=>∃i o,av E i=true∧ops[i]?=some o∧o.dst=some t
section
variable {C:Ctx} {S:St} {ρ:Env} {σ:Im} {own:Nat→Option Nat} {hv:Nat→Value} {w0:World} {σ0:Base} {A:Nat→Prop} {a:Act} {w:World} {n:Nat} {ids:List Nat} {Φ:aT}
theorem KX {ops:Array Oper}{listed:Array Bool}{E:Nat}(aL:listed.size=ops.size)(hl:∀i,listed.getD i false=av E i)(i:Nat):i∈Region.ready .any ops listed↔i∈kq ops E:=by
 unfold Region.ready kq;simp only[List.mem_filter,List.mem_range];refine and_congr_right fun hi=>?_;have h1:listed.getD i true=av E i:=by
  rw[←hl i];simp only[Array.getD_eq_getD_getElem?];rw[Array.getElem?_eq_getElem (by omega)];rfl
 have h2:ops[i]?=some ops[i]:=Array.getElem?_eq_getElem hi;rw[h1,h2];simp only[Option.map_some,Option.getD_some,←Array.all_toList,hl]
theorem axU {rd:Option Nat}(hC:CtxOK C σ0)(bf:dp C)(hΦ:cS C Φ)(hY:nm C Φ w0 σ0){a0:Act}(N6:a0.tmps.size=n){ops:Array Oper}(aA:pI n ops=true)(dS:we ops=true){X:List (List PI)}{Q:Exit→Act→World→Prop}{ρ':Env}(wN:PU ops=true)(hQp:∀c a w,¬Q (.panic c) a w):
 ∀(k:Nat) {L:List (Nat×Snap)} {T:Snap},Du ops (p5 C.P ops) (Qx C ops n ids X (nW X ops.size)) k L=some T→
  (∀a' w',SameBut (oN ops) a0 a'→Good C w0 σ0 (T.stO ids) ρ' (fun t=>∃E,vl ops E t) a' w'→Q .normal a' w')→
  ∀(E:Nat) (U:Snap),(E,U)∈L→∀(listed:Array Bool) (ρ:Env) (a:Act) (w:World),listed.size=ops.size→(∀i,listed.getD i false=av E i)→SameBut (oN ops) a0 a→
   Good C w0 σ0 (U.stO ids) ρ (vl ops E) a w→PI.runs Φ (dP X (List.range ops.size) E) ρ=some ρ'→wpAnyIn (FR rd) 0 C.P .any ops Q k listed a w:=by
 simp only[pI,Bool.and_eq_true] at aA;have bh:=l7 aA.1;intro k
 induction k with
 |zero=>
  intro L T hs hQ E U hm listed ρ a w aL hl hn hg ao;simp only[Du] at hs;split at hs
  case h_2=>cases hs
  rename_i x;cases aP:(List.range ops.size).all (av x.1)<;>simp only[aP,cond_true,cond_false] at hs
  ·cases hs
  cases hs;simp only[List.mem_singleton] at hm;subst hm;simp only at aP hg hQ ao hl;have jd:=List.all_eq_true.1 aP;have NM:dP X (List.range ops.size) E=[]:=by
   unfold dP;rw[List.flatMap_eq_nil_iff];intro i hi;rw[jd i hi];rfl
  rw[NM] at ao;simp only[PI.runs,Option.some.injEq] at ao;subst ao;refine⟨?_,hQ a w hn ?_⟩
  ·rw[List.eq_nil_iff_forall_not_mem];intro i hi;rw[KX aL hl] at hi;unfold kq at hi;simp only[List.mem_filter,Bool.and_eq_true,Bool.not_eq_true'] at hi;rw[jd i hi.1] at hi;cases hi.2.1
  ·obtain⟨σ,own,hv,h⟩:=hg;exact⟨σ,own,hv,h.defers,h.ok,h.le,h.old,h.newc,h.newm,h.below,h.bw,h.owns,h.regs,h.objs,fun t gs s e=>⟨fun g hm=>⟨E,(h.opts t gs s e).1 g hm⟩,(h.opts t gs s e).2⟩,h.frame⟩
 |succ k ih=>
  intro L T hs hQ E U hm listed ρ a w aL hl hn hg ao;simp only[Du,Option.bind_eq_some_iff] at hs;obtain⟨L',hL,hs⟩:=hs;obtain⟨_,cJ⟩:=YV hL;obtain⟨aD,OL⟩:=cJ _ hm;have N7:kq ops E≠[]:=fun e=>aD (by unfold nq;rw[e];rfl)
  have bW:∀i,i∈nq ops (p5 C.P ops) E→i∈kq ops E:=fun i hi=>by
   unfold nq at hi;split at hi
   ·rename_i i' hp;rw[List.mem_singleton.1 hi];exact(Lj hp).1
   ·exact hi
  have step:∀i,i∈nq ops (p5 C.P ops) E→∀Q':Exit→Act→World→Prop,wpOpIn (FR rd) 0 C.P ops Q' i (wpAnyIn (FR rd) 0 C.P .any ops Q k (listed.setIfInBounds i true)) a w:=by
   intro i hi Q';obtain⟨y,hy,hyL⟩:=OL i hi;have hi:=bW i hi;unfold kq at hi;simp only[List.mem_filter,List.mem_range,Bool.and_eq_true,Bool.not_eq_true'] at hi;obtain⟨bA,da,rE⟩:=hi;simp only[Qx] at hy;split at hy
   case h_2=>cases hy
   rename_i o ho;simp only[Option.bind_eq_some_iff] at hy;obtain⟨r,hr,hy⟩:=hy;cases hc:(PI.beqs r.2 (X.getD i [])&&((nW X ops.size).getD i []).all (av E))<;>simp only[hc,cond_true,cond_false] at hy
   ·cases hy
   cases hy;simp only[Bool.and_eq_true] at hc;have hX:=PI.beqs_eq _ _ hc.1;rw[aeI bA da hc.2,Option.bind_eq_some_iff] at ao;obtain⟨ρ1,hρ1,hρ2⟩:=ao;rw[←hX] at hρ1;rw[ho] at rE;simp only at rE;have tQ:∀d,o.dst=some d→¬vl ops E d∧d<a.tmps.size:=by
        intro d hd;refine⟨fun⟨i',o',cU,dD,cT⟩=>?_,?_⟩
        ·have aD:i'≠i:=fun e=>by subst e;rw[da] at cU;cases cU
         exact tw.dst_once bh dD ho cT hd aD
        ·have:=List.all_eq_true.1 aA.2 o (by simpa using Array.mem_of_getElem? ho);simp only[hd,Bool.and_eq_true] at this;rw[hn.size,N6];simpa [Nat.blt_eq] using this.2
   have iK:mS o.op=true:=by
        have:=List.all_eq_true.1 aA.2 o (by simpa using Array.mem_of_getElem? ho);simp only[Bool.and_eq_true] at this;exact this.1
   have hj:∀j want t,o.guard=some (j,want)→(ops[j]?).bind (·.dst)=some t→vl ops E t:=by
        intro j want t je ht;rw[Option.bind_eq_some_iff] at ht;obtain⟨oj,h1,h2⟩:=ht;have rF:=List.all_eq_true.1 dS o (by simpa using Array.mem_of_getElem? ho);simp only[je] at rF;obtain⟨e,gx,jG⟩:=List.any_eq_true.1 rF;simp only[Bool.and_eq_true] at jG;have h3:=List.all_eq_true.1 rE e gx;rw[jG.1] at h3;simp only[Bool.not_true,Bool.false_or] at h3;exact⟨j,oj,by rw[←cA jG.2];exact h3,h1,h2⟩
   have main:=FJ (rd:=rd) (K:=wpAnyIn (FR rd) 0 C.P .any ops Q k (listed.setIfInBounds i true)) (Q:=Q') hg hC bf hΦ hY iK tQ hj hr hρ1 (fun a' w' eT pk=>by
        have hA:(fun u=>vl ops E u∨o.dst=some u)=vl ops (Nat.lor E (dq i)):=by
         funext u;apply propext;constructor
         ·rintro(⟨i',o',h1,h2,h3⟩|h1)
          ·exact⟨i',o',by rw[gI,h1,Bool.true_or],h2,h3⟩
          ·exact⟨i,o,by rw[gI,Nat.beq_refl,Bool.or_true],ho,h1⟩
         ·rintro⟨i',o',h1,h2,h3⟩;rw[gI,Bool.or_eq_true] at h1;rcases h1 with h1|h1
          ·exact .inl ⟨i',o',h1,h2,h3⟩
          ·rw[←cA h1,ho] at h2;cases h2;exact .inr h3
        rw[hA] at eT
        refine ih hs hQ _ _ hyL _ ρ1 a' w' (by simpa using aL) (fun j=>?_) (hn.trans (pk.mono fun t e=>⟨o,by simpa using Array.mem_of_getElem? ho,e⟩)) (by
         have:=eT.snapO U.rs.length ids
         rw[show r.1.snapO U.rs.length ids=⟨sK (jO r.1) r.1 U.rs o.dst.toList,ids.map fun j=>gk r.1 (r.1.o j)⟩ from by
          unfold St.snapO;rw[Dx fun t ht=>?_];rw[Wa hr t (fun e=>ht (by rw[e];simp))];rfl] at this
         exact this) hρ2
        rw[gI];simp only[Array.getD_eq_getD_getElem?,Array.getElem?_setIfInBounds];by_cases cG:i=j
        ·subst cG;simp[aL,bA]
        ·rw[if_neg cG,dR cG,Bool.or_false,←hl j];simp only[Array.getD_eq_getD_getElem?])
   simp only[wpOpIn,ho];split
   ·rename_i hw;rw[if_pos hw] at main;exact main
   ·rename_i hw;rw[if_neg hw] at main;exact⟨fun _ _=>trivial,main⟩
  cases Ou:yi (p5 C.P ops) E (kq ops E) with
  |none=>
   have kK:nq ops (p5 C.P ops) E=kq ops E:=by unfold nq;rw[Ou]
   refine⟨fun he=>?_,fun i hi=>step i (by rw[kK];exact(KX aL hl i).1 hi) Q⟩;exfalso;refine N7 ?_;rw[List.eq_nil_iff_forall_not_mem];intro i hi;rw[←KX aL hl,he] at hi;cases hi
  |some i=>
   have kK:nq ops (p5 C.P ops) E=[i]:=by unfold nq;rw[Ou]
   obtain⟨hir,b,hb,aqO⟩:=Lj Ou;obtain⟨oi,X8,Ox,Nx⟩:=aiQ hb;obtain⟨v,hv,hK⟩:=awK X8 Ox (step i (by rw[kK];simp) _);refine aA5 (fun j o ho=>?_) X8 (fun j o cs b' ho e=>?_) (fun c a' w' h=>(hQp _ _ _ h).elim) k listed a w (fun j oj hj ga lT dy=>Nx j oj hj ga (fun Gu=>?_) dy) ((KX aL hl i).2 hir) hv hK
   ·have:=List.all_eq_true.1 aA.2 o (by simpa using Array.mem_of_getElem? ho);simp only[Bool.and_eq_true] at this;exact this.1
   ·have:=List.all_eq_true.1 wN o (by simpa using Array.mem_of_getElem? ho);rw[e] at this;cases this
   ·have h1:=List.all_eq_true.1 aqO j Gu;have h2:=hl j;rw[h1] at h2;simp only[Array.getD_eq_getD_getElem?] at h2 lT;cases wC:listed[j]? with
    |none=>rw[wC] at h2;cases h2
    |some x=>
     rw[wC] at h2 lT;simp only[Option.getD_some] at h2 lT;rw[h2] at lT;cases lT
theorem ae0 {ops:Array Oper}:∀{l:List Nat} {S:St} {X:List (List PI)},ew C ops l S=some X→X.length=l.length
 |[],S,X,h=>by simp only[ew,Option.some.injEq] at h;subst h;rfl
 |i::l,S,X,h=>by
  simp only[ew] at h;split at h
  case h_2=>cases h
  simp only[Option.bind_eq_some_iff,Option.map_eq_some_iff] at h;obtain⟨r,_,q,hq,rfl⟩:=h;simp[ae0 hq]
theorem aeJ (X:List (List PI)):dP X (List.range X.length) 0=X.flatten:=by
 have h0:∀i,av 0 i=false:=fun i=>by rw[p8];simp
 have key:∀(Y Z:List (List PI)),dP (Y++Z) (List.range' Y.length Z.length) 0=Z.flatten:=by
  intro Y Z
  induction Z generalizing Y with
  |nil=>rfl
  |cons z Z ih=>
   have:=ih (Y++[z]);simp only[List.append_assoc,List.singleton_append,List.length_append,List.length_cons,List.length_nil,Nat.zero_add] at this;rw[List.length_cons,List.range'_succ];have e:dP (Y++z::Z) (Y.length::List.range' (Y.length+1) Z.length) 0=(Y++z::Z).getD Y.length []++dP (Y++z::Z) (List.range' (Y.length+1) Z.length) 0:=by
        unfold dP;rw[List.flatMap_cons,h0];rfl
   rw[e,this,List.flatten_cons]
   congr 1
   simp[List.getD_eq_getElem?_getD]
 have:=key [] X;simp only[List.nil_append,List.length_nil] at this;rw[List.range_eq_range'];exact this
theorem axy (bf:dp C)(hΦ:cS C Φ):LM C n ids Φ (K0 C n ids):=by
 intro id ops draw S r hr rd w0 σ0 ρ ρ' a w Q hC hY hn hg ao hQ;rw[axx] at hr;unfold K1 at hr;cases aA:pI n ops<;>simp only[aA,cond_true,cond_false] at hr
 ·cases hr
 cases draw with
 |false=>
  simp only[cond_false] at hr;cases XH:W6 ops<;>simp only[XH,cond_true,cond_false] at hr
  ·cases hr
  simp only[Option.map_eq_some_iff] at hr;obtain⟨q,hq,rfl⟩:=hr;refine wpIn_region ?_
  have nR:kr ops []=fun _=>False:=by
   funext t;apply propext;constructor
   ·rintro⟨i,o,h,_⟩;cases h
   ·intro h;exact h.elim
  refine tw hC bf hΦ hY aA (List.range ops.size) [] (by simpa using List.nodup_range) (fun p i q o j want hl ho je=>?_) hn (by rw[nR];exact hg) hq ao (fun a' w' fB eT=>hQ a' w' fB (by
   have:=eT.snapF S.rs.length ids
   rw[show q.1.snap S.rs.length ids=⟨sK (eK q.1) q.1 S.rs (ops.toList.filterMap (·.dst)),ids.map fun j=>gk q.1 (q.1.o j)⟩ from by
        unfold St.snap;rw[Dx fun t ht=>?_];rw[ML hq t (fun i o hi ho e=>ht (List.mem_filterMap.2 ⟨o,by simpa using Array.mem_of_getElem? ho,e⟩))];show _=eK q.1 (bZ (S.rs.getD t .none));cases S.rs.getD t .none<;>rfl] at this
   exact this))
  have hi:i<ops.size:=by
   have:i∈List.range ops.size:=by rw[hl];simp
   exact List.mem_range.1 this
  have hb:=List.all_eq_true.1 XH i (List.mem_range.2 hi);rw[ho] at hb;simp only[je,Nat.blt_eq] at hb;have hp:=List.pairwise_lt_range (n:=ops.size);have rG:j∈List.range ops.size:=List.mem_range.2 (by omega);rw[hl,List.pairwise_append] at hp;obtain⟨_,eF,_⟩:=hp;rw[List.pairwise_cons] at eF;rw[hl,List.mem_append] at rG;simp only[List.nil_append];rcases rG with hm|hm
  ·exact hm
  ·rcases List.mem_cons.1 hm with e|hm
   ·omega
   ·have:=eF.1 j hm;omega
 |true=>
  simp only[cond_true] at hr;cases dS:(we ops&&PU ops&&C.P.follows .mixedOrders)<;>simp only[dS,cond_true,cond_false] at hr
  ·cases hr
  simp only[Bool.and_eq_true] at dS;have wN:=dS.1.2
  replace dS:we ops=true∧C.P.follows .mixedOrders=true:=⟨dS.1.1,dS.2⟩
  have h0:∀i,av 0 i=false:=fun i=>by rw[p8];simp
  split at hr
  case h_1=>
   rename_i r jI;cases hr;generalize OQ:nf (df ops ops.size) ops.size=m at*;unfold WU at jI;rw[OQ] at jI;have arY:m≤ops.size:=OQ▸afg _ _;have wP:∀i,m≤i→i<ops.size→∀j,j<i→av ((df ops ops.size).getD i 0) j=true:=OQ▸aff _ _;rw[Option.bind_eq_some_iff] at jI;obtain⟨q,hq,jI⟩:=jI;cases rI:AH ops (nW (q.map (·.2)) m) (df ops ops.size) m<;>simp only[rI,cond_true,cond_false] at jI
   ·cases jI
   rw[Option.map_eq_some_iff] at jI;obtain⟨r1,gz,rfl⟩:=jI;refine wpIn_region_any dS.2 ?_
   have nR:sG ops 0=fun _=>False:=by
        funext t;apply propext;constructor
        ·rintro⟨i,o,h,_⟩;rw[h0] at h;cases h
        ·intro h;exact h.elim
   have hlen:(q.map (·.2)).length=m:=by rw[List.length_map];exact(Ng hq).1
   have as1:pQ ops 0=ops.size:=by
        unfold pQ;have:((List.range ops.size).filter fun i=> !av 0 i)=List.range ops.size:=List.filter_eq_self.2 fun i _=>by rw[h0];rfl
        rw[this,List.length_range]
   have A2:(List.range m).filter (av 0)=[]:=List.filter_eq_nil_iff.2 fun i _=>by rw[h0];simp
   simp only[m8,Option.bind_eq_some_iff] at ao;obtain⟨ρ1,hρ1,hρ2⟩:=ao;have Oo:=rI;unfold AH at Oo;rw[Bool.and_eq_true] at Oo;refine anE (w0:=w0) (S:=S.st ids) hC bf hΦ hY hn aA dS.1 arY hq rI wP (ρ':=ρ1) (fun listed a' w' aL hl fB eT=>?_) ops.size 0 _ ρ a _ as1 (fun j hj=>by rw[h0] at hj;cases hj) (fun j _ hj=>by rw[h0] at hj;cases hj) (by simp) (fun i=>?_) (.refl _ _) ?_ ?_
   ·refine ayj hC bf hΦ hY aA dS.1 Oo.2 wP (ops.size-m) m listed (by omega) (Nat.le_refl _) aL hl (fB.size.trans hn) eT gz hρ2 (fun a2 w2 s2 g2=>hQ a2 w2 (fB.trans s2) (by
     have:=g2.snapF S.rs.length ids
     rw[show r1.1.snap S.rs.length ids=⟨sK (eK r1.1) r1.1 S.rs (ops.toList.filterMap (·.dst)),ids.map fun j=>gk r1.1 (r1.1.o j)⟩ from by
      unfold St.snap;rw[Dx fun t ht=>?_];rw[ML gz t (fun i o hi ho e=>ht (List.mem_filterMap.2 ⟨o,by simpa using Array.mem_of_getElem? ho,e⟩))]
      have e1:eL ops (q.map (·.1)) (List.range m) (S.st ids).r t=(S.st ids).r t:=Dw fun i hi e=>by
        rw[Option.bind_eq_some_iff] at e;obtain⟨o,ho,hd⟩:=e;exact ht (List.mem_filterMap.2 ⟨o,by simpa using Array.mem_of_getElem? ho,hd⟩)
      show eK _ (S.rs.getD t .none)=eK _ (eL ops (q.map (·.1)) (List.range m) (S.st ids).r t);rw[e1];show _=eK _ (bZ (S.rs.getD t .none));cases S.rs.getD t .none<;>rfl] at this
     exact this))
   ·rw[h0];simp only[Array.getD_eq_getD_getElem?,Array.getElem?_replicate];split<;>rfl
   ·rw[nR,A2];exact hg.drew
   ·rw[←hlen,aeJ];exact hρ1
  simp only[Xm,Snap.hard_eq,Option.bind_eq_some_iff,Option.map_eq_some_iff] at hr;obtain⟨X,hX,T,hT,rfl⟩:=hr;refine wpIn_mono (Q:=fun e a w=>(∀c,e≠.panic c)∧Q e a w) ?_ fun e a w h=>h.2;refine wpIn_region_any dS.2 ?_
  have nR:vl ops 0=fun _=>False:=by
   funext t;apply propext;constructor
   ·rintro⟨i,o,h,_⟩;rw[h0] at h;cases h
   ·intro h;exact h.elim
  have hlen:=ae0 hX;rw[List.length_range] at hlen
  refine axU (w0:=w0) hC bf hΦ hY hn aA dS.1 (ρ':=ρ') wN (fun c a w h=>h.1 c rfl) ops.size hT (fun a' w' fB eT=>⟨fun c e=>(by cases e),hQ a' w' fB (by
   have:=eT.snapF T.rs.length ids
   rw[show(T.stO ids).snap T.rs.length ids=⟨T.rs.map (eK (T.stO ids)),ids.map fun j=>gk (T.stO ids) ((T.stO ids).o j)⟩ from by
        unfold St.snap;have:=Dx (g:=eK (T.stO ids)) (S:=T.stO ids) (rs:=T.rs) (ds:=[]) (fun t _=>rfl);rw[←this];rfl] at this
   exact this)⟩) 0 _ (List.mem_singleton.2 rfl) _ ρ a _ (by simp) (fun i=>?_) (.refl _ _) ?_ ?_
  ·rw[h0];simp only[Array.getD_eq_getD_getElem?,Array.getElem?_replicate];split<;>rfl
  ·rw[nR];have:=(hg.drew).snapO S.rs.length ids
   rw[show(S.st ids).snapO S.rs.length ids=⟨S.rs.map fun s=>jO (S.st ids) (bZ s),ids.map fun j=>gk (S.st ids) ((S.st ids).o j)⟩ from by
        unfold St.snapO
        have:=Dx (g:=fun s=>jO (S.st ids) (bZ s)) (S:=S.st ids) (rs:=S.rs) (ds:=[]) (fun t _=>by
         show jO _ (bZ (S.rs.getD t .none))=jO _ (bZ (bZ (S.rs.getD t .none)));cases S.rs.getD t .none<;>rfl)
        have h2:(fun t=>jO (S.st ids) (bZ ((S.st ids).r t)))=fun t=>jO (S.st ids) ((S.st ids).r t):=by
         funext t;show jO _ (bZ (bZ (S.rs.getD t .none)))=jO _ (bZ (S.rs.getD t .none));cases S.rs.getD t .none<;>rfl
        rw[h2] at this;rw[←this];rfl] at this
   exact this
  ·rw[←hlen,aeJ];exact ao
end
end Cx
